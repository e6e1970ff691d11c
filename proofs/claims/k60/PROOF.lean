import PyProof.Rows.All
import Wide.All
import OpenK.AllK
import Wide.FinOn
import HandS.ForMost
import HandS.Walk
import HandS.Zip
import HandS.Deep
import HandS.TupAny
import HandS.IsInst
import HandS.Flow
import HandS.Style
import HandS.SortOrd
import HandS.DictComp
import KE.KDictKeyed
import KE.KeyNested
import KE.KDictCopyH
import KE.SortData
import KE.SortKeyHeap
import KE.DataMinMax
import HandS.SortKw
import KE.GoesEnum
import HandS.SetKeys
import HandS.More
import HandS.TupSets
import HandS.MapObj
import KE.KDictItemsList
import HandS.Ends
import PySem.Challenge.RW_counterkeep_k60_marks_above_one_another
set_option Elab.async false
set_option linter.all false
set_option maxRecDepth 100000
set_option maxHeartbeats 4000000
/-! Ab: a layer of pure data over HandS. Values are data trees or raw values; a body is read over data, without a heap. -/
namespace Ab
open PySem PySem.Spec PyProof.Rows L2

/-! ### data in a heap that only grows -/
def Ex (H H' : Hp) : Prop := ∀ a o, H a = some o → H' a = some o
theorem Ex.refl (H : Hp) : Ex H H := fun _ _ h => h
theorem Ex.trans {H H1 H2 : Hp} (a : Ex H H1) (b : Ex H1 H2) : Ex H H2 := fun x o h => b x o (a x o h)
theorem Ex.new {H : Hp} {p : Addr} {o : HO} (h : H p = none) : Ex H (upd H p o) := fun a u e => by
  rw [upd_ne (ne_of_none e h)]
  exact e
theorem Ex.rd {H H' : Hp} {a : Addr} {u : HO} (e : Ex H H') (h : Rd H a u) : Rd H' a u := by
  rcases h with h | ⟨o, h⟩
  · exact Or.inl (e a _ h)
  · exact Or.inr ⟨o, e a _ h⟩
theorem Ex.sl {K : PySem.W.Frag} {H H' : Hp} {a : Addr} {xs : List V} (e : Ex H H') (h : SqL K H a xs) : SqL K H' a xs := by
  rcases h with h | h
  · exact Or.inl (e.rd h)
  · exact Or.inr h
theorem Ex.st {K : PySem.W.Frag} {H H' : Hp} {a : Addr} {xs : List V} (e : Ex H H') (h : SqT K H a xs) : SqT K H' a xs := by
  rcases h with h | h
  · exact Or.inl (e.rd h)
  · exact Or.inr h
theorem Ex.free {H H' : Hp} {p : Addr} (e : Ex H H') (h : H' p = none) : H p = none := by
  cases q : H p with
  | none => rfl
  | some o =>
    rw [e p o q] at h
    cases h

/-- the written part, the program, the world -/
structure Kw where
  K : PySem.W.Frag
  P : Program
  w : World
abbrev _root_.L2.Cx.kw (X : Cx) : Kw := ⟨X.K, X.prog, X.w⟩
mutual
/-- the value v stands for the data d -/
inductive Rep (K : Kw) (B : Hp) : V → PyData → Prop
  | non : Rep K B .non .none
  | bl (b : Bool) : Rep K B (.bl b) (.bool b)
  | int (i : Int) : Rep K B (.int i) (.int i)
  | str (x : Str) : Rep K B (.str x) (.str x)
  | lst {a : Addr} {xs : List V} {ds : List PyData} : B a = some (.lst xs) → ds.length ≤ sizeLine → RepAll K B xs ds → Rep K B (.ref a) (.list ds)
  | tup {a : Addr} {xs : List V} {ds : List PyData} : SqT K.K B a xs → ds.length ≤ sizeLine → RepAll K B xs ds → Rep K B (.ref a) (.tuple ds)
inductive RepAll (K : Kw) (B : Hp) : List V → List PyData → Prop
  | nil : RepAll K B [] []
  | cons {v : V} {vs : List V} {d : PyData} {ds : List PyData} : Rep K B v d → RepAll K B vs ds → RepAll K B (v :: vs) (d :: ds)
end
section
variable {K : Kw} {B B' H : Hp}
mutual
theorem Rep.mono (e : Ex B B') : ∀ (d : PyData) {v : V}, Rep K B v d → Rep K B' v d
  | .none, _, h => by cases h; exact .non
  | .bool b, _, h => by cases h; exact .bl b
  | .int i, _, h => by cases h; exact .int i
  | .str x, _, h => by cases h; exact .str x
  | .list ds, _, h => by
    cases h with
    | lst h1 hz h2 => exact .lst (e _ _ h1) hz (RepAll.mono e ds h2)
  | .tuple ds, _, h => by
    cases h with
    | tup h1 hz h2 => exact .tup (e.st h1) hz (RepAll.mono e ds h2)
  | .dict _, _, h => by cases h
theorem RepAll.mono (e : Ex B B') : ∀ (ds : List PyData) {vs : List V}, RepAll K B vs ds → RepAll K B' vs ds
  | [], _, h => by cases h; exact .nil
  | d :: ds, _, h => by
    cases h with
    | cons h1 h2 => exact .cons (Rep.mono e d h1) (RepAll.mono e ds h2)
end
mutual
theorem Rep.dp (e : Ex B H) : ∀ (d : PyData) {v : V}, Rep K B v d → Dp K.K H v d
  | .none, _, h => by cases h; exact .non
  | .bool b, _, h => by cases h; exact .bl b
  | .int i, _, h => by cases h; exact .int i
  | .str x, _, h => by cases h; exact .str x
  | .list ds, _, h => by
    cases h with
    | lst h1 hz h2 => exact .lst (SqL.of (e _ _ h1)) (RepAll.dp e ds h2)
  | .tuple ds, _, h => by
    cases h with
    | tup h1 hz h2 => exact .tup (e.st h1) (RepAll.dp e ds h2)
  | .dict _, _, h => by cases h
theorem RepAll.dp (e : Ex B H) : ∀ (ds : List PyData) {vs : List V}, RepAll K B vs ds → DpAll K.K H vs ds
  | [], _, h => by cases h; exact .nil
  | d :: ds, _, h => by
    cases h with
    | cons h1 h2 => exact .cons (Rep.dp e d h1) (RepAll.dp e ds h2)
end
end

/-! ### abstract values, mutable objects, the state -/
/-- data, or a raw value (a mutable object's address, a def ..) -/
inductive AV where
  | d (x : PyData)
  | v (x : V)
def ARel (K : Kw) (B : Hp) (v : V) : AV → Prop
  | .d x => Rep K B v x
  | .v y => v = y
abbrev ARels (K : Kw) (B : Hp) : List V → List AV → Prop := Paired (ARel K B)
section
variable {K : Kw} {B B' : Hp}
theorem ARel.mono (e : Ex B B') {v : V} : ∀ {x : AV}, ARel K B v x → ARel K B' v x
  | .d d, h => Rep.mono e d h
  | .v _, h => h
theorem ARels.mono (e : Ex B B') : ∀ {vs : List V} {xs : List AV}, ARels K B vs xs → ARels K B' vs xs
  | _, _, .nil => .nil
  | _, _, .cons r t => .cons (r.mono e) (ARels.mono e t)
theorem ARels.of : ∀ {vs : List V} {ds : List PyData}, RepAll K B vs ds → ARels K B vs (ds.map AV.d)
  | _, [], h => by cases h; exact .nil
  | _, d :: ds, h => by
    cases h with
    | cons h1 h2 => exact .cons h1 (ARels.of h2)
theorem ARels.all : ∀ {ds : List PyData} {vs : List V}, ARels K B vs (ds.map AV.d) → RepAll K B vs ds
  | [], _, h => by cases h; exact .nil
  | d :: ds, _, h => by
    cases h with
    | cons h1 h2 => exact .cons h1 (ARels.all h2)
theorem ARels.length {vs : List V} {xs : List AV} (h : ARels K B vs xs) : vs.length = xs.length := Paired.length h
theorem RepAll.length : ∀ {vs : List V} {ds : List PyData}, RepAll K B vs ds → vs.length = ds.length
  | _, [], h => by cases h; rfl
  | _, d :: ds, h => by
    cases h with
    | cons h1 h2 => simp [RepAll.length h2]
theorem ARels.get : ∀ {vs : List V} {xs : List AV} {i : Nat} {x : AV}, ARels K B vs xs → xs[i]? = some x → ∃ v, vs[i]? = some v ∧ ARel K B v x
  | _, _, _, _, .nil, e => by simp at e
  | _, _, 0, _, .cons r _, e => by simp at e; subst e; exact ⟨_, rfl, r⟩
  | _, _, i + 1, x, .cons _ t, e => by
    obtain ⟨u, h1, h2⟩ := ARels.get (i := i) (x := x) t (by simpa using e)
    exact ⟨u, by simpa using h1, h2⟩
theorem ARels.get' : ∀ {vs : List V} {xs : List AV} {i : Nat} {v : V}, ARels K B vs xs → vs[i]? = some v → ∃ x, xs[i]? = some x ∧ ARel K B v x
  | _, _, _, _, .nil, e => by simp at e
  | _, _, 0, _, .cons r _, e => by simp at e; subst e; exact ⟨_, rfl, r⟩
  | _, _, i + 1, x, .cons _ t, e => by
    obtain ⟨u, h1, h2⟩ := ARels.get' (i := i) (v := x) t (by simpa using e)
    exact ⟨u, by simpa using h1, h2⟩
theorem ARels.append : ∀ {xs ys : List V} {us ws : List AV}, ARels K B xs us → ARels K B ys ws → ARels K B (xs ++ ys) (us ++ ws)
  | _, _, _, _, .nil, s => s
  | _, _, _, _, .cons r t, s => .cons r (ARels.append t s)
theorem ARels.set {x : V} {u : AV} (r : ARel K B x u) : ∀ {xs : List V} {us : List AV} (i : Nat), ARels K B xs us → ARels K B (xs.set i x) (us.set i u)
  | _, _, _, .nil => .nil
  | _, _, 0, .cons _ t => .cons r t
  | _, _, i + 1, .cons q t => .cons q (ARels.set r i t)
theorem ARels.take : ∀ {xs : List V} {us : List AV} (n : Nat), ARels K B xs us → ARels K B (xs.take n) (us.take n)
  | _, _, 0, _ => .nil
  | _, _, _ + 1, .nil => .nil
  | _, _, n + 1, .cons r t => .cons r (ARels.take n t)
theorem ARels.drop : ∀ {xs : List V} {us : List AV} (n : Nat), ARels K B xs us → ARels K B (xs.drop n) (us.drop n)
  | _, _, 0, r => r
  | _, _, _ + 1, .nil => .nil
  | _, _, n + 1, .cons _ t => ARels.drop n t
end

/-- a dict whose keys are (nested) tuples: the entries in order, by key, the key's own tuple, value -/
def dictN (P : Program) (w : World) (D : Addr) (xs : List (NestedKey × Addr × V)) : HO := .ext fun h => ∃ (o : Obj) (es : Array DictEntry) (ep : Nat) (ys : List (NestedKey × Addr × Value)), h.get? D = some o ∧ o.ExactDict ∧ o.data = .dict es ep ∧
  es.toList = ys.map (entryOfKey (nestedKind P w)) ∧ Paired (fun (x : NestedKey × Addr × V) (y : NestedKey × Addr × Value) => x.1 = y.1 ∧ x.2.1 = y.2.1 ∧ RelV x.2.2 y.2.2) xs ys ∧ (xs.map (·.1)).Nodup ∧ xs.length ≤ sizeLine ∧ (D == sysModules) = false
/-- a mutable object: a list of abstract values; a dict by ints and texts; a dict by tuples; or anything, as it stands -/
inductive MO where
  | lst (xs : List AV)
  | raw (o : HO)
  | dk (kvs : List (Key × AV))
  | dn (kvs : List (NestedKey × AV))
abbrev KRel (K : Kw) (B : Hp) : List (Key × V) → List (Key × AV) → Prop := Paired fun (p : Key × V) (q : Key × AV) => p.1 = q.1 ∧ ARel K B p.2 q.2
abbrev NRel (K : Kw) (B : Hp) : List (NestedKey × Addr × V) → List (NestedKey × AV) → Prop := Paired fun (x : NestedKey × Addr × V) (p : NestedKey × AV) => x.1 = p.1 ∧ Rep K B (.ref x.2.1) p.1.data ∧ p.1.depth ≤ 8 ∧ ARel K B x.2.2 p.2
def MRel (K : Kw) (B : Hp) (a : Addr) (o : HO) : MO → Prop
  | .lst as => ∃ xs, o = .lst xs ∧ as.length ≤ sizeLine ∧ ARels K B xs as
  | .raw u => o = u
  | .dk as => ∃ kvs, o = .dK kvs ∧ KRel K B kvs as
  | .dn as => ∃ xs, o = dictN K.P K.w a xs ∧ as.length ≤ sizeLine ∧ NRel K B xs as
theorem MRel.lst {K : Kw} {B : Hp} {a : Addr} {o : HO} {as : List AV} (h : MRel K B a o (.lst as)) : ∃ xs, o = .lst xs ∧ as.length ≤ sizeLine ∧ ARels K B xs as := h
theorem MRel.raw {K : Kw} {B : Hp} {a : Addr} {o u : HO} (h : MRel K B a o (.raw u)) : o = u := h
theorem MRel.dk {K : Kw} {B : Hp} {a : Addr} {o : HO} {as : List (Key × AV)} (h : MRel K B a o (.dk as)) : ∃ kvs, o = .dK kvs ∧ KRel K B kvs as := h
theorem MRel.dn {K : Kw} {B : Hp} {a : Addr} {o : HO} {as : List (NestedKey × AV)} (h : MRel K B a o (.dn as)) : ∃ xs, o = dictN K.P K.w a xs ∧ as.length ≤ sizeLine ∧ NRel K B xs as := h
theorem kvs_mono {K : Kw} {B B' : Hp} (e : Ex B B') : ∀ {kvs : List (Key × V)} {as : List (Key × AV)}, KRel K B kvs as → KRel K B' kvs as
  | _, _, .nil => .nil
  | _, _, .cons r t => .cons ⟨r.1, r.2.mono e⟩ (kvs_mono e t)
theorem nvs_mono {K : Kw} {B B' : Hp} (e : Ex B B') : ∀ {kvs : List (NestedKey × Addr × V)} {as : List (NestedKey × AV)}, NRel K B kvs as → NRel K B' kvs as
  | _, _, .nil => .nil
  | _, _, .cons r t => .cons ⟨r.1, Rep.mono e _ r.2.1, r.2.2.1, r.2.2.2.mono e⟩ (nvs_mono e t)
theorem MRel.mono {K : Kw} {B B' : Hp} (e : Ex B B') {a : Addr} {o : HO} {m : MO} (h : MRel K B a o m) : MRel K B' a o m := by
  cases m with
  | lst as => obtain ⟨xs, rfl, hz, h⟩ := h.lst; exact ⟨xs, rfl, hz, ARels.mono e h⟩
  | raw u => exact h
  | dk as => obtain ⟨xs, rfl, h2⟩ := h.dk; exact ⟨xs, rfl, kvs_mono e h2⟩
  | dn as => obtain ⟨xs, rfl, hz, h2⟩ := h.dn; exact ⟨xs, rfl, hz, nvs_mono e h2⟩

abbrev Mu := Addr → Option MO
def mset (μ : Mu) (a : Addr) (m : MO) : Mu := fun b => if b = a then some m else μ b
def mdel (μ : Mu) (a : Addr) : Mu := fun b => if b = a then none else μ b
theorem mset_same {μ : Mu} {a : Addr} {m : MO} : mset μ a m a = some m := by unfold mset; rw [if_pos rfl]
theorem mset_ne {μ : Mu} {a b : Addr} {m : MO} (h : b ≠ a) : mset μ a m b = μ b := by unfold mset; rw [if_neg h]
theorem mdel_same {μ : Mu} {a : Addr} : mdel μ a a = none := by unfold mdel; rw [if_pos rfl]
theorem mdel_ne {μ : Mu} {a b : Addr} (h : b ≠ a) : mdel μ a b = μ b := by unfold mdel; rw [if_neg h]
theorem mset_mset {μ : Mu} {a : Addr} {m n : MO} : mset (mset μ a m) a n = mset μ a n := by
  funext b; unfold mset; split <;> rfl
theorem mdel_mset {μ : Mu} {a : Addr} {m : MO} (h : μ a = none) : mdel (mset μ a m) a = μ := by
  funext b; unfold mdel mset; split
  · rename_i e; rw [e, h]
  · rfl
theorem mset_self {μ : Mu} {a : Addr} {m : MO} (h : μ a = some m) : mset μ a m = μ := by
  funext b; unfold mset; split
  · rename_i e; rw [e, h]
  · rfl

/-- the state: B holds the data, μ tells what may change, F is of the callers and stays -/
structure St (K : Kw) (B : Hp) (μ : Mu) (F H : Hp) : Prop where
  ex : Ex B H
  fr : Ex F H
  off : ∀ a o, F a = some o → B a = none ∧ μ a = none
  mu : ∀ a m, μ a = some m → B a = none ∧ ∃ o, H a = some o ∧ MRel K B a o m

abbrev AEnv := List (Option AV)
structure Slots (K : Kw) (B : Hp) (σ : L2.St) (ρ : AEnv) : Prop where
  len : σ.length = ρ.length
  at_ : ∀ (i : Nat) (x : AV), ρ[i]? = some (some x) → ∃ v : V, σ[i]? = some (some v) ∧ ARel K B v x
section
variable {K : Kw} {B B' F H H' : Hp} {μ : Mu} {σ : L2.St} {ρ : AEnv}
theorem Slots.mono (e : Ex B B') (s : Slots K B σ ρ) : Slots K B' σ ρ := ⟨s.len, fun i x h => let ⟨v, h1, h2⟩ := s.at_ i x h; ⟨v, h1, h2.mono e⟩⟩
theorem Slots.set (s : Slots K B σ ρ) {v : V} {x : AV} (i : Nat) (r : ARel K B v x) : Slots K B (σ.set i (some v)) (ρ.set i (some x)) := by
  refine ⟨by simp [s.len], fun j y h => ?_⟩
  by_cases hj : i = j
  · subst hj
    by_cases hi : i < ρ.length
    · rw [List.getElem?_set_self hi] at h
      cases h
      exact ⟨v, List.getElem?_set_self (by rw [s.len]; exact hi), r⟩
    · rw [List.getElem?_eq_none (by simp; omega)] at h
      cases h
  · rw [List.getElem?_set_ne hj] at h
    rw [List.getElem?_set_ne hj]
    exact s.at_ j y h
theorem Slots.unset (s : Slots K B σ ρ) (i : Nat) : Slots K B (σ.set i none) (ρ.set i none) := by
  refine ⟨by simp [s.len], fun j y h => ?_⟩
  by_cases hj : i = j
  · subst hj
    by_cases hi : i < ρ.length
    · rw [List.getElem?_set_self hi] at h
      cases h
    · rw [List.getElem?_eq_none (by simp; omega)] at h
      cases h
  · rw [List.getElem?_set_ne hj] at h
    rw [List.getElem?_set_ne hj]
    exact s.at_ j y h
def awipe (ρ : AEnv) : List Nat → AEnv
  | [] => ρ
  | v :: vs => (awipe ρ vs).set v none
theorem Slots.wipe (s : Slots K B σ ρ) : ∀ vs : List Nat, Slots K B (L2.wipe σ vs) (awipe ρ vs)
  | [] => s
  | v :: vs => (Slots.wipe s vs).unset v
/-- a new object p joins the data -/
theorem St.grow (s : St K B μ F H) {p : Addr} {o : HO} (hp : H p = none) : Ex B (upd B p o) ∧ St K (upd B p o) μ F (upd H p o) := by
  have nB : B p = none := s.ex.free hp
  refine ⟨Ex.new nB, ⟨fun a u h => ?_, s.fr.trans (Ex.new hp), fun a u h => ?_, fun a m h => ?_⟩⟩
  · by_cases e : a = p
    · subst e; rw [upd_same] at h ⊢; exact h
    · rw [upd_ne e] at h ⊢; exact s.ex a u h
  · obtain ⟨h1, h2⟩ := s.off a u h
    refine ⟨?_, h2⟩
    rw [upd_ne (ne_of_none (s.fr a u h) hp)]
    exact h1
  · obtain ⟨h1, o', h2, h3⟩ := s.mu a m h
    have ne : a ≠ p := ne_of_none h2 hp
    exact ⟨by rw [upd_ne ne]; exact h1, o', by rw [upd_ne ne]; exact h2, h3.mono (Ex.new nB)⟩
/-- a new mutable object -/
theorem St.new (s : St K B μ F H) {p : Addr} {o : HO} {m : MO} (hp : H p = none) (r : MRel K B p o m) : St K B (mset μ p m) F (upd H p o) ∧ μ p = none := by
  have nB : B p = none := s.ex.free hp
  have nM : μ p = none := by
    cases q : μ p with
    | none => rfl
    | some m' =>
      obtain ⟨_, o', h2, _⟩ := s.mu p m' q
      rw [hp] at h2; cases h2
  refine ⟨⟨fun a u h => ?_, s.fr.trans (Ex.new hp), fun a u h => ?_, fun a m' h => ?_⟩, nM⟩
  · rw [upd_ne (ne_of_none (s.ex a u h) hp)]; exact s.ex a u h
  · obtain ⟨h1, h2⟩ := s.off a u h
    exact ⟨h1, by rw [mset_ne (ne_of_none (s.fr a u h) hp)]; exact h2⟩
  · by_cases e : a = p
    · subst e; rw [mset_same] at h; cases h
      exact ⟨nB, o, upd_same, r⟩
    · rw [mset_ne e] at h
      obtain ⟨h1, o', h2, h3⟩ := s.mu a m' h
      exact ⟨h1, o', by rw [upd_ne e]; exact h2, h3⟩
/-- a mutable object is written -/
theorem St.put (s : St K B μ F H) {p : Addr} {m0 m : MO} {o : HO} (hm : μ p = some m0) (r : MRel K B p o m) : St K B (mset μ p m) F (upd H p o) := by
  obtain ⟨nB, o0, h0, _⟩ := s.mu p m0 hm
  refine ⟨fun a u h => ?_, fun a u h => ?_, fun a u h => ?_, fun a m' h => ?_⟩
  · have ne : a ≠ p := fun e => by subst e; rw [nB] at h; cases h
    rw [upd_ne ne]; exact s.ex a u h
  · have ne : a ≠ p := fun e => by subst e; rw [(s.off a u h).2] at hm; cases hm
    rw [upd_ne ne]; exact s.fr a u h
  · obtain ⟨h1, h2⟩ := s.off a u h
    have ne : a ≠ p := fun e => by subst e; rw [h2] at hm; cases hm
    exact ⟨h1, by rw [mset_ne ne]; exact h2⟩
  · by_cases e : a = p
    · subst e; rw [mset_same] at h; cases h
      exact ⟨nB, o, upd_same, r⟩
    · rw [mset_ne e] at h
      obtain ⟨h1, o', h2, h3⟩ := s.mu a m' h
      exact ⟨h1, o', by rw [upd_ne e]; exact h2, h3⟩
/-- fewer mutable ones are told -/
theorem St.less (s : St K B μ F H) {μ' : Mu} (h : ∀ a m, μ' a = some m → μ a = some m) : St K B μ' F H :=
  ⟨s.ex, s.fr, fun a o e => ⟨(s.off a o e).1, by
    cases q : μ' a with
    | none => rfl
    | some m =>
      have h2 := h a m q
      rw [(s.off a o e).2] at h2
      cases h2⟩, fun a m e => s.mu a m (h a m e)⟩
/-- a mutable object becomes data -/
theorem St.freeze (s : St K B μ F H) {p : Addr} {m : MO} (hm : μ p = some m) : ∃ o, H p = some o ∧ MRel K B p o m ∧ B p = none ∧ Ex B (upd B p o) ∧ St K (upd B p o) (mdel μ p) F H := by
  obtain ⟨nB, o, h0, r⟩ := s.mu p m hm
  refine ⟨o, h0, r, nB, Ex.new nB, ⟨fun a u h => ?_, s.fr, fun a u h => ?_, fun a m' h => ?_⟩⟩
  · by_cases e : a = p
    · subst e; rw [upd_same] at h; cases h; exact h0
    · rw [upd_ne e] at h; exact s.ex a u h
  · obtain ⟨h1, h2⟩ := s.off a u h
    have ne : a ≠ p := fun e => by subst e; rw [h2] at hm; cases hm
    exact ⟨by rw [upd_ne ne]; exact h1, by rw [mdel_ne ne]; exact h2⟩
  · have ne : a ≠ p := fun e => by subst e; rw [mdel_same] at h; cases h
    rw [mdel_ne ne] at h
    obtain ⟨h1, o', h2, h3⟩ := s.mu a m' h
    exact ⟨by rw [upd_ne ne]; exact h1, o', h2, h3.mono (Ex.new nB)⟩
/-- a new object of the frame (its owner keeps it) -/
theorem St.frame (s : St K B μ F H) {p : Addr} {o : HO} (hp : H p = none) : St K B μ (upd F p o) (upd H p o) := by
  have nB : B p = none := s.ex.free hp
  refine ⟨s.ex.trans (Ex.new hp), fun a u h => ?_, fun a u h => ?_, fun a m' h => ?_⟩
  · by_cases e : a = p
    · subst e; rw [upd_same] at h ⊢; exact h
    · rw [upd_ne e] at h ⊢; exact s.fr a u h
  · by_cases e : a = p
    · subst e
      refine ⟨nB, ?_⟩
      cases q : μ a with
      | none => rfl
      | some m' =>
        obtain ⟨_, o', h2, _⟩ := s.mu a m' q
        rw [hp] at h2; cases h2
    · rw [upd_ne e] at h; exact s.off a u h
  · obtain ⟨h1, o', h2, h3⟩ := s.mu a m' h
    exact ⟨h1, o', by rw [upd_ne (ne_of_none h2 hp)]; exact h2, h3⟩
/-- the frame's object is written by its owner, the frame then forgotten -/
theorem St.unframe (s : St K B μ (upd F p o) H) (hF : F p = none) {o' : HO} : St K B μ (upd F p o') (upd H p o') := by
  obtain ⟨nB, nM⟩ := s.off p o upd_same
  refine ⟨fun a u h => ?_, fun a u h => ?_, fun a u h => ?_, fun a m' h => ?_⟩
  · have ne : a ≠ p := fun e => by subst e; rw [nB] at h; cases h
    rw [upd_ne ne]; exact s.ex a u h
  · by_cases e : a = p
    · subst e; rw [upd_same] at h ⊢; exact h
    · rw [upd_ne e] at h ⊢; exact s.fr a u (by rw [upd_ne e]; exact h)
  · by_cases e : a = p
    · subst e; exact ⟨nB, nM⟩
    · rw [upd_ne e] at h; exact s.off a u (by rw [upd_ne e]; exact h)
  · obtain ⟨h1, o2, h2, h3⟩ := s.mu a m' h
    have ne : a ≠ p := fun e => by subst e; rw [nM] at h; cases h
    exact ⟨h1, o2, by rw [upd_ne ne]; exact h2, h3⟩
/-- the frame's object becomes data -/
theorem St.unframe_data (s : St K B μ (upd F p o) H) (hF : F p = none) : Ex B (upd B p o) ∧ St K (upd B p o) μ F H := by
  obtain ⟨nB, nM⟩ := s.off p o upd_same
  refine ⟨Ex.new nB, fun a u h => ?_, fun a u h => ?_, fun a u h => ?_, fun a m' h => ?_⟩
  · by_cases e : a = p
    · subst e; rw [upd_same] at h; cases h; exact s.fr a _ upd_same
    · rw [upd_ne e] at h; exact s.ex a u h
  · have ne : a ≠ p := fun e => by subst e; rw [hF] at h; cases h
    exact s.fr a u (by rw [upd_ne ne]; exact h)
  · have ne : a ≠ p := fun e => by subst e; rw [hF] at h; cases h
    obtain ⟨h1, h2⟩ := s.off a u (by rw [upd_ne ne]; exact h)
    exact ⟨by rw [upd_ne ne]; exact h1, h2⟩
  · obtain ⟨h1, o2, h2, h3⟩ := s.mu a m' h
    have ne : a ≠ p := fun e => by subst e; rw [nM] at h; cases h
    exact ⟨by rw [upd_ne ne]; exact h1, o2, h2, h3.mono (Ex.new nB)⟩
/-- the frame's object becomes a mutable one -/
theorem St.unframe_mut (s : St K B μ (upd F p o) H) (hF : F p = none) {m : MO} (r : MRel K B p o m) : St K B (mset μ p m) F H := by
  obtain ⟨nB, nM⟩ := s.off p o upd_same
  refine ⟨s.ex, fun a u h => ?_, fun a u h => ?_, fun a m' h => ?_⟩
  · have ne : a ≠ p := fun e => by subst e; rw [hF] at h; cases h
    exact s.fr a u (by rw [upd_ne ne]; exact h)
  · have ne : a ≠ p := fun e => by subst e; rw [hF] at h; cases h
    obtain ⟨h1, h2⟩ := s.off a u (by rw [upd_ne ne]; exact h)
    exact ⟨h1, by rw [mset_ne ne]; exact h2⟩
  · by_cases e : a = p
    · subst e; rw [mset_same] at h; cases h
      exact ⟨nB, o, s.fr a _ upd_same, r⟩
    · rw [mset_ne e] at h; exact s.mu a m' h
end

/-! ### readings over data -/
abbrev AT := AEnv → Mu → (AV → Mu → Prop) → Prop
abbrev ATT := AEnv → Mu → (Bool → Mu → Prop) → Prop
abbrev ATA := AEnv → Mu → (List AV → Mu → Prop) → Prop
structure AEnds where
  nx : AEnv → Mu → Prop
  rt : AV → Mu → Prop
  bk : AEnv → Mu → Prop := fun _ _ => False
  ct : AEnv → Mu → Prop := fun _ _ => False
abbrev ATS := AEnds → AEnv → Mu → Prop
abbrev ATG := AV → AEnv → Mu → (AEnv → Mu → Prop) → Prop
abbrev ATGs := List AV → AEnv → Mu → (AEnv → Mu → Prop) → Prop
abbrev ATI := AEnv → Mu → (List AV → Mu → Prop) → Prop
abbrev AOp := Mu → AV → AV → (AV → Mu → Prop) → Prop
abbrev ACall := List AV → Mu → (AV → Mu → Prop) → Prop

section
variable (K : Kw)
def cE (a : AT) : TE := fun σ H Q => ∃ ρ μ Qa B F, a ρ μ Qa ∧ Slots K B σ ρ ∧ St K B μ F H ∧ ∀ v B' H' x μ', Qa x μ' → Ex B B' → St K B' μ' F H' → ARel K B' v x → Q v H'
def cT (a : ATT) : TT := fun σ H Q => ∃ ρ μ Qa B F, a ρ μ Qa ∧ Slots K B σ ρ ∧ St K B μ F H ∧ ∀ b B' H' μ', Qa b μ' → Ex B B' → St K B' μ' F H' → Q b H'
def cA (a : ATA) : TA := fun σ H Q => ∃ ρ μ Qa B F, a ρ μ Qa ∧ Slots K B σ ρ ∧ St K B μ F H ∧ ∀ vs B' H' xs μ', Qa xs μ' → Ex B B' → St K B' μ' F H' → ARels K B' vs xs → Q vs H'
/-- the ends: D does what Da tells, from B on, under F -/
structure EndsOk (B F : Hp) (Da : AEnds) (D : Ends) : Prop where
  nx : ∀ ρ μ σ B' H, Da.nx ρ μ → Ex B B' → Slots K B' σ ρ → St K B' μ F H → D.nx σ H
  rt : ∀ v x μ B' H, Da.rt x μ → Ex B B' → St K B' μ F H → ARel K B' v x → D.rt v H
  bk : ∀ ρ μ σ B' H, Da.bk ρ μ → Ex B B' → Slots K B' σ ρ → St K B' μ F H → D.bk σ H
  ct : ∀ ρ μ σ B' H, Da.ct ρ μ → Ex B B' → Slots K B' σ ρ → St K B' μ F H → D.ct σ H
def cS (a : ATS) : TS := fun D σ H => ∃ ρ μ Da B F, a Da ρ μ ∧ Slots K B σ ρ ∧ St K B μ F H ∧ EndsOk K B F Da D
/-- σ' is σ but for the slots vs -/
def But (vs : List Nat) (σ σ' : L2.St) : Prop := σ'.length = σ.length ∧ ∀ i, i ∉ vs → σ'[i]? = σ[i]?
def cG (vs : List Nat) (g : ATG) : TG := fun v σ H Q => ∃ x ρ μ Qa B F, g x ρ μ Qa ∧ ARel K B v x ∧ Slots K B σ ρ ∧ St K B μ F H ∧ ∀ ρ' μ' σ' B' H', Qa ρ' μ' → Ex B B' → Slots K B' σ' ρ' → St K B' μ' F H' → But vs σ σ' → Q σ' H'
def cGs (vs : List Nat) (g : ATGs) : TGs := fun ws σ H Q => ∃ xs ρ μ Qa B F, g xs ρ μ Qa ∧ ARels K B ws xs ∧ Slots K B σ ρ ∧ St K B μ F H ∧ ∀ ρ' μ' σ' B' H', Qa ρ' μ' → Ex B B' → Slots K B' σ' ρ' → St K B' μ' F H' → But vs σ σ' → Q σ' H'
/-- J walks the items, whatever happens above B -/
def WalkA (J : It) (items : List AV) (B : Hp) : Prop := items.length ≤ sizeLine ∧ ∃ G Y, Walk J items.length G Y ∧ (∀ H, Ex B H → G H) ∧
  ∀ i H v H' x, items[i]? = some x → Y i H v H' → ∀ B1 μ F, Ex B B1 → St K B1 μ F H → ∃ B2, Ex B1 B2 ∧ St K B2 μ F H' ∧ ARel K B2 v x
def cI (i : ATI) : TI := fun σ H R => ∃ ρ μ Ra B F, i ρ μ Ra ∧ Slots K B σ ρ ∧ St K B μ F H ∧ ∀ J B' H' items μ', Ra items μ' → Ex B B' → St K B' μ' F H' → WalkA K J items B' → R J H'
def cSp (sp : ACall) : Sp := fun vs H Q _ => ∃ as μ Qa B F, sp as μ Qa ∧ ARels K B vs as ∧ St K B μ F H ∧ ∀ v B' H' x μ', Qa x μ' → Ex B B' → St K B' μ' F H' → ARel K B' v x → Q v H'
/-- an operation on values -/
def ROp (r : R2) (f : AOp) : Prop := ∀ x y v u H Q μ Qa B F, f μ x y Qa → ARel K B v x → ARel K B u y → St K B μ F H → (∀ z B' H' w μ', Qa w μ' → Ex B B' → St K B' μ' F H' → ARel K B' z w → Q z H') → r v u H Q
def RCall (r : List V → Hp → VK → Prop) (f : ACall) : Prop := ∀ as vs H Q μ Qa B F, f as μ Qa → ARels K B vs as → St K B μ F H → (∀ z B' H' w μ', Qa w μ' → Ex B B' → St K B' μ' F H' → ARel K B' z w → Q z H') → r vs H Q
end

section
variable {X : Cx}
theorem pe_weak {e : Expr} {t t' : TE} (h : PE X e t) (w : ∀ σ H Q, t' σ H Q → t σ H Q) : PE X e t' := ⟨fun pins s σ H Q I hq => h.run pins s σ H Q I (w _ _ _ hq)⟩
theorem pt_weak {e : Expr} {t t' : TT} (h : PT X e t) (w : ∀ σ H Q, t' σ H Q → t σ H Q) : PT X e t' := ⟨fun pins s σ H Q I hq => h.run pins s σ H Q I (w _ _ _ hq)⟩
theorem pw_weak {e : Expr} {t t' : TT} (h : PW X e t) (w : ∀ σ H Q, t' σ H Q → t σ H Q) : PW X e t' := ⟨fun wh pins s σ H Q I hq => h.run wh pins s σ H Q I (w _ _ _ hq)⟩
theorem pa_weak {e : List Expr} {t t' : TA} (h : PA X e t) (w : ∀ σ H Q, t' σ H Q → t σ H Q) : PA X e t' := ⟨fun pos pins s σ H Q I hq => h.run pos pins s σ H Q I (w _ _ _ hq)⟩
theorem ps_weak {e : Stmt} {t t' : TS} (h : PS X e t) (w : ∀ D σ H, t' D σ H → t D σ H) : PS X e t' := ⟨fun pins s σ H D I hq => h.run pins s σ H D I (w _ _ _ hq)⟩
theorem pss_weak {e : List Stmt} {t t' : TS} (h : PSs X e t) (w : ∀ D σ H, t' D σ H → t D σ H) : PSs X e t' := ⟨fun pins s σ H D I hq => h.run pins s σ H D I (w _ _ _ hq)⟩
theorem pg_weak {e : Expr} {t t' : TG} (h : PG X e t) (w : ∀ v σ H Q, t' v σ H Q → t v σ H Q) : PG X e t' := ⟨fun pins s σ H v u Q I r hq => h.run pins s σ H v u Q I r (w _ _ _ _ hq)⟩
theorem pgs_weak {e : List Expr} {t t' : TGs} (h : PGs X e t) (w : ∀ v σ H Q, t' v σ H Q → t v σ H Q) : PGs X e t' := ⟨fun pins s σ H v u Q I r hq => h.run pins s σ H v u Q I r (w _ _ _ _ hq)⟩
theorem pi_weak {tg e : Expr} {t t' : TI} (h : PI X tg e t) (w : ∀ σ H Q, t' σ H Q → t σ H Q) : PI X tg e t' := ⟨fun pins s σ H Q I hq => h.run pins s σ H Q I (w _ _ _ hq)⟩
theorem pts_weak {e : List Expr} {t t' : TT} (h : PTs X e t) (w : ∀ σ H Q, t' σ H Q → t σ H Q) : PTs X e t' := ⟨fun pins s σ H Q I hq => h.run pins s σ H Q I (w _ _ _ hq)⟩

variable {K : Kw}
/-- one after another: e's reading within that of what comes behind -/
theorem cE_bind {a : AT} {σ : L2.St} {H : Hp} {ρ : AEnv} {μ : Mu} {Qa : AV → Mu → Prop} {B F : Hp} {Q : VK} (h : a ρ μ Qa) (s : Slots K B σ ρ) (st : St K B μ F H)
    (k : ∀ v B' H' x μ', Qa x μ' → Ex B B' → St K B' μ' F H' → ARel K B' v x → Q v H') : cE K a σ H Q := ⟨ρ, μ, Qa, B, F, h, s, st, k⟩
theorem cT_bind {a : ATT} {σ : L2.St} {H : Hp} {ρ : AEnv} {μ : Mu} {Qa : Bool → Mu → Prop} {B F : Hp} {Q : Bool → Hp → Prop} (h : a ρ μ Qa) (s : Slots K B σ ρ) (st : St K B μ F H)
    (k : ∀ v B' H' μ', Qa v μ' → Ex B B' → St K B' μ' F H' → Q v H') : cT K a σ H Q := ⟨ρ, μ, Qa, B, F, h, s, st, k⟩
theorem cA_bind {a : ATA} {σ : L2.St} {H : Hp} {ρ : AEnv} {μ : Mu} {Qa : List AV → Mu → Prop} {B F : Hp} {Q : List V → Hp → Prop} (h : a ρ μ Qa) (s : Slots K B σ ρ) (st : St K B μ F H)
    (k : ∀ v B' H' x μ', Qa x μ' → Ex B B' → St K B' μ' F H' → ARels K B' v x → Q v H') : cA K a σ H Q := ⟨ρ, μ, Qa, B, F, h, s, st, k⟩

/-! ### names, constants -/
def aVar (i : Nat) : AT := fun ρ μ Q => match ρ[i]? with | some (some x) => Q x μ | _ => False
theorem aVar_of {ρ : AEnv} {μ : Mu} {Q : AV → Mu → Prop} {i : Nat} (h : aVar i ρ μ Q) : ∃ x, ρ[i]? = some (some x) ∧ Q x μ := by
  unfold aVar at h
  split at h
  · exact ⟨_, by assumption, h⟩
  · exact h.elim
theorem av (i : Nat) {x : Str} {pos : Pos} (hN : X.N[i]? = some x := by rfl) (hv : Vis X.env.scope x := by first | exact Or.inl rfl | exact Or.inr (Or.inl rfl) | exact Or.inr (Or.inr rfl)) (hd : (x == ("__debug__" : Str)) = false := by decide)
    (hcd : (x == ("__classdict__" : Str)) = false := by decide) : PE X (.Name x pos) (cE X.kw (aVar i)) := by
  refine pe_weak (pe_var (i := i) hN hv hd hcd) fun σ H Q h => ?_
  obtain ⟨ρ, μ, Qa, B, F, ha, s, st, k⟩ := h
  obtain ⟨x, hx, q⟩ := aVar_of ha
  obtain ⟨v, hv, r⟩ := s.at_ i x hx
  exact ⟨v, hv, k v B H x μ q (Ex.refl _) st r⟩
def aC (d : AV) : AT := fun _ μ Q => Q d μ
theorem ac_of {e : Expr} {v : V} {d : AV} (h : PE X e (tC v)) (r : ∀ B, ARel X.kw B v d) : PE X e (cE X.kw (aC d)) := pe_weak h fun σ H Q ⟨ρ, μ, Qa, B, F, ha, s, st, k⟩ => k v B H d μ ha (Ex.refl _) st (r B)
theorem ac_int {i j pos} : PE X (.Constant (.int i) j pos) (cE X.kw (aC (.d (.int i)))) := ac_of pe_int fun _ => .int i
theorem ac_bl {b j pos} : PE X (.Constant (.bool b) j pos) (cE X.kw (aC (.d (.bool b)))) := ac_of pe_bl fun _ => .bl b
theorem ac_non {j pos} : PE X (.Constant .none j pos) (cE X.kw (aC (.d .none))) := ac_of pe_non fun _ => .non
theorem ac_str {x j pos} : PE X (.Constant (.str x) j pos) (cE X.kw (aC (.d (.str x)))) := ac_of pe_str fun _ => .str x
/-- a module's constant -/
theorem ac_glob {x : Str} {v : V} {d : AV} {u : Value} {pos : Pos} (hg : Gl X x) (hm : X.mg x = some u) (r : RelV v u) (r2 : ∀ B, ARel X.kw B v d) (hd : (x == ("__debug__" : Str)) = false := by decide) : PE X (.Name x pos) (cE X.kw (aC d)) := ac_of (pe_glob hg hm r hd) r2

/-! ### two-place operations -/
def aOp (f : AOp) (a b : AT) : AT := fun ρ μ Q => a ρ μ fun x μ1 => b ρ μ1 fun y μ2 => f μ2 x y Q
theorem tOp_of {r : R2} {f : AOp} {a b : AT} (ro : ROp K r f) {σ : L2.St} {H : Hp} {Q : VK} (h : cE K (aOp f a b) σ H Q) : tOp r (cE K a) (cE K b) σ H Q := by
  obtain ⟨ρ, μ, Qa, B, F, ha, s, st, k⟩ := h
  refine cE_bind ha s st fun v B1 H1 x μ1 hb e1 st1 r1 => ?_
  refine cE_bind hb (s.mono e1) st1 fun u B2 H2 y μ2 hf e2 st2 r2 => ?_
  exact ro x y v u H2 Q μ2 Qa B2 F hf (r1.mono e2) r2 st2 fun z B3 H3 w μ3 q e3 => k z B3 H3 w μ3 q ((e1.trans e2).trans e3)
theorem ae_op {op : Operator} {r : R2} {f : AOp} {a b : Expr} {ta tb : AT} {pos : Pos} (ho : OpR X (binaryOp op) r) (hf : ROp X.kw r f) (ha : PE X a (cE X.kw ta)) (hb : PE X b (cE X.kw tb)) : PE X (.BinOp a op b pos) (cE X.kw (aOp f ta tb)) :=
  pe_weak (pe_op ho ha hb) fun _ _ _ h => tOp_of hf h
theorem ae_cmp {op : CmpOp} {r : R2} {f : AOp} {a b : Expr} {ta tb : AT} {pos : Pos} (ho : OpR X (compareOp op) r) (hf : ROp X.kw r f) (ha : PE X a (cE X.kw ta)) (hb : PE X b (cE X.kw tb)) (hm : behindInMarks op b = false) : PE X (.Compare a [op] [b] pos) (cE X.kw (aOp f ta tb)) :=
  pe_weak (pe_cmpR ho ha hb hm) fun _ _ _ h => tOp_of hf h
/-- a bool's test -/
def aB (a : AT) : ATT := fun ρ μ Q => a ρ μ fun x μ1 => match x with | .d (.bool b) => Q b μ1 | _ => False
theorem tB_of {a : AT} {σ : L2.St} {H : Hp} {Q : Bool → Hp → Prop} (h : cT K (aB a) σ H Q) : cE K a σ H fun x H1 => ∃ c, x = .bl c ∧ Q c H1 := by
  obtain ⟨ρ, μ, Qa, B, F, ha, s, st, k⟩ := h
  refine cE_bind ha s st fun v B1 H1 x μ1 hb e1 st1 r1 => ?_
  match x, hb, r1 with
  | .d (.bool b), hb, r1 =>
    cases r1
    exact ⟨b, rfl, k b B1 H1 μ1 hb e1 st1⟩
theorem at_cmp {op : CmpOp} {r : R2} {f : AOp} {a b : Expr} {ta tb : AT} {pos : Pos} (ho : OpR X (compareOp op) r) (hf : ROp X.kw r f) (ha : PE X a (cE X.kw ta)) (hb : PE X b (cE X.kw tb)) (hm : behindInMarks op b = false) : PT X (.Compare a [op] [b] pos) (cT X.kw (aB (aOp f ta tb))) :=
  pt_weak (pt_cmpR ho ha hb hm) fun σ H Q h => by
    have q := tB_of h
    exact tOp_of hf q
theorem at_val {e : Expr} {t : AT} (h : PE X e (cE X.kw t)) (he : ∀ whole, isTrue e X.env whole = (do let v ← whole; standAt e.pos; holding [v] (truthy v)) := by intro _; rfl) : PT X e (cT X.kw (aB t)) :=
  pt_weak (pt_val h he) fun _ _ _ h => tB_of h

/-! ### and, or, not, if -/
def aAnd (a b : ATT) : ATT := fun ρ μ Q => a ρ μ fun c μ1 => if c = true then b ρ μ1 Q else Q false μ1
def aOr (a b : ATT) : ATT := fun ρ μ Q => a ρ μ fun c μ1 => if c = true then Q true μ1 else b ρ μ1 Q
def aNot (a : ATT) : ATT := fun ρ μ Q => a ρ μ fun c μ1 => Q (!c) μ1
section
variable {a b c : Expr} {rest : List Expr} {pos : Pos} {ta tb : ATT} {fa fb : AT}
theorem aw_and1 (ha : PT X a (cT X.kw ta)) : PW X (.BoolOp .And [a] pos) (cT X.kw ta) := pw_and1 ha
theorem aw_or1 (ha : PT X a (cT X.kw ta)) : PW X (.BoolOp .Or [a] pos) (cT X.kw ta) := pw_or1 ha
theorem aw_and (ha : PT X a (cT X.kw ta)) (hb : PW X (.BoolOp .And (b :: rest) pos) (cT X.kw tb)) : PW X (.BoolOp .And (a :: b :: rest) pos) (cT X.kw (aAnd ta tb)) :=
  pw_weak (pw_and ha hb) fun σ H Q h => by
    obtain ⟨ρ, μ, Qa, B, F, h, s, st, k⟩ := h
    refine cT_bind h s st fun v B1 H1 μ1 q e1 st1 => ?_
    cases v with
    | true => exact cT_bind q (s.mono e1) st1 fun w B2 H2 μ2 q e2 => k w B2 H2 μ2 q (e1.trans e2)
    | false => exact k false B1 H1 μ1 q e1 st1
theorem aw_or (ha : PT X a (cT X.kw ta)) (hb : PW X (.BoolOp .Or (b :: rest) pos) (cT X.kw tb)) : PW X (.BoolOp .Or (a :: b :: rest) pos) (cT X.kw (aOr ta tb)) :=
  pw_weak (pw_or ha hb) fun σ H Q h => by
    obtain ⟨ρ, μ, Qa, B, F, h, s, st, k⟩ := h
    refine cT_bind h s st fun v B1 H1 μ1 q e1 st1 => ?_
    cases v with
    | false => exact cT_bind q (s.mono e1) st1 fun w B2 H2 μ2 q e2 => k w B2 H2 μ2 q (e1.trans e2)
    | true => exact k true B1 H1 μ1 q e1 st1
theorem at_not (ha : PT X a (cT X.kw ta)) : PT X (.UnaryOp .Not a pos) (cT X.kw (aNot ta)) :=
  pt_weak (pt_not ha) fun σ H Q h => by
    obtain ⟨ρ, μ, Qa, B, F, h, s, st, k⟩ := h
    exact cT_bind h s st fun v B1 H1 μ1 q e1 st1 => k (!v) B1 H1 μ1 q e1 st1
/-- as values, of bools (the last one of an and, or may be any value) -/
def aAndV (a b : AT) : AT := fun ρ μ Q => a ρ μ fun x μ1 => match x with | .d (.bool c) => if c = true then b ρ μ1 Q else Q (.d (.bool false)) μ1 | _ => False
def aOrV (a b : AT) : AT := fun ρ μ Q => a ρ μ fun x μ1 => match x with | .d (.bool c) => if c = true then Q (.d (.bool true)) μ1 else b ρ μ1 Q | _ => False
def aNotV (a : AT) : AT := fun ρ μ Q => a ρ μ fun x μ1 => match x with | .d (.bool c) => Q (.d (.bool (!c))) μ1 | _ => False
theorem ae_one {op} (h : PE X a (cE X.kw fa)) : PE X (.BoolOp op [a] pos) (cE X.kw fa) := pe_one h
theorem ae_and (ha : PE X a (cE X.kw fa)) (hb : PE X (.BoolOp .And (b :: rest) pos) (cE X.kw fb)) : PE X (.BoolOp .And (a :: b :: rest) pos) (cE X.kw (aAndV fa fb)) :=
  pe_weak (pe_and ha hb) fun σ H Q h => by
    obtain ⟨ρ, μ, Qa, B, F, h, s, st, k⟩ := h
    refine cE_bind h s st fun v B1 H1 x μ1 q e1 st1 r1 => ?_
    match x, q, r1 with
    | .d (.bool c), q, r1 =>
      cases r1
      refine ⟨c, rfl, ?_⟩
      cases c with
      | true => exact cE_bind q (s.mono e1) st1 fun w B2 H2 y μ2 q e2 => k w B2 H2 y μ2 q (e1.trans e2)
      | false => exact k _ B1 H1 _ μ1 q e1 st1 (.bl false)
theorem ae_or (ha : PE X a (cE X.kw fa)) (hb : PE X (.BoolOp .Or (b :: rest) pos) (cE X.kw fb)) : PE X (.BoolOp .Or (a :: b :: rest) pos) (cE X.kw (aOrV fa fb)) :=
  pe_weak (pe_or ha hb) fun σ H Q h => by
    obtain ⟨ρ, μ, Qa, B, F, h, s, st, k⟩ := h
    refine cE_bind h s st fun v B1 H1 x μ1 q e1 st1 r1 => ?_
    match x, q, r1 with
    | .d (.bool c), q, r1 =>
      cases r1
      refine ⟨c, rfl, ?_⟩
      cases c with
      | false => exact cE_bind q (s.mono e1) st1 fun w B2 H2 y μ2 q e2 => k w B2 H2 y μ2 q (e1.trans e2)
      | true => exact k _ B1 H1 _ μ1 q e1 st1 (.bl true)
theorem ae_not (ha : PE X a (cE X.kw fa)) : PE X (.UnaryOp .Not a pos) (cE X.kw (aNotV fa)) :=
  pe_weak (pe_not ha) fun σ H Q h => by
    obtain ⟨ρ, μ, Qa, B, F, h, s, st, k⟩ := h
    refine cE_bind h s st fun v B1 H1 x μ1 q e1 st1 r1 => ?_
    match x, q, r1 with
    | .d (.bool c), q, r1 =>
      cases r1
      exact ⟨c, rfl, k _ B1 H1 _ μ1 q e1 st1 (.bl (!c))⟩
def aIf (c : ATT) (a b : AT) : AT := fun ρ μ Q => c ρ μ fun v μ1 => if v = true then a ρ μ1 Q else b ρ μ1 Q
theorem ae_if (hc : PT X c (cT X.kw ta)) (ha : PE X a (cE X.kw fa)) (hb : PE X b (cE X.kw fb)) : PE X (.IfExp c a b pos) (cE X.kw (aIf ta fa fb)) :=
  pe_weak (pe_ifExp hc ha hb) fun σ H Q h => by
    obtain ⟨ρ, μ, Qa, B, F, h, s, st, k⟩ := h
    refine cT_bind h s st fun v B1 H1 μ1 q e1 st1 => ?_
    cases v with
    | true => exact cE_bind q (s.mono e1) st1 fun w B2 H2 y μ2 q e2 => k w B2 H2 y μ2 q (e1.trans e2)
    | false => exact cE_bind q (s.mono e1) st1 fun w B2 H2 y μ2 q e2 => k w B2 H2 y μ2 q (e1.trans e2)
end

/-! ### argument lists, displays, calls -/
def aNil : ATA := fun _ μ Q => Q [] μ
def aCons (a : AT) (r : ATA) : ATA := fun ρ μ Q => a ρ μ fun x μ1 => r ρ μ1 fun xs μ2 => Q (x :: xs) μ2
section
variable {e : Expr} {es : List Expr} {te : AT} {t : ATA} {pos : Pos}
theorem aa_nil : PA X [] (cA X.kw aNil) := pa_weak pa_nil fun σ H Q ⟨ρ, μ, Qa, B, F, h, s, st, k⟩ => k [] B H [] μ h (Ex.refl _) st .nil
theorem aa_cons (ha : PE X e (cE X.kw te)) (hr : PA X es (cA X.kw t)) (hs : starEach (e :: es) X.env = (false, eval e X.env) :: starEach es X.env := by rfl) : PA X (e :: es) (cA X.kw (aCons te t)) :=
  pa_weak (pa_cons ha hr hs) fun σ H Q ⟨ρ, μ, Qa, B, F, h, s, st, k⟩ => by
    refine cE_bind h s st fun v B1 H1 x μ1 q e1 st1 r1 => ?_
    exact cA_bind q (s.mono e1) st1 fun vs B2 H2 xs μ2 q e2 st2 r2 => k _ B2 H2 _ μ2 q (e1.trans e2) st2 (.cons (r1.mono e2) r2)
/-- data out of a list of abstract values -/
def datas : List AV → Option (List PyData)
  | [] => some []
  | .d x :: xs => (datas xs).map (x :: ·)
  | .v _ :: _ => none
theorem datas_eq : ∀ {xs : List AV} {ds : List PyData}, datas xs = some ds → xs = ds.map AV.d
  | [], _, h => by simp [datas] at h; subst h; rfl
  | .d x :: xs, ds, h => by
    simp only [datas, Option.map_eq_some_iff] at h
    obtain ⟨es, h1, rfl⟩ := h
    rw [datas_eq h1] <;> rfl
  | .v _ :: _, _, h => by simp [datas] at h
theorem datas_map (ds : List PyData) : datas (ds.map AV.d) = some ds := by
  induction ds with
  | nil => rfl
  | cons d ds ih => simp [datas, ih]
/-- a written tuple, a written list: data -/
def aTup (t : ATA) : AT := fun ρ μ Q => t ρ μ fun xs μ1 => ∃ ds, datas xs = some ds ∧ ds.length ≤ sizeLine ∧ Q (.d (.tuple ds)) μ1
def aLst (t : ATA) : AT := fun ρ μ Q => t ρ μ fun xs μ1 => ∃ ds, datas xs = some ds ∧ ds.length ≤ sizeLine ∧ Q (.d (.list ds)) μ1
/-- a written list that may be changed later -/
def aMut (t : ATA) : AT := fun ρ μ Q => t ρ μ fun xs μ1 => xs.length ≤ sizeLine ∧ ∀ l, μ1 l = none → Q (.v (.ref l)) (mset μ1 l (.lst xs))
theorem new_tup {B F H : Hp} {μ : Mu} {Qa : AV → Mu → Prop} {Q : VK} {vs : List V} {ds : List PyData} (st : St K B μ F H) (hz : ds.length ≤ sizeLine) (r : RepAll K B vs ds) (q : Qa (.d (.tuple ds)) μ)
    (k : ∀ v B' H' x μ', Qa x μ' → Ex B B' → St K B' μ' F H' → ARel K B' v x → Q v H') : ∀ p, H p = none → Q (.ref p) (upd H p (.tup vs)) := fun p hp => by
  obtain ⟨e2, st2⟩ := st.grow (o := .tup vs) hp
  exact k _ _ _ _ μ q e2 st2 (.tup (SqT.of upd_same) hz (RepAll.mono e2 ds r))
theorem new_lst {B F H : Hp} {μ : Mu} {Qa : AV → Mu → Prop} {Q : VK} {vs : List V} {ds : List PyData} (st : St K B μ F H) (hz : ds.length ≤ sizeLine) (r : RepAll K B vs ds) (q : Qa (.d (.list ds)) μ)
    (k : ∀ v B' H' x μ', Qa x μ' → Ex B B' → St K B' μ' F H' → ARel K B' v x → Q v H') : ∀ p, H p = none → Q (.ref p) (upd H p (.lst vs)) := fun p hp => by
  obtain ⟨e2, st2⟩ := st.grow (o := .lst vs) hp
  exact k _ _ _ _ μ q e2 st2 (.lst upd_same hz (RepAll.mono e2 ds r))
theorem new_mut {B F H : Hp} {μ : Mu} {Qa : AV → Mu → Prop} {Q : VK} {vs : List V} {xs : List AV} (st : St K B μ F H) (hz : xs.length ≤ sizeLine) (r : ARels K B vs xs) (q : ∀ l, μ l = none → Qa (.v (.ref l)) (mset μ l (.lst xs)))
    (k : ∀ v B' H' x μ', Qa x μ' → Ex B B' → St K B' μ' F H' → ARel K B' v x → Q v H') : ∀ p, H p = none → Q (.ref p) (upd H p (.lst vs)) := fun p hp => by
  obtain ⟨st2, nM⟩ := st.new (o := .lst vs) (m := .lst xs) hp ⟨_, rfl, hz, r⟩
  exact k _ _ _ _ _ (q p nM) (Ex.refl _) st2 rfl
theorem ae_tup {x1} (h : PA X es (cA X.kw t)) : PE X (.Tuple es x1 pos) (cE X.kw (aTup t)) := pe_weak (pe_tup h) fun σ H Q ⟨ρ, μ, Qa, B, F, h, s, st, k⟩ => by
  refine cA_bind h s st fun vs B1 H1 xs μ1 ⟨ds, hd, hl, q⟩ e1 st1 r1 => ?_
  rw [datas_eq hd] at r1
  have r2 := ARels.all r1
  exact ⟨by rw [r2.length]; exact hl, new_tup st1 hl r2 q fun v B' H' x μ' q e => k v B' H' x μ' q (e1.trans e)⟩
theorem ae_lst (h : PA X es (cA X.kw t)) : PE X (.List es pos) (cE X.kw (aLst t)) := pe_weak (pe_lst h) fun σ H Q ⟨ρ, μ, Qa, B, F, h, s, st, k⟩ => by
  refine cA_bind h s st fun vs B1 H1 xs μ1 ⟨ds, hd, hl, q⟩ e1 st1 r1 => ?_
  rw [datas_eq hd] at r1
  have r2 := ARels.all r1
  exact ⟨by rw [r2.length]; exact hl, new_lst st1 hl r2 q fun v B' H' x μ' q e => k v B' H' x μ' q (e1.trans e)⟩
theorem ae_mut (h : PA X es (cA X.kw t)) : PE X (.List es pos) (cE X.kw (aMut t)) := pe_weak (pe_lst h) fun σ H Q ⟨ρ, μ, Qa, B, F, h, s, st, k⟩ => by
  refine cA_bind h s st fun vs B1 H1 xs μ1 ⟨hl, q⟩ e1 st1 r1 => ?_
  exact ⟨by rw [r1.length]; exact hl, new_mut st1 hl r1 q fun v B' H' x μ' q e => k v B' H' x μ' q (e1.trans e)⟩
/-- f(e, ..) of an own def; of a built-in -/
def aCall (sp : ACall) (t : ATA) : AT := fun ρ μ Q => t ρ μ fun xs μ1 => sp xs μ1 Q
theorem ae_call {x : Str} {p : Pos} {k : Nat} {f : Addr} {fd : FuncData} {ps : List Str} {sp : ACall} (G : FnOk X.prog X.w X.K X.mg X.base CX0 k f fd ps (cSp X.kw sp)) (hr : Room k X.A) (hg : Gl X x) (hm : X.mg x = some (.ref f)) (hk : PySem.W.keepIn X.K (.ref f) = true) (hb : Binds X.K fd ps [])
    (ha : PA X (e :: es) (cA X.kw t)) (hdb : (x == ("__debug__" : Str)) = false := by decide) (he : starEach (e :: es) X.env = (false, eval e X.env) :: starEach es X.env := by rfl) (hpl : (backTo pos (starEach es X.env)).any (·.1) = false := by rfl) :
    PE X (.Call (.Name x p) (e :: es) [] pos) (cE X.kw (aCall sp t)) := pe_weak (pe_call (E := E0) G hr hg hm hk hb .nil pass0 ha hdb he hpl) fun σ H Q ⟨ρ, μ, Qa, B, F, h, s, st, k⟩ => by
  refine cA_bind h s st fun vs B1 H1 xs μ1 q e1 st1 r1 => ?_
  exact ⟨xs, μ1, Qa, B1, F, q, by rw [List.append_nil]; exact r1, st1, fun v B' H' x μ' q e => k v B' H' x μ' q (e1.trans e)⟩
theorem tCB_of {r : List V → Hp → VK → Prop} {f : ACall} (rc : RCall K r f) {σ : L2.St} {H : Hp} {Q : VK} (h : cE K (aCall f t) σ H Q) : tCB r (cA K t) σ H Q := by
  obtain ⟨ρ, μ, Qa, B, F, h, s, st, k⟩ := h
  refine cA_bind h s st fun vs B1 H1 xs μ1 q e1 st1 r1 => ?_
  exact rc xs vs H1 Q μ1 Qa B1 F q r1 st1 fun v B' H' x μ' q e => k v B' H' x μ' q (e1.trans e)
theorem ae_callB {x : Str} {p : Pos} {id : String} {r : List V → Hp → VK → Prop} {f : ACall} (hc : CallR X (.builtin id) r) (rc : RCall X.kw r f) (hg : Gl X x) (hm : X.mg x = none) (hv : bootBuiltins x = some (.builtin id)) (ha : PA X (e :: es) (cA X.kw t)) (hn : x ≠ "__name__" := by decide) (hdb : (x == ("__debug__" : Str)) = false := by decide)
    (he : starEach (e :: es) X.env = (false, eval e X.env) :: starEach es X.env := by rfl) (hpl : (backTo pos (starEach es X.env)).any (·.1) = false := by rfl) : PE X (.Call (.Name x p) (e :: es) [] pos) (cE X.kw (aCall f t)) :=
  pe_weak (pe_callB hc hg hm hv ha hn hdb he hpl) fun _ _ _ h => tCB_of rc h
theorem ae_callTy {x : Str} {p : Pos} {T : String} {r : List V → Hp → VK → Prop} {f : ACall} (hc : CallR X (.type T) r) (rc : RCall X.kw r f) (hg : Gl X x) (hm : X.mg x = none) (hv : bootBuiltins x = some (.type T)) (ha : PA X (e :: es) (cA X.kw t)) (hn : x ≠ "__name__" := by decide) (hdb : (x == ("__debug__" : Str)) = false := by decide)
    (he : starEach (e :: es) X.env = (false, eval e X.env) :: starEach es X.env := by rfl) (hpl : (backTo pos (starEach es X.env)).any (·.1) = false := by rfl) : PE X (.Call (.Name x p) (e :: es) [] pos) (cE X.kw (aCall f t)) :=
  pe_weak (pe_callTy hc hg hm hv ha hn hdb he hpl) fun _ _ _ h => tCB_of rc h
end

/-! ### statements -/
def aNext : ATS := fun D ρ μ => D.nx ρ μ
def aSeq (a b : ATS) : ATS := fun D ρ μ => a { D with nx := b D } ρ μ
section
variable {st : Stmt} {rest : List Stmt} {t u : ATS} {e : Expr} {te : AT} {pos : Pos}
theorem EndsOk.mono {B B' F : Hp} {Da : AEnds} {D : Ends} (h : EndsOk K B F Da D) (e : Ex B B') : EndsOk K B' F Da D :=
  ⟨fun ρ μ σ B1 H q e1 => h.nx ρ μ σ B1 H q (e.trans e1), fun v x μ B1 H q e1 => h.rt v x μ B1 H q (e.trans e1), fun ρ μ σ B1 H q e1 => h.bk ρ μ σ B1 H q (e.trans e1), fun ρ μ σ B1 H q e1 => h.ct ρ μ σ B1 H q (e.trans e1)⟩
theorem ass_nil : PSs X [] (cS X.kw aNext) := pss_weak pss_nil fun D σ H ⟨ρ, μ, Da, B, F, h, s, st, k⟩ => k.nx ρ μ σ B H h (Ex.refl _) s st
theorem ass_cons (h1 : PS X st (cS X.kw t)) (h2 : PSs X rest (cS X.kw u)) : PSs X (st :: rest) (cS X.kw (aSeq t u)) := pss_weak (pss_cons h1 h2) fun D σ H ⟨ρ, μ, Da, B, F, h, s, stt, k⟩ =>
  ⟨ρ, μ, { Da with nx := u Da }, B, F, h, s, stt, ⟨fun ρ' μ' σ' B' H' q e s' st' => ⟨ρ', μ', Da, B', F, q, s', st', k.mono e⟩, k.rt, k.bk, k.ct⟩⟩
theorem ass_one (h1 : PS X st (cS X.kw t)) : PSs X [st] (cS X.kw t) := pss_one h1
def aBreak : ATS := fun D ρ μ => D.bk ρ μ
def aCont : ATS := fun D ρ μ => D.ct ρ μ
theorem as_pass : PS X (.Pass pos) (cS X.kw aNext) := ps_weak ps_pass fun D σ H ⟨ρ, μ, Da, B, F, h, s, st, k⟩ => k.nx ρ μ σ B H h (Ex.refl _) s st
theorem as_break : PS X (.Break pos) (cS X.kw aBreak) := ps_weak ps_break fun D σ H ⟨ρ, μ, Da, B, F, h, s, st, k⟩ => k.bk ρ μ σ B H h (Ex.refl _) s st
theorem as_continue : PS X (.Continue pos) (cS X.kw aCont) := ps_weak ps_continue fun D σ H ⟨ρ, μ, Da, B, F, h, s, st, k⟩ => k.ct ρ μ σ B H h (Ex.refl _) s st
def aNever : ATS := fun _ _ _ => False
theorem as_never : PS X st (cS X.kw aNever) := ps_weak ps_never fun D σ H ⟨ρ, μ, Da, B, F, h, _⟩ => h.elim
def aDrop (a : AT) : ATS := fun D ρ μ => a ρ μ fun _ μ1 => D.nx ρ μ1
theorem as_expr (he : PE X e (cE X.kw te)) (hs : swapsWith e none pos.line X.env = pure false := by rfl) : PS X (.Expr e pos) (cS X.kw (aDrop te)) := ps_weak (ps_expr he hs) fun D σ H ⟨ρ, μ, Da, B, F, h, s, st, k⟩ =>
  cE_bind h s st fun v B1 H1 x μ1 q e1 st1 r1 => k.nx ρ μ1 σ B1 H1 q e1 (s.mono e1) st1
def aRet (a : AT) : ATS := fun D ρ μ => a ρ μ D.rt
theorem as_ret (he : PE X e (cE X.kw te)) : PS X (.Return (some e) pos) (cS X.kw (aRet te)) := ps_weak (ps_ret he) fun D σ H ⟨ρ, μ, Da, B, F, h, s, st, k⟩ =>
  cE_bind h s st fun v B1 H1 x μ1 q e1 st1 r1 => k.rt v x μ1 B1 H1 q e1 st1 r1
def aRetN : ATS := fun D _ μ => D.rt (.d .none) μ
theorem as_retN : PS X (.Return none pos) (cS X.kw aRetN) := ps_weak ps_retN fun D σ H ⟨ρ, μ, Da, B, F, h, s, st, k⟩ => k.rt .non _ μ B H h (Ex.refl _) st .non
def aIfS (c : ATT) (t u : ATS) : ATS := fun D ρ μ => c ρ μ fun b μ1 => if b = true then t D ρ μ1 else u D ρ μ1
theorem as_if {c : Expr} {a b : List Stmt} {tc : ATT} (hc : PT X c (cT X.kw tc)) (ha : PSs X a (cS X.kw t)) (hb : PSs X b (cS X.kw u)) : PS X (.If c a b pos) (cS X.kw (aIfS tc t u)) :=
  ps_weak (ps_if hc ha hb) fun D σ H ⟨ρ, μ, Da, B, F, h, s, st, k⟩ => cT_bind h s st fun v B1 H1 μ1 q e1 st1 => by
    cases v with
    | true => exact ⟨ρ, μ1, Da, B1, F, q, s.mono e1, st1, k.mono e1⟩
    | false => exact ⟨ρ, μ1, Da, B1, F, q, s.mono e1, st1, k.mono e1⟩

/-! ### targets -/
def agN (i : Nat) : ATG := fun x ρ μ Q => Q (ρ.set i (some x)) μ
theorem But.set {σ : L2.St} {i : Nat} {v : Option V} : But [i] σ (σ.set i v) := ⟨by simp, fun j hj => List.getElem?_set_ne (fun e => hj (by simp [e]))⟩
theorem ag_name (i : Nat) {x : Str} (hN : X.N.Nodup) (hi : X.N[i]? = some x := by rfl) (hx : Loc X.env.scope x := by first | exact Or.inl rfl | exact Or.inr rfl) (hf : X.fn x = true ∨ X.env.scope.names.lookup x = some .local := by first | exact .inl rfl | exact .inr rfl | assumption) : PG X (.Name x pos) (cG X.kw [i] (agN i)) :=
  pg_weak (pg_name (i := i) hN hi hx hf) fun v σ H Q ⟨x, ρ, μ, Qa, B, F, h, r, s, st, k⟩ => k _ μ _ B H h (Ex.refl _) (s.set i r) st But.set
def agNil : ATGs := fun xs ρ μ Q => xs = [] ∧ Q ρ μ
def agCons (t : ATG) (u : ATGs) : ATGs := fun xs ρ μ Q => match xs with | x :: r => t x ρ μ fun ρ1 μ1 => u r ρ1 μ1 Q | [] => False
theorem But.refl {vs : List Nat} {σ : L2.St} : But vs σ σ := ⟨rfl, fun _ _ => rfl⟩
theorem But.trans {vs ws : List Nat} {σ σ1 σ2 : L2.St} (a : But vs σ σ1) (b : But ws σ1 σ2) : But (vs ++ ws) σ σ2 := ⟨b.1.trans a.1, fun i hi => by
  rw [List.mem_append, not_or] at hi
  exact (b.2 i hi.2).trans (a.2 i hi.1)⟩
theorem ags_nil : PGs X [] (cGs X.kw [] agNil) := pgs_weak pgs_nil fun v σ H Q ⟨xs, ρ, μ, Qa, B, F, ⟨h1, h⟩, r, s, st, k⟩ => by
  subst h1
  cases r
  exact ⟨rfl, k ρ μ σ B H h (Ex.refl _) s st But.refl⟩
theorem ags_cons {es : List Expr} {g : ATG} {gs : ATGs} {vs ws : List Nat} (h1 : PG X e (cG X.kw vs g)) (h2 : PGs X es (cGs X.kw ws gs)) (hs : (assignEach (e :: es) X.env).map (·.2) = assign e X.env :: (assignEach es X.env).map (·.2) := by rfl) : PGs X (e :: es) (cGs X.kw (vs ++ ws) (agCons g gs)) :=
  pgs_weak (pgs_cons h1 h2 hs) fun v σ H Q ⟨xs, ρ, μ, Qa, B, F, h, r, s, st, k⟩ => by
    match xs, h, r with
    | x :: xs, h, .cons r1 r2 =>
      refine ⟨_, _, rfl, x, ρ, μ, _, B, F, h, r1, s, st, fun ρ1 μ1 σ1 B1 H1 q e1 s1 st1 b1 => ?_⟩
      exact ⟨xs, ρ1, μ1, Qa, B1, F, q, ARels.mono e1 r2, s1, st1, fun ρ2 μ2 σ2 B2 H2 q e2 s2 st2 b2 => k ρ2 μ2 σ2 B2 H2 q (e1.trans e2) s2 st2 (b1.trans b2)⟩
/-- a, b, .. = a tuple of data -/
def agTup (n : Nat) (gs : ATGs) : ATG := fun x ρ μ Q => match x with | .d (.tuple ds) => ds.length = n ∧ gs (ds.map AV.d) ρ μ Q | _ => False
theorem ag_tup {es : List Expr} {k : Nat} {gs : ATGs} {n : Nat} {vs : List Nat} (hc : X.calm = true) (h : PGs X es (cGs X.kw vs gs))
    (hn : (assignEach es X.env).length = n := by rfl) (hst : (assignEach es X.env).findIdx? (·.1) = none := by rfl) : PG X (.Tuple es k pos) (cG X.kw vs (agTup n gs)) :=
  pg_weak (pg_tup hc h hn hst) fun v σ H Q ⟨x, ρ, μ, Qa, B, F, h, r, s, st, k⟩ => by
    match x, h, r with
    | .d (.tuple ds), ⟨hl, h⟩, r =>
      cases r with
      | tup h1 hz h2 => exact ⟨_, _, rfl, st.ex.st h1, by rw [h2.length]; exact hl, _, ρ, μ, Qa, B, F, h, ARels.of h2, s, st, k⟩
def aAsg (a : AT) (g : ATG) : ATS := fun D ρ μ => a ρ μ fun x μ1 => g x ρ μ1 D.nx
theorem as_asg {tg : Expr} {g : ATG} {vs : List Nat} (he : PE X e (cE X.kw te)) (hg : PG X tg (cG X.kw vs g)) (hs : swapsWithSole [tg] e pos.line X.env = pure false := by rfl) (hw : swappedStores [tg] e X.env = pure none := by rfl)
    (h1 : (assignEach [tg] X.env).map (·.2) = [assign tg X.env] := by rfl) : PS X (.Assign [tg] e pos) (cS X.kw (aAsg te g)) := ps_weak (ps_asg he hg hs hw h1) fun D σ H ⟨ρ, μ, Da, B, F, h, s, st, k⟩ =>
  cE_bind h s st fun v B1 H1 x μ1 q e1 st1 r1 => ⟨x, ρ, μ1, _, B1, F, q, r1, s.mono e1, st1, fun ρ2 μ2 σ2 B2 H2 q e2 s2 st2 _ => k.nx ρ2 μ2 σ2 B2 H2 q (e1.trans e2) s2 st2⟩
end
end
end Ab

set_option Elab.async false
set_option linter.all false
set_option maxRecDepth 100000
set_option maxHeartbeats 4000000
/-! Ab2: loops, comprehensions, what is walked. -/
namespace Ab
open PySem PySem.Spec PyProof.Rows L2
section
variable {X : Cx} {K : Kw}

/-! ### for -/
def forGo (g : ATG) (body : ATS) (D : AEnds) : List AV → AEnv → Mu → Prop
  | [], ρ, μ => D.nx ρ μ
  | x :: xs, ρ, μ => g x ρ μ fun ρ1 μ1 => body { D with nx := forGo g body D xs, ct := forGo g body D xs, bk := D.nx } ρ1 μ1
def aFor (it : ATI) (g : ATG) (body : ATS) : ATS := fun D ρ μ => it ρ μ fun items μ1 => forGo g body D items ρ μ1
theorem drop_at {α : Type} {l : List α} {i : Nat} (h : i < l.length) : ∃ y, l[i]? = some y ∧ l.drop i = y :: l.drop (i + 1) :=
  ⟨l[i], List.getElem?_eq_getElem h, List.drop_eq_getElem_cons h⟩
theorem as_for {iter : Expr} {body : List Stmt} {it : ATI} {tg : Expr} {g : ATG} {b : ATS} {vs : List Nat} {pos : Pos} (hp : PassesOwn (model X.prog X.w) X.A X.env X.xe) (hc : X.calm = true) (hi : PI X tg iter (cI X.kw it)) (hg : PG X tg (cG X.kw vs g)) (hb : PSs X body (cS X.kw b))
    (hs : ∀ x, foldedSetIterable iter X.env x = pure x := by intro _; rfl) : PS X (.For tg iter body [] pos) (cS X.kw (aFor it g b)) :=
  ps_weak (ps_for hp hc hi hg hb hs) fun D σ H ⟨ρ, μ, Da, B, F, h, s, st, k⟩ => by
    refine ⟨ρ, μ, _, B, F, h, s, st, fun J B1 H1 items μ1 q e1 st1 ⟨hit, G, Y, w, hG, hY⟩ => ?_⟩
    refine for_it w (fun i σ H => ∃ ρ μ B2, forGo g b Da (items.drop i) ρ μ ∧ Ex B1 B2 ∧ Slots X.kw B2 σ ρ ∧ St X.kw B2 μ F H) ⟨ρ, μ1, B1, q, Ex.refl _, s.mono e1, st1⟩ (fun i σ H _ ⟨_, _, _, _, e, _, s2⟩ => hG H (e.trans s2.ex)) ?_ ?_
    · rintro i x σ H H' hi ⟨ρ, μ, B2, q, e2, s2, st2⟩ hy
      obtain ⟨y, hy1, hd⟩ := drop_at hi
      rw [hd] at q
      obtain ⟨B3, e3, st3, r⟩ := hY i H x H' y hy1 hy B2 μ F e2 st2
      refine ⟨y, ρ, μ, _, B3, F, q, r, s2.mono e3, st3, fun ρ' μ' σ' B' H'' q' e' s' st' _ => ?_⟩
      refine ⟨ρ', μ', _, B', F, q', s', st', ?_⟩
      have e5 : Ex B1 B' := (e2.trans e3).trans e'
      refine ⟨fun ρ μ σ B6 H q e s st => ⟨ρ, μ, B6, q, e5.trans e, s, st⟩, fun v x μ B6 H q e => k.rt v x μ B6 H q (e1.trans (e5.trans e)), fun ρ μ σ B6 H q e => k.nx ρ μ σ B6 H q (e1.trans (e5.trans e)), fun ρ μ σ B6 H q e s st => ⟨ρ, μ, B6, q, e5.trans e, s, st⟩⟩
    · rintro σ H ⟨ρ, μ, B2, q, e2, s2, st2⟩
      rw [List.drop_length] at q
      exact k.nx ρ μ σ B2 H q (e1.trans e2) s2 st2

/-! ### while -/
def whGo (c : ATT) (body : ATS) (D : AEnds) : Nat → AEnv → Mu → Prop
  | 0, _, _ => False
  | n + 1, ρ, μ => c ρ μ fun b μ1 => if b = true then body { D with nx := whGo c body D n, ct := whGo c body D n, bk := D.nx } ρ μ1 else D.nx ρ μ1
def aWhile (c : ATT) (body : ATS) : ATS := fun D ρ μ => ∃ n, whGo c body D n ρ μ
theorem as_while {c : Expr} {body : List Stmt} {tc : ATT} {b : ATS} {pos : Pos} (hp : PassesOwn (model X.prog X.w) X.A X.env X.xe) (hc : PT X c (cT X.kw tc)) (hb : PSs X body (cS X.kw b)) : PS X (.While c body [] pos) (cS X.kw (aWhile tc b)) :=
  ps_weak (ps_while hp hc hb) fun D σ H ⟨ρ, μ, Da, B, F, ⟨n, h⟩, s, st, k⟩ => by
    refine ⟨fun m σ H => ∃ ρ μ B2, whGo tc b Da m ρ μ ∧ Ex B B2 ∧ Slots X.kw B2 σ ρ ∧ St X.kw B2 μ F H, ⟨n, ρ, μ, B, h, Ex.refl _, s, st⟩, ?_⟩
    rintro m σ H ⟨ρ, μ, B2, q, e2, s2, st2⟩
    cases m with
    | zero => exact q.elim
    | succ m =>
      refine cT_bind q s2 st2 fun v B3 H3 μ3 q e3 st3 => ?_
      cases v with
      | false => exact k.nx ρ μ3 σ B3 H3 q (e2.trans e3) (s2.mono e3) st3
      | true =>
        refine ⟨fun σ H => ∃ ρ μ B2, whGo tc b Da m ρ μ ∧ Ex B B2 ∧ Slots X.kw B2 σ ρ ∧ St X.kw B2 μ F H, fun σ' H' h => ⟨m, Nat.lt_succ_self m, h⟩, ?_⟩
        refine ⟨ρ, μ3, _, B3, F, q, s2.mono e3, st3, ?_⟩
        have e5 : Ex B B3 := e2.trans e3
        exact ⟨fun ρ μ σ B6 H q e s st => ⟨ρ, μ, B6, q, e5.trans e, s, st⟩, fun v x μ B6 H q e => k.rt v x μ B6 H q (e5.trans e), fun ρ μ σ B6 H q e => k.nx ρ μ σ B6 H q (e5.trans e), fun ρ μ σ B6 H q e s st => ⟨ρ, μ, B6, q, e5.trans e, s, st⟩⟩

/-! ### comprehensions -/
def lcGo (g : ATG) (tt : ATT) (te : AT) (ρ : AEnv) : List AV → List AV → Mu → (List AV → Mu → Prop) → Prop
  | [], acc, μ, Q => Q acc μ
  | x :: xs, acc, μ, Q => g x ρ μ fun ρ2 μ2 => tt ρ2 μ2 fun b μ3 => if b = true then te ρ2 μ3 fun y μ4 => lcGo g tt te ρ xs (acc ++ [y]) μ4 Q else lcGo g tt te ρ xs acc μ3 Q
def aLc (it : ATI) (g : ATG) (tt : ATT) (te : AT) (vs : List Nat) : AT := fun ρ μ Q => it ρ μ fun items μ1 => lcGo g tt te (awipe ρ vs) items [] μ1 fun acc μ2 => ∃ ds, datas acc = some ds ∧ Q (.d (.list ds)) μ2
theorem wipe_get {σ : L2.St} {i : Nat} : ∀ {vs : List Nat}, (L2.wipe σ vs)[i]? = if i ∈ vs then (if i < σ.length then some none else none) else σ[i]?
  | [] => by simp [L2.wipe]
  | v :: vs => by
    have ih := wipe_get (σ := σ) (i := i) (vs := vs)
    have hl := wipe_length σ vs
    unfold L2.wipe
    by_cases hv : v = i
    · subst hv
      by_cases hi : v < σ.length
      · rw [List.getElem?_set_self (by rw [hl]; exact hi)]
        simp [hi]
      · rw [List.getElem?_eq_none (by rw [List.length_set, hl]; omega)]
        simp [hi]
    · rw [List.getElem?_set_ne hv, ih]
      have : ¬ i = v := fun e => hv e.symm
      simp [this]
theorem But.wipe {vs : List Nat} {σ σ2 : L2.St} (h : But vs (L2.wipe σ vs) σ2) : L2.wipe σ2 vs = L2.wipe σ vs := by
  have hl : σ2.length = σ.length := h.1.trans (wipe_length σ vs)
  apply List.ext_getElem?
  intro i
  rw [wipe_get, wipe_get, hl]
  by_cases hi : i ∈ vs
  · rw [if_pos hi, if_pos hi]
  · rw [if_neg hi, if_neg hi, h.2 i hi, wipe_get, if_neg hi]
def aYes : ATT := fun _ μ Q => Q true μ
theorem ats_nil : PTs X [] (cT X.kw aYes) := pts_weak pts_nil fun σ H Q ⟨ρ, μ, Qa, B, F, h, s, st, k⟩ => k true B H μ h (Ex.refl _) st
theorem ats_one {c : Expr} {t : ATT} (h : PT X c (cT X.kw t)) : PTs X [c] (cT X.kw t) := pts_one h
theorem tLc_of {it : ATI} {g : ATG} {tt : ATT} {te : AT} {vs : List Nat} {σ : L2.St} {H : Hp} {Q : VK} (h : cE K (aLc it g tt te vs) σ H Q) : tLc (cI K it) (cG K vs g) (cT K tt) (cE K te) vs σ H Q := by
  obtain ⟨ρ, μ, Qa, B, F, h, s, st, k⟩ := h
  refine ⟨ρ, μ, _, B, F, h, s, st, fun J B1 H1 items μ1 q e1 st1 ⟨hit, G, Y, w, hG, hY⟩ Dl hD => ?_⟩
  have hF : F Dl = none := st1.fr.free hD
  refine lc_it w (fun i H => ∃ μ B2 acc accV, lcGo g tt te (awipe ρ vs) (items.drop i) acc μ (fun acc μ2 => ∃ ds, datas acc = some ds ∧ Qa (.d (.list ds)) μ2) ∧ Ex B1 B2 ∧ ARels K B2 accV acc ∧ St K B2 μ (upd F Dl (.lst accV)) H ∧ acc.length ≤ i) ?_ (fun i H _ ⟨_, _, _, _, _, e, _, s2, _⟩ => hG H (e.trans s2.ex)) ?_ ?_
  · exact ⟨μ1, B1, [], [], q, Ex.refl _, .nil, st1.frame hD, Nat.le_refl _⟩
  · rintro i x H H' hi ⟨μ, B2, acc, accV, q, e2, r2, st2, hacc⟩ hy
    obtain ⟨y, hy1, hd⟩ := drop_at hi
    rw [hd] at q
    obtain ⟨B3, e3, st3, r⟩ := hY i H x H' y hy1 hy B2 μ _ e2 st2
    refine ⟨y, awipe ρ vs, μ, _, B3, _, q, r, (s.mono (e1.trans (e2.trans e3))).wipe vs, st3, fun ρ4 μ4 σ4 B4 H4 q4 e4 s4 st4 b4 => ⟨b4.wipe, ?_⟩⟩
    refine cT_bind q4 s4 st4 fun b B5 H5 μ5 q5 e5 st5 => ?_
    cases b with
    | false => exact ⟨μ5, B5, acc, accV, q5, e2.trans (e3.trans (e4.trans e5)), ARels.mono (e3.trans (e4.trans e5)) r2, st5, by omega⟩
    | true =>
      refine cE_bind q5 (s4.mono e5) st5 fun v B6 H6 z μ6 q6 e6 st6 r6 => ?_
      have hl : acc.length < sizeLine := by omega
      have r2' := ARels.mono (e3.trans (e4.trans (e5.trans e6))) r2
      refine ⟨accV, st6.fr _ _ upd_same, by rw [r2.length]; exact hl, μ6, B6, acc ++ [z], accV ++ [v], q6, e2.trans (e3.trans (e4.trans (e5.trans e6))), ARels.append r2' (.cons r6 .nil), st6.unframe hF, by simp; omega⟩
  · rintro H ⟨μ, B2, acc, accV, q, e2, r2, st2, hacc⟩
    rw [List.drop_length] at q
    obtain ⟨ds, hds, q⟩ := q
    obtain ⟨e3, st3⟩ := st2.unframe_data hF
    rw [datas_eq hds] at r2 hacc
    rw [List.length_map] at hacc
    exact k _ _ _ _ μ q (e1.trans (e2.trans e3)) st3 (.lst upd_same (by omega) (RepAll.mono e3 ds (ARels.all r2)))
theorem ae_lc {elt tg iter : Expr} {ifs : List Expr} {scope : Scope} {own : List (Str × Nat)} {pos : Pos} {it : ATI} {g : ATG} {tt : ATT} {te : AT} (hc : X.calm = true) (hN : X.N.Nodup) (hi : PI X tg iter (cI X.kw it)) (ok : BlkOk X.N X.env.scope scope own)
    (hg : ∀ (s : Shared) (H : Hp) (C : Addr) (cl : List (Str × Addr)) (fp : List Addr), PG (X.blk s H scope (compEnvC scope cl C X.env) fp) tg (cG X.kw (own.map (·.2)) g)) (ht : ∀ (s : Shared) (H : Hp) (C : Addr) (cl : List (Str × Addr)) (fp : List Addr), PTs (X.blk s H scope (compEnvC scope cl C X.env) fp) ifs (cT X.kw tt))
    (he : ∀ (s : Shared) (H : Hp) (C : Addr) (cl : List (Str × Addr)) (fp : List Addr), PE (X.blk s H scope (compEnvC scope cl C X.env) fp) elt (cE X.kw te)) (hs : ∀ x, foldedSetIterable iter X.env x = pure x := by intro _; rfl) :
    PE X (.ListComp elt [⟨tg, iter, ifs, 0⟩] scope pos) (cE X.kw (aLc it g tt te (own.map (·.2)))) :=
  pe_weak (pe_lc hc hN hi ok hg ht he hs) fun _ _ _ h => tLc_of h
/-- name = [..] -/
theorem as_setLc {i : Nat} {y : Str} {py : Pos} {elt tg iter : Expr} {ifs : List Expr} {scope : Scope} {own : List (Str × Nat)} {pos spos : Pos} {it : ATI} {g : ATG} {tt : ATT} {te : AT} (hc : X.calm = true) (hN : X.N.Nodup) (hy : X.N[i]? = some y) (hyl : X.env.scope.names.lookup y = some .local)
    (hsw : swapsWith (.ListComp elt [⟨tg, iter, ifs, 0⟩] scope pos) (some (.Name y py)) spos.line X.env = pure true) (hi : PI X tg iter (cI X.kw it)) (ok : BlkOk X.N X.env.scope scope own)
    (hg : ∀ (s : Shared) (H : Hp) (C : Addr) (cl : List (Str × Addr)) (fp : List Addr), PG (X.blk s H scope (compEnvC scope cl C X.env) fp) tg (cG X.kw (own.map (·.2)) g)) (ht : ∀ (s : Shared) (H : Hp) (C : Addr) (cl : List (Str × Addr)) (fp : List Addr), PTs (X.blk s H scope (compEnvC scope cl C X.env) fp) ifs (cT X.kw tt))
    (he : ∀ (s : Shared) (H : Hp) (C : Addr) (cl : List (Str × Addr)) (fp : List Addr), PE (X.blk s H scope (compEnvC scope cl C X.env) fp) elt (cE X.kw te)) (hs : ∀ x, foldedSetIterable iter X.env x = pure x := by intro _; rfl) :
    PS X (.Assign [.Name y py] (.ListComp elt [⟨tg, iter, ifs, 0⟩] scope pos) spos) (cS X.kw (aAsg (aLc it g tt te (own.map (·.2))) (agN i))) :=
  ps_weak (ps_setLc (i := i) hc hN hy hyl hsw hi ok hg ht he hs) fun D σ H h => by
    obtain ⟨ρ, μ, Da, B, F, h, s, st, k⟩ := h
    have q : cE X.kw (aLc it g tt te (own.map (·.2))) σ H fun v H1 => D.nx (σ.set i (some v)) H1 :=
      cE_bind h s st fun v B1 H1 x μ1 q e1 st1 r1 => k.nx _ μ1 _ B1 H1 q e1 ((s.mono e1).set i r1) st1
    exact tLc_of q

/-! ### what is walked -/
theorem walkA_list {B : Hp} {a : Addr} {xs : List V} {items : List AV} (hz : items.length ≤ sizeLine) (h : B a = some (.lst xs)) (r : ARels K B xs items) : WalkA K (Itl K.K a) items B := by
  refine ⟨hz, _, _, by rw [← r.length]; exact walk_list, fun H e => SqL.of (e _ _ h), fun i H v H' x hx hy B1 μ F e1 st => ?_⟩
  obtain ⟨rfl, hv⟩ := hy
  obtain ⟨v', h1, h2⟩ := ARels.get r hx
  rw [hv] at h1
  cases h1
  exact ⟨B1, Ex.refl _, st, h2.mono e1⟩
theorem walkA_tup {B : Hp} {a : Addr} {xs : List V} {items : List AV} (hz : items.length ≤ sizeLine) (h : SqT K.K B a xs) (r : ARels K B xs items) : WalkA K (Itt K.K a) items B := by
  refine ⟨hz, _, _, by rw [← r.length]; exact walk_tup, fun H e => e.st h, fun i H v H' x hx hy B1 μ F e1 st => ?_⟩
  obtain ⟨rfl, hv⟩ := hy
  obtain ⟨v', h1, h2⟩ := ARels.get r hx
  rw [hv] at h1
  cases h1
  exact ⟨B1, Ex.refl _, st, h2.mono e1⟩
def rangeI (lo : Int) (n : Nat) : List AV := (List.range n).map fun (i : Nat) => AV.d (.int (lo + (i : Int)))
theorem walkA_range {B : Hp} {lo : Int} {n : Nat} (hn : n ≤ sizeLine) : WalkA K (Itr lo n) (rangeI lo n) B := by
  refine ⟨by unfold rangeI; simp; exact hn, fun _ => True, YFn fun i => .int (lo + i), by unfold rangeI; rw [List.length_map, List.length_range]; exact walk_range, fun _ _ => trivial, fun i H v H' x hx hy B1 μ F e1 st => ?_⟩
  obtain ⟨rfl, rfl⟩ := hy
  unfold rangeI at hx
  rw [List.getElem?_map] at hx
  by_cases hi : i < n
  · rw [List.getElem?_range hi] at hx
    cases hx
    exact ⟨B1, Ex.refl _, st, .int _⟩
  · rw [List.getElem?_eq_none (by simp; omega)] at hx
    cases hx
theorem zip_get {α β : Type} {ds : List α} {es : List β} {i : Nat} {d : α} {e : β} (h1 : ds[i]? = some d) (h2 : es[i]? = some e) : (ds.zip es)[i]? = some (d, e) := by
  rw [List.getElem?_zip_eq_some]
  exact ⟨h1, h2⟩
/-- a pair is made at each turn -/
theorem pair_made {B1 F H : Hp} {μ : Mu} {T : Addr} {x y : V} {d e : PyData} (hT : H T = none) (st : St K B1 μ F H) (r1 : Rep K B1 x d) (r2 : Rep K B1 y e) :
    ∃ B2, Ex B1 B2 ∧ St K B2 μ F (upd H T (.tup [x, y])) ∧ ARel K B2 (.ref T) (.d (.tuple [d, e])) := by
  obtain ⟨e2, st2⟩ := st.grow (o := .tup [x, y]) hT
  exact ⟨_, e2, st2, .tup (SqT.of upd_same) (by show 2 ≤ sizeLine; decide) (.cons (Rep.mono e2 d r1) (.cons (Rep.mono e2 e r2) .nil))⟩
theorem RepAll.get {B : Hp} : ∀ {vs : List V} {ds : List PyData} {i : Nat} {v : V}, RepAll K B vs ds → vs[i]? = some v → ∃ d, ds[i]? = some d ∧ Rep K B v d
  | _, [], i, v, h, e => by cases h; simp at e
  | _, d :: ds, 0, v, h, e => by
    cases h with
    | cons h1 h2 => simp at e; subst e; exact ⟨d, rfl, h1⟩
  | _, d :: ds, i + 1, v, h, e => by
    cases h with
    | cons h1 h2 =>
      obtain ⟨d', a, b⟩ := RepAll.get (i := i) (v := v) h2 (by simpa using e)
      exact ⟨d', by simpa using a, b⟩
def zipD (ds es : List PyData) : List AV := (ds.zip es).map fun p => AV.d (.tuple [p.1, p.2])
def enumD (ds : List PyData) : List AV := ds.zipIdx.map fun p => AV.d (.tuple [.int (p.2 : Int), p.1])
theorem walkA_enum {B : Hp} {a : Addr} {xs : List V} {ds : List PyData} (hz : ds.length ≤ sizeLine) (h : B a = some (.lst xs)) (r : RepAll K B xs ds) : WalkA K (Ite K.K a) (enumD ds) B := by
  refine ⟨by unfold enumD; simp; exact hz, _, _, by unfold enumD; rw [List.length_map, List.length_zipIdx, ← r.length]; exact walk_enum, fun H e => SqL.of (e _ _ h), fun i H v H' x hx hy B1 μ F e1 st => ?_⟩
  obtain ⟨T, x1, y1, rfl, hT, rfl, h1, h2⟩ := hy
  cases h1
  obtain ⟨d, hd, rd⟩ := r.get h2
  unfold enumD at hx
  rw [List.getElem?_map, List.getElem?_zipIdx, hd] at hx
  simp at hx
  subst hx
  exact pair_made hT st (.int _) (Rep.mono e1 d rd)
theorem walkA_zip {B : Hp} {a b : Addr} {xs ys : List V} {ds es : List PyData} (hz : ds.length ≤ sizeLine) (h : B a = some (.lst xs)) (r : RepAll K B xs ds) (h' : B b = some (.lst ys)) (r' : RepAll K B ys es) : WalkA K (Itz K.K a b) (zipD ds es) B := by
  refine ⟨by unfold zipD; simp; omega, _, _, walk_zip (n := (zipD ds es).length) (xs := xs) (ys := ys) (by unfold zipD; rw [List.length_map, List.length_zip, r.length, r'.length]), fun H e => ⟨SqL.of (e _ _ h), SqL.of (e _ _ h')⟩, fun i H v H' x hx hy B1 μ F e1 st => ?_⟩
  obtain ⟨T, x1, y1, rfl, hT, rfl, h1, h2⟩ := hy
  obtain ⟨d, hd, rd⟩ := r.get h1
  obtain ⟨e, he, re⟩ := r'.get h2
  unfold zipD at hx
  rw [List.getElem?_map, zip_get hd he] at hx
  simp at hx
  subst hx
  exact pair_made hT st (Rep.mono e1 d rd) (Rep.mono e1 e re)
theorem walk_zipT {a b : Addr} {xs ys : List V} {n : Nat} (hn : n = min xs.length ys.length) : Walk (RZ.ItzT K.K a b) n (fun H => SqT K.K H a xs ∧ SqT K.K H b ys) (YPair (fun i => xs[i]?) (fun i => ys[i]?)) := by
  subst hn
  refine ⟨fun i H hi ⟨h1, h2⟩ => ?_, fun H ⟨h1, h2⟩ => ?_, fun i H v H' hi ⟨h1, h2⟩ hy => ?_⟩
  · have i1 : i < xs.length := by omega
    have i2 : i < ys.length := by omega
    exact ⟨xs, ys, xs[i], ys[i], h1, h2, List.getElem?_eq_getElem i1, List.getElem?_eq_getElem i2⟩
  · refine ⟨xs, ys, h1, h2, ?_⟩
    omega
  · obtain ⟨T, x, y, e1, e2, e3, q1, q2⟩ := hy
    exact ⟨T, x, y, e1, e2, e3, q1 xs h1, q2 ys h2⟩
theorem walkA_zipT {B : Hp} {a b : Addr} {xs ys : List V} {ds es : List PyData} (hz : ds.length ≤ sizeLine) (h : SqT K.K B a xs) (r : RepAll K B xs ds) (h' : SqT K.K B b ys) (r' : RepAll K B ys es) : WalkA K (RZ.ItzT K.K a b) (zipD ds es) B := by
  refine ⟨by unfold zipD; simp; omega, _, _, walk_zipT (n := (zipD ds es).length) (xs := xs) (ys := ys) (by unfold zipD; rw [List.length_map, List.length_zip, r.length, r'.length]), fun H e => ⟨e.st h, e.st h'⟩, fun i H v H' x hx hy B1 μ F e1 st => ?_⟩
  obtain ⟨T, x1, y1, rfl, hT, rfl, h1, h2⟩ := hy
  obtain ⟨d, hd, rd⟩ := r.get h1
  obtain ⟨e, he, re⟩ := r'.get h2
  unfold zipD at hx
  rw [List.getElem?_map, zip_get hd he] at hx
  simp at hx
  subst hx
  exact pair_made hT st (Rep.mono e1 d rd) (Rep.mono e1 e re)
/-- a list, a tuple (data), a mutable list (which is data from then on) -/
def aiSeq (a : AT) : ATI := fun ρ μ R => a ρ μ fun x μ1 => match x with
  | .d (.list ds) => R (ds.map AV.d) μ1
  | .d (.tuple ds) => R (ds.map AV.d) μ1
  | .v (.ref l) => match μ1 l with
    | some (.lst as) => R as (mdel μ1 l)
    | _ => False
  | _ => False
theorem pi_seq {tg l : Expr} {tl : TE} (hl : PE X l tl) : PI X tg l (fun σ H R => tl σ H fun x H1 => ∃ a, x = .ref a ∧ (((∃ xs, SqL X.K H1 a xs) ∧ R (Itl X.K a) H1) ∨ ((∃ xs, SqT X.K H1 a xs) ∧ R (Itt X.K a) H1))) := by
  refine ⟨fun pins s σ H R I h => ?_⟩
  refine thn (hl.run pins s σ H _ I h) fun v s1 ⟨x, H1, I1, r1, q1⟩ => ?_
  obtain ⟨a, e, q⟩ := q1
  subst e
  cases r1
  rcases q with ⟨⟨xs, hq⟩, q⟩ | ⟨⟨xs, hq⟩, q⟩
  · obtain ⟨its, rv, p, hz⟩ := I1.list hq
    refine wpAny_pyIter_list p.isList ?_
    refine ⟨s1.heap.objs.size, [s1.heap.objs.size], _, _, H1, rfl, I1.kept (t' := s1.toks) fun b o e => Heap.get?_push_of_some _ e, turn_list a _, ⟨_, Heap.get?_push_size _ rfl, rfl, rfl⟩, fun b hb => ?_, q⟩
    have e : b = s1.heap.objs.size := by simpa using hb
    subst e
    exact I1.fpOk (Nat.le_refl _) (I1.hok.fresh (Nat.le_refl _))
  · obtain ⟨its, rv, p, hz⟩ := I1.tuple hq
    refine wpAny_pyIter_tuple (show s1.heap.IsTuple a its.toArray from p) ?_
    refine ⟨s1.heap.objs.size, [s1.heap.objs.size], _, _, H1, rfl, I1.kept (t' := s1.toks) fun b o e => Heap.get?_push_of_some _ e, turn_tuple a _, ⟨_, Heap.get?_push_size _ rfl, rfl, rfl⟩, fun b hb => ?_, q⟩
    have e : b = s1.heap.objs.size := by simpa using hb
    subst e
    exact I1.fpOk (Nat.le_refl _) (I1.hok.fresh (Nat.le_refl _))
theorem ai_seq {tg l : Expr} {a : AT} (hl : PE X l (cE X.kw a)) : PI X tg l (cI X.kw (aiSeq a)) := pi_weak (pi_seq hl) fun σ H R ⟨ρ, μ, Ra, B, F, h, s, st, k⟩ => by
  refine cE_bind h s st fun v B1 H1 x μ1 q e1 st1 r1 => ?_
  match x, q, r1 with
  | .d (.list ds), q, r1 =>
    cases r1 with
    | lst h1 hz h2 => exact ⟨_, rfl, .inl ⟨⟨_, SqL.of (st1.ex _ _ h1)⟩, k _ B1 H1 _ μ1 q e1 st1 (walkA_list (by simpa using hz) h1 (ARels.of h2))⟩⟩
  | .d (.tuple ds), q, r1 =>
    cases r1 with
    | tup h1 hz h2 => exact ⟨_, rfl, .inr ⟨⟨_, st1.ex.st h1⟩, k _ B1 H1 _ μ1 q e1 st1 (walkA_tup (by simpa using hz) h1 (ARels.of h2))⟩⟩
  | .v (.ref l), q, r1 =>
    cases r1
    have q' : (match μ1 l with | some (.lst as) => Ra as (mdel μ1 l) | _ => False) := q
    cases hm : μ1 l with
    | none => rw [hm] at q'; exact q'.elim
    | some m =>
      rw [hm] at q'
      cases m with
      | raw _ => exact q'.elim
      | dk _ => exact q'.elim
      | dn _ => exact q'.elim
      | lst as =>
        obtain ⟨o, ho, r, nB, e2, st2⟩ := st1.freeze hm
        obtain ⟨xs, rfl, hz, r⟩ := r.lst
        exact ⟨_, rfl, .inl ⟨⟨_, SqL.of ho⟩, k _ _ H1 _ _ q' (e1.trans e2) st2 (walkA_list hz upd_same (ARels.mono e2 r))⟩⟩
def aiR1 (t : ATA) : ATI := fun ρ μ R => t ρ μ fun xs μ1 => match xs with | [.d (.int j)] => -(2 ^ 62) ≤ j ∧ j ≤ 16777216 ∧ R (rangeI 0 j.toNat) μ1 | _ => False
def aiR2 (t : ATA) : ATI := fun ρ μ R => t ρ μ fun xs μ1 => match xs with | [.d (.int i), .d (.int j)] => (0 ≤ i ∧ i ≤ 16777216 ∧ -(2 ^ 62) ≤ j ∧ j ≤ 16777216) ∧ R (rangeI i (j - i).toNat) μ1 | _ => False
theorem ai_r1 {tg a : Expr} {t : ATA} {p pos : Pos} (hg : Gl X "range") (hm : X.mg "range" = none) (ha : PA X [a] (cA X.kw t)) (hs : starEach [a] X.env = [(false, eval a X.env)] := by rfl) : PI X tg (.Call (.Name "range" p) [a] [] pos) (cI X.kw (aiR1 t)) :=
  pi_weak (pi_range1 hg hm ha hs) fun σ H R ⟨ρ, μ, Ra, B, F, h, s, st, k⟩ => by
    refine cA_bind h s st fun vs B1 H1 xs μ1 q e1 st1 r1 => ?_
    match xs, q, r1 with
    | [.d (.int j)], ⟨h1, h2, q⟩, .cons r .nil =>
      cases r
      exact ⟨j, rfl, h1, by omega, k _ B1 H1 _ μ1 q e1 st1 (walkA_range (by rw [sizeLine_eq]; omega))⟩
theorem ai_r2 {tg a b : Expr} {t : ATA} {p pos : Pos} (hg : Gl X "range") (hm : X.mg "range" = none) (ha : PA X [a, b] (cA X.kw t)) (hs : starEach [a, b] X.env = [(false, eval a X.env), (false, eval b X.env)] := by rfl) (hs2 : starEach [b] X.env = [(false, eval b X.env)] := by rfl) : PI X tg (.Call (.Name "range" p) [a, b] [] pos) (cI X.kw (aiR2 t)) :=
  pi_weak (pi_range2 hg hm ha hs hs2) fun σ H R ⟨ρ, μ, Ra, B, F, h, s, st, k⟩ => by
    refine cA_bind h s st fun vs B1 H1 xs μ1 q e1 st1 r1 => ?_
    match xs, q, r1 with
    | [.d (.int i), .d (.int j)], ⟨h1, q⟩, .cons r (.cons r' .nil) =>
      cases r
      cases r'
      exact ⟨i, j, rfl, by omega, k _ B1 H1 _ μ1 q e1 st1 (walkA_range (by rw [sizeLine_eq]; omega))⟩
def aiEnum (t : ATA) : ATI := fun ρ μ R => t ρ μ fun xs μ1 => match xs with | [.d (.list ds)] => R (enumD ds) μ1 | _ => False
theorem ai_enum {e : Expr} {t : ATA} {p pos tpos : Pos} {elts : List Expr} {kk : Nat} (hg : Gl X "enumerate") (hm : X.mg "enumerate" = none) (ha : PA X [e] (cA X.kw t)) (hs : starEach [e] X.env = [(false, eval e X.env)] := by rfl) : PI X (.Tuple elts kk tpos) (.Call (.Name "enumerate" p) [e] [] pos) (cI X.kw (aiEnum t)) :=
  pi_weak (pi_enum hg hm ha hs) fun σ H R ⟨ρ, μ, Ra, B, F, h, s, st, k⟩ => by
    refine cA_bind h s st fun vs B1 H1 xs μ1 q e1 st1 r1 => ?_
    match xs, q, r1 with
    | [.d (.list ds)], q, .cons r .nil =>
      cases r with
      | lst h1 hz h2 => exact ⟨_, _, rfl, SqL.of (st1.ex _ _ h1), k _ B1 H1 _ μ1 q e1 st1 (walkA_enum hz h1 h2)⟩
def aiZip (t : ATA) : ATI := fun ρ μ R => t ρ μ fun xs μ1 => match xs with
  | [.d (.list ds), .d (.list es)] => R (zipD ds es) μ1
  | [.d (.tuple ds), .d (.tuple es)] => R (zipD ds es) μ1
  | _ => False
theorem ai_zip {e e2 : Expr} {t : ATA} {p pos tpos : Pos} {elts : List Expr} {kk : Nat} (hg : Gl X "zip") (hm : X.mg "zip" = none) (ha : PA X [e, e2] (cA X.kw t))
    (hs : starEach [e, e2] X.env = (false, eval e X.env) :: starEach [e2] X.env := by rfl) (hpl : (backTo pos (starEach [e2] X.env)).any (·.1) = false := by rfl) :
    PI X (.Tuple elts kk tpos) (.Call (.Name "zip" p) [e, e2] [] pos) (cI X.kw (aiZip t)) := pi_weak (RZ.pi_zipA hg hm ha hs hpl) fun σ H R ⟨ρ, μ, Ra, B, F, h, s, st, k⟩ => by
  refine cA_bind h s st fun vs B1 H1 xs μ1 q e1 st1 r1 => ?_
  match xs, q, r1 with
  | [.d (.list ds), .d (.list es)], q, .cons r (.cons r' .nil) =>
    cases r with
    | lst h1 hz h2 =>
      cases r' with
      | lst h3 hz2 h4 => exact ⟨_, _, _, _, rfl, .inl ⟨SqL.of (st1.ex _ _ h1), SqL.of (st1.ex _ _ h3), k _ B1 H1 _ μ1 q e1 st1 (walkA_zip hz h1 h2 h3 h4)⟩⟩
  | [.d (.tuple ds), .d (.tuple es)], q, .cons r (.cons r' .nil) =>
    cases r with
    | tup h1 hz h2 =>
      cases r' with
      | tup h3 hz2 h4 => exact ⟨_, _, _, _, rfl, .inr ⟨st1.ex.st h1, st1.ex.st h3, k _ B1 H1 _ μ1 q e1 st1 (walkA_zipT hz h1 h2 h3 h4)⟩⟩
end
end Ab

set_option Elab.async false
set_option linter.all false
set_option maxRecDepth 100000
set_option maxHeartbeats 4000000
/-! Ab3: operations and built-ins over data. -/
namespace Ab
open PySem PySem.Spec PyProof.Rows L2
section
variable {X : Cx} {K : Kw}

/-! ### + - * // % ** -/
def fAdd : AOp := fun μ x y Q => match x, y with
  | .d (.int i), .d (.int j) => Q (.d (.int (i + j))) μ
  | .d (.str i), .d (.str j) => i.length + j.length ≤ sizeLine ∧ Q (.d (.str (i ++ j))) μ
  | .d (.list xs), .d (.list ys) => xs.length + ys.length ≤ sizeLine ∧ Q (.d (.list (xs ++ ys))) μ
  | .d (.tuple xs), .d (.tuple ys) => xs.length + ys.length ≤ sizeLine ∧ Q (.d (.tuple (xs ++ ys))) μ
  | _, _ => False
theorem RepAll.append {B : Hp} : ∀ {xs ys : List V} {ds es : List PyData}, RepAll K B xs ds → RepAll K B ys es → RepAll K B (xs ++ ys) (ds ++ es)
  | _, _, [], _, h, h' => by cases h; exact h'
  | _, _, d :: ds, _, h, h' => by
    cases h with
    | cons h1 h2 => exact .cons h1 (RepAll.append h2 h')
theorem RepAll.take {B : Hp} : ∀ {xs : List V} {ds : List PyData} (n : Nat), RepAll K B xs ds → RepAll K B (xs.take n) (ds.take n)
  | _, [], n, h => by cases h; simp; exact .nil
  | _, d :: ds, 0, h => by simp; exact .nil
  | _, d :: ds, n + 1, h => by
    cases h with
    | cons h1 h2 => exact .cons h1 (RepAll.take n h2)
theorem RepAll.drop {B : Hp} : ∀ {xs : List V} {ds : List PyData} (n : Nat), RepAll K B xs ds → RepAll K B (xs.drop n) (ds.drop n)
  | _, [], n, h => by cases h; simp; exact .nil
  | _, d :: ds, 0, h => h
  | _, d :: ds, n + 1, h => by
    cases h with
    | cons h1 h2 => exact RepAll.drop n h2
theorem ho_add : OpR X (binaryOp .Add) (fun x y H Q => rI0 (fun i j => .int (i + j)) x y H Q ∨ (∃ i j, x = V.str i ∧ y = V.str j ∧ i.length + j.length ≤ sizeLine ∧ Q (.str (i ++ j)) H) ∨ rCat x y H Q ∨ rCatA X.K x y H Q) := OpR.or op_add (OpR.or op_add_str (OpR.or op_cat op_catA))
theorem rop_add : ROp K (fun x y H Q => rI0 (fun i j => .int (i + j)) x y H Q ∨ (∃ i j, x = V.str i ∧ y = V.str j ∧ i.length + j.length ≤ sizeLine ∧ Q (.str (i ++ j)) H) ∨ rCat x y H Q ∨ rCatA K.K x y H Q) fAdd := by
  intro x y v u H Q μ Qa B F h rx ry st k
  match x, y, h, rx, ry with
  | .d (.int i), .d (.int j), h, rx, ry =>
    cases rx; cases ry
    exact .inl ⟨i, j, rfl, rfl, k _ B H _ μ h (Ex.refl _) st (.int _)⟩
  | .d (.str i), .d (.str j), h, rx, ry =>
    cases rx; cases ry
    exact .inr (.inl ⟨i, j, rfl, rfl, h.1, k _ B H _ μ h.2 (Ex.refl _) st (.str _)⟩)
  | .d (.list ds), .d (.list es), h, rx, ry =>
    cases rx with
    | lst h1 hz1 h2 =>
      cases ry with
      | lst h3 hz2 h4 => exact .inr (.inr (.inl ⟨_, _, _, _, rfl, rfl, st.ex _ _ h1, st.ex _ _ h3, by rw [h2.length, h4.length]; exact h.1, new_lst st (by simpa using h.1) (RepAll.append h2 h4) h.2 k⟩))
  | .d (.tuple ds), .d (.tuple es), h, rx, ry =>
    cases rx with
    | tup h1 hz1 h2 =>
      cases ry with
      | tup h3 hz2 h4 =>
        refine .inr (.inr (.inr ⟨_, _, _, _, rfl, rfl, st.ex.st h1, st.ex.st h3, by rw [h2.length, h4.length]; exact h.1, fun e => ?_, fun _ e => ?_, fun _ _ => new_tup st (by simpa using h.1) (RepAll.append h2 h4) h.2 k⟩))
        · subst e
          cases h2
          exact k _ B H _ μ h.2 (Ex.refl _) st (.tup h3 hz2 h4)
        · subst e
          cases h4
          have q := h.2
          rw [List.append_nil] at q
          exact k _ B H _ μ q (Ex.refl _) st (.tup h1 hz1 h2)
/-- an operation on two ints -/
def fI (C : Int → Int → Prop) (g : Int → Int → PyData) : AOp := fun μ x y Q => match x, y with | .d (.int i), .d (.int j) => C i j ∧ Q (.d (g i j)) μ | _, _ => False
def fI0 (g : Int → Int → PyData) : AOp := fun μ x y Q => match x, y with | .d (.int i), .d (.int j) => Q (.d (g i j)) μ | _, _ => False
theorem rop_I {C : Int → Int → Prop} {g : Int → Int → Int} : ROp K (rI C fun i j => .int (g i j)) (fI C fun i j => .int (g i j)) := by
  intro x y v u H Q μ Qa B F h rx ry st k
  match x, y, h, rx, ry with
  | .d (.int i), .d (.int j), h, rx, ry =>
    cases rx; cases ry
    exact ⟨i, j, rfl, rfl, h.1, k _ B H _ μ h.2 (Ex.refl _) st (.int _)⟩
theorem rop_I0 {g : Int → Int → Int} : ROp K (rI0 fun i j => .int (g i j)) (fI0 fun i j => .int (g i j)) := by
  intro x y v u H Q μ Qa B F h rx ry st k
  match x, y, h, rx, ry with
  | .d (.int i), .d (.int j), h, rx, ry =>
    cases rx; cases ry
    exact ⟨i, j, rfl, rfl, k _ B H _ μ h (Ex.refl _) st (.int _)⟩
theorem rop_B0 {g : Int → Int → Bool} : ROp K (rI0 fun i j => .bl (g i j)) (fI0 fun i j => .bool (g i j)) := by
  intro x y v u H Q μ Qa B F h rx ry st k
  match x, y, h, rx, ry with
  | .d (.int i), .d (.int j), h, rx, ry =>
    cases rx; cases ry
    exact ⟨i, j, rfl, rfl, k _ B H _ μ h (Ex.refl _) st (.bl _)⟩
abbrev fSub : AOp := fI0 fun i j => .int (i - j)
abbrev fMul : AOp := fI CMul fun i j => .int (i * j)
abbrev fDiv : AOp := fI CDivN fun i j => .int (i.fdiv j)
abbrev fMod : AOp := fI (fun _ j => j ≠ 0) fun i j => .int (i.fmod j)
abbrev fPow : AOp := fI CPow fun i j => .int (i ^ j.toNat)
abbrev fLt : AOp := fI0 fun i j => .bool (decide (i < j))
abbrev fLe : AOp := fI0 fun i j => .bool (decide (i ≤ j))
abbrev fGt : AOp := fI0 fun i j => .bool (decide (j < i))
abbrev fGe : AOp := fI0 fun i j => .bool (decide (j ≤ i))
section
variable {a b : Expr} {ta tb : AT} {pos : Pos}
theorem ae_add (ha : PE X a (cE X.kw ta)) (hb : PE X b (cE X.kw tb)) : PE X (.BinOp a .Add b pos) (cE X.kw (aOp fAdd ta tb)) := ae_op ho_add rop_add ha hb
theorem ae_sub (ha : PE X a (cE X.kw ta)) (hb : PE X b (cE X.kw tb)) : PE X (.BinOp a .Sub b pos) (cE X.kw (aOp fSub ta tb)) := ae_op op_sub rop_I0 ha hb
theorem ae_mul (ha : PE X a (cE X.kw ta)) (hb : PE X b (cE X.kw tb)) : PE X (.BinOp a .Mult b pos) (cE X.kw (aOp fMul ta tb)) := ae_op op_mul rop_I ha hb
theorem ae_div (ha : PE X a (cE X.kw ta)) (hb : PE X b (cE X.kw tb)) : PE X (.BinOp a .FloorDiv b pos) (cE X.kw (aOp fDiv ta tb)) := ae_op op_fdivN rop_I ha hb
theorem ae_mod (ha : PE X a (cE X.kw ta)) (hb : PE X b (cE X.kw tb)) : PE X (.BinOp a .Mod b pos) (cE X.kw (aOp fMod ta tb)) := ae_op op_modN rop_I ha hb
theorem ae_pow (ha : PE X a (cE X.kw ta)) (hb : PE X b (cE X.kw tb)) : PE X (.BinOp a .Pow b pos) (cE X.kw (aOp fPow ta tb)) := ae_op op_pow rop_I ha hb
theorem ae_lt (ha : PE X a (cE X.kw ta)) (hb : PE X b (cE X.kw tb)) : PE X (.Compare a [.Lt] [b] pos) (cE X.kw (aOp fLt ta tb)) := ae_cmp op_lt rop_B0 ha hb (nomark _)
theorem ae_le (ha : PE X a (cE X.kw ta)) (hb : PE X b (cE X.kw tb)) : PE X (.Compare a [.LtE] [b] pos) (cE X.kw (aOp fLe ta tb)) := ae_cmp op_le rop_B0 ha hb (nomark _)
theorem ae_gt (ha : PE X a (cE X.kw ta)) (hb : PE X b (cE X.kw tb)) : PE X (.Compare a [.Gt] [b] pos) (cE X.kw (aOp fGt ta tb)) := ae_cmp op_gt rop_B0 ha hb (nomark _)
theorem ae_ge (ha : PE X a (cE X.kw ta)) (hb : PE X b (cE X.kw tb)) : PE X (.Compare a [.GtE] [b] pos) (cE X.kw (aOp fGe ta tb)) := ae_cmp op_ge rop_B0 ha hb (nomark _)
theorem at_lt (ha : PE X a (cE X.kw ta)) (hb : PE X b (cE X.kw tb)) : PT X (.Compare a [.Lt] [b] pos) (cT X.kw (aB (aOp fLt ta tb))) := at_cmp op_lt rop_B0 ha hb (nomark _)
theorem at_le (ha : PE X a (cE X.kw ta)) (hb : PE X b (cE X.kw tb)) : PT X (.Compare a [.LtE] [b] pos) (cT X.kw (aB (aOp fLe ta tb))) := at_cmp op_le rop_B0 ha hb (nomark _)
theorem at_gt (ha : PE X a (cE X.kw ta)) (hb : PE X b (cE X.kw tb)) : PT X (.Compare a [.Gt] [b] pos) (cT X.kw (aB (aOp fGt ta tb))) := at_cmp op_gt rop_B0 ha hb (nomark _)
theorem at_ge (ha : PE X a (cE X.kw ta)) (hb : PE X b (cE X.kw tb)) : PT X (.Compare a [.GtE] [b] pos) (cT X.kw (aB (aOp fGe ta tb))) := at_cmp op_ge rop_B0 ha hb (nomark _)
end

/-! ### == != of data, is None, in a list -/
def fEq : AOp := fun μ x y Q => match x, y with | .d a, .d b => SeqAt.shaped a = true ∧ SeqAt.shaped b = true ∧ Q (.d (.bool (PyData.eqv a b))) μ | _, _ => False
def fNe : AOp := fun μ x y Q => match x, y with | .d a, .d b => SeqAt.shaped a = true ∧ SeqAt.shaped b = true ∧ Q (.d (.bool (!PyData.eqv a b))) μ | _, _ => False
theorem rop_eq : ROp K (rEqD K.K) fEq := by
  intro x y v u H Q μ Qa B F h rx ry st k
  match x, y, h, rx, ry with
  | .d a, .d b, h, rx, ry => exact ⟨a, b, Rep.dp st.ex a rx, Rep.dp st.ex b ry, h.1, h.2.1, k _ B H _ μ h.2.2 (Ex.refl _) st (.bl _)⟩
theorem rop_ne : ROp K (rNeD K.K) fNe := by
  intro x y v u H Q μ Qa B F h rx ry st k
  match x, y, h, rx, ry with
  | .d a, .d b, h, rx, ry => exact ⟨a, b, Rep.dp st.ex a rx, Rep.dp st.ex b ry, h.1, h.2.1, k _ B H _ μ h.2.2 (Ex.refl _) st (.bl _)⟩
def fIn : AOp := fun μ x y Q => match x, y with | .d a, .d (.list ds) => SeqAt.shaped a = true ∧ SeqAt.shaped (.list ds) = true ∧ Q (.d (.bool (ds.any fun z => PyData.eqv z a))) μ | _, _ => False
def fNotIn : AOp := fun μ x y Q => match x, y with | .d a, .d (.list ds) => SeqAt.shaped a = true ∧ SeqAt.shaped (.list ds) = true ∧ Q (.d (.bool (!ds.any fun z => PyData.eqv z a))) μ | _, _ => False
theorem rop_in : ROp K (rInD K.K) fIn := by
  intro x y v u H Q μ Qa B F h rx ry st k
  match x, y, h, rx, ry with
  | .d a, .d (.list ds), h, rx, ry => exact ⟨a, ds, Rep.dp st.ex a rx, Rep.dp st.ex _ ry, h.1, h.2.1, k _ B H _ μ h.2.2 (Ex.refl _) st (.bl _)⟩
theorem rop_notIn : ROp K (rNotInD K.K) fNotIn := by
  intro x y v u H Q μ Qa B F h rx ry st k
  match x, y, h, rx, ry with
  | .d a, .d (.list ds), h, rx, ry => exact ⟨a, ds, Rep.dp st.ex a rx, Rep.dp st.ex _ ry, h.1, h.2.1, k _ B H _ μ h.2.2 (Ex.refl _) st (.bl _)⟩
def isNoneA : AV → Bool
  | .d .none => true
  | .v .non => true
  | _ => false
theorem ARel.isNone {B : Hp} {v : V} : ∀ {x : AV}, ARel K B v x → decide (v = .non) = isNoneA x
  | .d d, h => by
    cases d <;> cases h <;> first | rfl | exact decide_eq_false (fun q => nomatch q)
  | .v y, h => by
    have e : v = y := h
    subst e
    cases v <;> first | rfl | exact decide_eq_false (fun q => nomatch q)
def fIsN : AOp := fun μ x y Q => match y with | .d .none => Q (.d (.bool (isNoneA x))) μ | _ => False
def fNotN : AOp := fun μ x y Q => match y with | .d .none => Q (.d (.bool (!isNoneA x))) μ | _ => False
theorem rop_isN : ROp K (fun x y H Q => y = V.non ∧ Q (.bl (decide (x = .non))) H) fIsN := by
  intro x y v u H Q μ Qa B F h rx ry st k
  match y, h, ry with
  | .d .none, h, ry =>
    cases ry
    exact ⟨rfl, k _ B H _ μ h (Ex.refl _) st (by rw [rx.isNone]; exact .bl _)⟩
theorem rop_notN : ROp K (fun x y H Q => y = V.non ∧ Q (.bl (!decide (x = .non))) H) fNotN := by
  intro x y v u H Q μ Qa B F h rx ry st k
  match y, h, ry with
  | .d .none, h, ry =>
    cases ry
    exact ⟨rfl, k _ B H _ μ h (Ex.refl _) st (by rw [rx.isNone]; exact .bl _)⟩
section
variable {a b : Expr} {ta tb : AT} {pos : Pos}
theorem ae_eq (hu : X.A.units + 64 < cLine) (ha : PE X a (cE X.kw ta)) (hb : PE X b (cE X.kw tb)) : PE X (.Compare a [.Eq] [b] pos) (cE X.kw (aOp fEq ta tb)) := ae_cmp (op_eqD hu) rop_eq ha hb (nomark _)
theorem ae_ne (hu : X.A.units + 64 < cLine) (ha : PE X a (cE X.kw ta)) (hb : PE X b (cE X.kw tb)) : PE X (.Compare a [.NotEq] [b] pos) (cE X.kw (aOp fNe ta tb)) := ae_cmp (op_neD hu) rop_ne ha hb (nomark _)
theorem at_eq (hu : X.A.units + 64 < cLine) (ha : PE X a (cE X.kw ta)) (hb : PE X b (cE X.kw tb)) : PT X (.Compare a [.Eq] [b] pos) (cT X.kw (aB (aOp fEq ta tb))) := at_cmp (op_eqD hu) rop_eq ha hb (nomark _)
theorem at_ne (hu : X.A.units + 64 < cLine) (ha : PE X a (cE X.kw ta)) (hb : PE X b (cE X.kw tb)) : PT X (.Compare a [.NotEq] [b] pos) (cT X.kw (aB (aOp fNe ta tb))) := at_cmp (op_neD hu) rop_ne ha hb (nomark _)
theorem ae_in (hu : X.A.units + 65 < cLine) (ha : PE X a (cE X.kw ta)) (hb : PE X b (cE X.kw tb)) (hm : behindInMarks .In b = false := by rfl) : PE X (.Compare a [.In] [b] pos) (cE X.kw (aOp fIn ta tb)) := ae_cmp (op_inD hu) rop_in ha hb hm
theorem ae_notIn (hu : X.A.units + 65 < cLine) (ha : PE X a (cE X.kw ta)) (hb : PE X b (cE X.kw tb)) (hm : behindInMarks .NotIn b = false := by rfl) : PE X (.Compare a [.NotIn] [b] pos) (cE X.kw (aOp fNotIn ta tb)) := ae_cmp (op_notInD hu) rop_notIn ha hb hm
theorem at_in (hu : X.A.units + 65 < cLine) (ha : PE X a (cE X.kw ta)) (hb : PE X b (cE X.kw tb)) (hm : behindInMarks .In b = false := by rfl) : PT X (.Compare a [.In] [b] pos) (cT X.kw (aB (aOp fIn ta tb))) := at_cmp (op_inD hu) rop_in ha hb hm
theorem at_notIn (hu : X.A.units + 65 < cLine) (ha : PE X a (cE X.kw ta)) (hb : PE X b (cE X.kw tb)) (hm : behindInMarks .NotIn b = false := by rfl) : PT X (.Compare a [.NotIn] [b] pos) (cT X.kw (aB (aOp fNotIn ta tb))) := at_cmp (op_notInD hu) rop_notIn ha hb hm
theorem ae_isN (ha : PE X a (cE X.kw ta)) (hb : PE X b (cE X.kw tb)) : PE X (.Compare a [.Is] [b] pos) (cE X.kw (aOp fIsN ta tb)) := ae_cmp op_isN rop_isN ha hb (nomark _)
theorem ae_notN (ha : PE X a (cE X.kw ta)) (hb : PE X b (cE X.kw tb)) : PE X (.Compare a [.IsNot] [b] pos) (cE X.kw (aOp fNotN ta tb)) := ae_cmp op_notN rop_notN ha hb (nomark _)
theorem at_isN (ha : PE X a (cE X.kw ta)) (hb : PE X b (cE X.kw tb)) : PT X (.Compare a [.Is] [b] pos) (cT X.kw (aB (aOp fIsN ta tb))) := at_cmp op_isN rop_isN ha hb (nomark _)
theorem at_notN (ha : PE X a (cE X.kw ta)) (hb : PE X b (cE X.kw tb)) : PT X (.Compare a [.IsNot] [b] pos) (cT X.kw (aB (aOp fNotN ta tb))) := at_cmp op_notN rop_notN ha hb (nomark _)
end

/-! ### xs[i], xs[a:b] -/
def fIx : AOp := fun μ x y Q => match x, y with
  | .d (.list ds), .d (.int i) => ∃ e, atI ds i = some e ∧ Q (.d e) μ
  | .d (.tuple ds), .d (.int i) => ∃ e, atI ds i = some e ∧ Q (.d e) μ
  | .d (.str z), .d (.int i) => z.length ≤ sizeLine ∧ ∃ c, atI z.cps.toList i = some c ∧ Q (.d (.str ⟨#[c]⟩)) μ
  | .v (.ref l), .d (.int i) => match μ l with
    | some (.lst as) => ∃ e, atI as i = some e ∧ Q e μ
    | _ => False
  | _, _ => False
theorem RepAll.atI {B : Hp} {vs : List V} {ds : List PyData} {i : Int} {e : PyData} (r : RepAll K B vs ds) (h : L2.atI ds i = some e) : ∃ v, L2.atI vs i = some v ∧ Rep K B v e := by
  unfold L2.atI at h ⊢
  rw [r.length]
  cases q : ixN ds.length i with
  | none => rw [q] at h; cases h
  | some j =>
    rw [q] at h
    have h' : (ds.map AV.d)[j]? = some (.d e) := by
      rw [List.getElem?_map]
      have h2 : ds[j]? = some e := h
      rw [h2]; rfl
    obtain ⟨v, h1, h2⟩ := ARels.get (ARels.of r) h'
    exact ⟨v, h1, h2⟩
theorem ARels.atI {B : Hp} {vs : List V} {ds : List AV} {i : Int} {e : AV} (r : ARels K B vs ds) (h : L2.atI ds i = some e) : ∃ v, L2.atI vs i = some v ∧ ARel K B v e := by
  unfold L2.atI at h ⊢
  rw [r.length]
  cases q : ixN ds.length i with
  | none => rw [q] at h; cases h
  | some j =>
    rw [q] at h
    obtain ⟨v, h1, h2⟩ := ARels.get r (show ds[j]? = some e from h)
    exact ⟨v, h1, h2⟩
theorem rop_ix : ROp K (rIx K.K) fIx := by
  intro x y v u H Q μ Qa B F h rx ry st k
  match x, y, h, rx, ry with
  | .d (.list ds), .d (.int i), ⟨e, he, q⟩, rx, ry =>
    cases ry
    cases rx with
    | lst h1 hz1 h2 =>
      obtain ⟨z, hz, rz⟩ := h2.atI he
      exact .inl ⟨_, _, i, z, rfl, rfl, SqL.of (st.ex _ _ h1), hz, k _ B H _ μ q (Ex.refl _) st rz⟩
  | .d (.tuple ds), .d (.int i), ⟨e, he, q⟩, rx, ry =>
    cases ry
    cases rx with
    | tup h1 hz1 h2 =>
      obtain ⟨z, hz, rz⟩ := h2.atI he
      exact .inr (.inl ⟨_, _, i, z, rfl, rfl, st.ex.st h1, hz, k _ B H _ μ q (Ex.refl _) st rz⟩)
  | .d (.str z), .d (.int i), ⟨hz, c, hc, q⟩, rx, ry =>
    cases ry
    cases rx
    exact .inr (.inr ⟨z, i, c, rfl, rfl, hz, hc, k _ B H _ μ q (Ex.refl _) st (.str _)⟩)
  | .v (.ref l), .d (.int i), h, rx, ry =>
    cases ry
    cases rx
    have q' : (match μ l with | some (.lst as) => ∃ e, L2.atI as i = some e ∧ Qa e μ | _ => False) := h
    cases hm : μ l with
    | none => rw [hm] at q'; exact q'.elim
    | some m =>
      rw [hm] at q'
      cases m with
      | raw _ => exact q'.elim
      | dk _ => exact q'.elim
      | dn _ => exact q'.elim
      | lst as =>
        obtain ⟨e, he, q⟩ := q'
        obtain ⟨_, o, ho, r⟩ := st.mu l _ hm
        obtain ⟨xs, rfl, hzl, r⟩ := r.lst
        obtain ⟨z, hz, rz⟩ := ARels.atI r he
        exact .inl ⟨_, _, i, z, rfl, rfl, SqL.of ho, hz, k _ B H _ μ q (Ex.refl _) st rz⟩
theorem ae_ix {a b : Expr} {ta tb : AT} {pos : Pos} (ha : PE X a (cE X.kw ta)) (hb : PE X b (cE X.kw tb)) (hs : PlainIx b := by exact fun _ _ => rfl) : PE X (.Subscript a b pos) (cE X.kw (aOp fIx ta tb)) :=
  pe_weak (pe_ix ix_seq ha hb hs) fun _ _ _ h => tOp_of rop_ix h
/-- bounds of a slice -/
abbrev ATO := AEnv → Mu → (Option Int → Mu → Prop) → Prop
def cO (K : Kw) (a : ATO) : TO := fun σ H Q => ∃ ρ μ Qa B F, a ρ μ Qa ∧ Slots K B σ ρ ∧ St K B μ F H ∧ ∀ v B' H' μ', Qa v μ' → Ex B B' → St K B' μ' F H' → Q v H'
def aNoPart : ATO := fun _ μ Q => Q none μ
def aPart (a : AT) : ATO := fun ρ μ Q => a ρ μ fun x μ1 => match x with | .d (.int i) => Q (some i) μ1 | _ => False
theorem po_weak {e : Option Expr} {t t' : TO} (h : PO X e t) (w : ∀ σ H Q, t' σ H Q → t σ H Q) : PO X e t' := ⟨fun pins s σ H Q I hq => h.run pins s σ H Q I (w _ _ _ hq)⟩
theorem ao_none : PO X none (cO X.kw aNoPart) := po_weak po_none fun σ H Q ⟨ρ, μ, Qa, B, F, h, s, st, k⟩ => k none B H μ h (Ex.refl _) st
theorem ao_some {e : Expr} {te : AT} (h : PE X e (cE X.kw te)) : PO X (some e) (cO X.kw (aPart te)) := po_weak (po_some h) fun σ H Q ⟨ρ, μ, Qa, B, F, h, s, st, k⟩ =>
  cE_bind h s st fun v B1 H1 x μ1 q e1 st1 r1 => by
    match x, q, r1 with
    | .d (.int i), q, r1 =>
      cases r1
      exact ⟨i, rfl, k _ B1 H1 μ1 q e1 st1⟩
def cutD {α : Type} (xs : List α) (lo hi : Option Int) : List α := (xs.drop (HT.sIx xs.length 0 lo)).take (HT.sIx xs.length xs.length hi - HT.sIx xs.length 0 lo)
theorem cutD_le {α : Type} {xs : List α} {lo hi : Option Int} (h : xs.length ≤ sizeLine) : (cutD xs lo hi).length ≤ sizeLine := by
  unfold cutD
  rw [List.length_take, List.length_drop]
  omega
theorem RepAll.cut {B : Hp} {vs : List V} {ds : List PyData} (r : RepAll K B vs ds) (lo hi : Option Int) : RepAll K B (cutV vs lo hi) (cutD ds lo hi) := by
  unfold cutV cutD
  rw [r.length]
  exact RepAll.take _ (RepAll.drop _ r)
/-- a mutable list that holds data ds (or the script) -/
def MoDs (m : MO) (ds : List PyData) : Prop := (∃ (o : Obj) (ns : List Int), m = .raw (.frz o (.lst (ns.map V.int))) ∧ ns.length ≤ sizeLine ∧ ds = ns.map PyData.int) ∨ ∃ as, m = .lst as ∧ datas as = some ds
/-- a list's slice (data; the script), a tuple's -/
def fSl (x : AV) (lo hi : Option Int) (μ : Mu) (Q : AV → Mu → Prop) : Prop := match x with
  | .d (.list ds) => Q (.d (.list (cutD ds lo hi))) μ
  | .d (.tuple ds) => Q (.d (.tuple (cutD ds lo hi))) μ
  | .v (.ref l) => ∃ m ds, μ l = some m ∧ MoDs m ds ∧ Q (.d (.list (cutD ds lo hi))) μ
  | _ => False
def aSl (a : AT) (lo hi : ATO) : AT := fun ρ μ Q => a ρ μ fun x μ1 => lo ρ μ1 fun l μ2 => hi ρ μ2 fun h μ3 => fSl x l h μ3 Q
theorem RepAll.ints {B : Hp} : ∀ ns : List Int, RepAll K B (ns.map V.int) (ns.map PyData.int)
  | [] => .nil
  | n :: ns => .cons (.int n) (RepAll.ints ns)
theorem sl_or {r r' : V → Option Int → Option Int → Hp → VK → Prop} (h : SlR X r) (h' : SlR X r') : SlR X (fun x lo hi H Q => r x lo hi H Q ∨ r' x lo hi H Q) := by
  intro pins s σ H x v vl vu lo hi sl Q I rx hs pl pu hq
  rcases hq with q | q
  · exact h pins s σ H x v vl vu lo hi sl Q I rx hs pl pu q
  · exact h' pins s σ H x v vl vu lo hi sl Q I rx hs pl pu q
theorem ae_sl {e : Expr} {lo hi : Option Expr} {te : AT} {tl th : ATO} {p2 pos : Pos} (he : PE X e (cE X.kw te)) (hl : PO X lo (cO X.kw tl)) (hh : PO X hi (cO X.kw th)) : PE X (.Subscript e (.Slice lo hi none p2) pos) (cE X.kw (aSl te tl th)) :=
  pe_weak (pe_slice (sl_or sl_list sl_tupA) he hl hh) fun σ H Q ⟨ρ, μ, Qa, B, F, h, s, st, k⟩ => by
    refine cE_bind h s st fun v B1 H1 x μ1 q e1 st1 r1 => ?_
    refine ⟨ρ, μ1, _, B1, F, q, s.mono e1, st1, fun l B2 H2 μ2 q e2 st2 => ?_⟩
    refine ⟨ρ, μ2, _, B2, F, q, (s.mono e1).mono e2, st2, fun h B3 H3 μ3 q e3 st3 => ?_⟩
    have r3 := r1.mono (e2.trans e3)
    have e4 := e1.trans (e2.trans e3)
    have k' : ∀ v B' H' x μ', Qa x μ' → Ex B3 B' → St X.kw B' μ' F H' → ARel X.kw B' v x → Q v H' := fun v B' H' x μ' q e => k v B' H' x μ' q (e4.trans e)
    match x, q, r3 with
    | .d (.list ds), q, r3 =>
      cases r3 with
      | lst h1 hz1 h2 => exact .inl ⟨_, _, rfl, SqL.of (st3.ex _ _ h1), new_lst st3 (cutD_le hz1) (h2.cut l h) q k'⟩
    | .d (.tuple ds), q, r3 =>
      cases r3 with
      | @tup a xs _ h1 hz1 h2 =>
        refine .inr ⟨a, xs, rfl, st3.ex.st h1, fun hw => ?_, fun hw => new_tup st3 (cutD_le hz1) (h2.cut l h) q k'⟩
        refine k' _ B3 H3 _ μ3 q (Ex.refl _) st3 ?_
        have ec : cutD ds l h = ds := by
          unfold cutD
          rw [← h2.length, hw.1, hw.2, List.drop_zero, Nat.sub_zero, h2.length, List.take_length]
        rw [ec]
        exact .tup h1 hz1 h2
    | .v (.ref a), q, r3 =>
      cases r3
      obtain ⟨m, ds, hm, hd, q⟩ := q
      obtain ⟨_, o, ho, r⟩ := st3.mu a _ hm
      rcases hd with ⟨ob, ns, rfl, hns, rfl⟩ | ⟨as, rfl, hd⟩
      · obtain rfl := r.raw
        exact .inl ⟨a, _, rfl, .inl (.inr ⟨ob, ho⟩), new_lst st3 (cutD_le (by simpa using hns)) ((RepAll.ints ns).cut l h) q k'⟩
      · obtain ⟨xs, rfl, hzl, r⟩ := r.lst
        rw [datas_eq hd] at r hzl
        exact .inl ⟨a, _, rfl, SqL.of ho, new_lst st3 (cutD_le (by simpa using hzl)) ((ARels.all r).cut l h) q k'⟩

/-! ### built-ins -/
def fLen : ACall := fun xs μ Q => match xs with
  | [.d (.list ds)] => Q (.d (.int ds.length)) μ
  | [.d (.tuple ds)] => Q (.d (.int ds.length)) μ
  | [.d (.str z)] => z.length ≤ sizeLine ∧ Q (.d (.int z.length)) μ
  | [.v (.ref l)] => match μ l with
    | some (.lst as) => Q (.d (.int as.length)) μ
    | _ => False
  | _ => False
theorem hc_len : CallR X (.builtin "len") (fun xs H Q => (∃ p ys, xs = [V.ref p] ∧ (SqL X.K H p ys ∨ SqT X.K H p ys) ∧ Q (.int (ys.length : Int)) H) ∨ ∃ z : Str, xs = [V.str z] ∧ z.length ≤ sizeLine ∧ Q (.int (z.length : Int)) H) := CallR.or call_len_seq call_len_str
theorem rc_len : RCall K (fun xs H Q => (∃ p ys, xs = [V.ref p] ∧ (SqL K.K H p ys ∨ SqT K.K H p ys) ∧ Q (.int (ys.length : Int)) H) ∨ ∃ z : Str, xs = [V.str z] ∧ z.length ≤ sizeLine ∧ Q (.int (z.length : Int)) H) fLen := by
  intro as vs H Q μ Qa B F h r st k
  match as, h, r with
  | [.d (.list ds)], h, .cons r .nil =>
    cases r with
    | lst h1 hz1 h2 => exact .inl ⟨_, _, rfl, .inl (SqL.of (st.ex _ _ h1)), by rw [h2.length]; exact k _ B H _ μ h (Ex.refl _) st (.int _)⟩
  | [.d (.tuple ds)], h, .cons r .nil =>
    cases r with
    | tup h1 hz1 h2 => exact .inl ⟨_, _, rfl, .inr (st.ex.st h1), by rw [h2.length]; exact k _ B H _ μ h (Ex.refl _) st (.int _)⟩
  | [.d (.str z)], h, .cons r .nil =>
    cases r
    exact .inr ⟨z, rfl, h.1, k _ B H _ μ h.2 (Ex.refl _) st (.int _)⟩
  | [.v (.ref l)], h, .cons r .nil =>
    cases r
    have q' : (match μ l with | some (.lst as) => Qa (.d (.int as.length)) μ | _ => False) := h
    cases hm : μ l with
    | none => rw [hm] at q'; exact q'.elim
    | some m =>
      rw [hm] at q'
      obtain ⟨_, o, ho, r⟩ := st.mu l _ hm
      match m, q', r with
      | .lst as, q, r =>
        obtain ⟨xs, rfl, hzl, r⟩ := r.lst
        exact .inl ⟨_, _, rfl, .inl (SqL.of ho), by rw [r.length]; exact k _ B H _ μ q (Ex.refl _) st (.int _)⟩
def fInt1 : ACall := fun xs μ Q => match xs with | [.d (.int i)] => Q (.d (.int i)) μ | [.d (.bool b)] => Q (.d (.int (if b then 1 else 0))) μ | _ => False
theorem rc_int1 : RCall K (fun xs H Q => (∃ i, xs = [V.int i] ∧ Q (.int i) H) ∨ ∃ k, xs = [V.bl k] ∧ Q (.int (if k then 1 else 0)) H) fInt1 := by
  intro as vs H Q μ Qa B F h r st k
  match as, h, r with
  | [.d (.int i)], h, .cons r .nil => cases r; exact .inl ⟨i, rfl, k _ B H _ μ h (Ex.refl _) st (.int _)⟩
  | [.d (.bool b)], h, .cons r .nil => cases r; exact .inr ⟨b, rfl, k _ B H _ μ h (Ex.refl _) st (.int _)⟩
def fAbs : ACall := fun xs μ Q => match xs with | [.d (.int i)] => Q (.d (.int (if i < 0 then -i else i))) μ | _ => False
theorem rc_abs : RCall K (fun xs H Q => ∃ i, xs = [V.int i] ∧ Q (.int (if i < 0 then -i else i)) H) fAbs := by
  intro as vs H Q μ Qa B F h r st k
  match as, h, r with
  | [.d (.int i)], h, .cons r .nil => cases r; exact ⟨i, rfl, k _ B H _ μ h (Ex.refl _) st (.int _)⟩
def fMax2 : ACall := fun xs μ Q => match xs with | [.d (.int i), .d (.int j)] => Q (.d (.int (if j > i then j else i))) μ | _ => False
def fMin2 : ACall := fun xs μ Q => match xs with | [.d (.int i), .d (.int j)] => Q (.d (.int (if j < i then j else i))) μ | _ => False
theorem rc_max2 : RCall K (fun xs H Q => ∃ i j, xs = [V.int i, V.int j] ∧ Q (.int (if j > i then j else i)) H) fMax2 := by
  intro as vs H Q μ Qa B F h r st k
  match as, h, r with
  | [.d (.int i), .d (.int j)], h, .cons r (.cons r' .nil) => cases r; cases r'; exact ⟨i, j, rfl, k _ B H _ μ h (Ex.refl _) st (.int _)⟩
theorem rc_min2 : RCall K (fun xs H Q => ∃ i j, xs = [V.int i, V.int j] ∧ Q (.int (if j < i then j else i)) H) fMin2 := by
  intro as vs H Q μ Qa B F h r st k
  match as, h, r with
  | [.d (.int i), .d (.int j)], h, .cons r (.cons r' .nil) => cases r; cases r'; exact ⟨i, j, rfl, k _ B H _ μ h (Ex.refl _) st (.int _)⟩
theorem RepAll.bools {B : Hp} : ∀ {vs : List V} {bs : List Bool}, RepAll K B vs (bs.map PyData.bool) → vs = bs.map V.bl
  | _, [], h => by cases h; rfl
  | _, b :: bs, h => by
    cases h with
    | cons h1 h2 =>
      cases h1
      rw [RepAll.bools h2] <;> rfl
theorem RepAll.ints' {B : Hp} : ∀ {vs : List V} {bs : List Int}, RepAll K B vs (bs.map PyData.int) → vs = bs.map V.int
  | _, [], h => by cases h; rfl
  | _, b :: bs, h => by
    cases h with
    | cons h1 h2 =>
      cases h1
      rw [RepAll.ints' h2] <;> rfl
/-- all(..), any(..) of a list of bools -/
def fAll : ACall := fun xs μ Q => match xs with | [.d (.list ds)] => ∃ bs : List Bool, ds = bs.map PyData.bool ∧ Q (.d (.bool (bs.all id))) μ | _ => False
def fAny : ACall := fun xs μ Q => match xs with | [.d (.list ds)] => ∃ bs : List Bool, ds = bs.map PyData.bool ∧ Q (.d (.bool (bs.any id))) μ | _ => False
theorem rc_all : RCall K (rAll K.K) fAll := by
  intro as vs H Q μ Qa B F h r st k
  match as, h, r with
  | [.d (.list ds)], ⟨bs, hb, q⟩, .cons r .nil =>
    subst hb
    cases r with
    | lst h1 hz1 h2 => exact ⟨_, bs, rfl, by rw [← h2.bools]; exact SqL.of (st.ex _ _ h1), k _ B H _ μ q (Ex.refl _) st (.bl _)⟩
theorem rc_any : RCall K (rAny K.K) fAny := by
  intro as vs H Q μ Qa B F h r st k
  match as, h, r with
  | [.d (.list ds)], ⟨bs, hb, q⟩, .cons r .nil =>
    subst hb
    cases r with
    | lst h1 hz1 h2 => exact ⟨_, bs, rfl, by rw [← h2.bools]; exact SqL.of (st.ex _ _ h1), k _ B H _ μ q (Ex.refl _) st (.bl _)⟩
/-- tuple(..), list(..) of a list, a tuple (a mutable list: from then on data, the tuple of it) -/
def fTuple : ACall := fun xs μ Q => match xs with
  | [.d (.list ds)] => Q (.d (.tuple ds)) μ
  | [.d (.tuple ds)] => Q (.d (.tuple ds)) μ
  | [.v (.ref l)] => match μ l with
    | some (.lst as) => ∃ ds, datas as = some ds ∧ Q (.d (.tuple ds)) μ
    | _ => False
  | _ => False
theorem rc_tuple : RCall K (fun xs H Q => ∃ p ys, xs = [V.ref p] ∧ ((SqL K.K H p ys ∧ ∀ l, H l = none → Q (.ref l) (upd H l (.tup ys))) ∨ (SqT K.K H p ys ∧ Q (.ref p) H))) fTuple := by
  intro as vs H Q μ Qa B F h r st k
  match as, h, r with
  | [.d (.list ds)], h, .cons r .nil =>
    cases r with
    | lst h1 hz1 h2 => exact ⟨_, _, rfl, .inl ⟨SqL.of (st.ex _ _ h1), new_tup st hz1 h2 h k⟩⟩
  | [.d (.tuple ds)], h, .cons r .nil =>
    cases r with
    | tup h1 hz1 h2 => exact ⟨_, _, rfl, .inr ⟨st.ex.st h1, k _ B H _ μ h (Ex.refl _) st (.tup h1 hz1 h2)⟩⟩
  | [.v (.ref l)], h, .cons r .nil =>
    cases r
    have q' : (match μ l with | some (.lst as) => ∃ ds, datas as = some ds ∧ Qa (.d (.tuple ds)) μ | _ => False) := h
    cases hm : μ l with
    | none => rw [hm] at q'; exact q'.elim
    | some m =>
      rw [hm] at q'
      obtain ⟨_, o, ho, r⟩ := st.mu l _ hm
      match m, q', r with
      | .lst as, ⟨ds, hd, q⟩, r =>
        obtain ⟨xs, rfl, hzl, r⟩ := r.lst
        rw [datas_eq hd] at r hzl
        exact ⟨_, _, rfl, .inl ⟨SqL.of ho, new_tup st (by simpa using hzl) (ARels.all r) q k⟩⟩
def fList : ACall := fun xs μ Q => match xs with
  | [.d (.list ds)] => Q (.d (.list ds)) μ
  | [.d (.tuple ds)] => Q (.d (.list ds)) μ
  | _ => False
def fListM : ACall := fun xs μ Q => match xs with
  | [.d (.list ds)] => ∀ l, μ l = none → Q (.v (.ref l)) (mset μ l (.lst (ds.map AV.d)))
  | [.d (.tuple ds)] => ∀ l, μ l = none → Q (.v (.ref l)) (mset μ l (.lst (ds.map AV.d)))
  | _ => False
theorem rc_list : RCall K (fun xs H Q => ∃ p ys, xs = [V.ref p] ∧ (SqL K.K H p ys ∨ SqT K.K H p ys) ∧ ∀ l, H l = none → Q (.ref l) (upd H l (.lst ys))) fList := by
  intro as vs H Q μ Qa B F h r st k
  match as, h, r with
  | [.d (.list ds)], h, .cons r .nil =>
    cases r with
    | lst h1 hz1 h2 => exact ⟨_, _, rfl, .inl (SqL.of (st.ex _ _ h1)), new_lst st hz1 h2 h k⟩
  | [.d (.tuple ds)], h, .cons r .nil =>
    cases r with
    | tup h1 hz1 h2 => exact ⟨_, _, rfl, .inr (st.ex.st h1), new_lst st hz1 h2 h k⟩
theorem rc_listM : RCall K (fun xs H Q => ∃ p ys, xs = [V.ref p] ∧ (SqL K.K H p ys ∨ SqT K.K H p ys) ∧ ∀ l, H l = none → Q (.ref l) (upd H l (.lst ys))) fListM := by
  intro as vs H Q μ Qa B F h r st k
  match as, h, r with
  | [.d (.list ds)], h, .cons r .nil =>
    cases r with
    | lst h1 hz1 h2 => exact ⟨_, _, rfl, .inl (SqL.of (st.ex _ _ h1)), new_mut st (by simpa using hz1) (ARels.of h2) h k⟩
  | [.d (.tuple ds)], h, .cons r .nil =>
    cases r with
    | tup h1 hz1 h2 => exact ⟨_, _, rfl, .inr (st.ex.st h1), new_mut st (by simpa using hz1) (ARels.of h2) h k⟩

/-! ### statements on mutable lists -/
def fApp : AV → List AV → Mu → (AV → Mu → Prop) → Prop := fun x xs μ Q => match x, xs with
  | .v (.ref l), [y] => match μ l with
    | some (.lst as) => as.length < sizeLine ∧ Q (.d .none) (mset μ l (.lst (as ++ [y])))
    | _ => False
  | _, _ => False
end
end Ab

set_option Elab.async false
set_option linter.all false
set_option maxRecDepth 100000
set_option maxHeartbeats 4000000
/-! Ab4: mutable lists, stores, a def's body, borrowing. -/
namespace Ab
open PySem PySem.Spec PyProof.Rows L2
section
variable {X : Cx} {K : Kw}

/-! ### a mutable list's methods -/
def fAppend (x : AV) (xs : List AV) (μ : Mu) (Q : AV → Mu → Prop) : Prop := match x, xs with
  | .v (.ref l), [y] => ∃ as, μ l = some (.lst as) ∧ as.length < sizeLine ∧ Q (.d .none) (mset μ l (.lst (as ++ [y])))
  | _, _ => False
/-- extend by data -/
def fExtend (x : AV) (xs : List AV) (μ : Mu) (Q : AV → Mu → Prop) : Prop := match x, xs with
  | .v (.ref l), [.d (.list ds)] => ∃ as, μ l = some (.lst as) ∧ as.length + ds.length ≤ sizeLine ∧ Q (.d .none) (mset μ l (.lst (as ++ ds.map AV.d)))
  | _, _ => False
abbrev AMt := AV → List AV → Mu → (AV → Mu → Prop) → Prop
def RMt (K : Kw) (r : V → List V → Hp → VK → Prop) (f : AMt) : Prop := ∀ x v as vs H Q μ Qa B F, f x as μ Qa → ARel K B v x → ARels K B vs as → St K B μ F H → (∀ z B' H' w μ', Qa w μ' → Ex B B' → St K B' μ' F H' → ARel K B' z w → Q z H') → r v vs H Q
theorem rm_append : RMt K rAppend fAppend := by
  intro x v as vs H Q μ Qa B F h rx rs st k
  match x, as, h, rx, rs with
  | .v (.ref l), [y], ⟨as, hm, hl, q⟩, rx, .cons ry .nil =>
    cases rx
    obtain ⟨_, o, ho, r⟩ := st.mu l _ hm
    obtain ⟨xs, rfl, hzl, r⟩ := r.lst
    exact ⟨l, xs, _, rfl, rfl, ho, by rw [r.length]; exact hl, k _ B _ _ _ q (Ex.refl _) (st.put hm (m := .lst (as ++ [y])) ⟨_, rfl, by simp; omega, ARels.append r (.cons ry .nil)⟩) .non⟩
theorem rm_extend : RMt K rExtend fExtend := by
  intro x v as vs H Q μ Qa B F h rx rs st k
  match x, as, h, rx, rs with
  | .v (.ref l), [.d (.list ds)], ⟨as, hm, hl, q⟩, rx, .cons ry .nil =>
    cases rx
    cases ry with
    | lst h1 hz1 h2 =>
      obtain ⟨_, o, ho, r⟩ := st.mu l _ hm
      obtain ⟨xs, rfl, hzl, r⟩ := r.lst
      exact ⟨l, _, xs, _, rfl, rfl, ho, st.ex _ _ h1, by rw [r.length, h2.length]; exact hl, k _ B _ _ _ q (Ex.refl _) (st.put hm (m := .lst (as ++ ds.map AV.d)) ⟨_, rfl, by simp; omega, ARels.append r (ARels.of h2)⟩) .non⟩
/-- o.m(e, ..), o a mutable list -/
def aMt (f : AMt) (a : AT) (t : ATA) : AT := fun ρ μ Q => a ρ μ fun x μ1 => (match x with | .v (.ref l) => ∃ as, μ1 l = some (.lst as) | _ => False) ∧ t ρ μ1 fun xs μ2 => f x xs μ2 Q
theorem tBM_of {r : V → List V → Hp → VK → Prop} {f : AMt} {a : AT} {t : ATA} (rm : RMt K r f) {σ : L2.St} {H : Hp} {Q : VK} (h : cE K (aMt f a t) σ H Q) : tBM K.K "list" r (cE K a) (cA K t) σ H Q := by
  obtain ⟨ρ, μ, Qa, B, F, h, s, st, k⟩ := h
  refine cE_bind h s st fun v B1 H1 x μ1 q e1 st1 r1 => ?_
  obtain ⟨hx, q⟩ := q
  match x, hx, q, r1 with
  | .v (.ref l), ⟨as, hm⟩, q, r1 =>
    cases r1
    obtain ⟨_, o, ho, r⟩ := st1.mu l _ hm
    obtain ⟨xs, rfl, hzl, r⟩ := r.lst
    refine ⟨Or.inl ⟨rfl, _, SqL.of ho⟩, cA_bind q (s.mono e1) st1 fun vs B2 H2 xs μ2 q e2 st2 r2 => ?_⟩
    exact rm _ _ xs vs H2 Q μ2 Qa B2 F q rfl r2 st2 fun z B' H' w μ' q e => k z B' H' w μ' q ((e1.trans e2).trans e)
section
variable {o e : Expr} {es : List Expr} {to : AT} {t : ATA} {name : Str} {apos cpos : Pos} {id : String} {r : V → List V → Hp → VK → Prop} {f : AMt}
theorem ae_mt (slot : Slot "list" name id) (hty : typeOf (.builtin id) = pure (.type "method_descriptor")) (hm : MtR X id r) (rm : RMt X.kw r f) (ho : PE X o (cE X.kw to)) (ha : PA X (e :: es) (cA X.kw t))
    (hbase : attributeBase o name X.env (eval o X.env) = eval o X.env := by rfl)
    (hfew : ((backTo cpos (starEach (e :: es) X.env)).all (fun x => !x.1) && (backToKw cpos (keywordEach [] X.env)).all (fun x => x.1.isSome)
      && decide ((e :: es).length + ([] : List Keyword).length + (if ([] : List Keyword).isEmpty then 0 else 1) < 30)) = true := by rfl)
    (hline : (apos.endLine == cpos.line) = true := by rfl) (hs : starEach (e :: es) X.env = (false, eval e X.env) :: starEach es X.env := by rfl) (hplain : (backTo cpos (starEach es X.env)).any (·.1) = false := by rfl) :
    PE X (.Call (.Attribute o name apos) (e :: es) [] cpos) (cE X.kw (aMt f to t)) :=
  pe_weak (pe_bm PySem.F.plainAttrs_list slot hty hm ho ha hbase hfew hline hs hplain) fun _ _ _ h => tBM_of rm h
end

/-! ### xs[i] = e, xs[i] += e -/
def fSet (x y z : AV) (μ : Mu) (Q : Mu → Prop) : Prop := match x, y with
  | .v (.ref l), .d (.int i) => ∃ as j, μ l = some (.lst as) ∧ ixN as.length i = some j ∧ Q (mset μ l (.lst (as.set j z)))
  | _, _ => False
def agSub (to ti : AT) : ATG := fun z ρ μ Q => to ρ μ fun x μ1 => ti ρ μ1 fun y μ2 => fSet x y z μ2 fun μ3 => Q ρ μ3
theorem rSetL_of {x y z : AV} {v u w : V} {H : Hp} {μ : Mu} {Qa : Mu → Prop} {Q : Hp → Prop} {B F : Hp} (h : fSet x y z μ Qa) (rx : ARel K B v x) (ry : ARel K B u y) (rz : ARel K B w z) (st : St K B μ F H)
    (k : ∀ H' μ', Qa μ' → St K B μ' F H' → Q H') : rSetL v u w H Q := by
  match x, y, h, rx, ry with
  | .v (.ref l), .d (.int i), ⟨as, j, hm, hj, q⟩, rx, ry =>
    cases rx
    cases ry
    obtain ⟨_, o, ho, r⟩ := st.mu l _ hm
    obtain ⟨xs, rfl, hzl, r⟩ := r.lst
    exact ⟨l, xs, i, j, rfl, rfl, ho, by rw [r.length]; exact hj, k _ _ q (st.put hm (m := .lst (as.set j z)) ⟨_, rfl, by simp; omega, ARels.set rz j r⟩)⟩
theorem ag_sub {o i : Expr} {to ti : AT} {pos : Pos} (ho : PE X o (cE X.kw to)) (hi : PE X i (cE X.kw ti))
    (ha : ∀ v, assign (.Subscript o i pos) X.env v = (do
      let ov ← holding [v] (eval o X.env)
      let iv ← holding [v, ov] (eval i X.env)
      standAt pos
      holding [v, ov, iv] (setItem ov iv v)
      release [v, ov, iv] []) := by intro _; rfl) : PG X (.Subscript o i pos) (cG X.kw [] (agSub to ti)) :=
  pg_weak (pg_sub ho hi set_list ha) fun v σ H Q ⟨z, ρ, μ, Qa, B, F, h, r, s, st, k⟩ => by
    refine cE_bind h s st fun v1 B1 H1 x μ1 q e1 st1 r1 => ?_
    refine cE_bind q (s.mono e1) st1 fun v2 B2 H2 y μ2 q e2 st2 r2 => ?_
    have e3 := e1.trans e2
    exact rSetL_of q (r1.mono e2) r2 (r.mono e3) st2 fun H' μ' q st' => k ρ μ' σ B2 H' q e3 (s.mono e3) st' But.refl
theorem pget_list : PGet X (rIxL X.K) := by
  intro pins s σ H o i ov iv Q I ro ri h
  obtain ⟨p, xs, k, z, rfl, rfl, hq, he, q⟩ := h
  cases ro
  obtain ⟨t, rfl⟩ := ri
  obtain ⟨its, r, pl, hz⟩ := I.list hq
  obtain ⟨j, h1, h2, h3, h4, h5⟩ := atI_get he
  obtain ⟨w, ew, rw'⟩ := r.get h2
  have hl := r.length
  have hn := line63
  have fin : EP X pins σ Q w s := ⟨z, H, I, rw', q⟩
  by_cases h0 : 0 ≤ k
  · have hj : k.toNat = j := by
      rw [seqIndex_of h0 h5] at h1
      exact Option.some.inj h1
    exact wpAny_getItem_list pl.isList h0 (by omega) (by rw [hj]; simpa using ew) fin
  · have hj : (k + (its.toArray.size : Int)).toNat = j := by
      rw [seqIndex_neg (by omega) h4] at h1
      rw [List.size_toArray, ← hl]
      exact Option.some.inj h1
    exact wpAny_getItem_list_neg pl.isList (by omega) (by rw [List.size_toArray] <;> omega) (by omega) (by rw [hj]; simpa using ew) fin
/-- xs[i] += e, xs a mutable list, ints -/
def aAugS (to ti te : AT) : ATS := fun D ρ μ => to ρ μ fun x μ1 => ti ρ μ1 fun y μ2 => match x, y with
  | .v (.ref l), .d (.int i) => ∃ as a, μ2 l = some (.lst as) ∧ atI as i = some (.d (.int a)) ∧ te ρ μ2 fun z μ3 => match z with
    | .d (.int b) => fSet x y (.d (.int (a + b))) μ3 fun μ4 => D.nx ρ μ4
    | _ => False
  | _, _ => False
theorem as_augS {o i e : Expr} {to ti te : AT} {tpos pos : Pos} (ho : PE X o (cE X.kw to)) (hi : PE X i (cE X.kw ti)) (he : PE X e (cE X.kw te))
    (ha : ∀ ov iv new, augStore i ov iv new = (do holding [new, ov, iv] (setItem ov iv new); release [new, ov, iv] []; pure .next) := by intros; rfl) : PS X (.AugAssign (.Subscript o i tpos) .Add e pos) (cS X.kw (aAugS to ti te)) :=
  ps_weak (ps_augS ho hi pget_list he ip_add set_list ha) fun D σ H ⟨ρ, μ, Da, B, F, h, s, st, k⟩ => by
    refine cE_bind h s st fun v1 B1 H1 x μ1 q e1 st1 r1 => ?_
    refine cE_bind q (s.mono e1) st1 fun v2 B2 H2 y μ2 q e2 st2 r2 => ?_
    match x, y, q, r1, r2 with
    | .v (.ref l), .d (.int i), ⟨as, a, hm, ha, q⟩, r1, r2 =>
      cases r1
      cases r2
      obtain ⟨_, o, ho, r⟩ := st2.mu l _ hm
      obtain ⟨xs, rfl, hzl, r⟩ := r.lst
      obtain ⟨z, hz, rz⟩ := ARels.atI r ha
      cases rz
      refine ⟨l, xs, i, _, rfl, rfl, SqL.of ho, hz, ?_⟩
      refine cE_bind q ((s.mono e1).mono e2) st2 fun v3 B3 H3 w μ3 q e3 st3 r3 => ?_
      match w, q, r3 with
      | .d (.int b), q, r3 =>
        cases r3
        refine ⟨a, b, rfl, rfl, ?_⟩
        have e5 := e1.trans (e2.trans e3)
        exact rSetL_of (K := X.kw) (B := B3) (x := .v (.ref l)) (y := .d (.int i)) (z := .d (.int (a + b))) q rfl (.int i) (.int _) st3 fun H' μ' q st' => k.nx ρ μ' σ B3 H' q e5 (s.mono e5) st'
/-- x += e, a name, ints -/
def aAug (i : Nat) (te : AT) : ATS := fun D ρ μ => match ρ[i]? with
  | some (some (.d (.int a))) => te ρ μ fun z μ1 => match z with
    | .d (.int b) => D.nx (ρ.set i (some (.d (.int (a + b))))) μ1
    | _ => False
  | _ => False
theorem aAug_of {i : Nat} {te : AT} {D : AEnds} {ρ : AEnv} {μ : Mu} (h : aAug i te D ρ μ) : ∃ a, ρ[i]? = some (some (.d (.int a))) ∧ te ρ μ fun z μ1 => match z with | .d (.int b) => D.nx (ρ.set i (some (.d (.int (a + b))))) μ1 | _ => False := by
  unfold aAug at h
  split at h
  · exact ⟨_, by assumption, h⟩
  · exact h.elim
theorem as_aug {i : Nat} {x : Str} {e : Expr} {te : AT} {pos pos' : Pos} (hN : X.N.Nodup) (hi : X.N[i]? = some x) (hx : Loc X.env.scope x) (he : PE X e (cE X.kw te)) (hf : X.fn x = true ∨ X.env.scope.names.lookup x = some .local := by first | exact .inl rfl | exact .inr rfl | assumption) :
    PS X (.AugAssign (.Name x pos') .Add e pos) (cS X.kw (aAug i te)) :=
  ps_weak (ps_aug hN hi hx he ip_add hf) fun D σ H ⟨ρ, μ, Da, B, F, h, s, st, k⟩ => by
    obtain ⟨a, ha, h⟩ := aAug_of h
    obtain ⟨v, hv, r⟩ := s.at_ i _ ha
    cases r
    refine ⟨_, hv, cE_bind h s st fun v3 B3 H3 w μ3 q e3 st3 r3 => ?_⟩
    match w, q, r3 with
    | .d (.int b), q, r3 =>
      cases r3
      exact ⟨a, b, rfl, rfl, k.nx _ μ3 _ B3 H3 q e3 ((s.mono e3).set i (x := .d (.int (a + b))) (.int _)) st3⟩

/-! ### a, b = e1, e2 -/
def aPar (i j : Nat) (t : ATA) : ATS := fun D ρ μ => t ρ μ fun xs μ1 => match xs with | [x, y] => D.nx ((ρ.set i (some x)).set j (some y)) μ1 | _ => False
theorem as_par {i j : Nat} {x y : Str} {a b : Expr} {t : ATA} {px py pt pos : Pos} {kt k2 pt2} (hc : X.calm = true) (hN : X.N.Nodup) (hi : X.N[i]? = some x) (hj : X.N[j]? = some y) (hij : i ≠ j)
    (hx : X.env.scope.names.lookup x = some .local) (hy : X.env.scope.names.lookup y = some .local) (ha : PA X [a, b] (cA X.kw t))
    (hw : swappedStores [.Tuple [.Name x px, .Name y py] kt pt] (.Tuple [a, b] k2 pt2) X.env = pure (some [x, y]))
    (hs : swapsWithSole [.Tuple [.Name x px, .Name y py] kt pt] (.Tuple [a, b] k2 pt2) pos.line X.env = pure false := by rfl) :
    PS X (.Assign [.Tuple [.Name x px, .Name y py] kt pt] (.Tuple [a, b] k2 pt2) pos) (cS X.kw (aPar i j t)) :=
  ps_weak (ps_par hc hN hi hj hij hx hy ha hw hs) fun D σ H ⟨ρ, μ, Da, B, F, h, s, st, k⟩ => by
    refine cA_bind h s st fun vs B1 H1 xs μ1 q e1 st1 r1 => ?_
    match xs, q, r1 with
    | [x, y], q, .cons r (.cons r' .nil) => exact ⟨_, _, rfl, k.nx _ μ1 _ B1 H1 q e1 (((s.mono e1).set i r).set j r') st1⟩
def aPar3 (i j l : Nat) (t : ATA) : ATS := fun D ρ μ => t ρ μ fun xs μ1 => match xs with | [x, y, z] => D.nx (((ρ.set i (some x)).set j (some y)).set l (some z)) μ1 | _ => False

/-! ### a mutable list read as data: lent for an expression whose value is flat; given for good -/
def flatA : AV → Bool
  | .d .none => true
  | .d (.bool _) => true
  | .d (.int _) => true
  | .d (.str _) => true
  | _ => false
theorem flatA_rel {B B' : Hp} {v : V} : ∀ {x : AV}, flatA x = true → ARel K B v x → ARel K B' v x
  | .d .none, _, h => by cases h; exact .non
  | .d (.bool b), _, h => by cases h; exact .bl b
  | .d (.int b), _, h => by cases h; exact .int b
  | .d (.str b), _, h => by cases h; exact .str b
def mNone : Mu := fun _ => none
/-- slot i's mutable list is data within e, whose value is flat -/
def aLend (i : Nat) (a : AT) : AT := fun ρ μ Q => ∃ l as ds, ρ[i]? = some (some (.v (.ref l))) ∧ μ l = some (.lst as) ∧ datas as = some ds ∧
  a (ρ.set i (some (.d (.list ds)))) mNone fun x _ => flatA x = true ∧ Q x μ
def aLendT (i : Nat) (a : ATT) : ATT := fun ρ μ Q => ∃ l as ds, ρ[i]? = some (some (.v (.ref l))) ∧ μ l = some (.lst as) ∧ datas as = some ds ∧
  a (ρ.set i (some (.d (.list ds)))) mNone fun x _ => Q x μ
def aGive (i : Nat) (a : AT) : AT := fun ρ μ Q => ∃ l as ds, ρ[i]? = some (some (.v (.ref l))) ∧ μ l = some (.lst as) ∧ datas as = some ds ∧ a (ρ.set i (some (.d (.list ds)))) (mdel μ l) Q
theorem give_state {B F H : Hp} {μ : Mu} {σ : L2.St} {ρ : AEnv} {i : Nat} {l : Addr} {as : List AV} {ds : List PyData} (s : Slots K B σ ρ) (st : St K B μ F H) (h1 : ρ[i]? = some (some (.v (.ref l)))) (h2 : μ l = some (.lst as)) (h3 : datas as = some ds) :
    ∃ xs, H l = some (.lst xs) ∧ as.length ≤ sizeLine ∧ B l = none ∧ RepAll K B xs ds ∧ Ex B (upd B l (.lst xs)) ∧ Slots K (upd B l (.lst xs)) σ (ρ.set i (some (.d (.list ds)))) ∧ St K (upd B l (.lst xs)) (mdel μ l) F H := by
  obtain ⟨o, ho, r, nB, e2, st2⟩ := st.freeze h2
  obtain ⟨xs, rfl, hzl, r⟩ := r.lst
  rw [datas_eq h3] at r hzl
  have r' := ARels.all r
  refine ⟨xs, ho, by rw [datas_eq h3]; exact hzl, nB, r', e2, ?_, st2⟩
  obtain ⟨v, hv, rv⟩ := s.at_ i _ h1
  cases rv
  have s2 := (s.mono e2).set i (v := .ref l) (x := .d (.list ds)) (.lst upd_same (by simpa using hzl) (RepAll.mono e2 ds r'))
  have e3 : σ.set i (some (.ref l)) = σ := by
    apply List.ext_getElem?
    intro j
    by_cases hj : i = j
    · subst hj
      rw [List.getElem?_set_self (List.getElem?_eq_some_iff.mp hv).1, hv]
    · rw [List.getElem?_set_ne hj]
  rw [e3] at s2
  exact s2
theorem ae_give (i : Nat) {e : Expr} {a : AT} (h : PE X e (cE X.kw a)) : PE X e (cE X.kw (aGive i a)) := pe_weak h fun σ H Q ⟨ρ, μ, Qa, B, F, ⟨l, as, ds, h1, h2, h3, q⟩, s, st, k⟩ => by
  obtain ⟨xs, ho, hzl, nB, r, e2, s2, st2⟩ := give_state s st h1 h2 h3
  exact cE_bind q s2 st2 fun v B' H' x μ' q e => k v B' H' x μ' q (e2.trans e)
theorem Ex.drop {B B' : Hp} {l : Addr} (nB : B l = none) (e : Ex B B') : Ex B (fun b => if b = l then none else B' b) := fun b o h => by
  have ne : b ≠ l := fun z => by subst z; rw [nB] at h; cases h
  show (if b = l then none else B' b) = some o
  rw [if_neg ne]
  exact e b o h
/-- all mutable objects but l are of the frame -/
def lentF (μ : Mu) (F H : Hp) (l : Addr) : Hp := fun b => if b = l then none else match μ b with | some _ => H b | none => F b
theorem lent_state {B F H : Hp} {μ : Mu} {l : Addr} {xs : List V} {as : List AV} (st : St K B μ F H) (h2 : μ l = some (.lst as)) (ho : H l = some (.lst xs)) : St K (upd B l (.lst xs)) mNone (lentF μ F H l) H := by
  obtain ⟨nB, _⟩ := st.mu l _ h2
  refine ⟨fun b o h => ?_, fun b o h => ?_, fun b o h => ⟨?_, rfl⟩, fun b m h => nomatch h⟩
  · by_cases e : b = l
    · subst e; rw [upd_same] at h; cases h; exact ho
    · rw [upd_ne e] at h; exact st.ex b o h
  · unfold lentF at h
    split at h
    · cases h
    · cases hm : μ b with
      | some m => rw [hm] at h; exact h
      | none => rw [hm] at h; exact st.fr b o h
  · unfold lentF at h
    split at h
    · cases h
    · rename_i ne
      rw [upd_ne ne]
      cases hm : μ b with
      | some m => exact (st.mu b m hm).1
      | none => rw [hm] at h; exact (st.off b o h).1
theorem back_state {B F H H' : Hp} {μ : Mu} {B' : Hp} {l : Addr} {xs : List V} {as : List AV} {μ' : Mu} (st : St K B μ F H) (nB : B l = none) (h2 : μ l = some (.lst as)) (hzl : as.length ≤ sizeLine) (r : ARels K B xs as) (e : Ex (upd B l (.lst xs)) B') (st' : St K B' μ' (lentF μ F H l) H') :
    Ex B (fun b => if b = l then none else B' b) ∧ St K (fun b => if b = l then none else B' b) μ F H' := by
  have eB : Ex B B' := (Ex.new nB).trans e
  have e3 := Ex.drop nB eB
  have hF : ∀ b o, F b = some o → lentF μ F H l b = some o := fun b o h => by
    have n1 := (st.off b o h).2
    have ne : b ≠ l := fun z => by subst z; rw [h2] at n1; cases n1
    unfold lentF
    rw [if_neg ne, n1]
    exact h
  refine ⟨e3, fun b o h => ?_, fun b o h => st'.fr b o (hF b o h), fun b o h => ?_, fun b m h => ?_⟩
  · by_cases ne : b = l
    · subst ne; simp at h
    · have h' : (if b = l then none else B' b) = some o := h
      rw [if_neg ne] at h'
      exact st'.ex b o h'
  · refine ⟨?_, (st.off b o h).2⟩
    show (if b = l then none else B' b) = none
    split
    · rfl
    · exact (st'.off b o (hF b o h)).1
  · by_cases ne : b = l
    · subst ne
      rw [h2] at h
      cases h
      exact ⟨by show (if b = b then none else B' b) = none; rw [if_pos rfl], .lst xs, st'.ex b _ (e b _ upd_same), _, rfl, hzl, ARels.mono e3 r⟩
    · obtain ⟨_, o2, ho2, r2⟩ := st.mu b m h
      have hl : lentF μ F H l b = some o2 := by
        unfold lentF
        rw [if_neg ne, h]
        exact ho2
      exact ⟨by show (if b = l then none else B' b) = none; rw [if_neg ne]; exact (st'.off b o2 hl).1, o2, st'.fr b o2 hl, r2.mono e3⟩
theorem ae_lend (i : Nat) {e : Expr} {a : AT} (h : PE X e (cE X.kw a)) : PE X e (cE X.kw (aLend i a)) := pe_weak h fun σ H Q ⟨ρ, μ, Qa, B, F, ⟨l, as, ds, h1, h2, h3, q⟩, s, st, k⟩ => by
  obtain ⟨xs, ho, hzl, nB, r, e2, s2, _⟩ := give_state s st h1 h2 h3
  refine cE_bind q s2 (lent_state st h2 ho) fun v B' H' x μ' ⟨hf, q⟩ e st' rv => ?_
  obtain ⟨e3, st3⟩ := back_state st nB h2 hzl (datas_eq h3 ▸ ARels.of r) e st'
  exact k v _ H' x μ q e3 st3 (flatA_rel hf rv)
theorem at_lend (i : Nat) {e : Expr} {a : ATT} (h : PT X e (cT X.kw a)) : PT X e (cT X.kw (aLendT i a)) := pt_weak h fun σ H Q ⟨ρ, μ, Qa, B, F, ⟨l, as, ds, h1, h2, h3, q⟩, s, st, k⟩ => by
  obtain ⟨xs, ho, hzl, nB, r, e2, s2, _⟩ := give_state s st h1 h2 h3
  refine cT_bind q s2 (lent_state st h2 ho) fun v B' H' μ' q e st' => ?_
  obtain ⟨e3, st3⟩ := back_state st nB h2 hzl (datas_eq h3 ▸ ARels.of r) e st'
  exact k v _ H' μ q e3 st3
end

/-! ### a def's body -/
def astart (N : List Str) (as : List AV) : AEnv := as.map some ++ List.replicate (N.length - as.length) none
theorem slots_start {K : Kw} {B : Hp} {N : List Str} {vs : List V} {as : List AV} (r : ARels K B vs as) : Slots K B (L2.start N vs) (astart N as) := by
  refine ⟨by unfold L2.start astart; simp [r.length], fun i x h => ?_⟩
  unfold astart at h
  unfold L2.start
  by_cases hi : i < as.length
  · rw [List.getElem?_append_left (by simpa using hi), List.getElem?_map] at h
    rw [List.getElem?_append_left (by simp [r.length]; exact hi), List.getElem?_map]
    cases q : as[i]? with
    | none => rw [q] at h; cases h
    | some y =>
      rw [q] at h
      cases h
      obtain ⟨v, h1, h2⟩ := ARels.get r q
      exact ⟨v, by rw [h1]; rfl, h2⟩
  · rw [List.getElem?_append_right (by simp; omega), List.getElem?_replicate] at h
    split at h <;> cases h
theorem okA {P : Program} {w : World} {K : PySem.W.Frag} {mg : Str → Option Value} {base : Heap} {x qual : Str} {st : Stmt} {f : Addr} {fd : FuncData} {N ps : List Str} {k : Nat} {sp : ACall} (F : Fun K x qual st f fd) (S : FnScope N ps (defScope st)) (len : ∀ as μ Q, sp as μ Q → as.length = ps.length)
    (hbody : ∀ (cdv : Value) (A : Around) (outer : List Env) (s : Shared) (H : Hp) (E : XK), Room k (A.deeper (envOfC qual (defScope st) s.heap.objs.size f cdv)) →
      ∃ a, PSs (cxOf CX0 P w K mg base N qual (defScope st) f cdv A outer s H E).nox (defBody st) (cS ⟨K, P, w⟩ a) ∧ ∀ as μ Q, sp as μ Q → a { nx := fun _ μ' => Q (.d .none) μ', rt := Q } (astart N as) μ) :
    FnOk P w K mg base CX0 (k + 1) f fd ps (cSp ⟨K, P, w⟩ sp) := by
  refine F.ok S (fun vs H Q E ⟨as, μ, Qa, B, Fr, h, r, _⟩ => r.length.trans (len _ _ _ h)) (fun cdv A outer s H vs Q E hr ⟨as, μ, Qa, B, Fr, h, r, st, k⟩ => ?_)
  obtain ⟨a, ha, hq⟩ := hbody cdv A outer s H E hr
  refine ⟨_, ha, astart N as, μ, _, B, Fr, hq as μ Qa h, slots_start r, st, ?_⟩
  exact ⟨fun ρ μ σ B' H q e _ st => k _ B' H _ μ q e st .non, fun v x μ B' H q e st rv => k v B' H x μ q e st rv, fun _ _ _ _ _ q => q.elim, fun _ _ _ _ _ q => q.elim⟩
end Ab

set_option Elab.async false
set_option linter.all false
set_option maxRecDepth 100000
set_option maxHeartbeats 4000000
/-! Ab5: calls of own defs by what they promise; comprehensions and loops read at once. -/
namespace Ab
open PySem PySem.Spec PyProof.Rows L2
theorem hu65 {k : Nat} {A : Around} (r : Room k A) : A.units + 65 < cLine := by have := r.un; omega
theorem rm {j k : Nat} {A : Around} (r : Room k A) (h : j ≤ k := by decide) : Room j A := r.mono h
/-- the def x stands there, and keeps sp -/
def Has (P : Program) (w : World) (K : PySem.W.Frag) (mg : Str → Option Value) (base : Heap) (k : Nat) (x : Str) (ps : List Str) (sp : ACall) : Prop :=
  ∃ (f : Addr) (fd : FuncData), mg x = some (.ref f) ∧ PySem.W.keepIn K (.ref f) = true ∧ Binds K fd ps [] ∧ FnOk P w K mg base CX0 k f fd ps (cSp ⟨K, P, w⟩ sp)
section
variable {X : Cx}
theorem ae_callH {x : Str} {p pos : Pos} {k : Nat} {ps : List Str} {sp : ACall} {e : Expr} {es : List Expr} {t : ATA} (G : Has X.prog X.w X.K X.mg X.base k x ps sp) (hr : Room k X.A) (hg : Gl X x)
    (ha : PA X (e :: es) (cA X.kw t)) (hdb : (x == ("__debug__" : Str)) = false := by decide) (he : starEach (e :: es) X.env = (false, eval e X.env) :: starEach es X.env := by rfl) (hpl : (backTo pos (starEach es X.env)).any (·.1) = false := by rfl) :
    PE X (.Call (.Name x p) (e :: es) [] pos) (cE X.kw (aCall sp t)) := by
  obtain ⟨f, fd, hm, hk, hb, G⟩ := G
  exact ae_call G hr hg hm hk hb ha hdb he hpl
def aNeg (a : AT) : AT := fun ρ μ Q => a ρ μ fun x μ1 => match x with | .d (.int i) => Q (.d (.int (-i))) μ1 | _ => False
theorem ae_neg {a : Expr} {ta : AT} {pos : Pos} (ha : PE X a (cE X.kw ta)) : PE X (.UnaryOp .USub a pos) (cE X.kw (aNeg ta)) := pe_weak (pe_un un_neg ha) fun σ H Q ⟨ρ, μ, Qa, B, F, h, s, st, k⟩ => by
  refine cE_bind h s st fun v B1 H1 x μ1 q e1 st1 r1 => ?_
  match x, q, r1 with
  | .d (.int i), q, r1 =>
    cases r1
    exact ⟨i, rfl, k _ B1 H1 _ μ1 q e1 st1 (.int _)⟩
end

/-! ### a comprehension whose turns keep μ -/
/-- .. by any continuation -/
def Turn (g : ATG) (tt : ATT) (te : AT) (ρ : AEnv) (x : AV) (μ : Mu) (f : Option PyData) : Prop :=
  ∀ (k : Option AV → Mu → Prop), k (f.map AV.d) μ → g x ρ μ fun ρ2 μ2 => tt ρ2 μ2 fun b μ3 => if b = true then te ρ2 μ3 fun y μ4 => k (some y) μ4 else k none μ3
theorem lcGo_pure {α : Type} {g : ATG} {tt : ATT} {te : AT} {ρ : AEnv} {μ : Mu} {inj : α → AV} {f : α → Option PyData} : ∀ {items : List α} {acc : List AV} {Q : List AV → Mu → Prop},
    (∀ a ∈ items, Turn g tt te ρ (inj a) μ (f a)) → Q (acc ++ (items.filterMap f).map AV.d) μ → lcGo g tt te ρ (items.map inj) acc μ Q
  | [], acc, Q, _, q => by simpa [lcGo] using q
  | a :: items, acc, Q, h, q => by
    have h1 := h a (by simp)
    have := h1 (fun o μ4 => match o with | some y => lcGo g tt te ρ (items.map inj) (acc ++ [y]) μ4 Q | none => lcGo g tt te ρ (items.map inj) acc μ4 Q) (by
      cases hf : f a with
      | none => exact lcGo_pure (fun b hb => h b (by simp [hb])) (by simpa [hf] using q)
      | some y => exact lcGo_pure (fun b hb => h b (by simp [hb])) (by simpa [hf] using q))
    exact this
/-- [e for x in items if t]: f tells what a turn gives -/
theorem aLc_if {α : Type} (inj : α → AV) (f : α → Option PyData) (items : List α) {it : ATI} {g : ATG} {tt : ATT} {te : AT} {vs : List Nat} {ρ : AEnv} {μ : Mu} {Q : AV → Mu → Prop} (hi : ∀ R : List AV → Mu → Prop, R (items.map inj) μ → it ρ μ R)
    (ht : ∀ a ∈ items, Turn g tt te (awipe ρ vs) (inj a) μ (f a)) (q : Q (.d (.list (items.filterMap f))) μ) : aLc it g tt te vs ρ μ Q :=
  hi _ (lcGo_pure ht (by rw [List.nil_append]; exact ⟨_, datas_map _, q⟩))
theorem aLc_map {α : Type} (inj : α → AV) (f : α → PyData) (items : List α) {it : ATI} {g : ATG} {tt : ATT} {te : AT} {vs : List Nat} {ρ : AEnv} {μ : Mu} {Q : AV → Mu → Prop} (hi : ∀ R : List AV → Mu → Prop, R (items.map inj) μ → it ρ μ R)
    (ht : ∀ a ∈ items, Turn g tt te (awipe ρ vs) (inj a) μ (some (f a))) (q : Q (.d (.list (items.map f))) μ) : aLc it g tt te vs ρ μ Q :=
  aLc_if inj (fun a => some (f a)) items hi ht (by rw [List.filterMap_eq_map']; exact q)
/-- for x in items, by a word of the items that are left -/
theorem forGo_by {g : ATG} {body : ATS} {D : AEnds} (I : List AV → AEnv → Mu → Prop) (hd : ∀ ρ μ, I [] ρ μ → D.nx ρ μ)
    (hs : ∀ x xs ρ μ, I (x :: xs) ρ μ → g x ρ μ fun ρ1 μ1 => body { D with nx := fun ρ' μ' => forGo g body D xs ρ' μ', ct := fun ρ' μ' => forGo g body D xs ρ' μ', bk := D.nx } ρ1 μ1) : ∀ {xs ρ μ}, I xs ρ μ → forGo g body D xs ρ μ
  | [], ρ, μ, h => hd ρ μ h
  | x :: xs, ρ, μ, h => hs x xs ρ μ h
theorem zip_items (f g : Int → PyData) (xs ys : List Int) : zipD (xs.map f) (ys.map g) = (xs.zip ys).map fun p => AV.d (.tuple [f p.1, g p.2]) := by
  unfold zipD
  rw [List.zip_map, List.map_map]
  rfl
end Ab

set_option Elab.async false
set_option linter.all false
set_option maxRecDepth 100000
set_option maxHeartbeats 4000000
/-! AbD: dicts whose keys are tuples (nested ones, too): stores, comprehensions, what stands in them. -/
namespace Ab
open PySem PySem.Spec PyProof.Rows L2
section
variable {X : Cx} {pins : List (Addr × Obj)} {σ : L2.St} {H B : Hp} {s : Shared}
mutual
theorem rep_key (I : Inv X pins σ H s) (e : Ex B H) : ∀ (k : NestedKey) {v : V} {u : Value}, Rep X.kw B v k.data → RelV v u → NestedIs s.heap k u
  | .none, v, u, h, r => by
    have h' : Rep X.kw B v .none := h
    cases h'; cases r; exact .none
  | .num i, v, u, h, r => by
    have h' : Rep X.kw B v (.int i) := h
    cases h'; obtain ⟨t, rfl⟩ := r; exact .int i t
  | .text x, v, u, h, r => by
    have h' : Rep X.kw B v (.str x) := h
    cases h'; obtain ⟨t, rfl⟩ := r; exact .text x t
  | .tup ks, v, u, h, r => by
    have h' : Rep X.kw B v (.tuple (NestedKey.datas ks)) := h
    cases h' with
    | tup h1 hz h2 =>
      cases r
      obtain ⟨its, rv, ⟨o, ho, hc, n, hd⟩, _⟩ := I.tuple (e.st h1)
      exact .tup ho hc hd (rep_keys I e ks h2 (by simpa using rv))
theorem rep_keys (I : Inv X pins σ H s) (e : Ex B H) : ∀ (ks : List NestedKey) {vs : List V} {us : List Value}, RepAll X.kw B vs (NestedKey.datas ks) → Vals vs us → NestedAll s.heap ks us
  | [], vs, us, h, r => by
    have h' : RepAll X.kw B vs [] := h
    cases h'; cases r; exact .nil
  | k :: ks, vs, us, h, r => by
    have h' : RepAll X.kw B vs (k.data :: NestedKey.datas ks) := h
    cases h' with
    | cons h1 h2 =>
      cases r with
      | cons r1 r2 => exact .cons (rep_key I e k h1 r1) (rep_keys I e ks h2 r2)
end
/-- the tuple at a is the key k -/
def KeyAt (K : Kw) (H : Hp) (k : NestedKey) (a : Addr) : Prop := Rep K H (.ref a) k.data ∧ k.depth ≤ 8
theorem KeyAt.is {k : NestedKey} {a : Addr} (I : Inv X pins σ H s) (h : KeyAt X.kw H k a) : (nestedKind X.prog X.w).is s.heap k a := ⟨rep_key I (Ex.refl H) k h.1 rfl, h.2⟩

abbrev NEnt (x : NestedKey × Addr × V) (y : NestedKey × Addr × Value) : Prop := x.1 = y.1 ∧ x.2.1 = y.2.1 ∧ RelV x.2.2 y.2.2
def storeN (xs : List (NestedKey × Addr × V)) (k : NestedKey) (a : Addr) (v : V) : List (NestedKey × Addr × V) :=
  if k ∈ xs.map (·.1) then xs.map (fun x => if x.1 = k then (x.1, x.2.1, v) else x) else xs ++ [(k, a, v)]
theorem nent_keys : ∀ {xs : List (NestedKey × Addr × V)} {ys : List (NestedKey × Addr × Value)}, Paired NEnt xs ys → xs.map (·.1) = ys.map (·.1)
  | _, _, .nil => rfl
  | _, _, .cons r t => by simp [r.1, nent_keys t]
theorem nent_mem : ∀ {xs : List (NestedKey × Addr × V)} {ys : List (NestedKey × Addr × Value)} {y}, Paired NEnt xs ys → y ∈ ys → ∃ x ∈ xs, NEnt x y
  | _, _, _, .nil, h => by simp at h
  | _, _, y, .cons (a := a) (b := b) r t, h => by
    rcases List.mem_cons.mp h with e | h
    · subst e; exact ⟨a, by simp, r⟩
    · obtain ⟨x, hx, q⟩ := nent_mem t h
      exact ⟨x, by simp [hx], q⟩
theorem nent_put {k : NestedKey} {v : V} {u : Value} (r : RelV v u) : ∀ {xs : List (NestedKey × Addr × V)} {ys : List (NestedKey × Addr × Value)}, Paired NEnt xs ys → Paired NEnt (xs.map (fun x => if x.1 = k then (x.1, x.2.1, v) else x)) (ys.map (putAt k u))
  | _, _, .nil => .nil
  | _, _, .cons (a := a) (b := b) q t => by
    refine .cons ?_ (nent_put r t)
    unfold putAt
    show NEnt (if a.1 = k then (a.1, a.2.1, v) else a) _
    by_cases h : a.1 = k
    · have h' : b.1 = k := q.1 ▸ h
      rw [if_pos h, if_pos h']
      exact ⟨q.1, q.2.1, r⟩
    · have h' : ¬ b.1 = k := fun z => h (q.1.trans z)
      rw [if_neg h, if_neg h']
      exact q
theorem atKey_some {ys : List (NestedKey × Addr × Value)} {k : NestedKey} : (atKey ys k).isSome = decide (k ∈ ys.map (·.1)) := by
  unfold atKey
  rw [Option.isSome_map]
  apply Bool.eq_iff_iff.mpr
  rw [List.find?_isSome]
  simp
theorem nent_store {k : NestedKey} {a : Addr} {v : V} {u : Value} (r : RelV v u) {xs : List (NestedKey × Addr × V)} {ys : List (NestedKey × Addr × Value)} (q : Paired NEnt xs ys) : Paired NEnt (storeN xs k a v) (storedH ys k a u) := by
  unfold storeN storedH
  rw [atKey_some, nent_keys q]
  by_cases h : k ∈ ys.map (·.1)
  · rw [if_pos h, if_pos (by simpa using h)]
    exact nent_put r q
  · rw [if_neg h, if_neg (by simpa using h)]
    exact Paired.snoc q ⟨rfl, rfl, r⟩
theorem dictN_of {D : Addr} {xs : List (NestedKey × Addr × V)} (I : Inv X pins σ H s) (hD : H D = some (dictN X.prog X.w D xs)) (hk : ∀ x ∈ xs, KeyAt X.kw H x.1 x.2.1) :
    ∃ ys, s.heap.DictOfH (nestedKind X.prog X.w) D ys ∧ Paired NEnt xs ys ∧ xs.length ≤ sizeLine ∧ (D == sysModules) = false := by
  obtain ⟨⟨o, es, ep, ys, ho, hex, hd, hes, rel, nd, hz, hsys⟩, _, _⟩ := (show ObjOk X.prog X.w H s.heap D (dictN X.prog X.w D xs) from I.hok D _ hD)
  refine ⟨ys, ⟨o, es, ep, ho, hex, hd, hes, fun y hy => ?_, by rw [← nent_keys rel]; exact nd⟩, rel, hz, hsys⟩
  obtain ⟨x, hx, q⟩ := nent_mem rel hy
  have := (hk x hx).is I
  rw [q.1, q.2.1] at this
  exact this
theorem dictN_raw {D : Addr} {xs : List (NestedKey × Addr × V)} (I : Inv X pins σ H s) (hD : H D = some (dictN X.prog X.w D xs)) :
    ∃ es ep ys, s.heap.DictRaw D es ep ∧ es.toList = ys.map (entryOfKey (nestedKind X.prog X.w)) ∧ Paired NEnt xs ys ∧ xs.length ≤ sizeLine ∧ (D == sysModules) = false := by
  obtain ⟨⟨o, es, ep, ys, ho, hex, hd, hes, rel, nd, hz, hsys⟩, _, _⟩ := (show ObjOk X.prog X.w H s.heap D (dictN X.prog X.w D xs) from I.hok D _ hD)
  exact ⟨es, ep, ys, ⟨o, ho, hex, hd⟩, hes, rel, hz, hsys⟩
theorem dictN_ok {P : Program} {w : World} {H' : Hp} {h' : Heap} {D : Addr} {xs : List (NestedKey × Addr × V)} {ys : List (NestedKey × Addr × Value)} (dd : h'.DictOfH (nestedKind P w) D ys) (rel : Paired NEnt xs ys) (hz : xs.length ≤ sizeLine) (hs : (D == sysModules) = false) :
    ObjOk P w H' h' D (dictN P w D xs) := by
  obtain ⟨o, es, ep, ho, hex, hd, hes, his, nd⟩ := dd
  refine ⟨⟨o, es, ep, ys, ho, hex, hd, hes, rel, by rw [nent_keys rel]; exact nd, hz, hs⟩, ⟨o, ho⟩, fun h1 h2 ⟨o, es, ep, ys, ho, r⟩ k => ⟨o, es, ep, ys, k _ ho, r⟩⟩
theorem storeN_len (xs : List (NestedKey × Addr × V)) (k : NestedKey) (a : Addr) (v : V) : (storeN xs k a v).length ≤ xs.length + 1 := by
  unfold storeN
  split <;> simp
/-- d[k] = v -/
theorem setN {E : Value → Shared → Prop} {D a : Addr} {xs : List (NestedKey × Addr × V)} {k : NestedKey} {v : V} {r : Value} {Q : Unit → Shared → Prop} (hu : X.A.units + 8 < cLine) (I : Inv X pins σ H s) (hD : H D = some (dictN X.prog X.w D xs)) (hk : ∀ x ∈ xs, KeyAt X.kw H x.1 x.2.1)
    (hz : xs.length < sizeLine) (ka : KeyAt X.kw H k a) (rv : RelV v r) (h : ∀ s', Inv X pins σ (upd H D (dictN X.prog X.w D (storeN xs k a v))) s' → Q () s') : wpAny (model X.prog X.w) X.A (dictSet D (.ref a) r) Q E s := by
  obtain ⟨ys, dd, rel, _, hsys⟩ := dictN_of I hD hk
  have hl : ys.length ≤ sizeLine := by have := Paired.length rel; omega
  refine wpAny_dictSet_heap (hsz := hl) hu (ka.is I) dd fun h' dd' hs => h _ ?_
  have he : ∃ q, h'.get? D = some q := let ⟨q, _, _, hq, _⟩ := dd'; ⟨q, hq⟩
  refine d_write I (by rw [hD]; exact True.intro) hs he (dictN_ok dd' (nent_store rv rel) ?_ hsys)
  have := storeN_len xs k a v
  omega
theorem dictN_empty {P : Program} {w : World} {H : Hp} (h : Heap) (hb : sysModules < h.objs.size) : ObjOk P w H (h.push { cls := .type "dict", data := .dict #[] }) h.objs.size (dictN P w h.objs.size []) :=
  dictN_ok (ys := []) (Heap.DictOfH.new h) .nil (Nat.zero_le _) (beq_eq_false_iff_ne.mpr (Ne.symm (Nat.ne_of_lt hb)))
/-- a comprehension's dict, its keys tuples -/
def tDcN (K : Kw) (wi : TI) (g : TG) (tt : TT) (tk tv : TE) (vs : List Nat) : TE := fun σ H Q => wi σ H fun J H1 => ∀ D, H1 D = none → ∃ W : Nat → Nat → Hp → Prop, (∃ m, W 0 m (upd H1 D (dictN K.P K.w D []))) ∧ ∀ i m H, W i m H →
  (J.stop i H ∧ Q (.ref D) H) ∨ (J.go i H ∧ ∃ Nx : Hp → Prop, (∀ H', Nx H' → ∃ m', m' < m ∧ W (i + 1) m' H') ∧ ∀ x H', J.yld i H x H' → g x (L2.wipe σ vs) H' fun σ2 H2 => L2.wipe σ2 vs = L2.wipe σ vs ∧ tt σ2 H2 fun b H3 =>
    if b = true then tk σ2 H3 fun y H4 => tv σ2 H4 fun z H5 => ∃ xs k a, y = .ref a ∧ KeyAt K H5 k a ∧ H5 D = some (dictN K.P K.w D xs) ∧ (∀ x ∈ xs, KeyAt K H5 x.1 x.2.1) ∧ xs.length < sizeLine ∧ Nx (upd H5 D (dictN K.P K.w D (storeN xs k a z))) else Nx H3)

/-- the comprehension's block runs: its dict at D told as dictN all the while -/
theorem dcN_run {Q : VK} {kx vx tg iter : Expr} {ifs : List Expr} {scope : Scope} {own : List (Str × Nat)} {pos pos' : Pos} {wi : TI} {g : TG} {tt : TT} {tk tv : TE} {use : Option (Value → Sem Unit)} {Qf : Value → Shared → Prop}
    (hu : X.A.units + 8 < cLine) (hc : X.calm = true) (hN : X.N.Nodup) (I : Inv X pins σ H s) (hi : PI X tg iter wi) (ok : BlkOk X.N X.env.scope scope own)
    (hg : ∀ (s : Shared) (H : Hp) (C : Addr) (cl : List (Str × Addr)) (fp : List Addr), PG (X.blk s H scope (compEnvC scope cl C X.env) fp) tg g)
    (ht : ∀ (s : Shared) (H : Hp) (C : Addr) (cl : List (Str × Addr)) (fp : List Addr), PTs (X.blk s H scope (compEnvC scope cl C X.env) fp) ifs tt)
    (hk : ∀ (s : Shared) (H : Hp) (C : Addr) (cl : List (Str × Addr)) (fp : List Addr), PE (X.blk s H scope (compEnvC scope cl C X.env) fp) kx tk)
    (hv : ∀ (s : Shared) (H : Hp) (C : Addr) (cl : List (Str × Addr)) (fp : List Addr), PE (X.blk s H scope (compEnvC scope cl C X.env) fp) vx tv)
    (hs : ∀ x, foldedSetIterable iter X.env x = pure x) (h : tDcN X.kw wi g tt tk tv (own.map (·.2)) σ H Q)
    (fin : ∀ D C s' m H', Inv X pins σ H' s' → Q (.ref D) H' → s'.heap.Ns C m → FpOk X pins H' C → compPost (model X.prog X.w) X.A X.xe use Qf (.ref D) C (.ok .next) s') :
    wpAny (model X.prog X.w) X.A (comprehension (.DictComp kx vx [⟨tg, iter, ifs, 0⟩] scope pos) scope X.env pos' newDict false (eval iter X.env) use) Qf X.xe s := by
  have clo := closure_ok (scope := scope) (env := X.env) fun y hy e => (ok.free y hy e).elim (fun z => I.ok.has _ (.inl z)) fun z => I.ok.has _ (.inr z)
  refine wpAny_comprehension_free (use := use) rfl hs clo ok.kind (fun y hy e => (ok.uniq y hy).trans (by rw [e])) (thn (hi.run pins s σ H _ I h) fun xv s1 hx => thn hx fun itv s2 h2 => ?_)
  obtain ⟨it, fp, tn, J, H2, rfl, I2, T, tn2, f2, q⟩ := h2
  refine wpAny_newObj_type (newEnv_comp ?_)
  have hDn : H2 s2.heap.objs.size = none := I2.hok.fresh (Nat.le_refl _)
  obtain ⟨W, ⟨m0, w0⟩, turn⟩ := q _ hDn
  generalize hD : s2.heap.objs.size = D at w0 turn hDn
  generalize e3 : ({ s2 with heap := s2.heap.push { cls := .type "dict", data := .dict #[] } } : Shared) = s3
  have hp3 : s3.heap = s2.heap.push { cls := .type "dict", data := .dict #[] } := by rw [← e3]
  have old3 : ∀ b o, s2.heap.get? b = some o → s3.heap.get? b = some o := fun b o q => by rw [hp3]; exact Heap.get?_push_of_some _ q
  have I3 : Inv X pins σ (upd H2 D (dictN X.prog X.w D [])) s3 := by
    subst hD
    rw [← e3]
    exact I2.laid (t' := s2.toks) (fun b o q => Heap.get?_push_of_some _ q) (Nat.le_refl _) (dictN_empty s2.heap I2.big)
  have f3 : ∀ b ∈ fp, FpOk X pins (upd H2 D (dictN X.prog X.w D [])) b ∧ b < s3.heap.objs.size := fun b hb => by
    obtain ⟨o, ho, _⟩ := T.obj _ _ tn2 b hb
    have lt := Heap.lt_size ho
    have ne : b ≠ D := by rw [← hD]; exact Nat.ne_of_lt lt
    exact ⟨⟨by rw [upd_ne ne]; exact (f2 b hb).1, (f2 b hb).2⟩, by rw [hp3, Heap.size_push]; exact Nat.lt_succ_of_lt lt⟩
  have tn3 : tn 0 s3.heap := T.keep _ _ _ tn2 fun b _ o q => old3 b o q
  generalize eH : upd H2 D (dictN X.prog X.w D []) = H3 at I3 f3 w0
  have I4 := block_start I3 ok hN f3
  show codeAny _ _ (.compStart (.DictComp kx vx [⟨tg, iter, ifs, 0⟩] scope pos) 0 (.ref it) (.ref D) (compEnvC scope (cellsFrom (s3.heap.objs.size + 1) scope.names (cloFrom X.env.cells scope.names [])) s3.heap.objs.size X.env)) (compPost (model X.prog X.w) X.A X.xe use Qf (.ref D) s3.heap.objs.size) { s3 with heap := pushCells (s3.heap.push { cls := .type "dict", data := .dict #[] }) scope.names }
  have pg := hg s3 H3 s3.heap.objs.size (cellsFrom (s3.heap.objs.size + 1) scope.names (cloFrom X.env.cells scope.names [])) fp
  have pt := ht s3 H3 s3.heap.objs.size (cellsFrom (s3.heap.objs.size + 1) scope.names (cloFrom X.env.cells scope.names [])) fp
  have pk := hk s3 H3 s3.heap.objs.size (cellsFrom (s3.heap.objs.size + 1) scope.names (cloFrom X.env.cells scope.names [])) fp
  have pv := hv s3 H3 s3.heap.objs.size (cellsFrom (s3.heap.objs.size + 1) scope.names (cloFrom X.env.cells scope.names [])) fp
  generalize ece : compEnvC scope (cellsFrom (s3.heap.objs.size + 1) scope.names (cloFrom X.env.cells scope.names [])) s3.heap.objs.size X.env = ce at I4 pg pt pk pv ⊢
  have locC : ce.locals = s3.heap.objs.size := by subst ece; rfl
  generalize e4 : ({ s3 with heap := pushCells (s3.heap.push { cls := .type "dict", data := .dict #[] }) scope.names } : Shared) = s4 at I4 ⊢
  have tn4 : tn 0 s4.heap := T.keep _ _ _ tn3 fun b _ o q => by rw [← e4]; exact pushCells_keeps _ _ _ _ (Heap.get?_push_of_some _ q)
  have stand : ∀ {σ' : L2.St} {H' : Hp} {s' : Shared}, Inv (X.blk s3 H3 scope ce fp) [] σ' H' s' → (∀ b ∈ fp, H' b = none) → ∀ b ∈ fp, FpOk (X.blk s3 H3 scope ce fp) [] H' b := fun {σ' H' s'} J n b hb =>
    ⟨n b hb, (J.ok.exf b hb).1, J.ok.exfs b hb, .inl hb, fun x c q => (J.ok.exf b hb).2 x c q, fun p hp => by
      have z : p ∈ ([] : List (Addr × Obj)) ++ [] := hp
      simp at z⟩
  refine codeAny_compStart_dict ?_ (T.self X.A 0 _ _ _ tn4 ?_) <;>
  refine compLoop_anyD (fun n s' => ∃ i H', Inv (X.blk s3 H3 scope ce fp) [] (L2.wipe σ (own.map (·.2))) H' s' ∧ tn i s'.heap ∧ (∀ b ∈ fp, H' b = none) ∧ W i n H') ?_ m0 ⟨0, H3, I4, tn4, fun b hb => (f3 b hb).1.1, w0⟩ <;>
  ( rintro n s5 ⟨i, H5, I5, tn5, n5, w5⟩
    rcases turn i n H5 w5 with ⟨stop, qq⟩ | ⟨go, Nx, hNx, step⟩
    · refine thnF (T.done (X.blk s3 H3 scope ce fp) rfl rfl rfl hc i [] s5 _ H5 (fun _ _ => False) I5 (stand I5 n5) tn5 stop) fun r s6 ⟨hr, I6⟩ => ?_
      subst hr
      have I7 : Inv X pins σ H5 s6 := I3.call' (ch := fp) I6.os I6.base I6.hok I6.bare fun b hb => ⟨(f3 b hb).1.2.2.2.1, (f3 b hb).1.2.1, (f3 b hb).1.2.2.2.2.1, (f3 b hb).1.2.2.2.2.2⟩
      have nC : H5 s3.heap.objs.size = none := by rw [← locC]; exact I6.free
      obtain ⟨m, hn, _⟩ := I6.loc
      have hn' : s6.heap.Ns s3.heap.objs.size m := by rw [← locC]; exact hn
      exact fin D s3.heap.objs.size s6 m H5 I7 qq hn' (I3.fpOk (Nat.le_refl _) nC)
    · refine thnF (T.item (X.blk s3 H3 scope ce fp) rfl rfl rfl hc i [] s5 _ H5 (fun _ _ => False) I5 (stand I5 n5) tn5 go) fun r s6 ⟨u, hr, h6⟩ => ?_
      subst hr
      refine thnF h6 fun _ s7 ⟨x, H7, I7, r7, y7, tn7, n7⟩ => ?_
      have I7' := I7.pinned (stand I7 n7) (T.obj _ _ tn7)
      refine thnF (pg.run _ s7 _ H7 x u _ I7' r7 (step x H7 y7)) fun _ s8 ⟨σ8, H8, I8, hw8, q8⟩ => ?_
      refine thnF (pt.run _ s8 σ8 H8 _ I8 q8) fun b s9 ⟨H9, I9, q9⟩ => ?_
      have back : ∀ {s' : Shared} {H' : Hp}, Inv (X.blk s3 H3 scope ce fp) ([] ++ pinsAt fp s7.heap) σ8 H' s' → Nx H' → ∃ m, m < n ∧ ∃ i H', Inv (X.blk s3 H3 scope ce fp) [] (L2.wipe σ (own.map (·.2))) H' s' ∧ tn i s'.heap ∧ (∀ b ∈ fp, H' b = none) ∧ W i m H' := fun {s' H'} J nx => by
        obtain ⟨m', lt, w'⟩ := hNx H' nx
        have pins' : ∀ b ∈ fp, ∀ o, s7.heap.get? b = some o → s'.heap.get? b = some o ∧ H' b = none := fun b hb o q =>
          have z := J.pin (b, o) (List.mem_append_right _ (List.mem_append_right _ (mem_pinsAt hb q)))
          ⟨z.1, z.2.1⟩
        refine ⟨m', lt, i + 1, H', (J.unpinned (pins := [])).weak (by rw [← hw8, wipe_length]) (fun j v q => ?_), T.keep _ _ _ tn7 fun b hb o q => (pins' b hb o q).1, fun b hb => ?_, w'⟩
        · rw [← hw8] at q
          exact (wipe_some q).1
        · obtain ⟨o, ho, _⟩ := T.obj _ _ tn7 b hb
          exact (pins' b hb o ho).2
      cases b with
      | false => exact back I9 q9
      | true =>
        refine thnF (pk.run _ s9 σ8 H9 _ I9 q9) fun z s10 ⟨yk, H10, I10, r10, q10⟩ => ?_
        refine thnF (pv.run _ s10 σ8 H10 _ I10 q10) fun z2 s11 ⟨yv, H11, I11, r11, xs, k, a, ek, ka, hD11, hks, hz, nx⟩ => ?_
        subst ek
        cases r10
        exact setN (X := X.blk s3 H3 scope ce fp) hu I11 hD11 hks hz ka r11 fun s12 I12 => back I12 nx )
theorem pe_dcN {kx vx tg iter : Expr} {ifs : List Expr} {scope : Scope} {own : List (Str × Nat)} {pos : Pos} {wi : TI} {g : TG} {tt : TT} {tk tv : TE} (hu : X.A.units + 8 < cLine) (hc : X.calm = true) (hN : X.N.Nodup) (hi : PI X tg iter wi) (ok : BlkOk X.N X.env.scope scope own)
    (hg : ∀ (s : Shared) (H : Hp) (C : Addr) (cl : List (Str × Addr)) (fp : List Addr), PG (X.blk s H scope (compEnvC scope cl C X.env) fp) tg g)
    (ht : ∀ (s : Shared) (H : Hp) (C : Addr) (cl : List (Str × Addr)) (fp : List Addr), PTs (X.blk s H scope (compEnvC scope cl C X.env) fp) ifs tt)
    (hk : ∀ (s : Shared) (H : Hp) (C : Addr) (cl : List (Str × Addr)) (fp : List Addr), PE (X.blk s H scope (compEnvC scope cl C X.env) fp) kx tk)
    (hv : ∀ (s : Shared) (H : Hp) (C : Addr) (cl : List (Str × Addr)) (fp : List Addr), PE (X.blk s H scope (compEnvC scope cl C X.env) fp) vx tv) (hs : ∀ x, foldedSetIterable iter X.env x = pure x := by intro _; rfl) :
    PE X (.DictComp kx vx [⟨tg, iter, ifs, 0⟩] scope pos) (tDcN X.kw wi g tt tk tv (own.map (·.2))) := by
  refine ⟨fun pins s σ H Q I h => ?_⟩
  rw [arm_eval_DictComp]
  refine dcN_run hu hc hN I hi ok hg ht hk hv hs h fun D C s' m H' I' q hn f => ⟨m, hn, fun h'' sb => ?_⟩
  obtain ⟨f0, f1, f2, f3, f4, f5⟩ := f
  exact ⟨.ref D, H', I'.turned (t' := s'.toks) (fun b o hb e => (sb.2 b hb).trans e) f0 f1 f3 f4 f5, rfl, q⟩
end
end Ab

set_option Elab.async false
set_option linter.all false
set_option maxRecDepth 100000
set_option maxHeartbeats 4000000
/-! AbS: sorted(..) of data. -/
namespace Ab
open PySem PySem.Spec PyProof.Rows L2
mutual
/-- no dict within -/
def plainD : PyData → Bool
  | .none => true
  | .bool _ => true
  | .int _ => true
  | .str _ => true
  | .list ds => plainDs ds
  | .tuple ds => plainDs ds
  | .dict _ => false
def plainDs : List PyData → Bool
  | [] => true
  | d :: ds => plainD d && plainDs ds
end
mutual
theorem Dp.plain {K : PySem.W.Frag} {H : Hp} : ∀ (d : PyData) {v : V}, Dp K H v d → plainD d = true
  | .none, _, _ => rfl
  | .bool _, _, _ => rfl
  | .int _, _, _ => rfl
  | .str _, _, _ => rfl
  | .list ds, _, h => by
    cases h with
    | lst _ h2 => exact Dp.plainAll ds h2
  | .tuple ds, _, h => by
    cases h with
    | tup _ h2 => exact Dp.plainAll ds h2
  | .dict _, _, h => by cases h
theorem Dp.plainAll {K : PySem.W.Frag} {H : Hp} : ∀ (ds : List PyData) {vs : List V}, DpAll K H vs ds → plainDs ds = true
  | [], _, _ => rfl
  | d :: ds, _, h => by
    cases h with
    | cons h1 h2 => exact Bool.and_eq_true_iff.mpr ⟨Dp.plain d h1, Dp.plainAll ds h2⟩
end
section
variable {X : Cx} {pins : List (Addr × Obj)} {σ : L2.St} {H B : Hp} {s : Shared}
mutual
/-- the lists that a value reads off stand in the heap -/
theorem reads_lt {h : Heap} : ∀ (d : PyData) {v : Value} {as : List Addr}, Reads h v d as → plainD d = true → ∀ b ∈ as, b < h.objs.size
  | .none, _, _, r, _ => by cases r; intro b hb; simp at hb
  | .bool _, _, _, r, _ => by cases r; intro b hb; simp at hb
  | .int _, _, _, r, _ => by cases r; intro b hb; simp at hb
  | .str _, _, _, r, _ => by cases r; intro b hb; simp at hb
  | .list ds, _, _, r, k => by
    cases r with
    | list ho hc hd hr =>
      intro b hb
      rcases List.mem_cons.mp hb with e | hb
      · subst e; exact Heap.lt_size ho
      · exact readsAll_lt ds hr k b hb
  | .tuple ds, _, _, r, k => by
    cases r with
    | tuple ho hc hd hr => exact readsAll_lt ds hr k
  | .dict _, _, _, _, k => by cases k
theorem readsAll_lt {h : Heap} : ∀ (ds : List PyData) {vs : List Value} {as : List Addr}, ReadsAll h vs ds as → plainDs ds = true → ∀ b ∈ as, b < h.objs.size
  | [], _, _, r, _ => by cases r; intro b hb; simp at hb
  | d :: ds, _, _, r, k => by
    cases r with
    | cons r1 r2 =>
      have k' := Bool.and_eq_true_iff.mp k
      intro b hb
      rcases List.mem_append.mp hb with hb | hb
      · exact reads_lt d r1 k'.1 b hb
      · exact readsAll_lt ds r2 k'.2 b hb
end
theorem each_rel : ∀ {bs : List (V × PyData)} {us : List Value}, Vals (bs.map (·.1)) us → PySem.W.EachIs (fun v (b : V × PyData) => RelV b.1 v) us bs
  | [], _, h => by cases h; exact .nil
  | b :: bs, _, h => by
    cases h with
    | cons r t => exact .cons r (each_rel t)
theorem each_reads (I : Inv X pins σ H s) : ∀ {bs : List (V × PyData)} {us : List Value}, (∀ b ∈ bs, Dp X.K H b.1 b.2) → Vals (bs.map (·.1)) us → PySem.W.EachIs (fun v (b : V × PyData) => ∃ as, Reads s.heap v b.2 as) us bs
  | [], _, _, h => by cases h; exact .nil
  | b :: bs, _, hd, h => by
    cases h with
    | cons r t => exact .cons (Dp.reads I _ _ _ (hd b (by simp)) r) (each_reads I (fun c hc => hd c (by simp [hc])) t)
theorem each_vals : ∀ {bs : List (V × PyData)} {us : List Value}, PySem.W.EachIs (fun v (b : V × PyData) => RelV b.1 v) us bs → Vals (bs.map (·.1)) us
  | _, _, .nil => .nil
  | _, _, .cons r t => .cons r (each_vals t)
/-- these can be sorted -/
structure SortOk (ds : List PyData) : Prop where
  al : PySem.W.AllAlike ds
  so : PySem.W.Sortable ds
  dp : ∀ d ∈ ds, d.depth ≤ 30
abbrev sortB (rev : Bool) (bs : List (V × PyData)) : List (V × PyData) := bs.mergeSort (PySem.W.dataLe rev (·.2))
def rSortL (K : Kw) : List V → Hp → VK → Prop := fun vs H Q => ∃ (a : Addr) (bs : List (V × PyData)), vs = [V.ref a] ∧ SqL K.K H a (bs.map (·.1)) ∧ (∀ b ∈ bs, Dp K.K H b.1 b.2) ∧ SortOk (bs.map (·.2)) ∧
  ∀ p, H p = none → Q (.ref p) (upd H p (.lst ((sortB false bs).map (·.1))))
theorem cr_sortL (hu : X.A.units + 64 < cLine) : CallR X (.builtin "sorted") (rSortL X.kw) := by
  intro pins s σ H vs us Q I r h
  obtain ⟨a, bs, rfl, hs, hd, ok, q⟩ := h
  obtain ⟨its, rv, hl, hz⟩ := I.list hs
  rw [Vals.ref1 r]
  have hz' : bs.length ≤ sizeLine := by simpa using hz
  refine PySem.W.sorted_data (R := fun v (b : V × PyData) => RelV b.1 v) (enc := fun b : V × PyData => b.2) hl.isList (each_rel rv) (each_reads I hd rv) ok.al ok.so hz' (fun b hb => ?_) fun out ho he => ?_
  · have := ok.dp b.2 (List.mem_map.mpr ⟨b, hb, rfl⟩)
    omega
  · obtain ⟨ep, he'⟩ := PyProof.Rows.sortedAll_at s.heap its out.toArray
    have hlen : ((sortB false bs).map (·.1)).length ≤ sizeLine := by rw [List.length_map, List.length_mergeSort]; exact hz'
    exact ⟨.ref _, upd H (s.heap.objs.size + 1) (.lst ((sortB false bs).map (·.1))), I.laid (t' := s.toks) (fun _ _ => PyProof.Rows.sortedAll_old) (Nat.le_succ _) ⟨hlen, out, ep, each_vals he, he'⟩, rfl, q _ (I.hok.fresh (Nat.le_succ _))⟩
/-- sorted(d), d a dict by tuples -/
def rSortN (K : Kw) : List V → Hp → VK → Prop := fun vs H Q => ∃ (a : Addr) (xs : List (NestedKey × Addr × V)), vs = [V.ref a] ∧ H a = some (dictN K.P K.w a xs) ∧ (∀ x ∈ xs, KeyAt K H x.1 x.2.1) ∧ SortOk (xs.map (·.1.data)) ∧
  ∀ p, H p = none → Q (.ref p) (upd H p (.lst ((sortB false (xs.map fun x => (V.ref x.2.1, x.1.data))).map (·.1))))
theorem nent_vals {P : Program} {w : World} : ∀ {xs : List (NestedKey × Addr × V)} {ys : List (NestedKey × Addr × Value)}, Paired NEnt xs ys → Vals ((xs.map fun x => (V.ref x.2.1, x.1.data)).map (·.1)) ((ys.map (entryOfKey (nestedKind P w))).map (·.key))
  | _, _, .nil => .nil
  | _, _, .cons r t => .cons (by show Value.ref _ = _; rw [r.2.1]) (nent_vals t)
theorem cr_sortN (hcalm : X.calm = true) (hu : X.A.units + 64 < cLine) : CallR X (.builtin "sorted") (rSortN X.kw) := by
  intro pins s σ H vs us Q I r h
  obtain ⟨a, xs, rfl, hD, hk, ok, q⟩ := h
  rw [Vals.ref1 r]
  obtain ⟨es, ep, ys, raw, hes, rel, hz, lo⟩ := dictN_raw I hD
  have hsz : es.size = xs.length := by
    have h1 := congrArg List.length hes
    rw [Array.length_toList, List.length_map] at h1
    rw [h1, ← Paired.length rel]
  refine Calls.call_function_entry PyProof.Rows.kind_sorted PyProof.Rows.plain_sorted PyProof.Rows.entry_sorted (PyProof.Rows.args_sorted1 _) ?_
  unfold Builtin.«sorted»
  refine wpAny_bind (m := checkCount "sorted" 1 1 _) (wpAny_pure ?_)
  refine wpAny_bind (PySem.W.kdu_collect (A := X.A.in1) (KdlSrc.rawDict (es := es) (ep := ep) lo) (I.ok.hd hcalm) raw (by omega) fun h' tk acc hkp hacc => ?_)
  have hal : acc.toList.length = xs.length := by rw [Array.length_toList, hacc.1, hsz]
  have hacc2 : acc.toList = (ys.map (entryOfKey (nestedKind X.prog X.w))).map (·.key) := by
    rw [← hes]
    apply List.ext_getElem?
    intro i
    by_cases hi : i < es.size
    · have hi' : i < acc.size := by rw [hacc.1]; exact hi
      obtain ⟨h1, h2⟩ := hacc.2 i acc[i] (by rw [Array.getElem?_eq_getElem hi'])
      rw [Array.getElem?_toList, Array.getElem?_eq_getElem hi', List.getElem?_map, Array.getElem?_toList, Array.getElem?_eq_getElem hi, h2]
      rfl
    · rw [List.getElem?_eq_none (by rw [hal, ← hsz]; omega), List.getElem?_eq_none (by rw [List.length_map, Array.length_toList]; omega)]
  have rv := nent_vals (P := X.prog) (w := X.w) rel
  rw [← hacc2] at rv
  have I1 : Inv X pins σ H { s with heap := h', toks := tk } := I.kept hkp
  refine wpAny_bind (wpAny_newList ?_ (by rw [hal]; exact hz))
  have hoL : (h'.push (seqObj "list" acc.toList.toArray 0)).get? h'.objs.size = some (seqObj "list" acc.toList.toArray 0) := Heap.get?_push_size _ rfl
  show wpAny _ _ _ _ _ { s with heap := h'.push (seqObj "list" acc.toList.toArray 0), toks := tk }
  have hd : ∀ b ∈ (xs.map fun x => (V.ref x.2.1, x.1.data)), Dp X.K H b.1 b.2 := fun b hb => by
    obtain ⟨x, hx, rfl⟩ := List.mem_map.mp hb
    exact Rep.dp (Ex.refl H) _ (hk x hx).1
  have er : PySem.W.EachIs (fun v (b : V × PyData) => ∃ as, Reads (h'.push (seqObj "list" acc.toList.toArray 0)) v b.2 as ∧ h'.objs.size ∉ as) acc.toList (xs.map fun x => (V.ref x.2.1, x.1.data)) := by
    have z := each_reads I1 hd rv
    have gen : ∀ {us : List Value} {bs : List (V × PyData)}, PySem.W.EachIs (fun v (b : V × PyData) => ∃ as, Reads h' v b.2 as) us bs → (∀ b ∈ bs, Dp X.K H b.1 b.2) → PySem.W.EachIs (fun v (b : V × PyData) => ∃ as, Reads (h'.push (seqObj "list" acc.toList.toArray 0)) v b.2 as ∧ h'.objs.size ∉ as) us bs := by
      intro us bs e hd
      induction e with
      | nil => exact .nil
      | cons r _ ih =>
        obtain ⟨as, r⟩ := r
        refine .cons ⟨as, PyProof.Rows.Reads.keeps (fun b o q => Heap.get?_push_of_some _ q) r, fun hm => ?_⟩ (ih fun c hc => hd c (by simp [hc]))
        exact Nat.lt_irrefl _ (reads_lt _ r (Dp.plain _ (hd _ (by simp))) _ hm)
    exact gen z hd
  have okE : SortOk ((xs.map fun x => (V.ref x.2.1, x.1.data)).map (·.2)) := by rw [List.map_map]; exact ok
  refine wpAny_bind (wpAny_holding (PySem.W.list_sort_data (R := fun v (b : V × PyData) => RelV b.1 v) (enc := fun b : V × PyData => b.2) hoL (each_rel rv) er okE.al okE.so (by simpa using hz) (fun b hb => ?_) fun out ho he => ?_))
  · have h1 := okE.dp b.2 (List.mem_map.mpr ⟨b, hb, rfl⟩)
    have h2 : X.A.in1.units = X.A.units + 1 := rfl
    omega
  · obtain ⟨e', he'⟩ := PyProof.Rows.sortedHeap_at (vs := acc.toList) (out := out.toArray) hoL
    have hlen : ((sortB false (xs.map fun x => (V.ref x.2.1, x.1.data))).map (·.1)).length ≤ sizeLine := by rw [List.length_map, List.length_mergeSort, List.length_map]; exact hz
    refine wpAny_pure ⟨_, rfl, .ref h'.objs.size, upd H h'.objs.size (.lst ((sortB false (xs.map fun x => (V.ref x.2.1, x.1.data))).map (·.1))), I1.laid (t' := tk) (fun b u e => ?_) (Nat.le_refl _) ⟨hlen, out, e', each_vals he, he'⟩, rfl, q _ (I1.hok.fresh (Nat.le_refl _))⟩
    have hb : b < h'.objs.size := Heap.lt_size e
    rw [PyProof.Rows.sortedHeap_old (Nat.ne_of_lt hb) (by rw [size_push']; exact Nat.lt_succ_of_lt hb)]
    exact Heap.get?_push_of_some _ e
end
end Ab

set_option Elab.async false
set_option linter.all false
set_option maxRecDepth 100000
set_option maxHeartbeats 4000000
/-! AbE: dict comprehensions and sorted(..), over data. -/
namespace Ab
open PySem PySem.Spec PyProof.Rows L2
section
variable {X : Cx} {K : Kw}
/-- a store into a dict told by its keys -/
def storeA (kvs : List (NestedKey × AV)) (k : NestedKey) (x : AV) : List (NestedKey × AV) :=
  if k ∈ kvs.map (·.1) then kvs.map (fun p => if p.1 = k then (p.1, x) else p) else kvs ++ [(k, x)]
def dcGo (g : ATG) (tt : ATT) (tk tv : AT) (ρ : AEnv) : List AV → List (NestedKey × AV) → Mu → (List (NestedKey × AV) → Mu → Prop) → Prop
  | [], acc, μ, Q => Q acc μ
  | x :: xs, acc, μ, Q => g x ρ μ fun ρ2 μ2 => tt ρ2 μ2 fun b μ3 => if b = true then tk ρ2 μ3 fun y μ4 => tv ρ2 μ4 fun z μ5 => ∃ ks, y = .d (NestedKey.tup ks).data ∧ (NestedKey.tup ks).depth ≤ 8 ∧ dcGo g tt tk tv ρ xs (storeA acc (.tup ks) z) μ5 Q else dcGo g tt tk tv ρ xs acc μ3 Q
/-- {k: v for ..}: a new dict -/
def aDc (it : ATI) (g : ATG) (tt : ATT) (tk tv : AT) (vs : List Nat) : AT := fun ρ μ Q => it ρ μ fun items μ1 => dcGo g tt tk tv (awipe ρ vs) items [] μ1 fun acc μ2 => ∀ D, μ2 D = none → Q (.v (.ref D)) (mset μ2 D (.dn acc))
theorem nrel_keys {B : Hp} : ∀ {xs : List (NestedKey × Addr × V)} {as : List (NestedKey × AV)}, NRel K B xs as → xs.map (·.1) = as.map (·.1)
  | _, _, .nil => rfl
  | _, _, .cons r t => by simp [r.1, nrel_keys t]
theorem nrel_put {B : Hp} {k : NestedKey} {v : V} {x : AV} (r : ARel K B v x) : ∀ {xs : List (NestedKey × Addr × V)} {as : List (NestedKey × AV)}, NRel K B xs as →
    NRel K B (xs.map (fun y => if y.1 = k then (y.1, y.2.1, v) else y)) (as.map (fun p => if p.1 = k then (p.1, x) else p))
  | _, _, .nil => .nil
  | _, _, .cons (a := a) (b := b) q t => by
    refine .cons ?_ (nrel_put r t)
    by_cases h : a.1 = k
    · have h' : b.1 = k := q.1 ▸ h
      simp only [if_pos h, if_pos h']
      exact ⟨q.1, q.2.1, q.2.2.1, r⟩
    · have h' : ¬ b.1 = k := fun z => h (q.1.trans z)
      simp only [if_neg h, if_neg h']
      exact q
theorem nrel_store {B : Hp} {k : NestedKey} {a : Addr} {v : V} {x : AV} (ka : Rep K B (.ref a) k.data) (kd : k.depth ≤ 8) (r : ARel K B v x) {xs : List (NestedKey × Addr × V)} {as : List (NestedKey × AV)} (q : NRel K B xs as) : NRel K B (storeN xs k a v) (storeA as k x) := by
  unfold storeN storeA
  rw [nrel_keys q]
  by_cases h : k ∈ as.map (·.1)
  · rw [if_pos h, if_pos h]
    exact nrel_put r q
  · rw [if_neg h, if_neg h]
    exact Paired.snoc q ⟨rfl, ka, kd, r⟩
theorem nrel_at {B H : Hp} (e : Ex B H) : ∀ {xs : List (NestedKey × Addr × V)} {as : List (NestedKey × AV)}, NRel K B xs as → ∀ x ∈ xs, KeyAt K H x.1 x.2.1
  | _, _, .nil, x, hx => by simp at hx
  | _, _, .cons (a := a) r t, x, hx => by
    rcases List.mem_cons.mp hx with h | h
    · subst h
      rw [r.1]
      exact ⟨Rep.mono e _ r.2.1, r.2.2.1⟩
    · exact nrel_at e t x h
theorem storeA_len (xs : List (NestedKey × AV)) (k : NestedKey) (v : AV) : (storeA xs k v).length ≤ xs.length + 1 := by
  unfold storeA
  split <;> simp
theorem tDcN_of {it : ATI} {g : ATG} {tt : ATT} {tk tv : AT} {vs : List Nat} {σ : L2.St} {H : Hp} {Q : VK} (h : cE K (aDc it g tt tk tv vs) σ H Q) : tDcN K (cI K it) (cG K vs g) (cT K tt) (cE K tk) (cE K tv) vs σ H Q := by
  obtain ⟨ρ, μ, Qa, B, F, h, s, st, k⟩ := h
  refine ⟨ρ, μ, _, B, F, h, s, st, fun J B1 H1 items μ1 q e1 st1 ⟨hit, G, Y, w, hG, hY⟩ Dl hD => ?_⟩
  have hF : F Dl = none := st1.fr.free hD
  refine ⟨fun i m H => m = items.length - i ∧ i ≤ items.length ∧ ∃ μ B2 acc xs, dcGo g tt tk tv (awipe ρ vs) (items.drop i) acc μ (fun acc μ2 => ∀ D, μ2 D = none → Qa (.v (.ref D)) (mset μ2 D (.dn acc))) ∧ Ex B1 B2 ∧ NRel K B2 xs acc ∧ St K B2 μ (upd F Dl (dictN K.P K.w Dl xs)) H ∧ acc.length ≤ i,
    ⟨items.length, by simp, Nat.zero_le _, μ1, B1, [], [], q, Ex.refl _, .nil, st1.frame hD, Nat.le_refl _⟩, ?_⟩
  rintro i m H ⟨rfl, hi, μ, B2, acc, xs, q, e2, r2, st2, hacc⟩
  by_cases hlt : i < items.length
  · refine .inr ⟨w.goes i H hlt (hG H (e2.trans st2.ex)), fun H => i + 1 ≤ items.length ∧ ∃ μ B2 acc xs, dcGo g tt tk tv (awipe ρ vs) (items.drop (i + 1)) acc μ (fun acc μ2 => ∀ D, μ2 D = none → Qa (.v (.ref D)) (mset μ2 D (.dn acc))) ∧ Ex B1 B2 ∧ NRel K B2 xs acc ∧ St K B2 μ (upd F Dl (dictN K.P K.w Dl xs)) H ∧ acc.length ≤ i + 1,
      fun H' h' => ⟨items.length - (i + 1), by omega, rfl, h'.1, h'.2⟩, fun x H' y => ?_⟩
    obtain ⟨y', hy1, hd⟩ := drop_at hlt
    rw [hd] at q
    obtain ⟨B3, e3, st3, r⟩ := hY i H x H' y' hy1 (w.yields i H x H' hlt (hG H (e2.trans st2.ex)) y) B2 μ _ e2 st2
    refine ⟨y', awipe ρ vs, μ, _, B3, _, q, r, (s.mono (e1.trans (e2.trans e3))).wipe vs, st3, fun ρ4 μ4 σ4 B4 H4 q4 e4 s4 st4 b4 => ⟨b4.wipe, ?_⟩⟩
    refine cT_bind q4 s4 st4 fun b B5 H5 μ5 q5 e5 st5 => ?_
    cases b with
    | false => exact ⟨hlt, μ5, B5, acc, xs, q5, e2.trans (e3.trans (e4.trans e5)), nvs_mono (e3.trans (e4.trans e5)) r2, st5, by omega⟩
    | true =>
      refine cE_bind q5 (s4.mono e5) st5 fun v B6 H6 z μ6 q6 e6 st6 r6 => ?_
      refine cE_bind q6 ((s4.mono e5).mono e6) st6 fun v' B7 H7 z' μ7 q7 e7 st7 r7 => ?_
      obtain ⟨ks, rfl, hdp, q7⟩ := q7
      have r6' : Rep K B7 v (NestedKey.tup ks).data := Rep.mono e7 _ r6
      have e8 : Ex B2 B7 := e3.trans (e4.trans (e5.trans (e6.trans e7)))
      have r2' := nvs_mono e8 r2
      have hv : ∃ a, v = .ref a := by
        have z : Rep K B7 v (.tuple (NestedKey.datas ks)) := r6'
        cases z with
        | tup _ _ _ => exact ⟨_, rfl⟩
      obtain ⟨a, rfl⟩ := hv
      have hl : xs.length = acc.length := Paired.length r2
      refine ⟨xs, .tup ks, a, rfl, ⟨Rep.mono st7.ex _ r6', hdp⟩, st7.fr _ _ upd_same, nrel_at st7.ex r2', by omega, hlt, μ7, B7, _, _, q7, e2.trans e8, nrel_store r6' hdp r7 r2', st7.unframe hF, ?_⟩
      have := storeA_len acc (.tup ks) z'
      omega
  · have e : i = items.length := by omega
    subst e
    rw [List.drop_length] at q
    refine .inl ⟨w.stops H (hG H (e2.trans st2.ex)), ?_⟩
    have nM : μ Dl = none := (st2.off Dl _ upd_same).2
    exact k _ B2 H _ _ (q Dl nM) (e1.trans e2) (st2.unframe_mut hF (m := .dn acc) ⟨xs, rfl, by omega, r2⟩) rfl
theorem ae_dc {kx vx tg iter : Expr} {ifs : List Expr} {scope : Scope} {own : List (Str × Nat)} {pos : Pos} {it : ATI} {g : ATG} {tt : ATT} {tk tv : AT} (hu : X.A.units + 64 < cLine) (hc : X.calm = true) (hN : X.N.Nodup) (hi : PI X tg iter (cI X.kw it)) (ok : BlkOk X.N X.env.scope scope own)
    (hg : ∀ (s : Shared) (H : Hp) (C : Addr) (cl : List (Str × Addr)) (fp : List Addr), PG (X.blk s H scope (compEnvC scope cl C X.env) fp) tg (cG X.kw (own.map (·.2)) g))
    (ht : ∀ (s : Shared) (H : Hp) (C : Addr) (cl : List (Str × Addr)) (fp : List Addr), PTs (X.blk s H scope (compEnvC scope cl C X.env) fp) ifs (cT X.kw tt))
    (hk : ∀ (s : Shared) (H : Hp) (C : Addr) (cl : List (Str × Addr)) (fp : List Addr), PE (X.blk s H scope (compEnvC scope cl C X.env) fp) kx (cE X.kw tk))
    (hv : ∀ (s : Shared) (H : Hp) (C : Addr) (cl : List (Str × Addr)) (fp : List Addr), PE (X.blk s H scope (compEnvC scope cl C X.env) fp) vx (cE X.kw tv)) (hs : ∀ x, foldedSetIterable iter X.env x = pure x := by intro _; rfl) :
    PE X (.DictComp kx vx [⟨tg, iter, ifs, 0⟩] scope pos) (cE X.kw (aDc it g tt tk tv (own.map (·.2)))) :=
  pe_weak (pe_dcN (by omega) hc hN hi ok hg ht hk hv hs) fun _ _ _ h => tDcN_of h

/-! ### sorted -/
def sortD (rev : Bool) (ds : List PyData) : List PyData := ds.mergeSort (PySem.W.dataLe rev id)
theorem mergeSort_map {α β : Type} (f : α → β) (le : β → β → Bool) (l : List α) : (l.mergeSort fun a b => le (f a) (f b)).map f = (l.map f).mergeSort le := by
  exact List.map_mergeSort (fun a _ b _ => rfl)
/-- sorted of a list, of a dict by tuples (its keys) -/
def fSorted (rev : Bool) : ACall := fun xs μ Q => match xs with
  | [.d (.list ds)] => SortOk ds ∧ Q (.d (.list (sortD rev ds))) μ
  | [.v (.ref l)] => ∃ kvs, μ l = some (.dn kvs) ∧ SortOk (kvs.map (·.1.data)) ∧ Q (.d (.list (sortD rev (kvs.map (·.1.data))))) μ
  | _ => False
theorem sortB_snd (rev : Bool) (bs : List (V × PyData)) : (sortB rev bs).map (·.2) = sortD rev (bs.map (·.2)) := by
  unfold sortB sortD
  exact List.map_mergeSort (fun a _ b _ => rfl)
theorem rep_sorted {B : Hp} {rev : Bool} {bs : List (V × PyData)} (h : ∀ b ∈ bs, Rep K B b.1 b.2) : RepAll K B ((sortB rev bs).map (·.1)) (sortD rev (bs.map (·.2))) := by
  rw [← sortB_snd]
  have h' : ∀ b ∈ sortB rev bs, Rep K B b.1 b.2 := fun b hb => h b (List.mem_mergeSort.mp hb)
  generalize sortB rev bs = l at h'
  induction l with
  | nil => exact .nil
  | cons b l ih => exact .cons (h' b (by simp)) (ih fun c hc => h' c (by simp [hc]))
theorem zip_reps {B : Hp} : ∀ {xs : List V} {ds : List PyData}, RepAll K B xs ds → ∃ bs : List (V × PyData), bs.map (·.1) = xs ∧ bs.map (·.2) = ds ∧ ∀ b ∈ bs, Rep K B b.1 b.2
  | _, [], h => by cases h; exact ⟨[], rfl, rfl, by simp⟩
  | _, d :: ds, h => by
    cases h with
    | cons h1 h2 =>
      obtain ⟨bs, e1, e2, h3⟩ := zip_reps h2
      refine ⟨(_, d) :: bs, by rw [← e1]; rfl, by rw [← e2]; rfl, fun b hb => ?_⟩
      rcases List.mem_cons.mp hb with e | hb
      · subst e; exact h1
      · exact h3 b hb
theorem nrel_reps {B : Hp} : ∀ {xs : List (NestedKey × Addr × V)} {kvs : List (NestedKey × AV)}, NRel K B xs kvs → (∀ b ∈ xs.map fun x => (V.ref x.2.1, x.1.data), Rep K B b.1 b.2) ∧ (xs.map fun x => x.1.data) = kvs.map (·.1.data)
  | _, _, .nil => ⟨by simp, rfl⟩
  | _, _, .cons (a := a) r t => by
    obtain ⟨h1, h2⟩ := nrel_reps t
    refine ⟨fun b hb => ?_, by simp [h2, r.1]⟩
    rcases List.mem_cons.mp hb with e | hb
    · subst e
      show Rep K B (.ref a.2.1) a.1.data
      rw [r.1]
      exact r.2.1
    · exact h1 b hb
theorem rc_sorted : RCall K (fun vs H Q => rSortL K vs H Q ∨ rSortN K vs H Q) (fSorted false) := by
  intro as vs H Q μ Qa B F h r st k
  match as, h, r with
  | [.d (.list ds)], ⟨ok, q⟩, .cons r .nil =>
    cases r with
    | lst h1 hz h2 =>
      obtain ⟨bs, e1, e2, h3⟩ := zip_reps h2
      subst e1 e2
      exact .inl ⟨_, bs, rfl, SqL.of (st.ex _ _ h1), fun b hb => Rep.dp st.ex _ (h3 b hb), ok, new_lst st (by unfold sortD; rw [List.length_mergeSort]; exact hz) (rep_sorted h3) q k⟩
  | [.v (.ref l)], ⟨kvs, hm, ok, q⟩, .cons r .nil =>
    cases r
    obtain ⟨_, o, ho, rr⟩ := st.mu l _ hm
    obtain ⟨xs, rfl, hz, rn⟩ := rr.dn
    obtain ⟨h3, h4⟩ := nrel_reps rn
    refine .inr ⟨l, xs, rfl, ho, nrel_at st.ex rn, by rw [h4]; exact ok, new_lst st (by unfold sortD; rw [List.length_mergeSort, List.length_map]; exact hz) ?_ q k⟩
    have z := rep_sorted (rev := false) h3
    rw [List.map_map] at z
    have e : (xs.map ((fun b : V × PyData => b.2) ∘ fun x => (V.ref x.2.1, x.1.data))) = kvs.map (·.1.data) := h4
    rw [e] at z
    exact z
end
end Ab

set_option Elab.async false
set_option linter.all false
set_option maxRecDepth 100000
set_option maxHeartbeats 4000000
/-! AbF: sorted(.., reverse=True). -/
namespace Ab
open PySem PySem.Spec PyProof.Rows L2
section
variable {X : Cx} {K : Kw}
def rSortNR (K : Kw) : List V → List V → Hp → VK → Prop := fun vs zs H Q => ∃ (a : Addr) (xs : List (NestedKey × Addr × V)), vs = [V.ref a] ∧ zs = [.bl true] ∧ H a = some (dictN K.P K.w a xs) ∧ (∀ x ∈ xs, KeyAt K H x.1 x.2.1) ∧ SortOk (xs.map (·.1.data)) ∧
  ∀ p, H p = none → Q (.ref p) (upd H p (.lst ((sortB true (xs.map fun x => (V.ref x.2.1, x.1.data))).map (·.1))))
theorem cr_sortNR (hcalm : X.calm = true) (hu : X.A.units + 64 < cLine) : CallRK X (.builtin "sorted") ["reverse"] (rSortNR X.kw) := by
  intro pins s σ H vs zs us ws Q I r rz h
  obtain ⟨a, xs, rfl, rfl, hD, hk, ok, q⟩ := h
  rw [Vals.ref1 r]
  cases rz with
  | cons rz1 rz2 =>
  cases rz2
  cases rz1
  obtain ⟨es, ep, ys, raw, hes, rel, hz, lo⟩ := dictN_raw I hD
  have hsz : es.size = xs.length := by
    have h1 := congrArg List.length hes
    rw [Array.length_toList, List.length_map] at h1
    rw [h1, ← Paired.length rel]
  show wpAny _ _ (call (.builtin "sorted") [.ref a] [(Str.ofString "reverse", .bool true)]) _ _ _
  refine PyProof.Rows.call_function_entry_kw PyProof.Rows.kind_sorted PyProof.Rows.plain_sorted PyProof.Rows.entry_sorted (PyProof.Rows.args_sorted_rev _ _) ?_
  unfold Builtin.«sorted»
  refine wpAny_bind (m := checkCount "sorted" 1 1 _) (wpAny_pure ?_)
  refine wpAny_bind (PySem.W.kdu_collect (A := X.A.in1) (KdlSrc.rawDict (es := es) (ep := ep) lo) (I.ok.hd hcalm) raw (by omega) fun h' tk acc hkp hacc => ?_)
  have hal : acc.toList.length = xs.length := by rw [Array.length_toList, hacc.1, hsz]
  have hacc2 : acc.toList = (ys.map (entryOfKey (nestedKind X.prog X.w))).map (·.key) := by
    rw [← hes]
    apply List.ext_getElem?
    intro i
    by_cases hi : i < es.size
    · have hi' : i < acc.size := by rw [hacc.1]; exact hi
      obtain ⟨h1, h2⟩ := hacc.2 i acc[i] (by rw [Array.getElem?_eq_getElem hi'])
      rw [Array.getElem?_toList, Array.getElem?_eq_getElem hi', List.getElem?_map, Array.getElem?_toList, Array.getElem?_eq_getElem hi, h2]
      rfl
    · rw [List.getElem?_eq_none (by rw [hal, ← hsz]; omega), List.getElem?_eq_none (by rw [List.length_map, Array.length_toList]; omega)]
  have rv := nent_vals (P := X.prog) (w := X.w) rel
  rw [← hacc2] at rv
  have I1 : Inv X pins σ H { s with heap := h', toks := tk } := I.kept hkp
  refine wpAny_bind (wpAny_newList ?_ (by rw [hal]; exact hz))
  have hoL : (h'.push (seqObj "list" acc.toList.toArray 0)).get? h'.objs.size = some (seqObj "list" acc.toList.toArray 0) := Heap.get?_push_size _ rfl
  show wpAny _ _ _ _ _ { s with heap := h'.push (seqObj "list" acc.toList.toArray 0), toks := tk }
  have hd : ∀ b ∈ (xs.map fun x => (V.ref x.2.1, x.1.data)), Dp X.K H b.1 b.2 := fun b hb => by
    obtain ⟨x, hx, rfl⟩ := List.mem_map.mp hb
    exact Rep.dp (Ex.refl H) _ (hk x hx).1
  have gen : ∀ {us : List Value} {bs : List (V × PyData)}, PySem.W.EachIs (fun v (b : V × PyData) => ∃ as, Reads h' v b.2 as) us bs → (∀ b ∈ bs, Dp X.K H b.1 b.2) → PySem.W.EachIs (fun v (b : V × PyData) => ∃ as, Reads (h'.push (seqObj "list" acc.toList.toArray 0)) v b.2 as ∧ h'.objs.size ∉ as) us bs := by
    intro us bs e hd
    induction e with
    | nil => exact .nil
    | cons r _ ih =>
      obtain ⟨as, r⟩ := r
      refine .cons ⟨as, PyProof.Rows.Reads.keeps (fun b o q => Heap.get?_push_of_some _ q) r, fun hm => ?_⟩ (ih fun c hc => hd c (by simp [hc]))
      exact Nat.lt_irrefl _ (reads_lt _ r (Dp.plain _ (hd _ (by simp))) _ hm)
  have er := gen (each_reads I1 hd rv) hd
  have okE : SortOk ((xs.map fun x => (V.ref x.2.1, x.1.data)).map (·.2)) := by rw [List.map_map]; exact ok
  refine wpAny_bind (wpAny_holding (PySem.W.list_sort_rev_data (b := true) (R := fun v (b : V × PyData) => RelV b.1 v) (enc := fun b : V × PyData => b.2) hoL (each_rel rv) er okE.al okE.so (by simpa using hz) (fun b hb => ?_) fun out ho he => ?_))
  · have h1 := okE.dp b.2 (List.mem_map.mpr ⟨b, hb, rfl⟩)
    have h2 : X.A.in1.units = X.A.units + 1 := rfl
    omega
  · obtain ⟨e', he'⟩ := PyProof.Rows.sortedHeap_at (vs := acc.toList) (out := out.toArray) hoL
    have hlen : ((sortB true (xs.map fun x => (V.ref x.2.1, x.1.data))).map (·.1)).length ≤ sizeLine := by rw [List.length_map, List.length_mergeSort, List.length_map]; exact hz
    refine wpAny_pure ⟨_, rfl, .ref h'.objs.size, upd H h'.objs.size (.lst ((sortB true (xs.map fun x => (V.ref x.2.1, x.1.data))).map (·.1))), I1.laid (t' := tk) (fun b u e => ?_) (Nat.le_refl _) ⟨hlen, out, e', each_vals he, he'⟩, rfl, q _ (I1.hok.fresh (Nat.le_refl _))⟩
    have hb : b < h'.objs.size := Heap.lt_size e
    rw [PyProof.Rows.sortedHeap_old (Nat.ne_of_lt hb) (by rw [size_push']; exact Nat.lt_succ_of_lt hb)]
    exact Heap.get?_push_of_some _ e
def fSortedR : ACall := fun xs μ Q => match xs with
  | [.v (.ref l)] => ∃ kvs, μ l = some (.dn kvs) ∧ SortOk (kvs.map (·.1.data)) ∧ Q (.d (.list (sortD true (kvs.map (·.1.data))))) μ
  | _ => False
theorem ae_sortedR {e : Expr} {t : ATA} {p p2 p3 pos : Pos} {j} (hcalm : X.calm = true) (hu : X.A.units + 64 < cLine) (hg : Gl X "sorted") (hm : X.mg "sorted" = none) (ha : PA X [e] (cA X.kw t))
    (he : backTo pos (starEach [e] X.env) = (false, eval e X.env) :: backTo pos (starEach [] X.env) := by rfl) (hpl : (backTo pos (starEach [e] X.env)).any (·.1) = false := by rfl) :
    PE X (.Call (.Name "sorted" p) [e] [⟨some "reverse", .Constant (.bool true) j p2, p3⟩] pos) (cE X.kw (aCall fSortedR t)) :=
  pe_weak (pe_callBK (cr_sortNR hcalm hu) hg hm (by decide +kernel) ha (pk_cons pe_bl pk_nil) (by decide) (by decide) he hpl) fun σ H Q ⟨ρ, μ, Qa, B, F, h, s, st, k⟩ => by
    refine cA_bind h s st fun vs B1 H1 xs μ1 q e1 st1 r1 => ?_
    show tCons (tC (.bl true)) tNil σ H1 _
    match xs, q, r1 with
    | [.v (.ref l)], ⟨kvs, hm, ok, q⟩, .cons r .nil =>
      cases r
      obtain ⟨_, o, ho, rr⟩ := st1.mu l _ hm
      obtain ⟨xs, rfl, hz, rn⟩ := rr.dn
      obtain ⟨h3, h4⟩ := nrel_reps rn
      refine ⟨l, xs, rfl, rfl, ho, nrel_at st1.ex rn, by rw [h4]; exact ok, new_lst st1 (by unfold sortD; rw [List.length_mergeSort, List.length_map]; exact hz) ?_ q fun v B' H' x μ' q e => k v B' H' x μ' q (e1.trans e)⟩
      have z := rep_sorted (rev := true) h3
      rw [List.map_map] at z
      have e : (xs.map ((fun b : V × PyData => b.2) ∘ fun x => (V.ref x.2.1, x.1.data))) = kvs.map (·.1.data) := h4
      rw [e] at z
      exact z
theorem ae_sorted {e : Expr} {t : ATA} {p pos : Pos} (hcalm : X.calm = true) (hu : X.A.units + 64 < cLine) (hg : Gl X "sorted") (hm : X.mg "sorted" = none) (ha : PA X [e] (cA X.kw t))
    (he : starEach [e] X.env = (false, eval e X.env) :: starEach [] X.env := by rfl) (hpl : (backTo pos (starEach [] X.env)).any (·.1) = false := by rfl) :
    PE X (.Call (.Name "sorted" p) [e] [] pos) (cE X.kw (aCall (fSorted false) t)) :=
  ae_callB (CallR.or (cr_sortL hu) (cr_sortN hcalm hu)) rc_sorted hg hm (by decide +kernel) ha (by decide) (by decide) he hpl
end
end Ab

set_option Elab.async false
set_option linter.all false
set_option maxRecDepth 100000
set_option maxHeartbeats 4000000
/-! AbG: isinstance of data, max and min of a list or tuple of ints, three names at once. -/
namespace Ab
open PySem PySem.Spec PyProof.Rows L2
def pyTy : PyData → String
  | .none => "NoneType"
  | .bool _ => "bool"
  | .int _ => "int"
  | .str _ => "str"
  | .list _ => "list"
  | .tuple _ => "tuple"
  | .dict _ => "dict"
def isaT (a T : String) : Bool := (a == T) || (a == "bool" && T == "int")
abbrev isaD (d : PyData) (T : String) : Bool := isaT (pyTy d) T
/-- these built-in classes are asked for -/
def KnownTy (T : String) : Prop := T = "int" ∨ T = "bool" ∨ T = "str" ∨ T = "tuple" ∨ T = "list"
theorem kitB_known {T : String} (h : KnownTy T) (d : PyData) : kitB (pyTy d) T = some (isaD d T) := by
  have e : ∀ a ∈ (["NoneType", "bool", "int", "str", "list", "tuple", "dict"] : List String), ∀ T ∈ (["int", "bool", "str", "tuple", "list"] : List String), kitB a T = some (isaT a T) := by decide +kernel
  refine e _ ?_ T ?_
  · cases d <;> simp [pyTy]
  · rcases h with rfl | rfl | rfl | rfl | rfl <;> simp
section
variable {X : Cx} {K : Kw}
theorem Rep.ty {B H : Hp} (e : Ex B H) : ∀ {d : PyData} {v : V}, Rep K B v d → TyX K.K H v (.type (pyTy d))
  | .none, _, h => by cases h; exact .base .non
  | .bool b, _, h => by cases h; exact .base (.bl b)
  | .int i, _, h => by cases h; exact .base (.int i)
  | .str x, _, h => by cases h; exact .base (.str x)
  | .list ds, _, h => by
    cases h with
    | lst h1 _ _ => exact .base (.lst (e _ _ h1))
  | .tuple ds, _, h => by
    cases h with
    | tup h1 _ _ =>
      rcases e.st h1 with (h | ⟨o, h⟩) | ⟨o, its, n, h, hc, _⟩
      · exact .base (.tup h)
      · exact .fTuple h
      · exact .kTuple h hc
  | .dict _, _, h => by cases h
def aIsi (a : AT) (Ts : List String) : AT := fun ρ μ Q => a ρ μ fun x μ1 => match x with | .d d => Q (.d (.bool (Ts.any (isaD d)))) μ1 | _ => False
theorem pe_ty {x : Str} {n : String} {pos : Pos} (hg : Gl X x) (hm : X.mg x = none) (hv : bootBuiltins x = some (.type n)) (hn : x ≠ "__name__" := by decide) (hd : (x == ("__debug__" : Str)) = false := by decide) : PE X (.Name x pos) (tC (.ty n)) := pe_bltn hg hm hv rfl hn hd
theorem ae_isi {a : Expr} {ta : AT} {p p2 pos : Pos} {T : Str} {n : String} (ha : PE X a (cE X.kw ta)) (hg : Gl X "isinstance") (hm : X.mg "isinstance" = none) (hg2 : Gl X T) (hm2 : X.mg T = none) (hk : bootBuiltins T = some (.type n) ∧ KnownTy n ∧ T ≠ "__name__" ∧ (T == ("__debug__" : Str)) = false)
    (he : starEach [a, .Name T p2] X.env = (false, eval a X.env) :: starEach [.Name T p2] X.env := by rfl) (hpl : (backTo pos (starEach [.Name T p2] X.env)).any (·.1) = false := by rfl) :
    PE X (.Call (.Name "isinstance" p) [a, .Name T p2] [] pos) (cE X.kw (aIsi ta [n])) :=
  pe_weak (pe_callB call_isi hg hm (by decide +kernel) (pa_cons ha (pa_cons (pe_ty hg2 hm2 hk.1 hk.2.2.1 hk.2.2.2) pa_nil) he) (by decide) (by decide) he hpl) fun σ H Q ⟨ρ, μ, Qa, B, F, h, s, st, k⟩ => by
    refine cE_bind h s st fun v B1 H1 x μ1 q e1 st1 r1 => ?_
    match x, q, r1 with
    | .d d, q, r1 =>
      refine ⟨v, .ty n, _, .type n, isaD d n, rfl, .ty n, Rep.ty st1.ex r1, kit_ty (kitB_known hk.2.1 d), k _ B1 H1 _ μ1 q e1 st1 ?_⟩
      simp only [List.any_cons, List.any_nil, Bool.or_false]
      exact .bl _
theorem ty_int : bootBuiltins "int" = some (.type "int") ∧ KnownTy "int" ∧ ("int" : Str) ≠ "__name__" ∧ (("int" : Str) == ("__debug__" : Str)) = false := ⟨by decide +kernel, .inl rfl, by decide, by decide⟩
theorem ty_bool : bootBuiltins "bool" = some (.type "bool") ∧ KnownTy "bool" ∧ ("bool" : Str) ≠ "__name__" ∧ (("bool" : Str) == ("__debug__" : Str)) = false := ⟨by decide +kernel, .inr (.inl rfl), by decide, by decide⟩
theorem ty_str : bootBuiltins "str" = some (.type "str") ∧ KnownTy "str" ∧ ("str" : Str) ≠ "__name__" ∧ (("str" : Str) == ("__debug__" : Str)) = false := ⟨by decide +kernel, .inr (.inr (.inl rfl)), by decide, by decide⟩
theorem ty_tuple : bootBuiltins "tuple" = some (.type "tuple") ∧ KnownTy "tuple" ∧ ("tuple" : Str) ≠ "__name__" ∧ (("tuple" : Str) == ("__debug__" : Str)) = false := ⟨by decide +kernel, .inr (.inr (.inr (.inl rfl))), by decide, by decide⟩
theorem ty_list : bootBuiltins "list" = some (.type "list") ∧ KnownTy "list" ∧ ("list" : Str) ≠ "__name__" ∧ (("list" : Str) == ("__debug__" : Str)) = false := ⟨by decide +kernel, .inr (.inr (.inr (.inr rfl))), by decide, by decide⟩
theorem ae_isi2 {a : Expr} {ta : AT} {p p1 p2 pos tpos : Pos} {kk : Nat} {T U : Str} {n m : String} (ha : PE X a (cE X.kw ta)) (hg : Gl X "isinstance") (hm : X.mg "isinstance" = none)
    (hg1 : Gl X T) (hm1 : X.mg T = none) (hk : bootBuiltins T = some (.type n) ∧ KnownTy n ∧ T ≠ "__name__" ∧ (T == ("__debug__" : Str)) = false)
    (hg2 : Gl X U) (hm2 : X.mg U = none) (hk2 : bootBuiltins U = some (.type m) ∧ KnownTy m ∧ U ≠ "__name__" ∧ (U == ("__debug__" : Str)) = false)
    (he : starEach [a, .Tuple [.Name T p1, .Name U p2] kk tpos] X.env = (false, eval a X.env) :: starEach [.Tuple [.Name T p1, .Name U p2] kk tpos] X.env := by rfl) (hpl : (backTo pos (starEach [.Tuple [.Name T p1, .Name U p2] kk tpos] X.env)).any (·.1) = false := by rfl) :
    PE X (.Call (.Name "isinstance" p) [a, .Tuple [.Name T p1, .Name U p2] kk tpos] [] pos) (cE X.kw (aIsi ta [n, m])) :=
  pe_weak (pe_callB call_isiT hg hm (by decide +kernel) (pa_cons ha (pa_cons (pe_tup (pa_cons (pe_ty hg1 hm1 hk.1 hk.2.2.1 hk.2.2.2) (pa_cons (pe_ty hg2 hm2 hk2.1 hk2.2.2.1 hk2.2.2.2) pa_nil))) pa_nil) he) (by decide) (by decide) he hpl) fun σ H Q ⟨ρ, μ, Qa, B, F, h, s, st, k⟩ => by
    refine cE_bind h s st fun v B1 H1 x μ1 q e1 st1 r1 => ?_
    match x, q, r1 with
    | .d d, q, r1 =>
      refine ⟨by show 2 ≤ sizeLine; decide, fun p hp => ?_⟩
      obtain ⟨e2, st2⟩ := st1.grow (o := .tup [.ty n, .ty m]) hp
      refine ⟨v, p, [.ty n, .ty m], _, [.type n, .type m], (isaD d n || isaD d m), rfl, upd_same, .cons (.ty n) (.cons (.ty m) .nil), Rep.ty (e2.trans st2.ex) r1, ?_, k _ _ _ _ μ1 q (e1.trans e2) st2 ?_⟩
      · have h1 := kitB_known hk.2.1 d
        have h2 := kitB_known hk2.2.1 d
        refine kitAny_cons (kit_ty h1) (fun e => ?_) (fun e => by rw [e]; rfl)
        rw [e, Bool.false_or]
        refine kitAny_cons (kit_ty h2) (fun e => ?_) (fun e => e)
        rw [e]
        exact kitAny_nil
      · simp only [List.any_cons, List.any_nil, Bool.or_false]
        exact .bl _

/-! ### max, min of one list or tuple of ints -/
def fMax1 : ACall := fun xs μ Q => match xs with
  | [.d (.list ds)] => ∃ n ns, ds = (n :: ns).map PyData.int ∧ Q (.d (.int (ns.foldl max n))) μ
  | [.d (.tuple ds)] => ∃ n ns, ds = (n :: ns).map PyData.int ∧ Q (.d (.int (ns.foldl max n))) μ
  | _ => False
def fMin1 : ACall := fun xs μ Q => match xs with
  | [.d (.list ds)] => ∃ n ns, ds = (n :: ns).map PyData.int ∧ Q (.d (.int (ns.foldl min n))) μ
  | [.d (.tuple ds)] => ∃ n ns, ds = (n :: ns).map PyData.int ∧ Q (.d (.int (ns.foldl min n))) μ
  | _ => False
def rMax1 (K : Kw) : List V → Hp → VK → Prop := fun vs H Q => ∃ (a : Addr) (n : Int) (ns : List Int), vs = [.ref a] ∧ (SqL K.K H a ((n :: ns).map V.int) ∨ SqT K.K H a ((n :: ns).map V.int)) ∧ Q (.int (ns.foldl max n)) H
def rMin1 (K : Kw) : List V → Hp → VK → Prop := fun vs H Q => ∃ (a : Addr) (n : Int) (ns : List Int), vs = [.ref a] ∧ (SqL K.K H a ((n :: ns).map V.int) ∨ SqT K.K H a ((n :: ns).map V.int)) ∧ Q (.int (ns.foldl min n)) H
theorem ints_reads {h : Heap} : ∀ {ns : List Int} {us : List Value}, Vals (ns.map V.int) us → ReadsAll h us (ns.map PyData.int) []
  | [], _, r => by cases r; exact .nil
  | n :: ns, _, r => by
    cases r with
    | cons r1 r2 =>
      obtain ⟨t, rfl⟩ := r1
      exact ReadsAll.cons (as := []) (bs := []) (.int n t) (ints_reads r2)
theorem alike_ints' (ns : List Int) : PySem.W.AlikeAll (ns.map PyData.int) := by
  refine ⟨fun x hx y hy => ?_, fun x hx => ?_⟩
  · obtain ⟨i, _, rfl⟩ := List.mem_map.mp hx
    obtain ⟨j, _, rfl⟩ := List.mem_map.mp hy
    rfl
  · obtain ⟨i, _, rfl⟩ := List.mem_map.mp hx
    simp
theorem int_of_reads {h : Heap} {v : Value} {i : Int} {as : List Addr} (r : Reads h v (.int i) as) : RelV (.int i) v := by
  cases r
  exact ⟨_, rfl⟩
theorem cr_max1 (hc : X.calm = true) (hu : X.A.units + 64 < cLine) : CallR X (.builtin "max") (rMax1 X.kw) := by
  intro pins s σ H vs us Q I r h
  obtain ⟨a, n, ns, rfl, hs, q⟩ := h
  rw [Vals.ref1 r]
  have hd : PyData.depthAll ((n :: ns).map PyData.int) = 0 := PySem.W.depth_ints _
  rcases hs with hs | hs
  · obtain ⟨its, rv, hl, _⟩ := I.list hs
    refine PySem.W.max_list_data (x := .int n) (xs := ns.map .int) (I.ok.hd hc) hl.isList (by simpa using ints_reads (h := s.heap) rv) (alike_ints' (n :: ns)) (by show _ + 1 + PyData.depthAll ((n :: ns).map PyData.int) < _; omega) fun i v h' tk bs _ hr hk => ?_
    rw [PySem.W.maxD_ints] at hr
    exact ⟨_, H, I.kept hk, int_of_reads hr, q⟩
  · obtain ⟨its, rv, hl, _⟩ := I.tuple hs
    refine PySem.W.max_tuple_data (x := .int n) (xs := ns.map .int) (I.ok.hd hc) hl (by simpa using ints_reads (h := s.heap) rv) (alike_ints' (n :: ns)) (by show _ + 1 + PyData.depthAll ((n :: ns).map PyData.int) < _; omega) fun i v h' tk bs _ hr hk => ?_
    rw [PySem.W.maxD_ints] at hr
    exact ⟨_, H, I.kept hk, int_of_reads hr, q⟩
theorem cr_min1 (hc : X.calm = true) (hu : X.A.units + 64 < cLine) : CallR X (.builtin "min") (rMin1 X.kw) := by
  intro pins s σ H vs us Q I r h
  obtain ⟨a, n, ns, rfl, hs, q⟩ := h
  rw [Vals.ref1 r]
  have hd : PyData.depthAll ((n :: ns).map PyData.int) = 0 := PySem.W.depth_ints _
  rcases hs with hs | hs
  · obtain ⟨its, rv, hl, _⟩ := I.list hs
    refine PySem.W.min_list_data (x := .int n) (xs := ns.map .int) (I.ok.hd hc) hl.isList (by simpa using ints_reads (h := s.heap) rv) (alike_ints' (n :: ns)) (by show _ + 1 + PyData.depthAll ((n :: ns).map PyData.int) < _; omega) fun i v h' tk bs _ hr hk => ?_
    rw [PySem.W.minD_ints] at hr
    exact ⟨_, H, I.kept hk, int_of_reads hr, q⟩
  · obtain ⟨its, rv, hl, _⟩ := I.tuple hs
    refine PySem.W.min_tuple_data (x := .int n) (xs := ns.map .int) (I.ok.hd hc) hl (by simpa using ints_reads (h := s.heap) rv) (alike_ints' (n :: ns)) (by show _ + 1 + PyData.depthAll ((n :: ns).map PyData.int) < _; omega) fun i v h' tk bs _ hr hk => ?_
    rw [PySem.W.minD_ints] at hr
    exact ⟨_, H, I.kept hk, int_of_reads hr, q⟩
theorem rc_max1 : RCall K (rMax1 K) fMax1 := by
  intro as vs H Q μ Qa B F h r st k
  match as, h, r with
  | [.d (.list ds)], ⟨n, ns, e0, q⟩, .cons r .nil =>
    subst e0
    cases r with
    | lst h1 hz h2 =>
      have e := RepAll.ints' h2
      subst e
      exact ⟨_, n, ns, rfl, .inl (SqL.of (st.ex _ _ h1)), k _ B H _ μ q (Ex.refl _) st (.int _)⟩
  | [.d (.tuple ds)], ⟨n, ns, e0, q⟩, .cons r .nil =>
    subst e0
    cases r with
    | tup h1 hz h2 =>
      have e := RepAll.ints' h2
      subst e
      exact ⟨_, n, ns, rfl, .inr (st.ex.st h1), k _ B H _ μ q (Ex.refl _) st (.int _)⟩
theorem rc_min1 : RCall K (rMin1 K) fMin1 := by
  intro as vs H Q μ Qa B F h r st k
  match as, h, r with
  | [.d (.list ds)], ⟨n, ns, e0, q⟩, .cons r .nil =>
    subst e0
    cases r with
    | lst h1 hz h2 =>
      have e := RepAll.ints' h2
      subst e
      exact ⟨_, n, ns, rfl, .inl (SqL.of (st.ex _ _ h1)), k _ B H _ μ q (Ex.refl _) st (.int _)⟩
  | [.d (.tuple ds)], ⟨n, ns, e0, q⟩, .cons r .nil =>
    subst e0
    cases r with
    | tup h1 hz h2 =>
      have e := RepAll.ints' h2
      subst e
      exact ⟨_, n, ns, rfl, .inr (st.ex.st h1), k _ B H _ μ q (Ex.refl _) st (.int _)⟩

/-! ### a, b, c = e1, e2, e3 -/
theorem as_par3 {i j l : Nat} {x y z : Str} {a b c : Expr} {t : ATA} {px py pz pt pos : Pos} {kt k2 pt2} (hc : X.calm = true) (hN : X.N.Nodup) (hi : X.N[i]? = some x) (hj : X.N[j]? = some y) (hl : X.N[l]? = some z) (hij : i ≠ j) (hil : i ≠ l) (hjl : j ≠ l)
    (hx : X.env.scope.names.lookup x = some .local) (hy : X.env.scope.names.lookup y = some .local) (hz : X.env.scope.names.lookup z = some .local) (ha : PA X [a, b, c] (cA X.kw t))
    (hw : swappedStores [.Tuple [.Name x px, .Name y py, .Name z pz] kt pt] (.Tuple [a, b, c] k2 pt2) X.env = pure (some [x, y, z]))
    (hs : swapsWithSole [.Tuple [.Name x px, .Name y py, .Name z pz] kt pt] (.Tuple [a, b, c] k2 pt2) pos.line X.env = pure false := by rfl) :
    PS X (.Assign [.Tuple [.Name x px, .Name y py, .Name z pz] kt pt] (.Tuple [a, b, c] k2 pt2) pos) (cS X.kw (aPar3 i j l t)) :=
  ps_weak (ps_par3 hc hN hi hj hl hij hil hjl hx hy hz ha hw hs) fun D σ H ⟨ρ, μ, Da, B, F, h, s, st, k⟩ => by
    refine cA_bind h s st fun vs B1 H1 xs μ1 q e1 st1 r1 => ?_
    match xs, q, r1 with
    | [x, y, z], q, .cons r (.cons r' (.cons r'' .nil)) => exact ⟨_, _, _, rfl, k.nx _ μ1 _ B1 H1 q e1 ((((s.mono e1).set i r).set j r').set l r'') st1⟩
end
end Ab

set_option Elab.async false
set_option linter.all false
set_option maxRecDepth 100000
set_option maxHeartbeats 4000000
/-! AbZ: enumerate(zip(a, b)) over two tuples: zip's own tuple is let go of only sometimes. -/
namespace EZ
open PySem
open PySem.Sem (wp)
abbrev IsZipB (h : Heap) (z TI TO : Addr) (f0 : Value) (b : Bool) : Prop :=
  h.get? z = some { cls := .type "zip", dict := none, data := .fields #[f0, .bool b, .bool false, .ref TI, .ref TO], slots := #[] }
def F0 (f0 : Value) : Prop := f0 = .none ∨ ∃ T : Addr, f0 = rawInt T
section
variable {prog : Program} {w : World} {A : Around} {E : Value → Shared → Prop} {s : Shared}
theorem wpAny_alive {a : Addr} {Q : Option Obj → Shared → Prop} (h : Q (s.heap.get? a) s) : wpAny (model prog w) A (loadIfAlive a) Q E s := fun Γ p _ => by
  show Sem.wp _ _ (Sem.loadIfAlive a _) _ _ p s
  rw [Sem.wp_loadIfAlive]
  exact h
theorem owned_free {z TI TO : Addr} {f0 : Value} {b : Bool} {Q : Bool → Shared → Prop} (hz : IsZipB s.heap z TI TO f0 b) (hf : F0 f0) (h1 : Q true s)
    (h2 : ∀ h', IsZipB h' z TI TO f0 true → Heap.SameBut z s.heap h' → Q false { s with heap := h' }) : wpAny (model prog w) A (Builtin.SmallTypes.ownedTupleIsFree (.ref z)) Q E s := by
  unfold Builtin.SmallTypes.ownedTupleIsFree
  refine wpAny_bind (wpAny_field hz rfl (x := f0) rfl ?_)
  rcases hf with rfl | ⟨T, rfl⟩
  · exact wpAny_pure h1
  · show wpAny _ _ (loadIfAlive (Int.toNat (T : Nat)) >>= _) Q E s
    refine wpAny_bind (wpAny_alive ?_)
    cases hT : s.heap.get? (Int.toNat (T : Nat)) with
    | none => exact wpAny_pure h1
    | some o =>
      show wpAny _ _ (field (.ref z) 1 >>= _) Q E s
      refine wpAny_bind (wpAny_field hz rfl (x := .bool b) rfl ?_)
      cases b with
      | true => exact wpAny_pure (h2 _ hz ⟨rfl, fun _ _ => rfl⟩)
      | false =>
        show wpAny _ _ (setField (.ref z) 1 (.bool true) >>= _) Q E s
        exact wpAny_bind (wpAny_setField_rec hz (by simp) fun h₁ hz₁ hs₁ => wpAny_pure (h2 h₁ hz₁ hs₁))

theorem zipB_item {z TI TO i1 i2 l1 l2 : Addr} {k1 k2 : Nat} {xs ys : Array Value} {x y a b f0 : Value} {f1 : Bool} {Q : Value → Shared → Prop} (D : ZipApart z TI TO i1 i2 l1 l2)
    (hz : IsZipB s.heap z TI TO f0 f1) (hf : F0 f0) (hTI : IsPair s.heap TI (.ref i1) (.ref i2)) (hTO : IsPair s.heap TO a b)
    (h1 : s.heap.IsTupleIter i1 l1 k1) (h2 : s.heap.IsTupleIter i2 l2 k2) (hl1 : s.heap.IsTuple l1 xs) (hl2 : s.heap.IsTuple l2 ys) (hx : xs[k1]? = some x) (hy : ys[k2]? = some y)
    (hQ : ∀ h' g0 g1, IsZipB h' z TI TO g0 g1 → F0 g0 → (∃ a b, IsPair h' TO a b) → h'.IsTupleIter i1 l1 (k1 + 1) → h'.IsTupleIter i2 l2 (k2 + 1) → IsPair h' s.heap.objs.size x y → h'.objs.size = s.heap.objs.size + 1 →
      (∀ c o, c ≠ z → c ≠ TO → c ≠ i1 → c ≠ i2 → s.heap.get? c = some o → h'.get? c = some o) → Q (.ref s.heap.objs.size) { s with heap := h' }) :
    wpAny (model prog w) A (Builtin.«zip.__next__» ⟨[.ref z], []⟩) (fun fin s' => ∃ v, fin = .done (.ret v) ∧ Q v s') E s := by
  show wpAny _ _ (field (.ref z) 2 >>= _) _ _ _
  refine wpAny_bind (wpAny_field hz rfl (x := .bool false) rfl ?_)
  show wpAny _ _ (field (.ref z) 3 >>= _) _ _ _
  refine wpAny_bind (wpAny_field hz rfl (x := .ref TI) rfl ?_)
  refine wpAny_bind (wpAny_seqItems hTI rfl ?_)
  show wpAny _ _ (Builtin.SmallTypes.ownedTupleIsFree (.ref z) >>= _) _ _ _
  refine wpAny_bind (owned_free hz hf ?_ ?_)
  · simp only [if_true]
    refine wpAny_bind (wpAny_rule ?_)
    refine wpAny_bind (wpAny_field hz rfl (x := .ref TO) rfl ?_)
    refine wpAny_bind (wpAny_setField_rec hz (by simp) fun h₁ hz₁ hs₁ => ?_)
    replace hz₁ : IsZipB h₁ z TI TO .ellipsis f1 := hz₁
    refine wpAny_bind ?_
    simp only [List.zipIdx_cons, List.zipIdx_nil, List.forIn_cons, List.forIn_nil]
    refine wpAny_bind (wpAny_bind (wpAny_onRaise ?_))
    show wpAny _ _ (Builtin.SmallTypes.nextOf (.ref i1) >>= _) _ _ _
    refine wpAny_bind (RZ.nextOf_tuple_item (h1.extBut hs₁.extBut D.i1z) (hl1.extBut hs₁.extBut D.l1z) hx fun h₂ h1₂ hs₂ => wpAny_pure ?_)
    have hTO₂ : IsPair h₂ TO a b := hs₂.extBut _ _ D.TOi1 (hs₁.extBut _ _ D.TOz hTO)
    refine wpAny_bind (wpAny_seqItems hTO₂ rfl ?_)
    refine wpAny_bind (wpAny_updateSeq_pair hTO₂ fun h₃ hTO₃ hs₃ => ?_)
    replace hTO₃ : IsPair h₃ TO x b := hTO₃
    refine wpAny_bind (wpAny_letGo (wpAny_pure ?_))
    refine wpAny_bind (wpAny_bind (wpAny_onRaise ?_))
    show wpAny _ _ (Builtin.SmallTypes.nextOf (.ref i2) >>= _) _ _ _
    refine wpAny_bind (RZ.nextOf_tuple_item (((h2.extBut hs₁.extBut D.i2z).extBut hs₂.extBut D.i12.symm).extBut hs₃.extBut D.TOi2.symm)
      (((hl2.extBut hs₁.extBut D.l2z).extBut hs₂.extBut D.l2i1).extBut hs₃.extBut D.l2TO) hy fun h₄ h2₄ hs₄ => wpAny_pure ?_)
    have hTO₄ : IsPair h₄ TO x b := hs₄.extBut _ _ D.TOi2 hTO₃
    refine wpAny_bind (wpAny_seqItems hTO₄ rfl ?_)
    refine wpAny_bind (wpAny_updateSeq_pair hTO₄ fun h₅ hTO₅ hs₅ => ?_)
    replace hTO₅ : IsPair h₅ TO x y := hTO₅
    refine wpAny_bind (wpAny_letGo (wpAny_pure (wpAny_pure ?_)))
    refine wpAny_bind (wpAny_seqItems hTO₅ rfl ?_)
    refine wpAny_bind (wpAny_newTuple ?_)
    have hsz : h₅.objs.size = s.heap.objs.size := by rw [hs₅.1, hs₄.1, hs₃.1, hs₂.1, hs₁.1]
    have hz₅ : IsZipB h₅ z TI TO .ellipsis f1 := hs₅.extBut _ _ D.TOz.symm (hs₄.extBut _ _ D.i2z.symm (hs₃.extBut _ _ D.TOz.symm (hs₂.extBut _ _ D.i1z.symm hz₁)))
    have hk₅ : ∀ c o, c ≠ z → c ≠ TO → c ≠ i1 → c ≠ i2 → s.heap.get? c = some o → h₅.get? c = some o := fun c o c1 c2 c3 c4 e =>
      hs₅.extBut _ _ c2 (hs₄.extBut _ _ c4 (hs₃.extBut _ _ c2 (hs₂.extBut _ _ c3 (hs₁.extBut _ _ c1 e))))
    have h1₅ : h₅.IsTupleIter i1 l1 (k1 + 1) := ((h1₂.extBut hs₃.extBut D.TOi1.symm).extBut hs₄.extBut D.i12).extBut hs₅.extBut D.TOi1.symm
    have h2₅ : h₅.IsTupleIter i2 l2 (k2 + 1) := h2₄.extBut hs₅.extBut D.TOi2.symm
    have hzlt : z < h₅.objs.size := Heap.lt_size hz₅
    show wpAny _ _ (Builtin.SmallTypes.ownedTupleHandOut (.ref z) (.ref h₅.objs.size) >>= _) _ _ _
    refine wpAny_bind ?_
    unfold Builtin.SmallTypes.ownedTupleHandOut
    have hz₆ : IsZipB (h₅.push { cls := .type "tuple", data := .seq #[x, y] }) z TI TO .ellipsis f1 := Heap.get?_push_of_some _ hz₅
    refine wpAny_bind (wpAny_setField_rec hz₆ (by simp) fun h₇ hz₇ hs₇ => ?_)
    replace hz₇ : IsZipB h₇ z TI TO (rawInt h₅.objs.size) f1 := hz₇
    refine wpAny_setField_rec hz₇ (by simp) fun h₈ hz₈ hs₈ => ?_
    replace hz₈ : IsZipB h₈ z TI TO (rawInt h₅.objs.size) false := hz₈
    have up : ∀ c o, c ≠ z → h₅.get? c = some o → h₈.get? c = some o := fun c o c1 e => hs₈.extBut _ _ c1 (hs₇.extBut _ _ c1 (Heap.get?_push_of_some _ e))
    have hT₈ : IsPair h₈ h₅.objs.size x y := hs₈.extBut _ _ (Nat.ne_of_gt hzlt) (hs₇.extBut _ _ (Nat.ne_of_gt hzlt) (Heap.get?_push_size _ rfl))
    have hz8 : h₈.objs.size = h₅.objs.size + 1 := by rw [hs₈.1, hs₇.1, Heap.size_push]
    rw [hsz] at hz₈ hT₈ hz8
    refine wpAny_pure ⟨_, rfl, ?_⟩
    show Q (.ref h₅.objs.size) _
    rw [hsz]
    exact hQ h₈ _ _ hz₈ (.inr ⟨_, rfl⟩) ⟨_, _, up _ _ D.TOz hTO₅⟩ (h1₅.at fun o e => up _ o D.i1z e) (h2₅.at fun o e => up _ o D.i2z e) hT₈ hz8 fun c o c1 c2 c3 c4 e => up c o c1 (hk₅ c o c1 c2 c3 c4 e)
  · intro h₁ hz₁ hs₁
    simp only [Bool.false_eq_true, if_false]
    refine wpAny_bind ?_
    rw [← Array.forIn_toList]
    simp only [List.forIn_cons, List.forIn_nil]
    refine wpAny_bind (wpAny_bind (wpAny_holding ?_))
    show wpAny _ _ (Builtin.SmallTypes.nextOf (.ref i1) >>= _) _ _ _
    refine wpAny_bind (RZ.nextOf_tuple_item (h1.extBut hs₁.extBut D.i1z) (hl1.extBut hs₁.extBut D.l1z) hx fun h₂ h1₂ hs₂ => wpAny_pure (wpAny_pure ?_))
    refine wpAny_bind (wpAny_bind (wpAny_holding ?_))
    show wpAny _ _ (Builtin.SmallTypes.nextOf (.ref i2) >>= _) _ _ _
    refine wpAny_bind (RZ.nextOf_tuple_item ((h2.extBut hs₁.extBut D.i2z).extBut hs₂.extBut D.i12.symm) ((hl2.extBut hs₁.extBut D.l2z).extBut hs₂.extBut D.l2i1) hy fun h₄ h2₄ hs₄ => wpAny_pure (wpAny_pure ?_))
    refine wpAny_pure ?_
    refine wpAny_bind (wpAny_newTuple ?_ (hsz := by show 2 ≤ sizeLine; decide))
    have hsz : h₄.objs.size = s.heap.objs.size := by rw [hs₄.1, hs₂.1, hs₁.1]
    have up : ∀ c o, c ≠ z → c ≠ i1 → c ≠ i2 → s.heap.get? c = some o → (h₄.push { cls := .type "tuple", data := .seq #[x, y] }).get? c = some o := fun c o c1 c3 c4 e =>
      Heap.get?_push_of_some _ (hs₄.extBut _ _ c4 (hs₂.extBut _ _ c3 (hs₁.extBut _ _ c1 e)))
    refine wpAny_pure ⟨_, rfl, ?_⟩
    have hT : IsPair (h₄.push { cls := .type "tuple", data := .seq #[x, y] }) h₄.objs.size x y := Heap.get?_push_size _ rfl
    show Q (.ref h₄.objs.size) _
    rw [hsz] at hT
    rw [hsz]
    exact hQ _ f0 true (Heap.get?_push_of_some _ (hs₄.extBut _ _ D.i2z.symm (hs₂.extBut _ _ D.i1z.symm hz₁))) hf ⟨_, _, up _ _ D.TOz D.TOi1 D.TOi2 hTO⟩ ((h1₂.extBut hs₄.extBut D.i12).at fun o e => Heap.get?_push_of_some _ e) (h2₄.at fun o e => Heap.get?_push_of_some _ e) hT
      (by rw [Heap.size_push, hsz]) fun c o c1 c2 c3 c4 e => up c o c1 c3 c4 e

theorem zipB_end {z TI TO i1 i2 l1 l2 : Addr} {k1 k2 : Nat} {xs ys : Array Value} {a b f0 : Value} {f1 : Bool} {Q : Fin → Shared → Prop} (hh : A.handled = none) (D : ZipApart z TI TO i1 i2 l1 l2)
    (hz : IsZipB s.heap z TI TO f0 f1) (hf : F0 f0) (hTI : IsPair s.heap TI (.ref i1) (.ref i2)) (hTO : IsPair s.heap TO a b)
    (h1 : s.heap.IsTupleIter i1 l1 k1) (h2 : s.heap.IsTupleIter i2 l2 k2) (hl1 : s.heap.IsTuple l1 xs) (hl2 : s.heap.IsTuple l2 ys) (hend : xs[k1]? = none ∨ ys[k2]? = none)
    (hE : ∀ h' e, (∀ c o, c ≠ z → c ≠ TO → c ≠ i1 → c ≠ i2 → s.heap.get? c = some o → h'.get? c = some o) → (∃ o, h'.get? e = some o ∧ o.cls = .type "StopIteration") → E (.ref e) { s with heap := h' }) :
    wpAny (model prog w) A (Builtin.«zip.__next__» ⟨[.ref z], []⟩) Q E s := by
  show wpAny _ _ (field (.ref z) 2 >>= _) _ _ _
  refine wpAny_bind (wpAny_field hz rfl (x := .bool false) rfl ?_)
  show wpAny _ _ (field (.ref z) 3 >>= _) _ _ _
  refine wpAny_bind (wpAny_field hz rfl (x := .ref TI) rfl ?_)
  refine wpAny_bind (wpAny_seqItems hTI rfl ?_)
  show wpAny _ _ (Builtin.SmallTypes.ownedTupleIsFree (.ref z) >>= _) _ _ _
  refine wpAny_bind (owned_free hz hf ?_ ?_)
  · simp only [if_true]
    refine wpAny_bind (wpAny_rule ?_)
    refine wpAny_bind (wpAny_field hz rfl (x := .ref TO) rfl ?_)
    refine wpAny_bind (wpAny_setField_rec hz (by simp) fun h₁ hz₁ hs₁ => ?_)
    replace hz₁ : IsZipB h₁ z TI TO .ellipsis f1 := hz₁
    refine wpAny_bind ?_
    simp only [List.zipIdx_cons, List.zipIdx_nil, List.forIn_cons, List.forIn_nil]
    refine wpAny_bind (wpAny_bind (wpAny_onRaise ?_))
    show wpAny _ _ (Builtin.SmallTypes.nextOf (.ref i1) >>= _) _ _ _
    cases hx : xs[k1]? with
    | none =>
      refine wpAny_bind (RZ.nextOf_tuple_end hh (h1.extBut hs₁.extBut D.i1z) (hl1.extBut hs₁.extBut D.l1z) hx fun h₂ e hs₂ he => ?_)
      obtain ⟨oe, hoe, hce⟩ := he
      have hz₂ : IsZipB h₂ z TI TO .ellipsis f1 := hs₂ _ _ D.i1z.symm hz₁
      have hez : e ≠ z := fun x => by subst x; rw [hz₂] at hoe; cases hoe; simp at hce
      refine wpAny_setField_rec hz₂ (by simp) fun h₃ _ hs₃ => hE h₃ e (fun c o c1 _ c3 _ x => hs₃.extBut _ _ c1 (hs₂ _ _ c3 (hs₁.extBut _ _ c1 x))) ⟨oe, hs₃.extBut _ _ hez hoe, hce⟩
    | some x =>
      have hy : ys[k2]? = none := by rcases hend with h | h; rw [hx] at h; cases h; exact h
      refine wpAny_bind (RZ.nextOf_tuple_item (h1.extBut hs₁.extBut D.i1z) (hl1.extBut hs₁.extBut D.l1z) hx fun h₂ h1₂ hs₂ => wpAny_pure ?_)
      have hTO₂ : IsPair h₂ TO a b := hs₂.extBut _ _ D.TOi1 (hs₁.extBut _ _ D.TOz hTO)
      refine wpAny_bind (wpAny_seqItems hTO₂ rfl ?_)
      refine wpAny_bind (wpAny_updateSeq_pair hTO₂ fun h₃ hTO₃ hs₃ => ?_)
      refine wpAny_bind (wpAny_letGo (wpAny_pure ?_))
      refine wpAny_bind (wpAny_bind (wpAny_onRaise ?_))
      show wpAny _ _ (Builtin.SmallTypes.nextOf (.ref i2) >>= _) _ _ _
      refine wpAny_bind (RZ.nextOf_tuple_end hh (((h2.extBut hs₁.extBut D.i2z).extBut hs₂.extBut D.i12.symm).extBut hs₃.extBut D.TOi2.symm)
        (((hl2.extBut hs₁.extBut D.l2z).extBut hs₂.extBut D.l2i1).extBut hs₃.extBut D.l2TO) hy fun h₄ e hs₄ he => ?_)
      obtain ⟨oe, hoe, hce⟩ := he
      have hz₄ : IsZipB h₄ z TI TO .ellipsis f1 := hs₄ _ _ D.i2z.symm (hs₃.extBut _ _ D.TOz.symm (hs₂.extBut _ _ D.i1z.symm hz₁))
      have hez : e ≠ z := fun x => by subst x; rw [hz₄] at hoe; cases hoe; simp at hce
      refine wpAny_setField_rec hz₄ (by simp) fun h₅ _ hs₅ => hE h₅ e (fun c o c1 c2 c3 c4 x => hs₅.extBut _ _ c1 (hs₄ _ _ c4 (hs₃.extBut _ _ c2 (hs₂.extBut _ _ c3 (hs₁.extBut _ _ c1 x))))) ⟨oe, hs₅.extBut _ _ hez hoe, hce⟩
  · intro h₁ hz₁ hs₁
    simp only [Bool.false_eq_true, if_false]
    refine wpAny_bind ?_
    rw [← Array.forIn_toList]
    simp only [List.forIn_cons, List.forIn_nil]
    refine wpAny_bind (wpAny_bind (wpAny_holding ?_))
    show wpAny _ _ (Builtin.SmallTypes.nextOf (.ref i1) >>= _) _ _ _
    cases hx : xs[k1]? with
    | none =>
      refine wpAny_bind (RZ.nextOf_tuple_end hh (h1.extBut hs₁.extBut D.i1z) (hl1.extBut hs₁.extBut D.l1z) hx fun h₂ e hs₂ he => ?_)
      exact hE h₂ e (fun c o c1 _ c3 _ x => hs₂ _ _ c3 (hs₁.extBut _ _ c1 x)) he
    | some x =>
      have hy : ys[k2]? = none := by rcases hend with h | h; rw [hx] at h; cases h; exact h
      refine wpAny_bind (RZ.nextOf_tuple_item (h1.extBut hs₁.extBut D.i1z) (hl1.extBut hs₁.extBut D.l1z) hx fun h₂ h1₂ hs₂ => wpAny_pure (wpAny_pure ?_))
      refine wpAny_bind (wpAny_bind (wpAny_holding ?_))
      show wpAny _ _ (Builtin.SmallTypes.nextOf (.ref i2) >>= _) _ _ _
      refine wpAny_bind (RZ.nextOf_tuple_end hh ((h2.extBut hs₁.extBut D.i2z).extBut hs₂.extBut D.i12.symm) ((hl2.extBut hs₁.extBut D.l2z).extBut hs₂.extBut D.l2i1) hy fun h₄ e hs₄ he => ?_)
      exact hE h₄ e (fun c o c1 _ c3 c4 x => hs₄ _ _ c4 (hs₂.extBut _ _ c3 (hs₁.extBut _ _ c1 x))) he

/-- what stands between turns -/
structure Zst (h : Heap) (z TI TO i1 i2 l1 l2 : Addr) (i : Nat) : Prop where
  zip : ∃ f0 f1, IsZipB h z TI TO f0 f1 ∧ F0 f0
  ti : IsPair h TI (.ref i1) (.ref i2)
  to : ∃ a b, IsPair h TO a b
  it1 : h.IsTupleIter i1 l1 i
  it2 : h.IsTupleIter i2 l2 i
theorem Zst.at {h h' : Heap} {z TI TO i1 i2 l1 l2 : Addr} {i : Nat} (st : Zst h z TI TO i1 i2 l1 l2 i) (k : ∀ b ∈ [z, TI, TO, i1, i2], ∀ o, h.get? b = some o → h'.get? b = some o) : Zst h' z TI TO i1 i2 l1 l2 i := by
  obtain ⟨⟨f0, f1, hz, hf⟩, hTI, ⟨x, y, hTO⟩, h1, h2⟩ := st
  exact ⟨⟨f0, f1, k z (by simp) _ hz, hf⟩, k TI (by simp) _ hTI, ⟨x, y, k TO (by simp) _ hTO⟩, h1.at fun o q => k i1 (by simp) o q, h2.at fun o q => k i2 (by simp) o q⟩
theorem nextOf_zip_item {z TI TO i1 i2 l1 l2 : Addr} {k : Nat} {xs ys : Array Value} {x y : Value} {Q : Value → Shared → Prop} (D : ZipApart z TI TO i1 i2 l1 l2)
    (st : Zst s.heap z TI TO i1 i2 l1 l2 k) (hl1 : s.heap.IsTuple l1 xs) (hl2 : s.heap.IsTuple l2 ys) (hx : xs[k]? = some x) (hy : ys[k]? = some y)
    (hQ : ∀ h', Zst h' z TI TO i1 i2 l1 l2 (k + 1) → IsPair h' s.heap.objs.size x y → h'.objs.size = s.heap.objs.size + 1 →
      (∀ c o, c ≠ z → c ≠ TO → c ≠ i1 → c ≠ i2 → s.heap.get? c = some o → h'.get? c = some o) → Q (.ref s.heap.objs.size) { s with heap := h' }) :
    wpAny (model prog w) A (Builtin.SmallTypes.nextOf (.ref z)) Q E s := by
  obtain ⟨⟨f0, f1, hz, hf⟩, hTI, ⟨a, b, hTO⟩, h1, h2⟩ := st
  have hT : s.TypeIs (.ref z) "zip" := ⟨_, hz, rfl⟩
  unfold Builtin.SmallTypes.nextOf
  refine wpAny_bind (wpAny_callSpecial?_slot (name := Str.ofString "__next__") hT F.slot_zip_next
    (wpAny_call_entry F.slot_zip_next hT F.entry_zip_next (zipB_item D hz hf hTI hTO h1 h2 hl1 hl2 hx hy fun h' g0 g1 a1 a2 a3 a4 a5 a6 a7 a8 => wpAny_pure (hQ h' ⟨⟨g0, g1, a1, a2⟩, a8 _ _ D.TIz D.TITO D.TIi1 D.TIi2 hTI, a3, a4, a5⟩ a6 a7 a8)) (F.args_zip_next_1 _)))
theorem nextOf_zip_end {z TI TO i1 i2 l1 l2 : Addr} {k : Nat} {xs ys : Array Value} {Q : Value → Shared → Prop} (hh : A.handled = none) (D : ZipApart z TI TO i1 i2 l1 l2)
    (st : Zst s.heap z TI TO i1 i2 l1 l2 k) (hl1 : s.heap.IsTuple l1 xs) (hl2 : s.heap.IsTuple l2 ys) (hend : xs[k]? = none ∨ ys[k]? = none)
    (hE : ∀ h' e, (∀ c o, c ≠ z → c ≠ TO → c ≠ i1 → c ≠ i2 → s.heap.get? c = some o → h'.get? c = some o) → (∃ o, h'.get? e = some o ∧ o.cls = .type "StopIteration") → E (.ref e) { s with heap := h' }) :
    wpAny (model prog w) A (Builtin.SmallTypes.nextOf (.ref z)) Q E s := by
  obtain ⟨⟨f0, f1, hz, hf⟩, hTI, ⟨a, b, hTO⟩, h1, h2⟩ := st
  have hT : s.TypeIs (.ref z) "zip" := ⟨_, hz, rfl⟩
  unfold Builtin.SmallTypes.nextOf
  refine wpAny_bind (wpAny_callSpecial?_slot (name := Str.ofString "__next__") hT F.slot_zip_next
    (wpAny_call_entry F.slot_zip_next hT F.entry_zip_next (zipB_end hh D hz hf hTI hTO h1 h2 hl1 hl2 hend hE) (F.args_zip_next_1 _)))

theorem enumz_item {e z TI TO i1 i2 l1 l2 : Addr} {k : Nat} {xs ys : Array Value} {x y old : Value} {Q : Value → Shared → Prop} (D : ZipApart z TI TO i1 i2 l1 l2) (he : IsEnum s.heap e z (k : Nat) old)
    (st : Zst s.heap z TI TO i1 i2 l1 l2 k) (hl1 : s.heap.IsTuple l1 xs) (hl2 : s.heap.IsTuple l2 ys) (hx : xs[k]? = some x) (hy : ys[k]? = some y) (hef : e ∉ [z, TI, TO, i1, i2])
    (hQ : ∀ h', IsEnumOut h' e z ((k : Int) + 1) (.ref s.heap.objs.size) (s.heap.objs.size + 1) → Zst h' z TI TO i1 i2 l1 l2 (k + 1) → IsPair h' s.heap.objs.size x y →
      IsPair h' (s.heap.objs.size + 1) (.int (k : Nat) s.toks) (.ref s.heap.objs.size) → h'.objs.size = s.heap.objs.size + 2 →
      (∀ c o, c ≠ e → c ≠ z → c ≠ TO → c ≠ i1 → c ≠ i2 → s.heap.get? c = some o → h'.get? c = some o) → Q (.ref (s.heap.objs.size + 1)) { s with heap := h', toks := s.toks + 1 }) :
    wpAny (model prog w) A (Builtin.«enumerate.__next__» ⟨[.ref e], []⟩) (fun fin s' => ∃ v, fin = .done (.ret v) ∧ Q v s') E s := by
  obtain ⟨hp, g, d, tk, os⟩ := s
  have hel : e < hp.objs.size := Heap.lt_size he
  have hez : e ≠ z := fun q => hef (by simp [q])
  have heTO : e ≠ TO := fun q => hef (by simp [q])
  have he1 : e ≠ i1 := fun q => hef (by simp [q])
  have he2 : e ≠ i2 := fun q => hef (by simp [q])
  show wpAny _ _ (field (.ref e) 2 >>= _) _ _ _
  refine wpAny_bind (wpAny_field he rfl (x := .ref z) rfl ?_)
  refine wpAny_bind (nextOf_zip_item D st hl1 hl2 hx hy fun h₁ st₁ hT₁ hz₁ hs₁ => ?_)
  replace hs₁ : ∀ c o, c ≠ z → c ≠ TO → c ≠ i1 → c ≠ i2 → hp.get? c = some o → h₁.get? c = some o := hs₁
  replace hT₁ : IsPair h₁ hp.objs.size x y := hT₁
  replace hz₁ : h₁.objs.size = hp.objs.size + 1 := hz₁
  have he₁ : IsEnum h₁ e z (k : Nat) old := hs₁ _ _ hez heTO he1 he2 he
  show wpAny _ _ (field (.ref e) 3 >>= _) _ _ ⟨h₁, g, d, tk, os⟩
  refine wpAny_bind (wpAny_field he₁ rfl (x := rawInt (k : Nat)) rfl ?_)
  show wpAny _ _ (field (.ref e) 4 >>= _) _ _ ⟨h₁, g, d, tk, os⟩
  refine wpAny_bind (wpAny_field he₁ rfl (x := .none) rfl ?_)
  show wpAny _ _ (mkInt (k : Nat) >>= _) _ _ ⟨h₁, g, d, tk, os⟩
  refine wpAny_bind (wpAny_mkInt ?_)
  show wpAny _ _ (setField (.ref e) 3 (rawInt ((k : Int) + 1)) >>= _) _ _ ⟨h₁, g, d, tk + 1, os⟩
  refine wpAny_bind (wpAny_setField_rec he₁ (by simp) fun h₂ he₂ hs₂ => ?_)
  replace hs₂ : Heap.SameBut e h₁ h₂ := hs₂
  replace he₂ : IsEnum h₂ e z ((k : Int) + 1) old := he₂
  show wpAny _ _ (setField (.ref e) 4 .none >>= _) _ _ ⟨h₂, g, d, tk + 1, os⟩
  refine wpAny_bind (wpAny_setField_rec he₂ (by simp) fun h₃ he₃ hs₃ => ?_)
  replace hs₃ : Heap.SameBut e h₂ h₃ := hs₃
  replace he₃ : IsEnum h₃ e z ((k : Int) + 1) old := he₃
  show wpAny _ _ (newTuple [.int (k : Nat) tk, .ref hp.objs.size] >>= _) _ _ ⟨h₃, g, d, tk + 1, os⟩
  refine wpAny_bind (wpAny_newTuple ?_)
  have he₄ : IsEnum (h₃.push { cls := .type "tuple", data := .seq #[.int (k : Nat) tk, .ref hp.objs.size] }) e z ((k : Int) + 1) old := Heap.get?_push_of_some _ he₃
  have hsz : h₃.objs.size = hp.objs.size + 1 := by rw [hs₃.1, hs₂.1, hz₁]
  have ht₄ : (h₃.push { cls := .type "tuple", data := .seq #[.int (k : Nat) tk, .ref hp.objs.size] }).get? (hp.objs.size + 1) = some { cls := .type "tuple", data := .seq #[.int (k : Nat) tk, .ref hp.objs.size] } := by rw [← hsz]; exact Heap.get?_push_size _ rfl
  have hz₄ : (h₃.push { cls := .type "tuple", data := .seq #[.int (k : Nat) tk, .ref hp.objs.size] }).objs.size = hp.objs.size + 2 := by rw [Heap.size_push, hsz]
  have k₄ : ∀ b o, b ≠ e → h₁.get? b = some o → (h₃.push { cls := .type "tuple", data := .seq #[.int (k : Nat) tk, .ref hp.objs.size] }).get? b = some o := fun b o hbe hb => Heap.get?_push_of_some _ (hs₃.extBut b o hbe (hs₂.extBut b o hbe hb))
  generalize h₃.push { cls := .type "tuple", data := .seq #[.int (k : Nat) tk, .ref hp.objs.size] } = h₄ at he₄ ht₄ hz₄ k₄
  show wpAny _ _ (Builtin.SmallTypes.ownedTupleIsFree (.ref e) >>= _) _ _ ⟨h₄, g, d, tk + 1, os⟩
  rw [hsz]
  refine wpAny_bind ?_
  · unfold Builtin.SmallTypes.ownedTupleIsFree
    refine wpAny_bind (wpAny_field he₄ rfl (x := .none) rfl (wpAny_pure ?_))
    simp only [if_true]
    refine wpAny_bind (wpAny_rule ?_)
    refine wpAny_bind (wpAny_field he₄ rfl (x := old) rfl ?_)
    refine wpAny_bind (wpAny_setField_rec he₄ (by simp) fun h₅ he₅ hs₅ => ?_)
    replace hs₅ : Heap.SameBut e h₄ h₅ := hs₅
    replace he₅ : IsEnum h₅ e z ((k : Int) + 1) (.ref hp.objs.size) := he₅
    show wpAny _ _ (Builtin.SmallTypes.ownedTupleHandOut (.ref e) (.ref (hp.objs.size + 1)) >>= _) _ _ ⟨h₅, g, d, tk + 1, os⟩
    refine wpAny_bind ?_
    · unfold Builtin.SmallTypes.ownedTupleHandOut
      refine wpAny_bind (wpAny_setField_rec he₅ (by simp) fun h₆ he₆ hs₆ => ?_)
      replace hs₆ : Heap.SameBut e h₅ h₆ := hs₆
      replace he₆ : IsEnumOut h₆ e z ((k : Int) + 1) (.ref hp.objs.size) (hp.objs.size + 1) := he₆
      refine wpAny_setField_rec he₆ (by simp) fun h₇ he₇ hs₇ => ?_
      replace hs₇ : Heap.SameBut e h₆ h₇ := hs₇
      replace he₇ : IsEnumOut h₇ e z ((k : Int) + 1) (.ref hp.objs.size) (hp.objs.size + 1) := he₇
      have k₇ : ∀ b o, b ≠ e → h₄.get? b = some o → h₇.get? b = some o := fun b o hbe y => hs₇.extBut b o hbe (hs₆.extBut b o hbe (hs₅.extBut b o hbe y))
      refine wpAny_bind (wpAny_letGo (wpAny_pure ⟨_, rfl, hQ h₇ he₇ ?_ ?_ ?_ ?_ ?_⟩))
      · exact st₁.at fun b hb o y => have hbe : b ≠ e := fun q => hef (q ▸ hb); k₇ b o hbe (k₄ b o hbe y)
      · exact k₇ _ _ (Nat.ne_of_gt hel) (k₄ _ _ (Nat.ne_of_gt hel) hT₁)
      · exact k₇ _ _ (Nat.ne_of_gt (Nat.lt_succ_of_lt hel)) ht₄
      · rw [hs₇.1, hs₆.1, hs₅.1, hz₄]
      · exact fun c o c0 c1 c2 c3 c4 q => k₇ c o c0 (k₄ c o c0 (hs₁ c o c1 c2 c3 c4 q))
theorem pyNext_enumz_item {e z TI TO i1 i2 l1 l2 : Addr} {k : Nat} {xs ys : Array Value} {x y old : Value} {Q : Option Value → Shared → Prop} (D : ZipApart z TI TO i1 i2 l1 l2) (he : IsEnum s.heap e z (k : Nat) old)
    (st : Zst s.heap z TI TO i1 i2 l1 l2 k) (hl1 : s.heap.IsTuple l1 xs) (hl2 : s.heap.IsTuple l2 ys) (hx : xs[k]? = some x) (hy : ys[k]? = some y) (hef : e ∉ [z, TI, TO, i1, i2])
    (hQ : ∀ h', IsEnumOut h' e z ((k : Int) + 1) (.ref s.heap.objs.size) (s.heap.objs.size + 1) → Zst h' z TI TO i1 i2 l1 l2 (k + 1) → IsPair h' s.heap.objs.size x y →
      IsPair h' (s.heap.objs.size + 1) (.int (k : Nat) s.toks) (.ref s.heap.objs.size) → h'.objs.size = s.heap.objs.size + 2 →
      (∀ c o, c ≠ e → c ≠ z → c ≠ TO → c ≠ i1 → c ≠ i2 → s.heap.get? c = some o → h'.get? c = some o) → Q (some (.ref (s.heap.objs.size + 1))) { s with heap := h', toks := s.toks + 1 }) :
    wpAny (model prog w) A (pyNext (.ref e)) Q E s := by
  have hT : s.TypeIs (.ref e) "enumerate" := ⟨_, he, rfl⟩
  unfold pyNext
  exact wpAny_bind (wpAny_attempt (wpAny_callSpecial?_slot (name := Str.ofString "__next__") hT F.slot_enumerate_next
    (wpAny_call_entry F.slot_enumerate_next hT F.entry_enumerate_next
      (enumz_item D he st hl1 hl2 hx hy hef fun h' a b c d k q => wpAny_pure (hQ h' a b c d k q)) (F.args_enumerate_next_1 _))))
theorem pyNext_enumz_end {e z TI TO i1 i2 l1 l2 : Addr} {k : Nat} {xs ys : Array Value} {i : Int} {old : Value} {Q : Option Value → Shared → Prop} (hh : A.handled = none) (D : ZipApart z TI TO i1 i2 l1 l2) (he : IsEnum s.heap e z i old)
    (st : Zst s.heap z TI TO i1 i2 l1 l2 k) (hl1 : s.heap.IsTuple l1 xs) (hl2 : s.heap.IsTuple l2 ys) (hend : xs[k]? = none ∨ ys[k]? = none)
    (hQ : ∀ h', (∀ c o, c ≠ z → c ≠ TO → c ≠ i1 → c ≠ i2 → s.heap.get? c = some o → h'.get? c = some o) → Q none { s with heap := h' }) : wpAny (model prog w) A (pyNext (.ref e)) Q E s := by
  have hT : s.TypeIs (.ref e) "enumerate" := ⟨_, he, rfl⟩
  unfold pyNext
  refine wpAny_bind (wpAny_attempt (wpAny_callSpecial?_slot (name := Str.ofString "__next__") hT F.slot_enumerate_next
    (wpAny_call_entry F.slot_enumerate_next hT F.entry_enumerate_next ?_ (F.args_enumerate_next_1 _))))
  show wpAny _ _ (field (.ref e) 2 >>= _) _ _ _
  refine wpAny_bind (wpAny_field he rfl (x := .ref z) rfl ?_)
  refine wpAny_bind (nextOf_zip_end hh D st hl1 hl2 hend fun h' x he' hx' => ?_)
  obtain ⟨o, ho, hc⟩ := hx'
  refine wpAny_bind (wpAny_isInstance (T := "StopIteration") (b := true) ⟨o, ho, hc⟩ isSubtype_stop ?_)
  exact wpAny_pure (hQ _ he')
theorem meets_enumerate_newZ (z : Addr) :
    Meets (Builtin.«enumerate.__new__» ⟨[.type "enumerate", .ref z], []⟩) (fun _ R s => (∃ TI TO f0, IsZip s.heap z TI TO f0) ∧
      R (.ok (.ret (.ref s.heap.objs.size))) { s with heap := s.heap.push { cls := .type "enumerate", data := .fields #[.none, .bool false, .ref z, rawInt 0, .none, .none] } }) :=
  .of_wp fun prog w A R s h => by
    obtain ⟨hp, g, d, tk, os⟩ := s; obtain ⟨⟨TI, TO, f0, h1⟩, h⟩ := h
    have hsub := sub_enumerate
    have q1 : ∀ {A' : Around} {E : Value → Shared → Prop} {Q : Value → Shared → Prop}, Q (.ref z) ⟨hp, g, d, tk, os⟩ → wpAny (model prog w) A' (pyIter (.ref z)) Q E ⟨hp, g, d, tk, os⟩ :=
      fun q => wpAny_pyIter_zip h1 q
    wp_walk using q1
    refine wpAny_stack_any fun st => wpAny_pure ?_
    split
    · rename_i c _ _ _ _ _
      cases (c == Value.type "enumerate")
      · wp_walk using q1
        exact ⟨_, rfl, h⟩
      · wp_walk using q1
        exact ⟨_, rfl, h⟩
    · wp_walk using q1
      exact ⟨_, rfl, h⟩
theorem call_enumerate_zip {z TI TO : Addr} {f0 : Value} {Q : Value → Shared → Prop} (hz : IsZip s.heap z TI TO f0)
    (h : ∀ h', IsEnum h' s.heap.objs.size z 0 .none → (∀ b o, s.heap.get? b = some o → h'.get? b = some o) → Q (.ref s.heap.objs.size) { s with heap := h' }) :
    wpAny (model prog w) A (call (.type "enumerate") [.ref z]) Q E s := by
  refine callType_new F.called_enumerate (by decide) (F.typeCall_enumerate_1 _) (F.newCall_enumerate_1 _) (fun obj => F.args_object_init_2 obj _) F.entry_enumerate_new
    (meets_enumerate_newZ z) ⟨⟨_, _, _, hz⟩, ?_⟩
  have he : IsEnum (s.heap.push { cls := .type "enumerate", data := .fields #[.none, .bool false, .ref z, rawInt 0, .none, .none] }) s.heap.objs.size z 0 .none := Heap.get?_push_size _ rfl
  exact ⟨⟨_, he, rfl⟩, h _ he fun b o x => Heap.get?_push_of_some _ x⟩
end
end EZ
namespace L2
open PySem PySem.Spec PyProof.Rows
section
variable {X : Cx} {pins : List (Addr × Obj)} {σ : St} {H : Hp} {s : Shared} {h' : Heap}
theorem Inv.turnedNew2 {t' : Nat} {ch : List Addr} {T U : Addr} {ob oc : HO} (I : Inv X pins σ H s) (k : ∀ b o, b ∉ ch → s.heap.get? b = some o → h'.get? b = some o) (hf : ∀ b ∈ ch, FpOk X pins H b) (hT : s.heap.objs.size ≤ T) (hU : s.heap.objs.size ≤ U) (hTU : T ≠ U)
    (new : ObjOk X.prog X.w (upd (upd H T ob) U oc) h' T ob) (new2 : ObjOk X.prog X.w (upd (upd H T ob) U oc) h' U oc) : Inv X pins σ (upd (upd H T ob) U oc) { s with heap := h', toks := t' } := by
  have hn : H T = none := I.hok.fresh hT
  have hn2 : H U = none := I.hok.fresh hU
  have u1 : ∀ {b o}, H b = some o → upd (upd H T ob) U oc b = some o := fun {b o} e => by
    rw [upd_ne (ne_of_none e hn2), upd_ne (ne_of_none e hn)]; exact e
  have nit : ∀ b u, H b = some u → b ∉ ch := fun b u e z => by
    have q := (hf b z).1
    rw [q] at e; cases e
  refine I.step (g' := s.gens) (d' := s.drawn) (ch := ch) (fun b hb => ⟨(hf b hb).2.2.2.1, (hf b hb).2.1, (hf b hb).2.2.2.2.1, (hf b hb).2.2.2.2.2⟩) (fun b o _ _ hc e _ => k b o hc e) (fun b o _ _ hc e _ => ⟨o.slots, k b o hc e⟩)
    (fun b o _ e n => ?_) (fun b o hc e => ⟨o, k b o hc e⟩) (fun b xs e => u1 e) (fun b o u e => u1 e) (fun b ps e => ⟨#[], ?_⟩) (fun m hm => ?_) (fun b u e => ?_) I.bare
  · rw [upd_ne (Nat.ne_of_lt (Nat.lt_of_lt_of_le (Heap.lt_size e) hU)), upd_ne (Nat.ne_of_lt (Nat.lt_of_lt_of_le (Heap.lt_size e) hT))]; exact n
  · rw [u1 e]; simp
  · obtain ⟨o, es, ep, ho, r⟩ := hm
    exact ⟨o, es, ep, k _ o (fun z => (hf _ z).2.1 rfl) ho, r⟩
  · by_cases hb : b = U
    · subst hb
      rw [upd_same] at e
      cases e
      exact new2
    · rw [upd_ne hb] at e
      by_cases hb2 : b = T
      · subst hb2
        rw [upd_same] at e
        cases e
        exact new
      · rw [upd_ne hb2] at e
        refine (I.hok b u e).stay (fun c v hc q => k c v ?_ q) (fun c q => u1 q) fun c xs q => u1 q
        rcases hc with z | z
        · rw [z]; exact nit b u e
        · exact nit c _ z
end
/-- the tuples at a and b as they stand at each turn, the items in new pairs, counted, in new pairs -/
def Itez (K : PySem.W.Frag) (a b : Addr) : It :=
  ⟨fun i H => ∃ (xs ys : List V) (x y : V), SqT K H a xs ∧ SqT K H b ys ∧ xs[i]? = some x ∧ ys[i]? = some y,
    fun i H v H' => ∃ T U x y, v = .ref U ∧ H T = none ∧ (upd H T (.tup [x, y])) U = none ∧ H' = upd (upd H T (.tup [x, y])) U (.tup [.int (i : Nat), .ref T]) ∧ (∀ xs, SqT K H a xs → xs[i]? = some x) ∧ ∀ ys, SqT K H b ys → ys[i]? = some y,
    fun i H => ∃ xs ys : List V, SqT K H a xs ∧ SqT K H b ys ∧ (xs.length ≤ i ∨ ys.length ≤ i)⟩
theorem turn_enumzip {P : Program} {w : World} {K : PySem.W.Frag} {elts : List Expr} {kk : Nat} {tpos : Pos} {a b e z TI TO i1 i2 : Addr} (D : ZipApart z TI TO i1 i2 a b) (hef : e ∉ [z, TI, TO, i1, i2]) :
    Turn P w K (.Tuple elts kk tpos) (Itez K a b) [e, z, TI, TO, i1, i2] e (fun i h => (∃ old, IsEnum h e z (i : Nat) old) ∧ EZ.Zst h z TI TO i1 i2 a b i) where
  mem := by simp
  obj := fun i h st c hc => by
    obtain ⟨⟨old, he⟩, ⟨f0, f1, hz, hf⟩, hTI, ⟨x, y, hTO⟩, ⟨o1, e1, _, d1⟩, ⟨o2, e2, _, d2⟩⟩ := st
    have e' : c = e ∨ c = z ∨ c = TI ∨ c = TO ∨ c = i1 ∨ c = i2 := by simpa using hc
    rcases e' with q | q | q | q | q | q
    · rw [q]; exact ⟨_, he, fun v q => nomatch q⟩
    · rw [q]; exact ⟨_, hz, fun v q => nomatch q⟩
    · rw [q]; exact ⟨_, hTI, fun v q => nomatch q⟩
    · rw [q]; exact ⟨_, hTO, fun v q => nomatch q⟩
    · rw [q]; exact ⟨o1, e1, fun v q => by rw [d1] at q; cases q⟩
    · rw [q]; exact ⟨o2, e2, fun v q => by rw [d2] at q; cases q⟩
  keep := fun i h h' st k => by
    obtain ⟨⟨old, he⟩, st⟩ := st
    exact ⟨⟨old, k e (by simp) _ he⟩, st.at fun b hb o q => k b (List.mem_cons_of_mem _ hb) o q⟩
  item := by
    intro X hP hw hK hc i pins s σ H E I hf st hg
    subst hP hw hK
    obtain ⟨⟨old, he⟩, st⟩ := st
    obtain ⟨xs, ys, x, y, hqx, hqy, hx, hy⟩ := hg
    obtain ⟨its, rv, p, _⟩ := I.tuple hqx
    obtain ⟨its2, rv2, p2, _⟩ := I.tuple hqy
    obtain ⟨u, hu, ru⟩ := rv.get hx
    obtain ⟨u2, hu2, ru2⟩ := rv2.get hy
    have hel : e < s.heap.objs.size := Heap.lt_size he
    refine EZ.pyNext_enumz_item D he st p p2 (x := u) (y := u2) (by simpa using hu) (by simpa using hu2) hef fun h' he' st' hT hU hsz hk => ?_
    refine ⟨_, rfl, wpAny_letOwnedTupleGo_enum (s := { s with heap := h', toks := s.toks + 1 }) he' fun h'' he'' sb => ?_⟩
    have hT2 : h''.get? s.heap.objs.size = some { cls := .type "tuple", data := .seq #[u, u2] } := (sb.2 _ (Nat.ne_of_gt hel)).trans hT
    have hU2 : h''.get? (s.heap.objs.size + 1) = some { cls := .type "tuple", data := .seq #[.int i s.toks, .ref s.heap.objs.size] } := (sb.2 _ (Nat.ne_of_gt (Nat.lt_succ_of_lt hel))).trans hU
    have hne : s.heap.objs.size ≠ s.heap.objs.size + 1 := Nat.ne_of_lt (Nat.lt_succ_self _)
    have new : ObjOk X.prog X.w (upd (upd H s.heap.objs.size (.tup [x, y])) (s.heap.objs.size + 1) (.tup [.int (i : Nat), .ref s.heap.objs.size])) h'' s.heap.objs.size (.tup [x, y]) :=
      ⟨by show 2 ≤ sizeLine; decide, [u, u2], .cons ru (.cons ru2 .nil), ⟨_, hT2, rfl, _, rfl⟩⟩
    have new2 : ObjOk X.prog X.w (upd (upd H s.heap.objs.size (.tup [x, y])) (s.heap.objs.size + 1) (.tup [.int (i : Nat), .ref s.heap.objs.size])) h'' (s.heap.objs.size + 1) (.tup [.int (i : Nat), .ref s.heap.objs.size]) :=
      ⟨by show 2 ≤ sizeLine; decide, [.int i s.toks, .ref s.heap.objs.size], .cons ⟨_, rfl⟩ (.cons rfl .nil), ⟨_, hU2, rfl, _, rfl⟩⟩
    have I1 : Inv X pins σ _ { s with heap := h'', toks := s.toks + 1 } :=
      I.turnedNew2 (T := s.heap.objs.size) (U := s.heap.objs.size + 1) (ch := [e, z, TI, TO, i1, i2]) (fun c o hb q => (sb.2 c (fun q' => hb (by simp [q']))).trans (hk c o (fun q' => hb (by simp [q'])) (fun q' => hb (by simp [q'])) (fun q' => hb (by simp [q'])) (fun q' => hb (by simp [q'])) (fun q' => hb (by simp [q'])) q)) hf (Nat.le_refl _) (Nat.le_succ _) hne new new2
    have hlt : ∀ c ∈ [e, z, TI, TO, i1, i2], c < s.heap.objs.size := fun c hcm => by
      obtain ⟨⟨f0, f1, hz, _⟩, hTI, ⟨x0, y0, hTO⟩, h1, h2⟩ := st
      have e' : c = e ∨ c = z ∨ c = TI ∨ c = TO ∨ c = i1 ∨ c = i2 := by simpa using hcm
      rcases e' with q | q | q | q | q | q
      · rw [q]; exact hel
      · rw [q]; exact Heap.lt_size hz
      · rw [q]; exact Heap.lt_size hTI
      · rw [q]; exact Heap.lt_size hTO
      · rw [q]; obtain ⟨_, e1, _⟩ := h1; exact Heap.lt_size e1
      · rw [q]; obtain ⟨_, e2, _⟩ := h2; exact Heap.lt_size e2
    refine ⟨.ref (s.heap.objs.size + 1), _, I1, rfl, ⟨_, _, x, y, rfl, I.hok.fresh (Nat.le_refl _), ?_, rfl, fun l hl => by rw [I.tuple_inj hl hqx]; exact hx, fun l hl => by rw [I.tuple_inj hl hqy]; exact hy⟩, ⟨⟨.ref s.heap.objs.size, ?_⟩, ?_⟩, fun c hcm => ?_⟩
    · rw [upd_ne hne.symm]; exact I.hok.fresh (Nat.le_succ _)
    · have e1 : ((i + 1 : Nat) : Int) = (i : Int) + 1 := by omega
      rw [e1]; exact he''
    · exact st'.at fun b hb o q => (sb.2 _ fun q' => hef (by rw [← q']; exact hb)).trans q
    · have := hlt c hcm
      rw [upd_ne (Nat.ne_of_lt (Nat.lt_succ_of_lt this)), upd_ne (Nat.ne_of_lt this)]
      exact (hf c hcm).1
  done := by
    intro X hP hw hK hc i pins s σ H E I hf st hg
    subst hP hw hK
    obtain ⟨⟨old, he⟩, st⟩ := st
    obtain ⟨xs, ys, hqx, hqy, hend⟩ := hg
    obtain ⟨its, rv, p, _⟩ := I.tuple hqx
    obtain ⟨its2, rv2, p2, _⟩ := I.tuple hqy
    have l1 := rv.length
    have l2 := rv2.length
    have hn : its.toArray[i]? = none ∨ its2.toArray[i]? = none := by
      rcases hend with q | q
      · exact .inl (by simp; omega)
      · exact .inr (by simp; omega)
    exact EZ.pyNext_enumz_end (I.ok.hd hc) D he st p p2 hn fun h' hk => ⟨rfl, I.turnedL (t' := s.toks) (ch := [e, z, TI, TO, i1, i2]) (fun c o hb q =>
      hk c o (fun q' => hb (by simp [q'])) (fun q' => hb (by simp [q'])) (fun q' => hb (by simp [q'])) (fun q' => hb (by simp [q'])) q) hf⟩
  self := fun A i s Q E st h => let ⟨⟨_, he⟩, _⟩ := st; wpAny_pyIter_enum he h
def iEnumZip (K : PySem.W.Frag) (ta : TA) : TI := fun σ H R => ta σ H fun vs H1 => ∃ a b xs ys, vs = [.ref a, .ref b] ∧ SqT K H1 a xs ∧ SqT K H1 b ys ∧ R (Itez K a b) H1
theorem pi_enumzip {X : Cx} {e e2 : Expr} {ta : TA} {p p2 pos pos2 tpos : Pos} {elts : List Expr} {kk : Nat} (hge : Gl X "enumerate") (hme : X.mg "enumerate" = none) (hg : Gl X "zip") (hm : X.mg "zip" = none) (ha : PA X [e, e2] ta)
    (hs : starEach [e, e2] X.env = (false, eval e X.env) :: starEach [e2] X.env := by rfl) (hpl : (backTo pos (starEach [e2] X.env)).any (·.1) = false := by rfl)
    (hs2 : starEach [.Call (.Name "zip" p) [e, e2] [] pos] X.env = [(false, eval (.Call (.Name "zip" p) [e, e2] [] pos) X.env)] := by rfl) :
    PI X (.Tuple elts kk tpos) (.Call (.Name "enumerate" p2) [.Call (.Name "zip" p) [e, e2] [] pos] [] pos2) (iEnumZip X.K ta) := by
  refine ⟨fun pins s σ H R I h => ?_⟩
  refine Call_ (ld_blt I hge hme boot_enumerate (PyProof.Rows.callWith_type1 ?_ hs2 rfl))
  rw [hs2]
  show wpAny _ _ (spliced [(false, eval (.Call (.Name "zip" p) [e, e2] [] pos) X.env)]) _ _ s
  refine Calls.spliced_cons ?_
  refine Call_ (ld_blt I hg hm PyProof.Rows.boot_zip (PyProof.Rows.callWith_type1 (thn (ha.run pos pins s σ H _ I h) fun us s1 ⟨vs, H1, I1, r1, q1⟩ => ?_) hs hpl))
  obtain ⟨a, b, xs, ys, ex, hqx, hqy, q⟩ := q1
  subst ex
  cases r1 with
  | cons r rr =>
    cases rr with
    | cons r' rr =>
      cases rr
      cases r
      cases r'
      obtain ⟨its, rv, p1, _⟩ := I1.tuple hqx
      obtain ⟨its2, rv2, p2, _⟩ := I1.tuple hqy
      obtain ⟨o1, ho1, _⟩ := id p1
      obtain ⟨o2, ho2, _⟩ := id p2
      refine RZ.call_zipT (show s1.heap.IsTuple a its.toArray from p1) (show s1.heap.IsTuple b its2.toArray from p2) fun h' hz hTI hTO h1 h2 hsz hk => ?_
      refine Calls.spliced_nil ?_
      refine EZ.call_enumerate_zip hz fun h'' he hk2 => wpAny_pyIter_enum he ?_
      have I2 : Inv X pins σ H1 { s1 with heap := h'' } := I1.kept (t' := s1.toks) fun c o q => hk2 c o (hk c o q)
      have e0 : h'.objs.size = s1.heap.objs.size + 5 := hsz
      refine ⟨h'.objs.size, [h'.objs.size, s1.heap.objs.size + 4, s1.heap.objs.size + 2, s1.heap.objs.size + 3, s1.heap.objs.size, s1.heap.objs.size + 1], _, _, H1, rfl, I2, turn_enumzip (PySem.W.ktu_apart s1.heap.objs.size a b (Heap.lt_size ho1) (Heap.lt_size ho2)) ?_, ⟨⟨.none, he⟩, ⟨⟨_, _, hk2 _ _ hz, .inl rfl⟩, hk2 _ _ hTI, ⟨_, _, hk2 _ _ hTO⟩, h1.at fun o q => hk2 _ o q, h2.at fun o q => hk2 _ o q⟩⟩, fun c hcm => ?_, q⟩
      · rw [e0]
        intro hm
        have : s1.heap.objs.size + 5 = s1.heap.objs.size + 4 ∨ s1.heap.objs.size + 5 = s1.heap.objs.size + 2 ∨ s1.heap.objs.size + 5 = s1.heap.objs.size + 3 ∨ s1.heap.objs.size + 5 = s1.heap.objs.size ∨ s1.heap.objs.size + 5 = s1.heap.objs.size + 1 := by simpa using hm
        have f : ∀ n : Nat, ¬ (n + 5 = n + 4 ∨ n + 5 = n + 2 ∨ n + 5 = n + 3 ∨ n + 5 = n ∨ n + 5 = n + 1) := by omega
        exact f _ this
      · have hle : s1.heap.objs.size ≤ c := by
          rw [e0] at hcm
          have e' : c = s1.heap.objs.size + 5 ∨ c = s1.heap.objs.size + 4 ∨ c = s1.heap.objs.size + 2 ∨ c = s1.heap.objs.size + 3 ∨ c = s1.heap.objs.size ∨ c = s1.heap.objs.size + 1 := by simpa using hcm
          rcases e' with z | z | z | z | z | z
          · rw [z]; exact Nat.le_add_right _ _
          · rw [z]; exact Nat.le_add_right _ _
          · rw [z]; exact Nat.le_add_right _ _
          · rw [z]; exact Nat.le_add_right _ _
          · rw [z]; exact Nat.le_refl _
          · rw [z]; exact Nat.le_add_right _ _
        exact I1.fpOk hle (I1.hok.fresh hle)
end L2
namespace Ab
open PySem PySem.Spec PyProof.Rows L2
section
variable {X : Cx} {K : Kw}
def enumZipD (ds es : List PyData) : List AV := (ds.zip es).zipIdx.map fun p => AV.d (.tuple [.int (p.2 : Int), .tuple [p.1.1, p.1.2]])
/-- a pair with a count, just made -/
def YCnt (f g : Nat → Option V) (i : Nat) (H : Hp) (v : V) (H' : Hp) : Prop := ∃ T U x y, v = .ref U ∧ H T = none ∧ (upd H T (.tup [x, y])) U = none ∧ H' = upd (upd H T (.tup [x, y])) U (.tup [.int (i : Nat), .ref T]) ∧ f i = some x ∧ g i = some y
theorem walk_enumzip {a b : Addr} {xs ys : List V} {n : Nat} (hn : n = min xs.length ys.length) : Walk (Itez K.K a b) n (fun H => SqT K.K H a xs ∧ SqT K.K H b ys) (YCnt (fun i => xs[i]?) (fun i => ys[i]?)) := by
  subst hn
  refine ⟨fun i H hi ⟨h1, h2⟩ => ?_, fun H ⟨h1, h2⟩ => ?_, fun i H v H' hi ⟨h1, h2⟩ hy => ?_⟩
  · have i1 : i < xs.length := by omega
    have i2 : i < ys.length := by omega
    exact ⟨xs, ys, xs[i], ys[i], h1, h2, List.getElem?_eq_getElem i1, List.getElem?_eq_getElem i2⟩
  · refine ⟨xs, ys, h1, h2, ?_⟩
    omega
  · obtain ⟨T, U, x, y, e1, e2, e3, e4, q1, q2⟩ := hy
    exact ⟨T, U, x, y, e1, e2, e3, e4, q1 xs h1, q2 ys h2⟩
theorem walkA_enumzip {B : Hp} {a b : Addr} {xs ys : List V} {ds es : List PyData} (hz : ds.length ≤ sizeLine) (h : SqT K.K B a xs) (r : RepAll K B xs ds) (h' : SqT K.K B b ys) (r' : RepAll K B ys es) : WalkA K (Itez K.K a b) (enumZipD ds es) B := by
  refine ⟨by unfold enumZipD; simp; omega, _, _, walk_enumzip (n := (enumZipD ds es).length) (xs := xs) (ys := ys) (by unfold enumZipD; rw [List.length_map, List.length_zipIdx, List.length_zip, r.length, r'.length]), fun H e => ⟨e.st h, e.st h'⟩, fun i H v H' x hx hy B1 μ F e1 st => ?_⟩
  obtain ⟨T, U, x1, y1, rfl, hT, hU, rfl, h1, h2⟩ := hy
  obtain ⟨d, hd, rd⟩ := r.get h1
  obtain ⟨e, he, re⟩ := r'.get h2
  unfold enumZipD at hx
  rw [List.getElem?_map, List.getElem?_zipIdx, zip_get hd he] at hx
  simp at hx
  subst hx
  obtain ⟨B2, e2, st2, r2⟩ := pair_made hT st (Rep.mono e1 d rd) (Rep.mono e1 e re)
  obtain ⟨B3, e3, st3, r3⟩ := pair_made hU st2 (.int _) r2
  exact ⟨B3, e2.trans e3, st3, r3⟩
def aiEnumZip (t : ATA) : ATI := fun ρ μ R => t ρ μ fun xs μ1 => match xs with
  | [.d (.tuple ds), .d (.tuple es)] => R (enumZipD ds es) μ1
  | _ => False
theorem ai_enumzip {e e2 : Expr} {t : ATA} {p p2 pos pos2 tpos : Pos} {elts : List Expr} {kk : Nat} (hge : Gl X "enumerate") (hme : X.mg "enumerate" = none) (hg : Gl X "zip") (hm : X.mg "zip" = none) (ha : PA X [e, e2] (cA X.kw t))
    (hs : starEach [e, e2] X.env = (false, eval e X.env) :: starEach [e2] X.env := by rfl) (hpl : (backTo pos (starEach [e2] X.env)).any (·.1) = false := by rfl)
    (hs2 : starEach [.Call (.Name "zip" p) [e, e2] [] pos] X.env = [(false, eval (.Call (.Name "zip" p) [e, e2] [] pos) X.env)] := by rfl) :
    PI X (.Tuple elts kk tpos) (.Call (.Name "enumerate" p2) [.Call (.Name "zip" p) [e, e2] [] pos] [] pos2) (cI X.kw (aiEnumZip t)) := pi_weak (pi_enumzip hge hme hg hm ha hs hpl hs2) fun σ H R ⟨ρ, μ, Ra, B, F, h, s, st, k⟩ => by
  refine cA_bind h s st fun vs B1 H1 xs μ1 q e1 st1 r1 => ?_
  match xs, q, r1 with
  | [.d (.tuple ds), .d (.tuple es)], q, .cons r (.cons r' .nil) =>
    cases r with
    | tup h1 hz h2 =>
      cases r' with
      | tup h3 hz2 h4 => exact ⟨_, _, _, _, rfl, st1.ex.st h1, st1.ex.st h3, k _ B1 H1 _ μ1 q e1 st1 (walkA_enumzip hz h1 h2 h3 h4)⟩
end
end Ab

set_option Elab.async false
set_option linter.all false
set_option maxRecDepth 100000
set_option maxHeartbeats 4000000
/-! AbL: comprehensions of two clauses. -/
namespace Ab
open PySem PySem.Spec PyProof.Rows L2
section
variable {X : Cx} {K : Kw}
def lcGoB (g : ATG) (tt : ATT) (te : AT) (ρ : AEnv) : List AV → List AV → Mu → (List AV → Mu → Prop) → Prop
  | [], acc, μ, Q => Q acc μ
  | x :: xs, acc, μ, Q => g x ρ μ fun ρ2 μ2 => tt ρ2 μ2 fun b μ3 => if b = true then te ρ2 μ3 fun y μ4 => acc.length < sizeLine ∧ lcGoB g tt te ρ xs (acc ++ [y]) μ4 Q else lcGoB g tt te ρ xs acc μ3 Q
def lc2Go (g : ATG) (tt : ATT) (it1 : ATI) (g1 : ATG) (tt1 : ATT) (te : AT) (vs1 : List Nat) (ρ : AEnv) : List AV → List AV → Mu → (List AV → Mu → Prop) → Prop
  | [], acc, μ, Q => Q acc μ
  | x :: xs, acc, μ, Q => g x ρ μ fun ρ2 μ2 => tt ρ2 μ2 fun b μ3 => if b = true then it1 ρ2 μ3 fun items μ4 => lcGoB g1 tt1 te (awipe ρ2 vs1) items acc μ4 fun acc' μ5 => lc2Go g tt it1 g1 tt1 te vs1 ρ xs acc' μ5 Q
      else lc2Go g tt it1 g1 tt1 te vs1 ρ xs acc μ3 Q
def aLc2 (it : ATI) (g : ATG) (tt : ATT) (it1 : ATI) (g1 : ATG) (tt1 : ATT) (te : AT) (vs vs1 : List Nat) : AT := fun ρ μ Q => it ρ μ fun items μ1 => lc2Go g tt it1 g1 tt1 te vs1 (awipe ρ vs) items [] μ1 fun acc μ2 => ∃ ds, datas acc = some ds ∧ Q (.d (.list ds)) μ2
theorem tLc2_of {it it1 : ATI} {g g1 : ATG} {tt tt1 : ATT} {te : AT} {vs vs1 : List Nat} {σ : L2.St} {H : Hp} {Q : VK} (hv : ∀ i ∈ vs1, i ∈ vs) (h : cE K (aLc2 it g tt it1 g1 tt1 te vs vs1) σ H Q) : tLc2 (cI K it) (cG K vs g) (cT K tt) (cI K it1) (cG K vs1 g1) (cT K tt1) (cE K te) vs vs1 σ H Q := by
  obtain ⟨ρ, μ, Qa, B, F, h, s, st, k⟩ := h
  refine ⟨ρ, μ, _, B, F, h, s, st, fun J B1 H1 items μ1 q e1 st1 ⟨hit, G, Y, w, hG, hY⟩ Dl hD => ?_⟩
  have hF : F Dl = none := st1.fr.free hD
  let Qf : List AV → Mu → Prop := fun acc μ2 => ∃ ds, datas acc = some ds ∧ Qa (.d (.list ds)) μ2
  let Pv : Nat → Hp → Prop := fun i H => ∃ μ B2 acc accV, lc2Go g tt it1 g1 tt1 te vs1 (awipe ρ vs) (items.drop i) acc μ Qf ∧ Ex B1 B2 ∧ ARels K B2 accV acc ∧ St K B2 μ (upd F Dl (.lst accV)) H ∧ acc.length ≤ sizeLine
  refine ⟨fun i m H => m = items.length - i ∧ i ≤ items.length ∧ Pv i H, ⟨items.length, by simp, Nat.zero_le _, μ1, B1, [], [], q, Ex.refl _, .nil, st1.frame hD, Nat.zero_le _⟩, ?_⟩
  rintro i m H ⟨rfl, hi, p⟩
  have hGi : G H := by
    obtain ⟨_, _, _, _, _, e, _, s2, _⟩ := p
    exact hG H (e.trans s2.ex)
  by_cases hlt : i < items.length
  · refine .inr ⟨w.goes i H hlt hGi, Pv (i + 1), fun H' p' => ⟨items.length - (i + 1), by omega, rfl, hlt, p'⟩, fun x H' y => ?_⟩
    obtain ⟨μ, B2, acc, accV, q, e2, r2, st2, hacc⟩ := p
    obtain ⟨z, hz1, hd⟩ := drop_at hlt
    rw [hd] at q
    obtain ⟨B3, e3, st3, r⟩ := hY i H x H' z hz1 (w.yields i H x H' hlt hGi y) B2 μ _ e2 st2
    refine ⟨z, awipe ρ vs, μ, _, B3, _, q, r, (s.mono (e1.trans (e2.trans e3))).wipe vs, st3, fun ρ4 μ4 σ4 B4 H4 q4 e4 s4 st4 b4 => ⟨b4.wipe, ?_⟩⟩
    refine cT_bind q4 s4 st4 fun b B5 H5 μ5 q5 e5 st5 => ?_
    have e25 := e2.trans (e3.trans (e4.trans e5))
    cases b with
    | false => exact ⟨μ5, B5, acc, accV, q5, e25, ARels.mono (e3.trans (e4.trans e5)) r2, st5, hacc⟩
    | true =>
      refine ⟨ρ4, μ5, _, B5, _, q5, s4.mono e5, st5, fun J1 B6 H6 items1 μ6 q6 e6 st6 ⟨hit1, G1, Y1, w1, hG1, hY1⟩ => ?_⟩
      let Pw : Nat → Hp → Prop := fun j H => ∃ μ B7 acc accV, lcGoB g1 tt1 te (awipe ρ4 vs1) (items1.drop j) acc μ (fun acc' μ5 => lc2Go g tt it1 g1 tt1 te vs1 (awipe ρ vs) (items.drop (i + 1)) acc' μ5 Qf) ∧ Ex B6 B7 ∧ ARels K B7 accV acc ∧ St K B7 μ (upd F Dl (.lst accV)) H ∧ acc.length ≤ sizeLine
      refine ⟨fun j k H => k = items1.length - j ∧ j ≤ items1.length ∧ Pw j H, ⟨items1.length, by simp, Nat.zero_le _, μ6, B6, acc, accV, q6, Ex.refl _, ARels.mono (e3.trans (e4.trans (e5.trans e6))) r2, st6, hacc⟩, ?_⟩
      rintro j k H ⟨rfl, hj, p1⟩
      have hGj : G1 H := by
        obtain ⟨_, _, _, _, _, e, _, s2, _⟩ := p1
        exact hG1 H (e.trans s2.ex)
      by_cases hlt1 : j < items1.length
      · refine .inr ⟨w1.goes j H hlt1 hGj, Pw (j + 1), fun H' p' => ⟨items1.length - (j + 1), by omega, rfl, hlt1, p'⟩, fun x H' y => ?_⟩
        obtain ⟨μ, B7, acc, accV, q, e7, r7, st7, hacc⟩ := p1
        obtain ⟨z, hz1, hd⟩ := drop_at hlt1
        rw [hd] at q
        obtain ⟨B8, e8, st8, r⟩ := hY1 j H x H' z hz1 (w1.yields j H x H' hlt1 hGj y) B7 μ _ e7 st7
        refine ⟨z, awipe ρ4 vs1, μ, _, B8, _, q, r, (s4.mono (e5.trans (e6.trans (e7.trans e8)))).wipe vs1, st8, fun ρ9 μ9 σ9 B9 H9 q9 e9 s9 st9 b9 => ⟨b9.wipe, ?_⟩⟩
        refine cT_bind q9 s9 st9 fun b BA HA μA qA eA stA => ?_
        cases b with
        | false => exact ⟨μA, BA, acc, accV, qA, e7.trans (e8.trans (e9.trans eA)), ARels.mono (e8.trans (e9.trans eA)) r7, stA, hacc⟩
        | true =>
          refine cE_bind qA (s9.mono eA) stA fun v BB HB z μB qB eB stB rB => ?_
          obtain ⟨hl, qB⟩ := qB
          have r2' := ARels.mono (e8.trans (e9.trans (eA.trans eB))) r7
          exact ⟨accV, stB.fr _ _ upd_same, by rw [r2'.length]; exact hl, μB, BB, acc ++ [z], accV ++ [v], qB, e7.trans (e8.trans (e9.trans (eA.trans eB))), ARels.append r2' (.cons rB .nil), stB.unframe hF, by simp; omega⟩
      · have e : j = items1.length := by omega
        subst e
        refine .inl ⟨w1.stops H hGj, ?_⟩
        obtain ⟨μ, B7, acc, accV, q, e7, r7, st7, hacc⟩ := p1
        rw [List.drop_length] at q
        exact ⟨μ, B7, acc, accV, q, e25.trans (e6.trans e7), r7, st7, hacc⟩
  · have e : i = items.length := by omega
    subst e
    refine .inl ⟨w.stops H hGi, ?_⟩
    obtain ⟨μ, B2, acc, accV, q, e2, r2, st2, hacc⟩ := p
    rw [List.drop_length] at q
    obtain ⟨ds, hds, q⟩ := q
    obtain ⟨e3, st3⟩ := st2.unframe_data hF
    rw [datas_eq hds] at r2 hacc
    rw [List.length_map] at hacc
    exact k _ _ _ _ μ q (e1.trans (e2.trans e3)) st3 (.lst upd_same (by omega) (RepAll.mono e3 ds (ARels.all r2)))
theorem ae_lc2 {elt tg iter tg1 iter1 : Expr} {ifs ifs1 : List Expr} {scope : Scope} {own : List (Str × Nat)} {vs1 : List Nat} {pos : Pos} {it it1 : ATI} {g g1 : ATG} {tt tt1 : ATT} {te : AT} (hc : X.calm = true) (hN : X.N.Nodup) (hi : PI X tg iter (cI X.kw it)) (ok : BlkOk X.N X.env.scope scope own) (hv : ∀ i ∈ vs1, i ∈ own.map (·.2))
    (hg : ∀ (s : Shared) (H : Hp) (C : Addr) (cl : List (Str × Addr)) (fp : List Addr), PG (X.blk s H scope (compEnvC scope cl C X.env) fp) tg (cG X.kw (own.map (·.2)) g)) (ht : ∀ (s : Shared) (H : Hp) (C : Addr) (cl : List (Str × Addr)) (fp : List Addr), PTs (X.blk s H scope (compEnvC scope cl C X.env) fp) ifs (cT X.kw tt))
    (hi1 : ∀ (s : Shared) (H : Hp) (C : Addr) (cl : List (Str × Addr)) (fp : List Addr), PI (X.blk s H scope (compEnvC scope cl C X.env) fp) tg1 iter1 (cI X.kw it1))
    (hg1 : ∀ (s : Shared) (H : Hp) (C : Addr) (cl : List (Str × Addr)) (fp : List Addr), PG (X.blk s H scope (compEnvC scope cl C X.env) fp) tg1 (cG X.kw vs1 g1)) (ht1 : ∀ (s : Shared) (H : Hp) (C : Addr) (cl : List (Str × Addr)) (fp : List Addr), PTs (X.blk s H scope (compEnvC scope cl C X.env) fp) ifs1 (cT X.kw tt1))
    (he : ∀ (s : Shared) (H : Hp) (C : Addr) (cl : List (Str × Addr)) (fp : List Addr), PE (X.blk s H scope (compEnvC scope cl C X.env) fp) elt (cE X.kw te)) (hs : ∀ x, foldedSetIterable iter X.env x = pure x := by intro _; rfl) (hs1 : ∀ env x, foldedSetIterable iter1 env x = pure x := by intro _ _; rfl) :
    PE X (.ListComp elt [⟨tg, iter, ifs, 0⟩, ⟨tg1, iter1, ifs1, 0⟩] scope pos) (cE X.kw (aLc2 it g tt it1 g1 tt1 te (own.map (·.2)) vs1)) :=
  pe_weak (pe_lc2 hc hN hi ok hv hg ht hi1 hg1 ht1 he hs hs1) fun _ _ _ h => tLc2_of hv h
end
end Ab

set_option Elab.async false
set_option linter.all false
set_option maxRecDepth 100000
set_option maxHeartbeats 4000000
/-! AbM: dicts by ints and texts whose values may be mutable lists; what a def leaves behind. -/
namespace Ab
open PySem PySem.Spec PyProof.Rows L2
section
variable {X : Cx} {K : Kw}
def vA (kvs : List (Key × AV)) (k : Key) : Option AV := (kvs.find? fun kv => decide (kv.1 = k)).map (·.2)
def pA (kvs : List (Key × AV)) (k : Key) (v : AV) : List (Key × AV) :=
  if (kvs.any fun kv => decide (kv.1 = k)) = true then kvs.map (fun kv => if kv.1 = k then (kv.1, v) else kv) else kvs ++ [(k, v)]
theorem KRel.length {B : Hp} : ∀ {kvs : List (Key × V)} {as : List (Key × AV)}, KRel K B kvs as → kvs.length = as.length
  | _, _, .nil => rfl
  | _, _, .cons _ t => congrArg Nat.succ (KRel.length t)
theorem KRel.keys {B : Hp} : ∀ {kvs : List (Key × V)} {as : List (Key × AV)}, KRel K B kvs as → kvs.map (·.1) = as.map (·.1)
  | _, _, .nil => rfl
  | _, _, .cons r t => by rw [List.map_cons, List.map_cons, r.1, KRel.keys t]
theorem KRel.val {B : Hp} {k : Key} : ∀ {kvs : List (Key × V)} {as : List (Key × AV)}, KRel K B kvs as → (valV kvs k = none ∧ vA as k = none) ∨ ∃ v x, valV kvs k = some v ∧ vA as k = some x ∧ ARel K B v x
  | _, _, .nil => .inl ⟨rfl, rfl⟩
  | _, _, .cons (a := p) (b := q) r t => by
    by_cases h : q.1 = k
    · refine .inr ⟨p.2, q.2, ?_, ?_, r.2⟩
      · exact valV_pos (r.1.trans h)
      · unfold vA; simp [List.find?_cons, h]
    · rcases KRel.val (k := k) t with ⟨a, b⟩ | ⟨v, x, a, b, c⟩
      · exact .inl ⟨by rw [valV_neg (fun e => h (r.1.symm.trans e))]; exact a, by unfold vA at b ⊢; simpa [List.find?_cons, h] using b⟩
      · exact .inr ⟨v, x, by rw [valV_neg (fun e => h (r.1.symm.trans e))]; exact a, by unfold vA at b ⊢; simpa [List.find?_cons, h] using b, c⟩
theorem KRel.any {B : Hp} {k : Key} {kvs : List (Key × V)} {as : List (Key × AV)} (r : KRel K B kvs as) : (kvs.any fun kv => decide (kv.1 = k)) = as.any fun kv => decide (kv.1 = k) := by
  have e : ∀ {α : Type} (l : List (Key × α)), (l.any fun kv => decide (kv.1 = k)) = (l.map (·.1)).any fun x => decide (x = k) := fun l => by rw [List.any_map]; rfl
  rw [e, e, r.keys]
theorem KRel.snoc {B : Hp} {p : Key × V} {q : Key × AV} (h : p.1 = q.1 ∧ ARel K B p.2 q.2) : ∀ {kvs : List (Key × V)} {as : List (Key × AV)}, KRel K B kvs as → KRel K B (kvs ++ [p]) (as ++ [q])
  | _, _, .nil => .cons h .nil
  | _, _, .cons r t => .cons r (KRel.snoc h t)
theorem KRel.put {B : Hp} {k : Key} {v : V} {x : AV} {kvs : List (Key × V)} {as : List (Key × AV)} (r : KRel K B kvs as) (h : ARel K B v x) : KRel K B (putK kvs k v) (pA as k x) := by
  unfold putK pA
  rw [r.any]
  split
  · have e : ∀ {kvs : List (Key × V)} {as : List (Key × AV)}, KRel K B kvs as → KRel K B (kvs.map fun kv => if kv.1 = k then (kv.1, v) else kv) (as.map fun kv => if kv.1 = k then (kv.1, x) else kv) := by
      intro kvs as r
      induction r with
      | nil => exact .nil
      | @cons a b l1 l2 r t ih =>
        refine .cons ?_ ih
        by_cases e : b.1 = k
        · have e' : a.1 = k := r.1.trans e
          simp only [e, e', if_true]
          exact ⟨trivial, h⟩
        · have e' : ¬ a.1 = k := fun z => e (r.1.symm.trans z)
          simp only [e, e', if_false]
          exact r
    exact e r
  · exact r.snoc ⟨rfl, h⟩
/-- {}, to be changed -/
def aDNew : AT := fun _ μ Q => ∀ l, μ l = none → Q (.v (.ref l)) (mset μ l (.dk []))
theorem ae_dnew {pos : Pos} : PE X (.Dict [] [] pos) (cE X.kw aDNew) := pe_weak pe_dnewK fun σ H Q ⟨ρ, μ, Qa, B, F, h, s, st, k⟩ => fun p hp => by
  obtain ⟨st2, nM⟩ := st.new (o := .dK []) (m := .dk []) hp ⟨_, rfl, .nil⟩
  exact k _ B _ _ _ (h p nM) (Ex.refl _) st2 rfl
/-- d.setdefault(k, v), by an int -/
def aSetd (td ty tx : AT) : AT := fun ρ μ Q => td ρ μ fun x μ1 => match x with
  | .v (.ref a) => (∃ kvs, μ1 a = some (.dk kvs)) ∧ ty ρ μ1 fun y μ2 => match y with
    | .d (.int i) => tx ρ μ2 fun z μ3 => ∃ kvs, μ3 a = some (.dk kvs) ∧ kvs.length < sizeLine ∧ (∀ v, vA kvs (.inl i) = some v → Q v μ3) ∧ (vA kvs (.inl i) = none → Q z (mset μ3 a (.dk (pA kvs (.inl i) z))))
    | _ => False
  | _ => False
theorem ae_setd {o e f : Expr} {td ty tx : AT} {apos cpos : Pos} (ho : PE X o (cE X.kw td)) (he : PE X e (cE X.kw ty)) (hf : PE X f (cE X.kw tx)) (m : M2 X o "setdefault" apos e f cpos) : PE X (.Call (.Attribute o "setdefault" apos) [e, f] [] cpos) (cE X.kw (aSetd td ty tx)) :=
  pe_weak (pe_dsetd ho he hf m) fun σ H Q ⟨ρ, μ, Qa, B, F, h, s, st, k⟩ => by
    refine cE_bind h s st fun v1 B1 H1 x μ1 q e1 st1 r1 => ?_
    match x, q, r1 with
    | .v (.ref a), ⟨⟨kvs0, hm0⟩, q⟩, r1 =>
      cases r1
      obtain ⟨_, o, ho, r⟩ := st1.mu a _ hm0
      obtain ⟨ks0, rfl, _⟩ := r.dk
      refine ⟨a, rfl, .inl ⟨_, .inl ho⟩, cE_bind q (s.mono e1) st1 fun v2 B2 H2 y μ2 q e2 st2 r2 => ?_⟩
      match y, q, r2 with
      | .d (.int i), q, r2 =>
        cases r2
        refine cE_bind q ((s.mono e1).mono e2) st2 fun v3 B3 H3 z μ3 q e3 st3 r3 => ?_
        obtain ⟨kvs, hm, hl, q1, q2⟩ := q
        have e5 := e1.trans (e2.trans e3)
        obtain ⟨_, o, ho, r⟩ := st3.mu a _ hm
        obtain ⟨ks, rfl, r9⟩ := r.dk
        refine ⟨ks, .inl i, ho, rfl, by rw [r9.length]; exact hl, fun v hv => ?_, fun hv => ?_⟩
        · rcases r9.val (k := .inl i) with ⟨n1, n2⟩ | ⟨v', x, n1, n2, n3⟩
          · rw [hv] at n1; cases n1
          · rw [hv] at n1
            cases n1
            exact k _ B3 _ _ _ (q1 _ n2) e5 st3 n3
        · rcases r9.val (k := .inl i) with ⟨n1, n2⟩ | ⟨v', x, n1, n2, n3⟩
          · exact k _ B3 _ _ _ (q2 n2) e5 (st3.put hm (m := .dk (pA kvs (.inl i) z)) ⟨_, rfl, r9.put r3⟩) r3
          · rw [hv] at n1; cases n1
/-- d[k], by an int -/
def fIxK : AOp := fun μ x y Q => match x, y with
  | .v (.ref a), .d (.int i) => ∃ kvs e, μ a = some (.dk kvs) ∧ vA kvs (.inl i) = some e ∧ Q e μ
  | _, _ => False
theorem ae_ixK {o i : Expr} {td ty : AT} {pos : Pos} (hu : X.A.units + 64 < cLine) (ho : PE X o (cE X.kw td)) (hi : PE X i (cE X.kw ty)) (hs : NoSl i := by exact fun _ _ => rfl) : PE X (.Subscript o i pos) (cE X.kw (aOp fIxK td ty)) :=
  pe_weak (pe_dget (by omega) ho hi hs) fun σ H Q ⟨ρ, μ, Qa, B, F, h, s, st, k⟩ => by
    refine cE_bind h s st fun v1 B1 H1 x μ1 q e1 st1 r1 => ?_
    refine cE_bind q (s.mono e1) st1 fun v2 B2 H2 y μ2 q e2 st2 r2 => ?_
    match x, y, q, r1, r2 with
    | .v (.ref a), .d (.int i), ⟨kvs, e, hm, hv, q⟩, r1, r2 =>
      cases r1
      cases r2
      obtain ⟨_, o, ho, r⟩ := st2.mu a _ hm
      obtain ⟨ks, rfl, r9⟩ := r.dk
      rcases r9.val (k := .inl i) with ⟨n1, n2⟩ | ⟨v', x, n1, n2, n3⟩
      · rw [hv] at n2; cases n2
      · rw [hv] at n2
        cases n2
        refine ⟨a, v', rfl, ?_, k _ B2 _ _ _ q (e1.trans e2) st2 n3⟩
        rw [← n1]
        exact DGet.k (k := .inl i) ho
/-- sorted(d), d by ints -/
def fSortedK : ACall := fun xs μ Q => match xs with
  | [.v (.ref a)] => ∃ (kvs : List (Key × AV)) (ks : List Int), μ a = some (.dk kvs) ∧ kvs.map (·.1) = ks.map Sum.inl ∧ ks.length < 64 ∧ ∀ ys : List Int, ys.Perm ks → ys.Pairwise (· ≤ ·) → Q (.d (.list (ys.map PyData.int))) μ
  | _ => False
def rSortedK : List V → Hp → VK → Prop := fun xs H Q => ∃ (a : Addr) (kvs : List (Key × V)) (ks : List Int), xs = [.ref a] ∧ Rd H a (.dK kvs) ∧ kvs.map (·.1) = ks.map Sum.inl ∧ ks.length < 64 ∧
    ∀ (ys : List Int) (p : Addr), ys.Perm ks → ys.Pairwise (· ≤ ·) → H p = none → Q (.ref p) (upd H p (.lst (ys.map V.int)))
theorem cr_sortedK (hc : X.calm = true) : CallR X (.builtin "sorted") rSortedK := call_sortedDI hc
theorem rep_ints {B : Hp} : ∀ (ns : List Int), RepAll K B (ns.map V.int) (ns.map PyData.int)
  | [] => .nil
  | n :: ns => .cons (.int n) (rep_ints ns)
theorem rc_sortedK : RCall K rSortedK fSortedK := by
  intro as vs H Q μ Qa B F h r st k
  match as, h, r with
  | [.v (.ref a)], ⟨kvs, ks, hm, hk, hl, q⟩, .cons r .nil =>
    cases r
    obtain ⟨_, o, ho, r⟩ := st.mu a _ hm
    obtain ⟨vs, rfl, r9⟩ := r.dk
    refine ⟨a, vs, ks, rfl, .inl ho, r9.keys.trans hk, hl, fun ys p hp hs hf => ?_⟩
    have h16 : (ys.map PyData.int).length ≤ sizeLine := by rw [List.length_map, hp.length_eq, sizeLine_eq]; omega
    exact new_lst st h16 (rep_ints ys) (q ys hp hs) k p hf
/-- a mutable list's value, given for good -/
def aGiveE (a : AT) : AT := fun ρ μ Q => a ρ μ fun x μ1 => match x with
  | .v (.ref l) => ∃ as ds, μ1 l = some (.lst as) ∧ datas as = some ds ∧ Q (.d (.list ds)) (mdel μ1 l)
  | _ => False
theorem ae_giveE {e : Expr} {a : AT} (h : PE X e (cE X.kw a)) : PE X e (cE X.kw (aGiveE a)) := pe_weak h fun σ H Q ⟨ρ, μ, Qa, B, F, h, s, st, k⟩ => by
  refine cE_bind h s st fun v B1 H1 x μ1 q e1 st1 r1 => ?_
  match x, q, r1 with
  | .v (.ref l), ⟨as, ds, hm, hd, q⟩, r1 =>
    cases r1
    obtain ⟨o, ho, r, nB, e2, st2⟩ := st1.freeze hm
    obtain ⟨xs, rfl, hzl, r⟩ := r.lst
    rw [datas_eq hd] at r hzl
    exact k _ _ H1 _ _ q (e1.trans e2) st2 (.lst upd_same (by simpa using hzl) (RepAll.mono e2 ds (ARels.all r)))
end
def Sub (μ μ' : Mu) : Prop := ∀ b m, μ b = some m → μ' b = some m
/-- a def that may leave mutable objects behind -/
theorem okF {P : Program} {w : World} {K : PySem.W.Frag} {mg : Str → Option Value} {base : Heap} {x qual : Str} {st : Stmt} {f : Addr} {fd : FuncData} {N ps : List Str} {k : Nat} {sp : ACall} (F : Fun K x qual st f fd) (S : FnScope N ps (defScope st)) (len : ∀ as μ Q, sp as μ Q → as.length = ps.length)
    (hbody : ∀ (cdv : Value) (A : Around) (outer : List Env) (s : Shared) (H : Hp) (E : XK), Room k (A.deeper (envOfC qual (defScope st) s.heap.objs.size f cdv)) →
      ∃ a, PSs (cxOf CX0 P w K mg base N qual (defScope st) f cdv A outer s H E).nox (defBody st) (cS ⟨K, P, w⟩ a) ∧ ∀ as μ Q, sp as μ Q → a { nx := fun _ μ' => ∃ μ2, Sub μ2 μ' ∧ Q (.d .none) μ2, rt := fun v μ' => ∃ μ2, Sub μ2 μ' ∧ Q v μ2 } (astart N as) μ) :
    FnOk P w K mg base CX0 (k + 1) f fd ps (cSp ⟨K, P, w⟩ sp) := by
  refine F.ok S (fun vs H Q E ⟨as, μ, Qa, B, Fr, h, r, _⟩ => r.length.trans (len _ _ _ h)) (fun cdv A outer s H vs Q E hr ⟨as, μ, Qa, B, Fr, h, r, st, k⟩ => ?_)
  obtain ⟨a, ha, hq⟩ := hbody cdv A outer s H E hr
  refine ⟨_, ha, astart N as, μ, _, B, Fr, hq as μ Qa h, slots_start r, st, ?_⟩
  exact ⟨fun ρ μ σ B' H ⟨μ2, hs, q⟩ e _ st => k _ B' H _ μ2 q e (st.less hs) .non, fun v x μ B' H ⟨μ2, hs, q⟩ e st rv => k v B' H x μ2 q e (st.less hs) rv, fun _ _ _ _ _ q => q.elim, fun _ _ _ _ _ q => q.elim⟩
end Ab

set_option Elab.async false
set_option linter.all false
set_option maxRecDepth 100000
set_option maxHeartbeats 4000000
/-! AbT: sets of tuples of whole numbers, texts, None and such tuples (turned from the library's sets of tuples of ints). -/
namespace NS
open PySem PySem.Spec PyProof.Rows L2
abbrev nhash (P : Program) (w : World) (k : NestedKey) : Int := k.hash w
abbrev IsN (P : Program) (w : World) (h : Heap) (k : NestedKey) (a : Addr) : Prop := (nestedKind P w).is h k a
section
variable {P : Program} {w : World} {A : Around} {E : Value → Shared → Prop} {s : Shared}
/-- v is of no class statement, n levels down -/
def Ocl (P : Program) (w : World) (n : Nat) (s : Shared) (v : Value) : Prop := ∀ (A : Around) (E : Value → Shared → Prop) (Q : Bool → Shared → Prop), Q false s → wpAny (model P w) A (ofAClassStatement n v) Q E s
theorem Ocl.plain {n : Nat} {s : Shared} {v : Value} (h : ofAClassStatement n v = pure false) : Ocl P w n s v := fun A E Q q => by
  rw [h]; exact wpAny_pure q
theorem Ocl.tuple {n : Nat} {s : Shared} {a : Addr} {o : Obj} {vs : Array Value} {m : Nat} (ho : s.heap.get? a = some o) (hc : o.cls = .type "tuple") (hd : o.data = .seq vs m) (hq : ∀ v ∈ vs.toList, Ocl P w n s v) : Ocl P w (n + 1) s (.ref a) := fun A E Q h => by
  have hT : s.TypeIs (.ref a) "tuple" := ⟨o, ho, hc⟩
  unfold ofAClassStatement
  refine wpAny_bind (wpAny_typeOf hT ?_)
  dsimp only
  have e : (("tuple" : String) == "tuple") = true := by decide
  simp only [e, if_true, Bool.not_true, Bool.false_eq_true, if_false]
  try refine wpAny_bind (wpAny_pure ?_)
  try simp only [Bool.not_true, Bool.false_eq_true, if_false]
  show wpAny _ _ (seqItems? (.ref a) >>= _) _ _ s
  refine wpAny_bind (wpAny_seqItems ho hd ?_)
  dsimp only
  refine wpAny_bind ?_
  show wpAny _ _ (forIn vs _ _) _ _ s
  rw [← Array.forIn_toList]
  refine wpAny_forIn_list _ (fun rest r s' => r.1 = none ∧ s' = s ∧ ∀ v ∈ rest, Ocl P w n s v) _ ?_ ?_ _ _ ⟨rfl, rfl, hq⟩
  · rintro v rest r s' ⟨hr, rfl, hall⟩
    refine wpAny_bind (hall v List.mem_cons_self _ _ _ ?_)
    simp only [Bool.false_eq_true, if_false]
    exact wpAny_pure ⟨rfl, rfl, fun u hu' => hall u (List.mem_cons_of_mem _ hu')⟩
  · rintro ⟨r1, r2⟩ s' ⟨hr, rfl, _⟩
    simp only at hr
    subst hr
    exact wpAny_pure h
mutual
theorem ocl_key : ∀ (k : NestedKey) (v : Value) (n : Nat) (s : Shared), NestedIs s.heap k v → k.depth ≤ n → Ocl P w n s v
  | .none, _, n, s, x, _ => by cases x; exact .plain (by cases n <;> rfl)
  | .num i, _, n, s, x, _ => by
    cases x with
    | bool _ => exact .plain (by cases n <;> rfl)
    | int _ _ => exact .plain (by cases n <;> rfl)
  | .text y, _, n, s, x, _ => by cases x; exact .plain (by cases n <;> rfl)
  | .tup ks, _, n, s, x, hn => by
    cases x with
    | tup hg hc hd hk =>
      simp only [NestedKey.depth] at hn
      cases n with
      | zero => omega
      | succ n => exact .tuple hg hc hd (ocl_keys ks _ n s hk (by omega))
theorem ocl_keys : ∀ (ks : List NestedKey) (vs : List Value) (n : Nat) (s : Shared), NestedAll s.heap ks vs → NestedKey.depthAll ks ≤ n → ∀ v ∈ vs, Ocl P w n s v
  | [], _, n, s, x, _, v, hv => by cases x; cases hv
  | k :: ks, _, n, s, x, hn, v, hv => by
    cases x with
    | cons x1 x2 =>
      simp only [NestedKey.depthAll] at hn
      rcases List.mem_cons.mp hv with e | hv
      · rw [e]; exact ocl_key k _ n s x1 (by omega)
      · exact ocl_keys ks _ n s x2 (by omega) v hv
end
/-- whether v is hashed by its value is known, n levels down -/
def Hbv (P : Program) (w : World) (n : Nat) (s : Shared) (v : Value) : Prop := ∀ (A : Around) (E : Value → Shared → Prop) (Q : Bool → Shared → Prop), (∀ b, Q b s) → wpAny (model P w) A (hashByValue n v) Q E s
theorem Hbv.plain {n : Nat} {s : Shared} {v : Value} {b : Bool} (h : hashByValue n v = pure b) : Hbv P w n s v := fun A E Q q => by
  rw [h]; exact wpAny_pure (q b)
theorem Hbv.tuple {n : Nat} {s : Shared} {a : Addr} {o : Obj} {vs : Array Value} {m : Nat} (ho : s.heap.get? a = some o) (hc : o.cls = .type "tuple") (hd : o.data = .seq vs m) (hq : ∀ v ∈ vs.toList, Hbv P w n s v) : Hbv P w (n + 1) s (.ref a) := fun A E Q h => by
  have hT : s.TypeIs (.ref a) "tuple" := ⟨o, ho, hc⟩
  unfold hashByValue
  refine wpAny_bind (wpAny_specialOf hT F.slot_tuple_hash.lookup ?_)
  show wpAny _ _ (seqItems? (.ref a) >>= _) _ _ s
  refine wpAny_bind (wpAny_seqItems ho hd ?_)
  refine wpAny_bind ?_
  show wpAny _ _ (forIn vs _ _) _ _ s
  rw [← Array.forIn_toList]
  refine wpAny_forIn_list _ (fun rest r s' => r.1 = none ∧ s' = s ∧ ∀ v ∈ rest, Hbv P w n s v) _ ?_ ?_ _ _ ⟨rfl, rfl, hq⟩
  · rintro v rest r s' ⟨hr, rfl, hall⟩
    refine wpAny_bind (hall v List.mem_cons_self _ _ _ fun b => ?_)
    cases b with
    | false => exact wpAny_pure (wpAny_pure (h false))
    | true => exact wpAny_pure ⟨rfl, rfl, fun u hu' => hall u (List.mem_cons_of_mem _ hu')⟩
  · rintro ⟨r1, r2⟩ s' ⟨hr, rfl, _⟩
    simp only at hr
    subst hr
    exact wpAny_pure (h true)
mutual
theorem hbv_key : ∀ (k : NestedKey) (v : Value) (n : Nat) (s : Shared), NestedIs s.heap k v → k.depth ≤ n → Hbv P w n s v
  | .none, _, n, s, x, _ => by cases x; exact .plain (b := true) (by cases n <;> rfl)
  | .num i, _, n, s, x, _ => by
    cases x with
    | bool _ => exact .plain (b := true) (by cases n <;> rfl)
    | int _ _ => exact .plain (b := true) (by cases n <;> rfl)
  | .text y, _, n, s, x, _ => by cases x; exact .plain (b := false) (by cases n <;> rfl)
  | .tup ks, _, n, s, x, hn => by
    cases x with
    | tup hg hc hd hk =>
      simp only [NestedKey.depth] at hn
      cases n with
      | zero => omega
      | succ n => exact .tuple hg hc hd (hbv_keys ks _ n s hk (by omega))
theorem hbv_keys : ∀ (ks : List NestedKey) (vs : List Value) (n : Nat) (s : Shared), NestedAll s.heap ks vs → NestedKey.depthAll ks ≤ n → ∀ v ∈ vs, Hbv P w n s v
  | [], _, n, s, x, _, v, hv => by cases x; cases hv
  | k :: ks, _, n, s, x, hn, v, hv => by
    cases x with
    | cons x1 x2 =>
      simp only [NestedKey.depthAll] at hn
      rcases List.mem_cons.mp hv with e | hv
      · rw [e]; exact hbv_key k _ n s x1 (by omega)
      · exact hbv_keys ks _ n s x2 (by omega) v hv
end
theorem hashBy_n {k : NestedKey} {b : Addr} {Q : Bool → Shared → Prop} (hk : IsN P w s.heap k b) (h : ∀ b, Q b s) : wpAny (model P w) A (hashByValue 8 (.ref b)) Q E s := hbv_key k _ 8 s hk.1 hk.2 A E Q h
theorem seen_n {k : NestedKey} {b : Addr} {Q : Bool → Shared → Prop} (hk : IsN P w s.heap k b) {ys : List Value} (hy : ∀ y ∈ ys, ∃ k' c, y = Value.ref c ∧ IsN P w s.heap k' c) (h : Q false s) :
    wpAny (model P w) A (searchCouldBeSeen (.ref b) ys) Q E s := by
  unfold searchCouldBeSeen
  refine wpAny_bind ?_
  refine wpAny_forIn_list _ (fun rest r s' => r.1 = none ∧ s' = s ∧ ∀ y ∈ rest, ∃ k' c, y = Value.ref c ∧ IsN P w s.heap k' c) _ ?_ ?_ _ _ ⟨rfl, rfl, hy⟩
  · rintro v rest r s' ⟨hr, rfl, hall⟩
    obtain ⟨k', c, rfl, hc⟩ := hall v List.mem_cons_self
    have rest' : ∀ y ∈ rest, ∃ k' c, y = Value.ref c ∧ IsN P w s'.heap k' c := fun u hu' => hall u (List.mem_cons_of_mem _ hu')
    dsimp only
    by_cases hv : (b == c || (carriedByValue (.ref b) && carriedByValue (.ref c))) = true
    · exact wp_if_pos hv (wpAny_pure ⟨rfl, rfl, rest'⟩)
    · refine wp_if_neg hv ?_
      refine wpAny_bind ((nestedKind P w).quiet hk ?_)
      simp only [Bool.not_true, Bool.false_eq_true, if_false]
      refine wpAny_bind ((nestedKind P w).quiet hc ?_)
      simp only [Bool.not_true, Bool.false_eq_true, if_false]
      refine wpAny_bind (ocl_key k _ 8 s' hk.1 hk.2 _ _ _ ?_)
      simp only [Bool.false_eq_true, if_false]
      refine wpAny_bind (ocl_key k' _ 8 s' hc.1 hc.2 _ _ _ ?_)
      simp only [Bool.false_eq_true, if_false]
      exact wpAny_pure ⟨rfl, rfl, rest'⟩
  · rintro ⟨r1, r2⟩ s' ⟨hr, rfl, _⟩
    simp only at hr
    subst hr
    exact wpAny_pure h
theorem isN_same {h h' : Heap} {k : NestedKey} {a b : Addr} {o : Obj} {es : Array (Int × Value)} {ep : Nat} {t : SetTable} (hb : IsN P w h k b) (ho : h.get? a = some o) (hd : o.data = .set es ep t) (hs : Heap.SameBut a h h') : IsN P w h' k b :=
  ⟨NestedIs.at (fun c ob vs n hc hcd => by
    refine (hs.2 c fun e => ?_).trans hc
    subst e
    rw [ho] at hc
    cases hc
    rw [hd] at hcd
    cases hcd) k _ hb.1, hb.2⟩
theorem isN_keep {h h' : Heap} {k : NestedKey} {b : Addr} (x : IsN P w h k b) (hk : ∀ c o, h.get? c = some o → h'.get? c = some o) : IsN P w h' k b :=
  ⟨NestedIs.at (fun c ob vs n hc _ => hk c ob hc) k _ x.1, x.2⟩
variable {a : Addr} {L : List (Addr × NestedKey)} {es : Array (Int × Value)} {ep : Nat} {t : SetTable}
def rowsOf (P : Program) (w : World) (L : List (Addr × NestedKey)) : List (Int × Value) := L.map fun p => (nhash P w p.2, Value.ref p.1)
structure SetN (P : Program) (w : World) (h : Heap) (a : Addr) (L : List (Addr × NestedKey)) (es : Array (Int × Value)) (ep : Nat) (t : SetTable) : Prop where
  ob : ∃ o, h.get? a = some o ∧ o.ExactSet ∧ o.data = .set es ep t
  rows : es.toList = rowsOf P w L
  tab : TabOk t (L.map fun p => nhash P w p.2)
  nd : (L.map (·.2)).Nodup
  tup : ∀ p ∈ L, IsN P w h p.2 p.1
  led : w.params.followText "set-order" = true ∨ t.led = true
  room : L.length * 5 < t.mask * 3
  few : L.length < 64
theorem SetN.size (R : SetN P w s.heap a L es ep t) : es.size = L.length := by
  have h := congrArg List.length R.rows
  unfold rowsOf at h
  rw [Array.length_toList, List.length_map] at h
  exact h
theorem SetN.fits (R : SetN P w s.heap a L es ep t) : t.fits es.size = true := by
  have h1 := R.tab.sz
  rw [List.length_map] at h1
  have h2 := R.size
  have h3 := R.room
  unfold SetTable.fits SetTable.fill
  rw [R.tab.dm, Bool.and_eq_true, beq_iff_eq, decide_eq_true_eq]
  show t.place.size = es.size ∧ t.place.size + 0 ≤ t.mask
  omega
theorem SetN.entry (R : SetN P w s.heap a L es ep t) {i : Nat} {p : Addr × NestedKey} (h : L[i]? = some p) : es[i]? = some (nhash P w p.2, Value.ref p.1) := by
  rw [← Array.getElem?_toList, R.rows]
  unfold rowsOf
  rw [List.getElem?_map, h] <;> rfl
theorem SetN.gw (R : SetN P w s.heap a L es ep t) : ¬ t.gaveWay = true := by
  unfold SetTable.gaveWay
  rw [mask_odd R.tab.mok]
  decide
theorem search_from (R : SetN P w s.heap a L es ep t) {x : Addr} {k : NestedKey} (hx : IsN P w s.heap k x) (hu : A.units + 8 < cLine) {K : Nat} (hKf : K < 10 * SetTable.turns t.mask)
    (hK : way t.mask (nhash P w k) K ∉ t.place.toList) (hKb : ∀ c, c < K → way t.mask (nhash P w k) c ∈ t.place.toList) {Q : SetFound → Shared → Prop}
    (hin : k ∈ L.map (·.2) → Q (.there none) s) (hout : k ∉ L.map (·.2) → Q (.free (way t.mask (nhash P w k) K) false) s) :
    ∀ (f c : Nat) (stand : Option SetTable.Probe), stand.getD (t.probeStart (nhash P w k)) = nth t.mask (runAt t.mask (SetTable.bits (nhash P w k) % (t.mask + 1)) (SetTable.bits (nhash P w k))) c → c ≤ K → K - c < f →
      (∀ (i : Nat) p, L[i]? = some p → p.2 = k → ∃ c', c ≤ c' ∧ c' < K ∧ t.place.toList[i]? = some (way t.mask (nhash P w k) c')) →
      wpAny (model P w) A (setSearchFrom a (.ref x) (nhash P w k) true f stand) Q E s
  | 0, c, stand, _, _, hf, _ => absurd hf (Nat.not_lt_zero _)
  | f + 1, c, stand, hst, hc, hf, hre => by
    obtain ⟨o, ho, hex, hd⟩ := R.ob
    rw [setSearchFrom_succ]
    refine wpAny_bind (wpAny_setState_of ho hd R.fits ?_)
    dsimp only
    refine wp_if_neg R.gw ?_
    try refine wpAny_bind (wpAny_pure ?_)
    have hnd : (nth t.mask (runAt t.mask (SetTable.bits (nhash P w k) % (t.mask + 1)) (SetTable.bits (nhash P w k))) c).dummy = none := by
      have key : ∀ (n : Nat) (p : SetTable.Probe), p.dummy = none → (nth t.mask p n).dummy = none := by
        intro n
        induction n with
        | zero => intro p h; exact h
        | succ n ih =>
          intro p h
          refine ih (adv t.mask p) ?_
          unfold adv
          split <;> exact h
      exact key c _ rfl
    have sh : ∀ q, nth t.mask (nth t.mask (runAt t.mask (SetTable.bits (nhash P w k) % (t.mask + 1)) (SetTable.bits (nhash P w k))) c) q = nth t.mask (runAt t.mask (SetTable.bits (nhash P w k) % (t.mask + 1)) (SetTable.bits (nhash P w k))) (c + q) := fun q => (nth_add t.mask c _ q).symm
    have e1 : ∀ q, (nth t.mask (nth t.mask (runAt t.mask (SetTable.bits (nhash P w k) % (t.mask + 1)) (SetTable.bits (nhash P w k))) c) q).j = way t.mask (nhash P w k) (c + q) := fun q => congrArg SetTable.Probe.j (sh q)
    have spec := go_spec t R.tab.ris R.tab.dm (fun i => (es[i]?.map (·.1)).getD 0) (nhash P w k) (10 * SetTable.turns t.mask) (K - c) _ hnd (by omega)
      (fun q hq => by rw [e1]; exact hKb (c + q) (by omega)) (by rw [e1, show c + (K - c) = K by omega]; exact hK)
    have hashAt : ∀ (i : Nat) p, L[i]? = some p → (fun i => (es[i]?.map (·.1)).getD 0) i = nhash P w p.2 := fun i p hp => by
      show (es[i]?.map (·.1)).getD 0 = _
      rw [R.entry hp] <;> rfl
    rcases spec with ⟨q, i, hq, hi, hh, hno, hpr⟩ | ⟨hno, hpr⟩
    · -- a candidate
      have hpr' : t.probe (fun i => (es[i]?.map (·.1)).getD 0) (nhash P w k) (stand.getD (t.probeStart (nhash P w k))) = some (.candidate (way t.mask (nhash P w k) (c + q)) i (nth t.mask (runAt t.mask (SetTable.bits (nhash P w k) % (t.mask + 1)) (SetTable.bits (nhash P w k))) (c + (q + 1)))) := by
        rw [hst, ← e1, ← sh]
        exact hpr
      rw [hpr']
      dsimp only
      rw [e1] at hi
      have hil : i < L.length := by
        have h1 : i < t.place.toList.length := (List.getElem?_eq_some_iff.mp hi).1
        have h2 := R.tab.sz
        rw [List.length_map] at h2
        rw [Array.length_toList] at h1
        omega
      have hp : L[i]? = some L[i] := List.getElem?_eq_getElem hil
      generalize hpe : L[i] = p at hp
      have hmem : p ∈ L := List.mem_of_getElem? hp
      have hpt := R.tup p hmem
      have rest : wpAny (model P w) A (searchRest a (.ref x) (nhash P w k) true f es t (way t.mask (nhash P w k) (c + q)) i (nth t.mask (runAt t.mask (SetTable.bits (nhash P w k) % (t.mask + 1)) (SetTable.bits (nhash P w k))) (c + (q + 1)))) Q E s := by
        unfold searchRest
        rw [R.entry hp]
        dsimp only
        refine wpAny_bind (wpAny_holding ((nestedKind P w).eqBool hu hpt hx ?_))
        refine wpAny_bind (wpAny_setState_of ho hd R.fits ?_)
        dsimp only
        by_cases hkk : p.2 = k
        · refine wp_if_pos (by simp [hkk]) ?_
          refine wpAny_pure (hin ?_)
          exact List.mem_map.mpr ⟨p, hmem, hkk⟩
        · refine wp_if_neg (by simp [hkk]) ?_
          try refine wpAny_bind (wpAny_pure ?_)
          rw [sameMem]
          dsimp only
          have hsl : t.slot (way t.mask (nhash P w k) (c + q)) = .live i := slot_live R.tab.ris hi
          simp only [if_true, hsl, R.entry hp]
          refine wpAny_bind (wpAny_isSame_ref_self (wpAny_bind (wpAny_pure ?_)))
          simp only [if_true]
          refine wp_if_neg (by simp [hkk]) ?_
          refine search_from R hx hu hKf hK hKb hin hout f (c + (q + 1)) _ rfl (by omega) (by omega) fun i0 p0 h0 hk0 => ?_
          obtain ⟨c', a1, a2, a3⟩ := hre i0 p0 h0 hk0
          refine ⟨c', ?_, a2, a3⟩
          rcases Nat.lt_or_ge c' (c + q) with z | z
          · exfalso
            refine hno (c' - c) i0 (by omega) (by rw [e1, show c + (c' - c) = c' by omega]; exact a3) ?_
            exact (hashAt i0 p0 h0).trans (congrArg (nhash P w) hk0)
          · rcases Nat.lt_or_ge (c + q) c' with y | y
            · omega
            · exfalso
              have ec : c' = c + q := Nat.le_antisymm y z
              rw [ec] at a3
              have s0 := slot_live R.tab.ris a3
              rw [hsl] at s0
              injection s0 with s0
              rw [← s0, hp] at h0
              exact hkk ((congrArg Prod.snd (Option.some.inj h0)).trans hk0)
      by_cases hl : t.led = true
      · refine wp_if_neg (by simp [hl]) ?_
        try refine wpAny_bind (wpAny_pure ?_)
        exact rest
      · refine wp_if_pos (by simp [hl]) ?_
        refine wpAny_bind (seen_n hx (fun y hy => ?_) ?_)
        · obtain ⟨e, he, ee⟩ := List.mem_map.mp hy
          have he1 : e ∈ es ∧ e.1 = nhash P w k := by simpa using he
          have he2 : e ∈ es.toList := by simpa using he1.1
          rw [R.rows] at he2
          obtain ⟨p2, hp2, e2⟩ := List.mem_map.mp he2
          refine ⟨p2.2, p2.1, ?_, R.tup p2 hp2⟩
          rw [← ee, ← e2]
        · refine wp_if_neg (by decide) ?_
          try refine wpAny_bind (wpAny_pure ?_)
          exact rest
    · -- the empty slot
      have hpr' : t.probe (fun i => (es[i]?.map (·.1)).getD 0) (nhash P w k) (stand.getD (t.probeStart (nhash P w k))) = some (.empty (way t.mask (nhash P w k) K) none) := by
        have e2 : way t.mask (nhash P w k) K = (nth t.mask (nth t.mask (runAt t.mask (SetTable.bits (nhash P w k) % (t.mask + 1)) (SetTable.bits (nhash P w k))) c) (K - c)).j := by
          rw [e1, show c + (K - c) = K by omega]
        rw [hst, e2]
        exact hpr
      rw [hpr']
      dsimp only
      refine wpAny_pure (hout fun hm => ?_)
      obtain ⟨p0, h0, hk0⟩ := List.mem_map.mp hm
      obtain ⟨i0, hi0, e0⟩ := List.getElem_of_mem h0
      have h00 : L[i0]? = some p0 := by rw [List.getElem?_eq_getElem hi0, e0]
      obtain ⟨c', a1, a2, a3⟩ := hre i0 p0 h00 hk0
      refine hno (c' - c) i0 (by omega) (by rw [e1, show c + (c' - c) = c' by omega]; exact a3) ?_
      exact (hashAt i0 p0 h00).trans (congrArg (nhash P w) hk0)

theorem search_at (R : SetN P w s.heap a L es ep t) {x : Addr} {k : NestedKey} (hx : IsN P w s.heap k x) (hu : A.units + 8 < cLine) {Q : SetFound → Shared → Prop}
    (hin : k ∈ L.map (·.2) → Q (.there none) s)
    (hout : ∀ K, k ∉ L.map (·.2) → way t.mask (nhash P w k) K ∉ t.place.toList → (∀ c, c < K → way t.mask (nhash P w k) c ∈ t.place.toList) → Q (.free (way t.mask (nhash P w k) K) false) s) :
    wpAny (model P w) A (setSearch a (.ref x) (nhash P w k) true) Q E s := by
  have hroom := R.room
  obtain ⟨K, hKf, hK, hKb⟩ := R.tab.first (by rw [List.length_map]; omega) (nhash P w k)
  have hbig : K < 100000 := by
    have : 10 * SetTable.turns t.mask ≤ 1420 := by
      unfold SetTable.turns
      rcases R.tab.mok with e | e | e <;> omega
    omega
  unfold setSearch
  refine search_from R hx hu hKf hK hKb hin (fun hn => hout K hn hK hKb) 100000 0 none rfl (Nat.zero_le _) (by omega) fun i p hp hk => ?_
  have hi : (L.map fun p => nhash P w p.2)[i]? = some (nhash P w k) := by rw [List.getElem?_map, hp, ← hk] <;> rfl
  have hil : i < t.place.toList.length := by
    have h1 : i < L.length := (List.getElem?_eq_some_iff.mp hp).1
    have h2 := R.tab.sz
    rw [List.length_map] at h2
    rw [Array.length_toList]
    omega
  have hj := List.getElem?_eq_getElem hil
  obtain ⟨c, hc, e⟩ := R.tab.before hK hi hj
  exact ⟨c, Nat.zero_le _, hc, by rw [hj, e]⟩
--3
theorem rows_put (L : List (Addr × NestedKey)) (p : Nat) (x : Addr) (k : NestedKey) : rowsOf P w (L.take p ++ (x, k) :: L.drop p) = (rowsOf P w L).take p ++ (nhash P w k, Value.ref x) :: (rowsOf P w L).drop p := by
  unfold rowsOf
  rw [List.map_append, List.map_cons, List.map_take, List.map_drop]
--4
theorem order_rows (L : List (Addr × NestedKey)) (es : Array (Int × Value)) (order : Array Nat) (hr : es.toList = rowsOf P w L) (hp : order.toList.Perm (List.range L.length)) :
    ∃ L2, (order.filterMap (es[·]?)).toList = rowsOf P w L2 ∧ L2.Perm L ∧ (L2.map fun p => nhash P w p.2) = order.toList.map fun i => (es.map (·.1)).getD i 0 := by
  have hsz : es.size = L.length := by
    have h := congrArg List.length hr
    unfold rowsOf at h
    rw [Array.length_toList, List.length_map] at h
    exact h
  have ent : ∀ i (h : i < L.length), es[i]? = some (nhash P w (L[i]).2, Value.ref (L[i]).1) := fun i h => by
    rw [← Array.getElem?_toList, hr]
    unfold rowsOf
    rw [List.getElem?_map, List.getElem?_eq_getElem h] <;> rfl
  have key : ∀ l : List Nat, (∀ i ∈ l, i < L.length) → ∃ L2 : List (Addr × NestedKey), l.filterMap (fun i => es[i]?) = rowsOf P w L2 ∧ L2 = l.filterMap (fun i => L[i]?) ∧ (L2.map fun p => nhash P w p.2) = l.map fun i => (es.map (·.1)).getD i 0 := by
    intro l
    induction l with
    | nil => intro _; exact ⟨[], rfl, rfl, rfl⟩
    | cons i l ih =>
      intro hl
      have hi := hl i List.mem_cons_self
      obtain ⟨L2, e1, e2, e3⟩ := ih fun j hj => hl j (List.mem_cons_of_mem _ hj)
      refine ⟨L[i] :: L2, ?_, ?_, ?_⟩
      · rw [List.filterMap_cons_some (ent i hi), e1] <;> rfl
      · rw [List.filterMap_cons_some (List.getElem?_eq_getElem hi), e2]
      · rw [List.map_cons, List.map_cons, e3]
        have hi2 : i < (es.map (·.1)).size := by rw [Array.size_map, hsz]; exact hi
        have e4 : (es.map (·.1)).getD i 0 = nhash P w (L[i]).2 := by
          have e5 : (es.map (·.1))[i]? = some (nhash P w (L[i]).2) := by rw [Array.getElem?_map, ent i hi] <;> rfl
          simp [Array.getD_eq_getD_getElem?, e5]
        rw [e4]
  obtain ⟨L2, e1, e2, e3⟩ := key order.toList fun i hi => List.mem_range.mp (hp.mem_iff.mp hi)
  refine ⟨L2, by first | (rw [Array.toList_filterMap]; exact e1) | simpa using e1, ?_, e3⟩
  have h1 : L2.Perm ((List.range L.length).filterMap fun i => L[i]?) := by
    rw [e2]
    exact hp.filterMap _
  have h2 : (List.range L.length).filterMap (fun i => L[i]?) = L := by
    have key2 : ∀ n, n ≤ L.length → (List.range n).filterMap (fun i => L[i]?) = L.take n := by
      intro n
      induction n with
      | zero => intro _; rfl
      | succ n ih =>
        intro hn
        have hlt : n < L.length := hn
        rw [List.range_succ, List.filterMap_append, ih (Nat.le_of_lt hlt), List.take_succ, List.getElem?_eq_getElem hlt]
        rw [List.filterMap_cons_some (List.getElem?_eq_getElem hlt)] <;> rfl
    rw [key2 L.length (Nat.le_refl _), List.take_length]
  rw [h2] at h1
  exact h1

theorem relay_at {o : Obj} (ho : s.heap.get? a = some o) (hex : o.ExactSet) (hd : o.data = .set es ep t) (hrows : es.toList = rowsOf P w L) (hsz : t.place.size = es.size) (hdm : t.dummies = #[]) (hfl : es.size ≤ t.mask)
    (nd : (L.map (·.2)).Nodup) (tup : ∀ p ∈ L, IsN P w s.heap p.2 p.1) (ld : w.params.followText "set-order" = true ∨ t.led = true) (few : L.length < 64) {wanted M : Nat}
    (hw : SetTable.sizeAbove wanted - 1 = M) (hM : MaskOk M) (hw2 : SetTable.sizeAbove wanted ≤ 128) (hn : L.length * 5 < M * 3) {Q : Unit → Shared → Prop}
    (hQ : ∀ h' L' es' ep' t', Heap.SameBut a s.heap h' → SetN P w h' a L' es' ep' t' → L'.Perm L → Q () { s with heap := h' }) : wpAny (model P w) A (setRelay a wanted) Q E s := by
  have hsl : es.size = L.length := by
    have h := congrArg List.length hrows
    unfold rowsOf at h
    rw [Array.length_toList, List.length_map] at h
    exact h
  have hfits : t.fits es.size = true := by
    unfold SetTable.fits SetTable.fill
    rw [hdm, Bool.and_eq_true, beq_iff_eq, decide_eq_true_eq]
    show t.place.size = es.size ∧ t.place.size + 0 ≤ t.mask
    omega
  obtain ⟨t', order, e, hp, T, em, el, ep', ed⟩ := relaid_ok t (hs := es.map (·.1)) (wanted := wanted) hw hM (by rw [Array.size_map, hsl]; omega)
  rw [Array.size_map, hsl] at hp
  obtain ⟨L2, r1, r2, r3⟩ := order_rows L es order hrows hp
  rw [← r3] at T
  have hs2 : (order.filterMap (es[·]?)).size = es.size := by
    have h := congrArg List.length r1
    unfold rowsOf at h
    rw [Array.length_toList, List.length_map, r2.length_eq] at h
    rw [h, hsl]
  rw [setRelay_eq]
  refine wpAny_bind (wpAny_setState_of ho hd hfits ?_)
  dsimp only
  refine wp_if_neg (by rw [sizeLine_eq]; omega) ?_
  try refine wpAny_bind (wpAny_pure ?_)
  rw [e]
  dsimp only
  refine wpAny_bind ?_
  refine wp_if_neg (by rw [hs2]; simp) ?_
  try refine wpAny_bind (wpAny_pure ?_)
  refine wpAny_pure ?_
  dsimp only
  refine wpAny_storeSet_of ho hd ?_ (by rw [hs2, hsl, sizeLine_eq]; omega)
  have sb : Heap.SameBut a s.heap (s.heap.update a (Obj.putSet (order.filterMap (es[·]?)) t')) := Heap.SameBut.update ..
  refine hQ _ L2 (order.filterMap (es[·]?)) (ep + 1) t' sb ?_ r2
  refine ⟨⟨_, store_at ho hd, ⟨hex.1, hex.2.1, hex.2.2⟩, rfl⟩, r1, T, ?_, fun p hpm => isN_same (tup p (r2.mem_iff.mp hpm)) ho hd sb, by rw [el]; exact ld, ?_, by rw [r2.length_eq]; exact few⟩
  · exact (r2.map (·.2)).nodup_iff.mpr nd
  · rw [r2.length_eq, em]
    exact hn

theorem add_at (R : SetN P w s.heap a L es ep t) {x : Addr} {k : NestedKey} (hx : IsN P w s.heap k x) (hu : A.units + 8 < cLine) (hfew : L.length + 1 < 64) {Q : Bool → Shared → Prop}
    (hQ : ∀ b h' L' es' ep' t', Heap.SameBut a s.heap h' → SetN P w h' a L' es' ep' t' → (k ∈ L.map (·.2) → L' = L) → (k ∉ L.map (·.2) → L'.Perm ((x, k) :: L)) → Q b { s with heap := h' }) :
    wpAny (model P w) A (setAddHashed a (.ref x) (nhash P w k)) Q E s := by
  obtain ⟨o, ho, hex, hd⟩ := R.ob
  have hsl := R.size
  have hroom := R.room
  unfold setAddHashed
  refine wpAny_holding ?_
  rw [show (100000 : Nat) = 99999 + 1 from rfl, setAddHashedIn_succ]
  refine wpAny_bind (wpAny_setState_of ho hd R.fits ?_)
  dsimp only
  refine wp_if_neg (by simp [byScan, Value.scannable]) ?_
  try refine wpAny_bind (wpAny_pure ?_)
  refine wpAny_bind (search_at R hx hu (fun hm => ?_) fun K hm hK hb => ?_)
  · dsimp only
    exact wpAny_pure (hQ false s.heap L es ep t (Heap.SameBut.refl a s.heap) R (fun _ => rfl) fun z => absurd hm z)
  · dsimp only
    refine wpAny_bind (wpAny_setState_of ho hd R.fits ?_)
    dsimp only
    obtain ⟨q1, q2, q3, q4, q5, q6, q7, q8, q9⟩ := R.tab.put hK hb
    generalize hpt : t.put (way t.mask (nhash P w k) K) = pt at q1 q3 q4 q5 q6 q7 q8 q9 ⊢
    obtain ⟨t0, p⟩ := pt
    dsimp only at q1 q3 q4 q5 q6 q7 q8 q9 ⊢
    subst q1
    have byV : ∀ {f : Bool → Sem Bool}, (∀ b, wpAny (model P w) A (f b) Q E s) → wpAny (model P w) A (if t0.plain = true then hashByValue 8 (.ref x) >>= f else pure true >>= f) Q E s := fun {f} hQ' => by
      by_cases z : t0.plain = true
      · exact wp_if_pos z (wpAny_bind (hashBy_n hx hQ'))
      · exact wp_if_neg z (wpAny_bind (wpAny_pure (hQ' true)))
    refine byV fun bv => ?_
    obtain ⟨t1, ht2, m1, m2, m3, m4, m5⟩ : ∃ t1 : SetTable, (if bv = true then t0 else { t0 with plain := false }) = t1 ∧ t1.place = t0.place ∧ t1.dummies = t0.dummies ∧ t1.mask = t0.mask ∧ t1.led = t0.led ∧ t1.fill = t0.fill := by
      cases bv <;> exact ⟨_, rfl, rfl, rfl, rfl, rfl, rfl⟩
    rw [ht2]
    have tabT : ∀ {hs : List Int}, TabOk t0 hs → TabOk t1 hs := fun {hs} T => by
      cases bv <;> (simp only [Bool.false_eq_true, if_true, if_false] at ht2; subst ht2; exact ⟨T.1, T.2, T.3, T.4, T.5, T.6⟩)
    rw [← m4] at q5
    rw [← m5] at q9
    rw [← m3] at q4
    replace q3 := tabT q3
    clear ht2 byV
    have hin : (SetTable.insertAt es (SetTable.below t.place (way t.mask (nhash P w k) K)) (nhash P w k, Value.ref x)).toList = rowsOf P w (L.take (SetTable.below t.place (way t.mask (nhash P w k) K)) ++ (x, k) :: L.drop (SetTable.below t.place (way t.mask (nhash P w k) K))) := by
      rw [SetTable.toList_insertAt, rows_put, R.rows]
    generalize hpp : SetTable.below t.place (way t.mask (nhash P w k) K) = p at q2 q3 hin ⊢
    have pm := put_perm L p (x, k)
    have hlen : (L.take p ++ (x, k) :: L.drop p).length = L.length + 1 := pm.length_eq
    have hhs : (L.take p ++ (x, k) :: L.drop p).map (fun p => nhash P w p.2) = (L.map fun p => nhash P w p.2).take p ++ nhash P w k :: (L.map fun p => nhash P w p.2).drop p := by
      rw [List.map_append, List.map_cons, List.map_take, List.map_drop]
    rw [← hhs] at q3
    have nd1 : ((L.take p ++ (x, k) :: L.drop p).map (·.2)).Nodup := by
      refine (pm.map (·.2)).nodup_iff.mpr ?_
      rw [List.map_cons]
      exact List.nodup_cons.mpr ⟨hm, R.nd⟩
    have hes : (SetTable.insertAt es p (nhash P w k, Value.ref x)).size = L.length + 1 := by
      have h := congrArg List.length hin
      unfold rowsOf at h
      rw [Array.length_toList, List.length_map, hlen] at h
      exact h
    generalize SetTable.insertAt es p (nhash P w k, Value.ref x) = es1 at hin hes ⊢
    generalize L.take p ++ (x, k) :: L.drop p = L1 at pm hlen q3 nd1 hin
    refine wpAny_bind (wpAny_storeSet_of ho hd ?_ (by rw [hes, sizeLine_eq]; omega))
    have sb : Heap.SameBut a s.heap (s.heap.update a (Obj.putSet es1 t1)) := Heap.SameBut.update ..
    have ho1 := store_at (es' := es1) (t' := t1) ho hd
    generalize s.heap.update a (Obj.putSet es1 t1) = h1 at sb ho1 ⊢
    have tup1 : ∀ p ∈ L1, IsN P w h1 p.2 p.1 := fun p hp => by
      rcases List.mem_cons.mp (pm.mem_iff.mp hp) with e | hp
      · rw [e]; exact isN_same hx ho hd sb
      · exact isN_same (R.tup p hp) ho hd sb
    have ld1 : w.params.followText "set-order" = true ∨ t1.led = true := by rw [q5]; exact R.led
    by_cases hf : t1.tooFull = true
    · first
        | (refine wpAny_bind ?_; refine wp_if_pos (by simp [hf]) ?_)
        | (refine wp_if_pos (by simp [hf]) ?_; refine wpAny_bind ?_)
      have hfull : (L.length + 1) * 5 ≥ t1.mask * 3 := by
        have h := hf
        unfold SetTable.tooFull at h
        rw [decide_eq_true_eq, q9, List.length_map] at h
        exact h
      rw [hsl]
      have hsz1 : t1.place.size = es1.size := by
        have h := q3.sz
        rw [List.length_map, hlen] at h
        rw [h, hes]
      have cases2 : (t.mask = 7 ∧ L.length = 4) ∨ (t.mask = 31 ∧ L.length = 18) := by
        rcases R.tab.mok with e | e | e
        · left; rw [q4, e] at hfull; rw [e] at hroom; exact ⟨e, by omega⟩
        · right; rw [q4, e] at hfull; rw [e] at hroom; exact ⟨e, by omega⟩
        · exfalso; rw [q4, e] at hfull; omega
      have go : ∀ M, SetTable.sizeAbove (SetTable.grown (L.length + 1)) - 1 = M → MaskOk M → SetTable.sizeAbove (SetTable.grown (L.length + 1)) ≤ 128 → (L.length + 1) * 5 < M * 3 →
          wpAny (model P w) A (setRelay a (SetTable.grown (L.length + 1))) (fun _ s' => wpAny (model P w) A (pure true) Q E s') E { s with heap := h1 } := fun M h1' h2' h3' h4' => by
        refine relay_at (s := { s with heap := h1 }) ho1 ⟨hex.1, hex.2.1, hex.2.2⟩ rfl hin hsz1 q3.dm (by rw [hes, q4]; rcases cases2 with ⟨e, e2⟩ | ⟨e, e2⟩ <;> omega) nd1 tup1 ld1 (by rw [hlen]; exact hfew) h1' h2' h3' (by rw [hlen]; exact h4') ?_
        intro h2 L2 es2 ep2 t2 sb2 R2 pm2
        refine wpAny_pure (hQ true h2 L2 es2 ep2 t2 (sb.trans sb2) R2 (fun z => absurd z hm) fun _ => pm2.trans pm)
      rcases cases2 with ⟨_, e2⟩ | ⟨_, e2⟩
      · refine go 31 (by rw [e2, size_20]) (.inr (.inl rfl)) (by rw [e2, size_20]; decide) (by omega)
      · refine go 127 (by rw [e2, size_76]) (.inr (.inr rfl)) (by rw [e2, size_76]; decide) (by omega)
    · first
        | refine wp_if_neg (by simp [hf]) ?_
        | (refine wpAny_bind ?_; refine wp_if_neg (by simp [hf]) ?_; refine wpAny_pure ?_)
      refine wpAny_pure (hQ true h1 L1 es1 (ep + 1) t1 sb ⟨⟨_, ho1, ⟨hex.1, hex.2.1, hex.2.2⟩, rfl⟩, hin, q3, nd1, tup1, ld1, ?_, by rw [hlen]; exact hfew⟩ (fun z => absurd z hm) fun _ => pm)
      have h := hf
      unfold SetTable.tooFull at h
      rw [decide_eq_true_eq, q9, List.length_map] at h
      rw [hlen]
      omega
--6
structure Got (ks : List (Addr × NestedKey)) (i : Nat) (L : List (Addr × NestedKey)) : Prop where
  sub : ∀ p ∈ L, p ∈ ks.take i
  all : ∀ p ∈ ks.take i, p.2 ∈ L.map (·.2)
  len : L.length ≤ i
theorem Got.zero (ks : List (Addr × NestedKey)) : Got ks 0 [] := ⟨fun p h => (by cases h), fun p h => (by simp at h), Nat.le_refl _⟩
theorem Got.same {ks L : List (Addr × NestedKey)} {i : Nat} {x : Addr × NestedKey} (g : Got ks i L) (h : ks[i]? = some x) (hm : x.2 ∈ L.map (·.2)) : Got ks (i + 1) L := by
  refine ⟨fun p hp => ?_, fun p hp => ?_, Nat.le_succ_of_le g.len⟩
  · rw [take_next h]
    exact List.mem_append_left _ (g.sub p hp)
  · rw [take_next h] at hp
    rcases List.mem_append.mp hp with z | z
    · exact g.all p z
    · rw [List.mem_singleton.mp z]; exact hm
theorem Got.more {ks L L' : List (Addr × NestedKey)} {i : Nat} {x : Addr × NestedKey} (g : Got ks i L) (h : ks[i]? = some x) (pm : L'.Perm (x :: L)) : Got ks (i + 1) L' := by
  refine ⟨fun p hp => ?_, fun p hp => ?_, ?_⟩
  · rw [take_next h]
    rcases List.mem_cons.mp (pm.mem_iff.mp hp) with e | z
    · rw [e]; exact List.mem_append_right _ (List.mem_singleton.mpr rfl)
    · exact List.mem_append_left _ (g.sub p z)
  · rw [(pm.map (·.2)).mem_iff, List.map_cons]
    rw [take_next h] at hp
    rcases List.mem_append.mp hp with z | z
    · exact List.mem_cons_of_mem _ (g.all p z)
    · rw [List.mem_singleton.mp z]; exact List.mem_cons_self
  · rw [pm.length_eq, List.length_cons]
    exact Nat.succ_le_succ g.len

--8
theorem SetN.keep {h h' : Heap} {a : Addr} {L : List (Addr × NestedKey)} {es : Array (Int × Value)} {ep : Nat} {t : SetTable} (R : SetN P w h a L es ep t) (ha : ∀ o, h.get? a = some o → h'.get? a = some o) (ht : ∀ p ∈ L, IsN P w h' p.2 p.1) : SetN P w h' a L es ep t := by
  obtain ⟨o, ho, r⟩ := R.ob
  exact ⟨⟨o, ha o ho, r⟩, R.rows, R.tab, R.nd, ht, R.led, R.room, R.few⟩
theorem setN_fresh {h : Heap} {a : Addr} (ho : h.get? a = some { cls := .type "set", dict := none, data := .set #[] 0 (.fresh 0 0 (!w.params.followText "set-order")) }) : SetN P w h a [] #[] 0 (.fresh 0 0 (!w.params.followText "set-order")) where
  ob := ⟨_, ho, ⟨rfl, rfl, rfl⟩, rfl⟩
  rows := rfl
  tab := ⟨List.Pairwise.nil, rfl, rfl, .inl rfl, fun x hx => (by cases hx), fun i h j hi => (by simp at hi)⟩
  nd := List.nodup_nil
  tup := fun p hp => (by cases hp)
  led := by
    show _ ∨ (!w.params.followText "set-order") = true
    cases w.params.followText "set-order"
    · exact .inr rfl
    · exact .inl rfl
  room := by
    show 0 * 5 < 7 * 3
    decide
  few := by
    show 0 < 64
    decide

theorem set_update_n {I : Addr} {fp wr : List Addr} {G : Array GenState → Array GenState → Prop} {n : Nat} {Pv : Nat → Value → Prop} {St : Nat → Shared → Prop} {R : Result → Shared → Prop}
    (W : WalksS P w A.in1 I fp wr G n Pv St) (S : Addr) (hSf : S ∉ fp) (ks : List (Addr × NestedKey)) (hn : n = ks.length) (hfew : ks.length < 64) (hval : ∀ i v, Pv i v → ∃ p, ks[i]? = some p ∧ v = .ref p.1)
    (h0 : Heap) (hk : ∀ p ∈ ks, IsN P w h0 p.2 p.1) (hS0 : h0.get? S = none) (hw0 : ∀ b ∈ wr, h0.get? b = none) (hu : A.in1.units + 8 < cLine) :
    ∀ (k i : Nat) (s : Shared), n - i = k → i ≤ n → St i s → (∀ b o, h0.get? b = some o → s.heap.get? b = some o) → (∃ L es ep t, SetN P w s.heap S L es ep t ∧ Got ks i L) →
      (∀ s' L es ep t, Moved (S :: wr) G s s' → SetN P w s'.heap S L es ep t → Got ks n L → (∀ b o, h0.get? b = some o → s'.heap.get? b = some o) → R (.ok (.ret .none)) s') →
      codeAny (model P w) A (.builtin "set.update.loop" ⟨[.ref S, .ref I], []⟩) R s := by
  have hSw : S ∉ wr := fun h => hSf (W.sub _ h)
  have hsub : ∀ b ∈ wr, b ∈ S :: wr := fun b hb => List.mem_cons_of_mem _ hb
  have keepM : ∀ {s s' : Shared}, Moved wr G s s' → (∀ b o, h0.get? b = some o → s.heap.get? b = some o) → ∀ b o, h0.get? b = some o → s'.heap.get? b = some o := fun hm hkp b o e =>
    hm.heap b o (fun hb => by rw [hw0 b hb] at e; cases e) (hkp b o e)
  intro k
  induction k with
  | zero =>
    intro i s hk' hi hst hkp ⟨L, es, ep, t, hS, g⟩ hR
    have hin : i = n := by omega
    subst hin
    refine codeAny_builtin F.entry_set_update_loop ?_
    rw [Around.under_plainId F.plain_set_update_loop _]
    show wpAny _ A.in1 (pyNext (.ref I) >>= _) _ _ s
    refine wpAny_bind (W.done s _ _ hst fun s' hm => ?_)
    show wpAny _ A.in1 (ret Value.none) _ _ s'
    have hkp' := keepM hm hkp
    have sub : ∀ p ∈ L, p ∈ ks := fun p hp => List.mem_of_mem_take (g.sub p hp)
    exact wpAny_pure (hR s' L es ep t (hm.mono hsub) (hS.keep (fun o e => hm.heap S o hSw e) fun p hp => isN_keep (hk p (sub p hp)) hkp') g hkp')
  | succ k ih =>
    intro i s hk' hi hst hkp ⟨L, es, ep, t, hS, g⟩ hR
    have hlt : i < n := by omega
    refine codeAny_builtin F.entry_set_update_loop ?_
    rw [Around.under_plainId F.plain_set_update_loop _]
    show wpAny _ A.in1 (pyNext (.ref I) >>= _) _ _ s
    refine wpAny_bind (W.item i s _ _ hlt hst fun v s' hP hst' hm => ?_)
    obtain ⟨p, hp, rfl⟩ := hval i v hP
    have hkp' := keepM hm hkp
    have sub : ∀ p ∈ L, p ∈ ks := fun p hp => List.mem_of_mem_take (g.sub p hp)
    have hS' : SetN P w s'.heap S L es ep t := hS.keep (fun o e => hm.heap S o hSw e) fun q hq => isN_keep (hk q (sub q hq)) hkp'
    have hx : IsN P w s'.heap p.2 p.1 := isN_keep (hk p (List.mem_of_getElem? hp)) hkp'
    show wpAny _ A.in1 (holding [Value.ref p.1] (setAdd S (.ref p.1)) >>= _) _ _ s'
    refine wpAny_bind (wpAny_holding ?_)
    unfold setAdd
    refine wpAny_holding ?_
    refine wpAny_bind ((nestedKind P w).pyHash hu hx ?_)
    refine add_at (s := { s' with toks := s'.toks + p.2.draws }) hS' hx hu (by have := g.len; omega) fun b h' L' es' ep' t' hsb hS2 c1 c2 => ?_
    have g' : Got ks (i + 1) L' := by
      rcases Classical.em (p.2 ∈ L.map (·.2)) with c | c
      · rw [c1 c]; exact g.same hp c
      · exact g.more hp (c2 c)
    have hkp2 : ∀ b o, h0.get? b = some o → h'.get? b = some o := fun b o e => (hsb.2 b (fun z => by rw [z, hS0] at e; cases e)).trans (hkp' b o e)
    refine wpAny_pure ⟨plainId_quiet F.plain_set_update_loop _, ih (i + 1) _ (by omega) hlt (W.frame _ s' _ _ hst' (Nat.le_add_right _ _) fun b hb o e => ?_) hkp2 ⟨L', es', ep', t', hS2, g'⟩ fun s'' L2 es2 ep2 t2 hm'' hS'' g'' hkp'' => ?_⟩
    · rw [hsb.2 b (fun h : b = S => hSf (by rw [← h]; exact hb))]; exact e
    · refine hR s'' L2 es2 ep2 t2 (Moved.trans W.gtrans ((hm.mono hsub).then_heap (Nat.le_add_right _ _) fun b o hb e => ?_) hm'') hS'' g'' hkp''
      rw [hsb.2 b (fun h : b = S => hb (by rw [h]; exact List.mem_cons_self))]; exact e

set_option maxRecDepth 100000 in
set_option maxHeartbeats 3200000 in
theorem call_set_n {l : Addr} {items : Array Value} (ks : List (Addr × NestedKey)) {Q : Value → Shared → Prop} (hh : A.handled = none) (hl : s.heap.IsList l items) (hit : items.toList = ks.map fun p => Value.ref p.1)
    (hk : ∀ p ∈ ks, IsN P w s.heap p.2 p.1) (hfew : ks.length < 64) (hu : A.units + 11 < cLine)
    (h : ∀ (h' : Heap) (tk : Nat) L es ep t, SetN P w h' s.heap.objs.size L es ep t → Got ks ks.length L → (∀ b o, s.heap.get? b = some o → h'.get? b = some o) → Q (.ref s.heap.objs.size) { s with heap := h', toks := tk }) :
    wpAny (model P w) A (call (.type "set") [.ref l]) Q E s := by
  have hisz : items.size = ks.length := by
    have q := congrArg List.length hit
    rw [Array.length_toList, List.length_map] at q
    exact q
  obtain ⟨c, tl, hmro⟩ := F.called_set.mro
  have hmade := F.called_set.made
  have hsub := F.called_set.sub
  refine wpAny_call (codeAny_of_tree ?_)
  show wpAny _ _ (callAny (.type "set") _) _ _ _
  refine wpAny_pure ⟨Code.quiet_builtin _ (by decide +kernel), codeAny_builtin F.entry_type_call ?_⟩
  rw [Around.under_plain (weight_type_call_type "set" [.ref l] []) rfl]
  have h1 := F.called_set.notType
  have h2 := F.called_set.canCreate
  have hct := F.typeCall_set_1 (.ref l)
  repeat (any_goals (first | assumption | wp_step))

  refine codeAny_mono (code_set_led1 (.ref l) (E := E) (Q₁ := fun obj s₁ => obj = .ref s.heap.objs.size ∧ s₁ = { s with heap := s.heap.push { cls := .type "set", dict := none, data := .set #[] 0 (.fresh 0 0 (!w.params.followText "set-order")) } }) ⟨rfl, rfl⟩) fun r s₁ hr => ?_
  cases r with
  | error e => exact hr
  | ok fl =>
    cases fl with
    | ret obj =>
      obtain ⟨rfl, rfl⟩ := hr
      have hS : (s.heap.push { cls := .type "set", dict := none, data := .set #[] 0 (.fresh 0 0 (!w.params.followText "set-order")) }).get? s.heap.objs.size = some { cls := .type "set", dict := none, data := .set #[] 0 (.fresh 0 0 (!w.params.followText "set-order")) } := Heap.get?_push_size _ rfl
      have hT : Shared.TypeIs { s with heap := s.heap.push { cls := .type "set", dict := none, data := .set #[] 0 (.fresh 0 0 (!w.params.followText "set-order")) } } (.ref s.heap.objs.size) "set" := ⟨_, hS, rfl⟩
      have hli := F.called_set.init.lookup
      have hbi := F.called_set.init.bind (.ref s.heap.objs.size)
      repeat (any_goals (first | assumption | wp_step))

      refine codeAny_mono (codeAny_call_builtin (R := wants (fun r s₂ => r = .none ∧ ∃ h' tk L es ep t, s₂ = { s with heap := h', toks := tk } ∧ SetN P w h' s.heap.objs.size L es ep t ∧ Got ks ks.length L ∧
          (∀ b o, s.heap.get? b = some o → h'.get? b = some o)) E) F.called_set.init.plain F.entry_set_init (check_set_init_1 hT ?_)) fun r₂ s₂ hr₂ => ?_
      · obtain ⟨ol, hol, hcl, nl, hdl⟩ := hl
        obtain ⟨ocls, odict, odata, oslots⟩ := ol
        simp only at hcl hdl
        subst hcl; subst hdl
        have hol' : (s.heap.push { cls := .type "set", dict := none, data := .set #[] 0 (.fresh 0 0 (!w.params.followText "set-order")) }).get? l = some { cls := .type "list", dict := odict, data := .seq items nl, slots := oslots } := Heap.get?_push_of_some _ hol
        have hsls := F.sub_list_set
        have hslf := F.sub_list_frozenset
        have hne : (Value.type "list" == Value.type "dict") = false := by decide
        have hl1 : (s.heap.push { cls := .type "set", dict := none, data := .set #[] 0 (.fresh 0 0 (!w.params.followText "set-order")) }).IsList l items := ⟨_, hol', rfl, nl, rfl⟩
        unfold Builtin.«set.__init__» noKeywords Builtin.Frozenset.updateFrom
        generalize hPI : pyIter = PI
        wp_walk
        subst hPI

        refine wpAny_pyIter_list hl1 ?_
        refine wpAny_bind (wpAny_runValue ?_)
        have hlS : l < s.heap.objs.size := Heap.lt_size hol
        have hh3 : A.in1.in1.in1.handled = none := by simp [hh]
        have hz1 : (s.heap.push { cls := .type "set", dict := none, data := .set #[] 0 (.fresh 0 0 (!w.params.followText "set-order")) }).objs.size = s.heap.objs.size + 1 := Heap.size_push ..
        have hneI : l ≠ (s.heap.push { cls := .type "set", dict := none, data := .set #[] 0 (.fresh 0 0 (!w.params.followText "set-order")) }).objs.size := by
          rw [Heap.size_push]; exact Nat.ne_of_lt (Nat.lt_succ_of_lt hlS)
        have hSf : s.heap.objs.size ∉ [(s.heap.push { cls := .type "set", dict := none, data := .set #[] 0 (.fresh 0 0 (!w.params.followText "set-order")) }).objs.size, l] := by
          rw [Heap.size_push]; simp only [List.mem_cons, List.mem_singleton, List.not_mem_nil, or_false, not_or]
          exact ⟨Nat.ne_of_lt (Nat.lt_succ_self _), Nat.ne_of_gt hlS⟩
        have hval : ∀ (i : Nat) (v : Value), items[i]? = some v → ∃ p, ks[i]? = some p ∧ v = .ref p.1 := fun i v hv => by
          have q : items.toList[i]? = some v := by rw [Array.getElem?_toList]; exact hv
          rw [hit, List.getElem?_map] at q
          cases hq : ks[i]? with
          | none => rw [hq] at q; cases q
          | some p =>
            rw [hq] at q
            exact ⟨p, rfl, (Option.some.inj q).symm⟩
        have none_of : ∀ b, s.heap.objs.size ≤ b → s.heap.get? b = none := fun b hb => by
          cases q : s.heap.get? b with
          | none => rfl
          | some o => exact absurd (Nat.lt_of_lt_of_le (Heap.lt_size q) hb) (Nat.lt_irrefl _)
        refine set_update_n ((Walks.list hh3 _ l hneI items).toS) s.heap.objs.size
          hSf ks hisz hfew hval s.heap hk (none_of _ (Nat.le_refl _)) (fun b hb => none_of b (by
            rw [List.mem_singleton.mp hb, Heap.size_push]
            exact Nat.le_succ _)) hu (items.size - 0) 0 _ (by omega) (Nat.zero_le _)
          ⟨⟨_, Heap.get?_push_size _ rfl, rfl, rfl⟩, (hl1.push _)⟩ (fun b o e => Heap.get?_push_of_some _ (Heap.get?_push_of_some _ e)) ?hS0 ?hR
        case hS0 =>
          have hget : ((s.heap.push { cls := .type "set", dict := none, data := .set #[] 0 (.fresh 0 0 (!w.params.followText "set-order")) }).push { cls := .type "list_iterator", data := .fields #[.ref l, .int 0 0] }).get? s.heap.objs.size
              = some { cls := .type "set", dict := none, data := .set #[] 0 (.fresh 0 0 (!w.params.followText "set-order")) } := Heap.get?_push_of_some _ hS
          exact ⟨[], #[], 0, _, setN_fresh hget, Got.zero ks⟩
        case hR =>
          intro s' L es ep t hm hS' g' hkp
          obtain ⟨h', g2, d', tk', os'⟩ := s'
          have eg : g2 = s.gens := hm.gens
          have ed : d' = s.drawn := hm.drawn
          have eo : os' = s.os := hm.os
          subst eg; subst ed; subst eo
          show wpAny _ _ _ _ _ _
          refine wpAny_pure ?_
          show wpAny _ _ (ret Value.none) _ _ _
          rw [hisz] at g'
          exact wpAny_pure ⟨rfl, h', tk', L, es, ep, t, rfl, hS', g', hkp⟩

      · cases r₂ with
        | error e => exact hr₂
        | ok fl₂ =>
          cases fl₂ with
          | ret r =>
            obtain ⟨rfl, h', tk, L, es, ep, t, rfl, hS', g', hk'⟩ := hr₂
            repeat (any_goals (first | assumption | wp_step))
            exact h _ _ _ _ _ _ hS' g' hk'
          | _ => exact hr₂.elim
    | _ => exact hr.elim

end
end NS

set_option Elab.async false
set_option linter.all false
set_option maxRecDepth 100000
set_option maxHeartbeats 4000000
/-! AbU: sorted(set(..)) of tuples. -/
namespace NS
open PySem PySem.Spec PyProof.Rows L2 Ab
structure SetN0 (P : Program) (w : World) (h : Heap) (a : Addr) (L : List (Addr × NestedKey)) : Prop where
  ex : ∃ (es : Array (Int × Value)) (ep : Nat) (t : SetTable), (∃ o, h.get? a = some o ∧ o.ExactSet ∧ o.data = .set es ep t) ∧ es.toList = rowsOf P w L ∧ TabOk t (L.map fun p => nhash P w p.2) ∧ (L.map (·.2)).Nodup ∧
    (w.params.followText "set-order" = true ∨ t.led = true) ∧ L.length * 5 < t.mask * 3 ∧ L.length < 64
def SetNO (P : Program) (w : World) (a : Addr) (L : List (Addr × NestedKey)) : HO := .ext fun h => SetN0 P w h a L
section
variable {P : Program} {w : World} {h : Heap} {a : Addr} {L : List (Addr × NestedKey)}
theorem SetN.n0 {es : Array (Int × Value)} {ep : Nat} {t : SetTable} (R : SetN P w h a L es ep t) : SetN0 P w h a L := ⟨es, ep, t, R.ob, R.rows, R.tab, R.nd, R.led, R.room, R.few⟩
theorem SetN0.full (R : SetN0 P w h a L) (ht : ∀ p ∈ L, IsN P w h p.2 p.1) : ∃ es ep t, SetN P w h a L es ep t := by
  obtain ⟨es, ep, t, h1, h2, h3, h4, h6, h7, h8⟩ := R.ex
  exact ⟨es, ep, t, h1, h2, h3, h4, ht, h6, h7, h8⟩
theorem setNO_new {H : Hp} (R : SetN0 P w h a L) : ObjOk P w H h a (SetNO P w a L) := by
  have ⟨es, ep, t, ⟨o, ho, r⟩, q⟩ := R.ex
  refine ⟨R, ⟨o, ho⟩, fun h1 h2 p k => ?_⟩
  have ⟨es', ep', t', ⟨o', ho', r'⟩, q'⟩ := SetN0.ex p
  exact ⟨es', ep', t', ⟨o', k o' ho', r'⟩, q'⟩
theorem refs_n : ∀ {ks : List (Addr × NestedKey)} {us : List Value}, Vals (ks.map fun p => V.ref p.1) us → us = ks.map fun p => Value.ref p.1
  | [], _, .nil => rfl
  | p :: ks, _, .cons r t => by
    cases r
    rw [refs_n t] <;> rfl
theorem perm_map_inv {α β : Type} {f : α → β} {vs ws : List β} (p : vs.Perm ws) : ∀ l : List α, ws = l.map f → ∃ l' : List α, l'.Perm l ∧ vs = l'.map f := by
  induction p with
  | nil => intro l e; cases l with
    | nil => exact ⟨[], .nil, rfl⟩
    | cons a l => cases e
  | cons x _ ih => intro l e; cases l with
    | nil => cases e
    | cons a l =>
      rw [List.map_cons] at e
      injection e with e1 e2
      obtain ⟨l', h1, h2⟩ := ih l e2
      exact ⟨a :: l', h1.cons a, by rw [List.map_cons, e1, h2]⟩
  | swap x y l0 => intro l e; cases l with
    | nil => cases e
    | cons a l => cases l with
      | nil => rw [List.map_cons] at e; injection e with _ e2; cases e2
      | cons b l =>
        rw [List.map_cons, List.map_cons] at e
        injection e with e1 e2
        injection e2 with e2 e3
        exact ⟨b :: a :: l, .swap a b l, by rw [List.map_cons, List.map_cons, e1, e2, e3]⟩
  | trans _ _ ih1 ih2 => intro l e
                         obtain ⟨l1, h1, h2⟩ := ih2 l e
                         obtain ⟨l2, h3, h4⟩ := ih1 l1 h2
                         exact ⟨l2, h3.trans h1, h4⟩
end
section
variable {X : Cx}
def rSetN (K : Kw) : List V → Hp → VK → Prop := fun xs H Q => ∃ (l : Addr) (ks : List (Addr × NestedKey)), xs = [V.ref l] ∧ SqL K.K H l (ks.map fun p => V.ref p.1) ∧ (∀ p ∈ ks, KeyAt K H p.2 p.1) ∧ ks.length < 64 ∧
  ∀ a L, H a = none → (∀ p ∈ L, p ∈ ks) → (∀ p ∈ ks, p.2 ∈ L.map (·.2)) → (L.map (·.2)).Nodup → L.length ≤ ks.length → Q (.ref a) (upd H a (SetNO K.P K.w a L))
theorem cr_setN (hc : X.calm = true) (hu : X.A.units + 64 < cLine) : CallR X (.type "set") (rSetN X.kw) := by
  intro pins s σ H xs us Q I r h
  obtain ⟨l, ks, rfl, hl, hk, hf, q⟩ := h
  rw [Vals.ref1 r]
  obtain ⟨its, rv, pl, hz⟩ := I.list hl
  have hn : H s.heap.objs.size = none := I.hok.fresh (Nat.le_refl _)
  refine call_set_n (P := X.prog) (w := X.w) ks (I.ok.hd hc) pl.isList (by simpa using refs_n rv) (fun p hp => (hk p hp).is I) hf (by omega) fun h' tk L es ep t R g k => ?_
  refine ⟨.ref s.heap.objs.size, upd H s.heap.objs.size (SetNO X.prog X.w s.heap.objs.size L), I.laid (t' := tk) k (Nat.le_refl _) (setNO_new R.n0), rfl, q _ L hn (fun p hp => ?_) (fun p hp => ?_) R.nd g.len⟩
  · exact List.mem_of_mem_take (g.sub p hp)
  · exact g.all p (by rw [List.take_length]; exact hp)
abbrev pairN (L : List (Addr × NestedKey)) : List (V × PyData) := L.map fun q => (V.ref q.1, q.2.data)
def rSortS (K : Kw) : List V → Hp → VK → Prop := fun vs H Q => ∃ (a : Addr) (L : List (Addr × NestedKey)), vs = [V.ref a] ∧ H a = some (SetNO K.P K.w a L) ∧ (∀ p ∈ L, KeyAt K H p.2 p.1) ∧
  ∀ L1 : List (Addr × NestedKey), L1.Perm L → SortOk (L1.map (·.2.data)) ∧ ∀ p, H p = none → Q (.ref p) (upd H p (.lst ((sortB false (pairN L1)).map (·.1))))
theorem pairN_vals : ∀ (L : List (Addr × NestedKey)), Vals ((pairN L).map (·.1)) (L.map fun q => Value.ref q.1)
  | [] => .nil
  | q :: L => .cons rfl (pairN_vals L)
theorem cr_sortS (hcalm : X.calm = true) (hu : X.A.units + 64 < cLine) : CallR X (.builtin "sorted") (rSortS X.kw) := by
  intro pins s σ H vs us Q I r h
  obtain ⟨a, L, rfl, hD, hk, q⟩ := h
  rw [Vals.ref1 r]
  have R0 : SetN0 X.prog X.w s.heap a L := (I.hok a _ hD).1
  obtain ⟨es, ep, t, R⟩ := R0.full fun p hp => (hk p hp).is I
  obtain ⟨o, ho, hex, hd⟩ := R.ob
  have hsz := R.size
  have hfew := R.few
  refine Calls.call_function_entry PyProof.Rows.kind_sorted PyProof.Rows.plain_sorted PyProof.Rows.entry_sorted (PyProof.Rows.args_sorted1 _) ?_
  unfold Builtin.«sorted»
  refine wpAny_bind (m := checkCount "sorted" 1 1 _) (wpAny_pure ?_)
  refine wpAny_bind (collect_set (A := X.A.in1) (I.ok.hd hcalm) ⟨o, ho, hex.1, hd⟩ R.fits (by unfold scanBound; omega) R.tab.ris R.led fun s1 vs k1 hz g1 o1 pm => ?_)
  have hes : es.toList.map (·.2) = L.map fun q => Value.ref q.1 := by
    rw [R.rows]
    unfold rowsOf
    rw [List.map_map] <;> rfl
  rw [hes] at pm
  obtain ⟨L1, pL, rfl⟩ := perm_map_inv pm L rfl
  obtain ⟨ok, q⟩ := q L1 pL
  have hl1 : L1.length = L.length := pL.length_eq
  have I1 : Inv X pins σ H { s with heap := s1.heap, gens := s1.gens, drawn := s1.drawn, toks := s1.toks } := I.call (ch := []) (Un.kept k1) (I.hok.kept k1) (by rw [g1]; exact I.bare) (fun _ z => nomatch z)
  have e1 : s1 = { s with heap := s1.heap, gens := s1.gens, drawn := s1.drawn, toks := s1.toks } := by
    cases s1
    cases s
    cases o1
    rfl
  have I1' : Inv X pins σ H s1 := by rw [e1]; exact I1
  have hvl : (L1.map fun q => Value.ref q.1).length ≤ sizeLine := by rw [List.length_map, hl1, sizeLine_eq]; omega
  have rv := pairN_vals L1
  refine wpAny_bind (wpAny_newList ?_ hvl)
  have hoL : (s1.heap.push (seqObj "list" (L1.map fun q => Value.ref q.1).toArray 0)).get? s1.heap.objs.size = some (seqObj "list" (L1.map fun q => Value.ref q.1).toArray 0) := Heap.get?_push_size _ rfl
  have hdp : ∀ b ∈ pairN L1, Dp X.K H b.1 b.2 := fun b hb => by
    obtain ⟨x, hx, rfl⟩ := List.mem_map.mp hb
    exact Rep.dp (Ex.refl H) _ (hk x (pL.mem_iff.mp hx)).1
  generalize hvs : (L1.map fun q => Value.ref q.1) = vs at hvl rv hoL ⊢
  have er : PySem.W.EachIs (fun v (b : V × PyData) => ∃ as, Reads (s1.heap.push (seqObj "list" vs.toArray 0)) v b.2 as ∧ s1.heap.objs.size ∉ as) vs (pairN L1) := by
    have z := each_reads I1' hdp rv
    have gen : ∀ {us : List Value} {bs : List (V × PyData)}, PySem.W.EachIs (fun v (b : V × PyData) => ∃ as, Reads s1.heap v b.2 as) us bs → (∀ b ∈ bs, Dp X.K H b.1 b.2) → PySem.W.EachIs (fun v (b : V × PyData) => ∃ as, Reads (s1.heap.push (seqObj "list" vs.toArray 0)) v b.2 as ∧ s1.heap.objs.size ∉ as) us bs := by
      intro us bs e hd
      induction e with
      | nil => exact .nil
      | cons r _ ih =>
        obtain ⟨as, r⟩ := r
        refine .cons ⟨as, PyProof.Rows.Reads.keeps (fun b o q => Heap.get?_push_of_some _ q) r, fun hm => ?_⟩ (ih fun c hc => hd c (by simp [hc]))
        exact Nat.lt_irrefl _ (reads_lt _ r (Dp.plain _ (hd _ (by simp))) _ hm)
    exact gen z hdp
  have okE : SortOk ((pairN L1).map (·.2)) := by rw [List.map_map]; exact ok
  have hpl : (pairN L1).length ≤ sizeLine := by rw [List.length_map, hl1, sizeLine_eq]; omega
  refine wpAny_bind (wpAny_holding (PySem.W.list_sort_data (R := fun v (b : V × PyData) => RelV b.1 v) (enc := fun b : V × PyData => b.2) hoL (each_rel rv) er okE.al okE.so hpl (fun b hb => ?_) fun out ho he => ?_))
  · have h1 := okE.dp b.2 (List.mem_map.mpr ⟨b, hb, rfl⟩)
    have h2 : X.A.in1.units = X.A.units + 1 := rfl
    omega
  · obtain ⟨e', he'⟩ := PyProof.Rows.sortedHeap_at (vs := vs) (out := out.toArray) hoL
    have hlen : ((sortB false (pairN L1)).map (·.1)).length ≤ sizeLine := by rw [List.length_map, List.length_mergeSort]; exact hpl
    refine wpAny_pure ⟨_, rfl, .ref s1.heap.objs.size, upd H s1.heap.objs.size (.lst ((sortB false (pairN L1)).map (·.1))), I1'.laid (t' := s1.toks) (fun b u e => ?_) (Nat.le_refl _) ⟨hlen, out, e', each_vals he, he'⟩, rfl, q _ (I1'.hok.fresh (Nat.le_refl _))⟩
    have hb : b < s1.heap.objs.size := Heap.lt_size e
    rw [PyProof.Rows.sortedHeap_old (Nat.ne_of_lt hb) (by rw [size_push']; exact Nat.lt_succ_of_lt hb)]
    exact Heap.get?_push_of_some _ e
end
end NS
namespace Ab
open PySem PySem.Spec PyProof.Rows L2 NS
section
variable {X : Cx} {K : Kw}
def isTupK : NestedKey → Bool
  | .tup _ => true
  | _ => false
/-- sorted(set(xs)), xs a list of tuples: what comes is told for every order of the distinct ones -/
def fSortSet : ACall := fun xs μ Q => match xs with
  | [.d (.list ds)] => ∃ ks : List NestedKey, ds = ks.map NestedKey.data ∧ (∀ k ∈ ks, isTupK k = true ∧ k.depth ≤ 8) ∧ ks.length < 64 ∧
    ∀ js : List NestedKey, js.Nodup → (∀ k, k ∈ js ↔ k ∈ ks) → SortOk (js.map NestedKey.data) ∧ Q (.d (.list (sortD false (js.map NestedKey.data)))) μ
  | _ => False
theorem reps_keys {B : Hp} : ∀ {ks : List NestedKey} {vs : List V}, RepAll K B vs (ks.map NestedKey.data) → (∀ k ∈ ks, isTupK k = true ∧ k.depth ≤ 8) → ∃ L : List (Addr × NestedKey), vs = L.map (fun p => V.ref p.1) ∧ L.map (·.2) = ks ∧ ∀ p ∈ L, Rep K B (.ref p.1) p.2.data ∧ p.2.depth ≤ 8
  | [], _, h, _ => by cases h; exact ⟨[], rfl, rfl, by simp⟩
  | k :: ks, _, h, hk => by
    cases h with
    | cons h1 h2 =>
      obtain ⟨L, e1, e2, h3⟩ := reps_keys h2 fun j hj => hk j (by simp [hj])
      have hk1 := hk k (by simp)
      match k, hk1, h1 with
      | .tup qs, hk1, h1 =>
        have h1' := h1
        unfold NestedKey.data at h1'
        cases h1' with
        | @tup a xs ds x1 x2 x3 =>
          refine ⟨(a, .tup qs) :: L, by rw [e1]; rfl, by rw [← e2]; rfl, fun p hp => ?_⟩
          rcases List.mem_cons.mp hp with e | hp
          · subst e; exact ⟨h1, hk1.2⟩
          · exact h3 p hp
theorem ae_sortSet {e : Expr} {t : ATA} {p p2 pos pos2 : Pos} (hc : X.calm = true) (hu : X.A.units + 64 < cLine) (hg : Gl X "sorted") (hm : X.mg "sorted" = none) (hg2 : Gl X "set") (hm2 : X.mg "set" = none) (ha : PA X [e] (cA X.kw t))
    (he : starEach [e] X.env = (false, eval e X.env) :: starEach [] X.env := by rfl) (he2 : starEach [.Call (.Name "set" p2) [e] [] pos2] X.env = (false, eval (.Call (.Name "set" p2) [e] [] pos2) X.env) :: starEach [] X.env := by rfl) :
    PE X (.Call (.Name "sorted" p) [.Call (.Name "set" p2) [e] [] pos2] [] pos) (cE X.kw (aCall fSortSet t)) :=
  pe_weak (pe_callB (cr_sortS hc hu) hg hm (by decide +kernel) (pa_cons (pe_callTy (cr_setN hc hu) hg2 hm2 (by decide +kernel) ha (by decide) (by decide) he rfl) pa_nil he2) (by decide) (by decide) he2 rfl) fun σ H Q ⟨ρ, μ, Qa, B, F, h, s, st, k⟩ => by
    refine cA_bind h s st fun vs B1 H1 xs μ1 q e1 st1 r1 => ?_
    match xs, q, r1 with
    | [.d (.list ds)], ⟨ks, hds, hks, hl, q⟩, .cons r .nil =>
      subst hds
      cases r with
      | lst h1 hz h2 =>
        obtain ⟨L0, rfl, e2, h3⟩ := reps_keys h2 hks
        subst e2
        refine ⟨_, L0, rfl, SqL.of (st1.ex _ _ h1), fun p hp => ⟨Rep.mono st1.ex _ (h3 p hp).1, (h3 p hp).2⟩, by simpa using hl, fun a L ha hsub hall hnd hlL => ?_⟩
        have hr : ∀ p ∈ L, Rep X.kw B1 (.ref p.1) p.2.data ∧ p.2.depth ≤ 8 := fun p hp => h3 p (hsub p hp)
        obtain ⟨st2, nM⟩ := st1.new (o := SetNO X.prog X.w a L) (m := .raw (SetNO X.prog X.w a L)) ha rfl
        have st3 : St X.kw B1 μ1 F (upd H1 a (SetNO X.prog X.w a L)) := st2.less fun b m hb => by
          have : b ≠ a := fun z => by rw [z, nM] at hb; cases hb
          rw [mset_ne this]; exact hb
        refine ⟨a, L, rfl, upd_same, fun p hp => ⟨Rep.mono st3.ex _ (hr p hp).1, (hr p hp).2⟩, fun L1 pL => ?_⟩
        have hmem : ∀ k, k ∈ L1.map (·.2) ↔ k ∈ L0.map (·.2) := fun k => by
          rw [(pL.map (·.2)).mem_iff]
          refine ⟨fun hk => ?_, fun hk => ?_⟩
          · obtain ⟨p, hp, rfl⟩ := List.mem_map.mp hk
            exact List.mem_map.mpr ⟨p, hsub p hp, rfl⟩
          · obtain ⟨p, hp, rfl⟩ := List.mem_map.mp hk
            exact hall p hp
        obtain ⟨ok, q⟩ := q (L1.map (·.2)) ((pL.map (·.2)).nodup_iff.mpr hnd) hmem
        rw [List.map_map] at ok q
        refine ⟨ok, ?_⟩
        have hrs : ∀ b ∈ pairN L1, Rep X.kw B1 b.1 b.2 := fun b hb => by
          obtain ⟨x, hx, rfl⟩ := List.mem_map.mp hb
          exact (hr x (pL.mem_iff.mp hx)).1
        have e3 : (pairN L1).map (·.2) = L1.map (NestedKey.data ∘ fun x => x.2) := by rw [List.map_map]; rfl
        have z := rep_sorted (rev := false) hrs
        rw [e3] at z
        have hlen : (sortD false (L1.map (NestedKey.data ∘ fun x => x.2))).length ≤ sizeLine := by
          unfold sortD
          have h9 : L1.length ≤ L0.length := by rw [pL.length_eq]; exact hlL
          rw [List.length_mergeSort, List.length_map, sizeLine_eq]
          simp at hl
          omega
        exact new_lst st3 hlen z q fun v B' H' x μ' q e => k v B' H' x μ' q (e1.trans e)
end
end Ab

set_option Elab.async false
set_option linter.all false
set_option maxRecDepth 100000
set_option maxHeartbeats 4000000
/-! AbW: list(zip(a, b)) over two lists or two tuples. -/
namespace EL
open PySem EZ
open PySem.Sem (wp)
section
variable {prog : Program} {w : World} {A : Around} {E : Value → Shared → Prop} {s : Shared}
theorem zipB_item {z TI TO i1 i2 l1 l2 : Addr} {k1 k2 : Nat} {xs ys : Array Value} {x y a b f0 : Value} {f1 : Bool} {Q : Value → Shared → Prop} (D : ZipApart z TI TO i1 i2 l1 l2)
    (hz : IsZipB s.heap z TI TO f0 f1) (hf : F0 f0) (hTI : IsPair s.heap TI (.ref i1) (.ref i2)) (hTO : IsPair s.heap TO a b)
    (h1 : s.heap.IsListIter i1 l1 k1) (h2 : s.heap.IsListIter i2 l2 k2) (hl1 : s.heap.IsList l1 xs) (hl2 : s.heap.IsList l2 ys) (hx : xs[k1]? = some x) (hy : ys[k2]? = some y)
    (hQ : ∀ h' g0 g1, IsZipB h' z TI TO g0 g1 → F0 g0 → (∃ a b, IsPair h' TO a b) → h'.IsListIter i1 l1 (k1 + 1) → h'.IsListIter i2 l2 (k2 + 1) → IsPair h' s.heap.objs.size x y → h'.objs.size = s.heap.objs.size + 1 →
      (∀ c o, c ≠ z → c ≠ TO → c ≠ i1 → c ≠ i2 → s.heap.get? c = some o → h'.get? c = some o) → Q (.ref s.heap.objs.size) { s with heap := h' }) :
    wpAny (model prog w) A (Builtin.«zip.__next__» ⟨[.ref z], []⟩) (fun fin s' => ∃ v, fin = .done (.ret v) ∧ Q v s') E s := by
  show wpAny _ _ (field (.ref z) 2 >>= _) _ _ _
  refine wpAny_bind (wpAny_field hz rfl (x := .bool false) rfl ?_)
  show wpAny _ _ (field (.ref z) 3 >>= _) _ _ _
  refine wpAny_bind (wpAny_field hz rfl (x := .ref TI) rfl ?_)
  refine wpAny_bind (wpAny_seqItems hTI rfl ?_)
  show wpAny _ _ (Builtin.SmallTypes.ownedTupleIsFree (.ref z) >>= _) _ _ _
  refine wpAny_bind (owned_free hz hf ?_ ?_)
  · simp only [if_true]
    refine wpAny_bind (wpAny_rule ?_)
    refine wpAny_bind (wpAny_field hz rfl (x := .ref TO) rfl ?_)
    refine wpAny_bind (wpAny_setField_rec hz (by simp) fun h₁ hz₁ hs₁ => ?_)
    replace hz₁ : IsZipB h₁ z TI TO .ellipsis f1 := hz₁
    refine wpAny_bind ?_
    simp only [List.zipIdx_cons, List.zipIdx_nil, List.forIn_cons, List.forIn_nil]
    refine wpAny_bind (wpAny_bind (wpAny_onRaise ?_))
    show wpAny _ _ (Builtin.SmallTypes.nextOf (.ref i1) >>= _) _ _ _
    refine wpAny_bind (wpAny_nextOf_list_item (h1.extBut hs₁.extBut D.i1z) (hl1.extBut hs₁.extBut D.l1z) hx fun h₂ h1₂ hs₂ => wpAny_pure ?_)
    have hTO₂ : IsPair h₂ TO a b := hs₂.extBut _ _ D.TOi1 (hs₁.extBut _ _ D.TOz hTO)
    refine wpAny_bind (wpAny_seqItems hTO₂ rfl ?_)
    refine wpAny_bind (wpAny_updateSeq_pair hTO₂ fun h₃ hTO₃ hs₃ => ?_)
    replace hTO₃ : IsPair h₃ TO x b := hTO₃
    refine wpAny_bind (wpAny_letGo (wpAny_pure ?_))
    refine wpAny_bind (wpAny_bind (wpAny_onRaise ?_))
    show wpAny _ _ (Builtin.SmallTypes.nextOf (.ref i2) >>= _) _ _ _
    refine wpAny_bind (wpAny_nextOf_list_item (((h2.extBut hs₁.extBut D.i2z).extBut hs₂.extBut D.i12.symm).extBut hs₃.extBut D.TOi2.symm)
      (((hl2.extBut hs₁.extBut D.l2z).extBut hs₂.extBut D.l2i1).extBut hs₃.extBut D.l2TO) hy fun h₄ h2₄ hs₄ => wpAny_pure ?_)
    have hTO₄ : IsPair h₄ TO x b := hs₄.extBut _ _ D.TOi2 hTO₃
    refine wpAny_bind (wpAny_seqItems hTO₄ rfl ?_)
    refine wpAny_bind (wpAny_updateSeq_pair hTO₄ fun h₅ hTO₅ hs₅ => ?_)
    replace hTO₅ : IsPair h₅ TO x y := hTO₅
    refine wpAny_bind (wpAny_letGo (wpAny_pure (wpAny_pure ?_)))
    refine wpAny_bind (wpAny_seqItems hTO₅ rfl ?_)
    refine wpAny_bind (wpAny_newTuple ?_)
    have hsz : h₅.objs.size = s.heap.objs.size := by rw [hs₅.1, hs₄.1, hs₃.1, hs₂.1, hs₁.1]
    have hz₅ : IsZipB h₅ z TI TO .ellipsis f1 := hs₅.extBut _ _ D.TOz.symm (hs₄.extBut _ _ D.i2z.symm (hs₃.extBut _ _ D.TOz.symm (hs₂.extBut _ _ D.i1z.symm hz₁)))
    have hk₅ : ∀ c o, c ≠ z → c ≠ TO → c ≠ i1 → c ≠ i2 → s.heap.get? c = some o → h₅.get? c = some o := fun c o c1 c2 c3 c4 e =>
      hs₅.extBut _ _ c2 (hs₄.extBut _ _ c4 (hs₃.extBut _ _ c2 (hs₂.extBut _ _ c3 (hs₁.extBut _ _ c1 e))))
    have h1₅ : h₅.IsListIter i1 l1 (k1 + 1) := ((h1₂.extBut hs₃.extBut D.TOi1.symm).extBut hs₄.extBut D.i12).extBut hs₅.extBut D.TOi1.symm
    have h2₅ : h₅.IsListIter i2 l2 (k2 + 1) := h2₄.extBut hs₅.extBut D.TOi2.symm
    have hzlt : z < h₅.objs.size := Heap.lt_size hz₅
    show wpAny _ _ (Builtin.SmallTypes.ownedTupleHandOut (.ref z) (.ref h₅.objs.size) >>= _) _ _ _
    refine wpAny_bind ?_
    unfold Builtin.SmallTypes.ownedTupleHandOut
    have hz₆ : IsZipB (h₅.push { cls := .type "tuple", data := .seq #[x, y] }) z TI TO .ellipsis f1 := Heap.get?_push_of_some _ hz₅
    refine wpAny_bind (wpAny_setField_rec hz₆ (by simp) fun h₇ hz₇ hs₇ => ?_)
    replace hz₇ : IsZipB h₇ z TI TO (rawInt h₅.objs.size) f1 := hz₇
    refine wpAny_setField_rec hz₇ (by simp) fun h₈ hz₈ hs₈ => ?_
    replace hz₈ : IsZipB h₈ z TI TO (rawInt h₅.objs.size) false := hz₈
    have up : ∀ c o, c ≠ z → h₅.get? c = some o → h₈.get? c = some o := fun c o c1 e => hs₈.extBut _ _ c1 (hs₇.extBut _ _ c1 (Heap.get?_push_of_some _ e))
    have hT₈ : IsPair h₈ h₅.objs.size x y := hs₈.extBut _ _ (Nat.ne_of_gt hzlt) (hs₇.extBut _ _ (Nat.ne_of_gt hzlt) (Heap.get?_push_size _ rfl))
    have hz8 : h₈.objs.size = h₅.objs.size + 1 := by rw [hs₈.1, hs₇.1, Heap.size_push]
    rw [hsz] at hz₈ hT₈ hz8
    refine wpAny_pure ⟨_, rfl, ?_⟩
    show Q (.ref h₅.objs.size) _
    rw [hsz]
    exact hQ h₈ _ _ hz₈ (.inr ⟨_, rfl⟩) ⟨_, _, up _ _ D.TOz hTO₅⟩ (h1₅.at fun o e => up _ o D.i1z e) (h2₅.at fun o e => up _ o D.i2z e) hT₈ hz8 fun c o c1 c2 c3 c4 e => up c o c1 (hk₅ c o c1 c2 c3 c4 e)
  · intro h₁ hz₁ hs₁
    simp only [Bool.false_eq_true, if_false]
    refine wpAny_bind ?_
    rw [← Array.forIn_toList]
    simp only [List.forIn_cons, List.forIn_nil]
    refine wpAny_bind (wpAny_bind (wpAny_holding ?_))
    show wpAny _ _ (Builtin.SmallTypes.nextOf (.ref i1) >>= _) _ _ _
    refine wpAny_bind (wpAny_nextOf_list_item (h1.extBut hs₁.extBut D.i1z) (hl1.extBut hs₁.extBut D.l1z) hx fun h₂ h1₂ hs₂ => wpAny_pure (wpAny_pure ?_))
    refine wpAny_bind (wpAny_bind (wpAny_holding ?_))
    show wpAny _ _ (Builtin.SmallTypes.nextOf (.ref i2) >>= _) _ _ _
    refine wpAny_bind (wpAny_nextOf_list_item ((h2.extBut hs₁.extBut D.i2z).extBut hs₂.extBut D.i12.symm) ((hl2.extBut hs₁.extBut D.l2z).extBut hs₂.extBut D.l2i1) hy fun h₄ h2₄ hs₄ => wpAny_pure (wpAny_pure ?_))
    refine wpAny_pure ?_
    refine wpAny_bind (wpAny_newTuple ?_ (hsz := by show 2 ≤ sizeLine; decide))
    have hsz : h₄.objs.size = s.heap.objs.size := by rw [hs₄.1, hs₂.1, hs₁.1]
    have up : ∀ c o, c ≠ z → c ≠ i1 → c ≠ i2 → s.heap.get? c = some o → (h₄.push { cls := .type "tuple", data := .seq #[x, y] }).get? c = some o := fun c o c1 c3 c4 e =>
      Heap.get?_push_of_some _ (hs₄.extBut _ _ c4 (hs₂.extBut _ _ c3 (hs₁.extBut _ _ c1 e)))
    refine wpAny_pure ⟨_, rfl, ?_⟩
    have hT : IsPair (h₄.push { cls := .type "tuple", data := .seq #[x, y] }) h₄.objs.size x y := Heap.get?_push_size _ rfl
    show Q (.ref h₄.objs.size) _
    rw [hsz] at hT
    rw [hsz]
    exact hQ _ f0 true (Heap.get?_push_of_some _ (hs₄.extBut _ _ D.i2z.symm (hs₂.extBut _ _ D.i1z.symm hz₁))) hf ⟨_, _, up _ _ D.TOz D.TOi1 D.TOi2 hTO⟩ ((h1₂.extBut hs₄.extBut D.i12).at fun o e => Heap.get?_push_of_some _ e) (h2₄.at fun o e => Heap.get?_push_of_some _ e) hT
      (by rw [Heap.size_push, hsz]) fun c o c1 c2 c3 c4 e => up c o c1 c3 c4 e

theorem zipB_end {z TI TO i1 i2 l1 l2 : Addr} {k1 k2 : Nat} {xs ys : Array Value} {a b f0 : Value} {f1 : Bool} {Q : Fin → Shared → Prop} (hh : A.handled = none) (D : ZipApart z TI TO i1 i2 l1 l2)
    (hz : IsZipB s.heap z TI TO f0 f1) (hf : F0 f0) (hTI : IsPair s.heap TI (.ref i1) (.ref i2)) (hTO : IsPair s.heap TO a b)
    (h1 : s.heap.IsListIter i1 l1 k1) (h2 : s.heap.IsListIter i2 l2 k2) (hl1 : s.heap.IsList l1 xs) (hl2 : s.heap.IsList l2 ys) (hend : xs[k1]? = none ∨ ys[k2]? = none)
    (hE : ∀ h' e, (∀ c o, c ≠ z → c ≠ TO → c ≠ i1 → c ≠ i2 → s.heap.get? c = some o → h'.get? c = some o) → (∃ o, h'.get? e = some o ∧ o.cls = .type "StopIteration") → E (.ref e) { s with heap := h' }) :
    wpAny (model prog w) A (Builtin.«zip.__next__» ⟨[.ref z], []⟩) Q E s := by
  show wpAny _ _ (field (.ref z) 2 >>= _) _ _ _
  refine wpAny_bind (wpAny_field hz rfl (x := .bool false) rfl ?_)
  show wpAny _ _ (field (.ref z) 3 >>= _) _ _ _
  refine wpAny_bind (wpAny_field hz rfl (x := .ref TI) rfl ?_)
  refine wpAny_bind (wpAny_seqItems hTI rfl ?_)
  show wpAny _ _ (Builtin.SmallTypes.ownedTupleIsFree (.ref z) >>= _) _ _ _
  refine wpAny_bind (owned_free hz hf ?_ ?_)
  · simp only [if_true]
    refine wpAny_bind (wpAny_rule ?_)
    refine wpAny_bind (wpAny_field hz rfl (x := .ref TO) rfl ?_)
    refine wpAny_bind (wpAny_setField_rec hz (by simp) fun h₁ hz₁ hs₁ => ?_)
    replace hz₁ : IsZipB h₁ z TI TO .ellipsis f1 := hz₁
    refine wpAny_bind ?_
    simp only [List.zipIdx_cons, List.zipIdx_nil, List.forIn_cons, List.forIn_nil]
    refine wpAny_bind (wpAny_bind (wpAny_onRaise ?_))
    show wpAny _ _ (Builtin.SmallTypes.nextOf (.ref i1) >>= _) _ _ _
    cases hx : xs[k1]? with
    | none =>
      refine wpAny_bind (wpAny_nextOf_list_end hh (h1.extBut hs₁.extBut D.i1z) (hl1.extBut hs₁.extBut D.l1z) hx fun h₂ e hs₂ he => ?_)
      obtain ⟨oe, hoe, hce⟩ := he
      have hz₂ : IsZipB h₂ z TI TO .ellipsis f1 := hs₂ _ _ D.i1z.symm hz₁
      have hez : e ≠ z := fun x => by subst x; rw [hz₂] at hoe; cases hoe; simp at hce
      refine wpAny_setField_rec hz₂ (by simp) fun h₃ _ hs₃ => hE h₃ e (fun c o c1 _ c3 _ x => hs₃.extBut _ _ c1 (hs₂ _ _ c3 (hs₁.extBut _ _ c1 x))) ⟨oe, hs₃.extBut _ _ hez hoe, hce⟩
    | some x =>
      have hy : ys[k2]? = none := by rcases hend with h | h; rw [hx] at h; cases h; exact h
      refine wpAny_bind (wpAny_nextOf_list_item (h1.extBut hs₁.extBut D.i1z) (hl1.extBut hs₁.extBut D.l1z) hx fun h₂ h1₂ hs₂ => wpAny_pure ?_)
      have hTO₂ : IsPair h₂ TO a b := hs₂.extBut _ _ D.TOi1 (hs₁.extBut _ _ D.TOz hTO)
      refine wpAny_bind (wpAny_seqItems hTO₂ rfl ?_)
      refine wpAny_bind (wpAny_updateSeq_pair hTO₂ fun h₃ hTO₃ hs₃ => ?_)
      refine wpAny_bind (wpAny_letGo (wpAny_pure ?_))
      refine wpAny_bind (wpAny_bind (wpAny_onRaise ?_))
      show wpAny _ _ (Builtin.SmallTypes.nextOf (.ref i2) >>= _) _ _ _
      refine wpAny_bind (wpAny_nextOf_list_end hh (((h2.extBut hs₁.extBut D.i2z).extBut hs₂.extBut D.i12.symm).extBut hs₃.extBut D.TOi2.symm)
        (((hl2.extBut hs₁.extBut D.l2z).extBut hs₂.extBut D.l2i1).extBut hs₃.extBut D.l2TO) hy fun h₄ e hs₄ he => ?_)
      obtain ⟨oe, hoe, hce⟩ := he
      have hz₄ : IsZipB h₄ z TI TO .ellipsis f1 := hs₄ _ _ D.i2z.symm (hs₃.extBut _ _ D.TOz.symm (hs₂.extBut _ _ D.i1z.symm hz₁))
      have hez : e ≠ z := fun x => by subst x; rw [hz₄] at hoe; cases hoe; simp at hce
      refine wpAny_setField_rec hz₄ (by simp) fun h₅ _ hs₅ => hE h₅ e (fun c o c1 c2 c3 c4 x => hs₅.extBut _ _ c1 (hs₄ _ _ c4 (hs₃.extBut _ _ c2 (hs₂.extBut _ _ c3 (hs₁.extBut _ _ c1 x))))) ⟨oe, hs₅.extBut _ _ hez hoe, hce⟩
  · intro h₁ hz₁ hs₁
    simp only [Bool.false_eq_true, if_false]
    refine wpAny_bind ?_
    rw [← Array.forIn_toList]
    simp only [List.forIn_cons, List.forIn_nil]
    refine wpAny_bind (wpAny_bind (wpAny_holding ?_))
    show wpAny _ _ (Builtin.SmallTypes.nextOf (.ref i1) >>= _) _ _ _
    cases hx : xs[k1]? with
    | none =>
      refine wpAny_bind (wpAny_nextOf_list_end hh (h1.extBut hs₁.extBut D.i1z) (hl1.extBut hs₁.extBut D.l1z) hx fun h₂ e hs₂ he => ?_)
      exact hE h₂ e (fun c o c1 _ c3 _ x => hs₂ _ _ c3 (hs₁.extBut _ _ c1 x)) he
    | some x =>
      have hy : ys[k2]? = none := by rcases hend with h | h; rw [hx] at h; cases h; exact h
      refine wpAny_bind (wpAny_nextOf_list_item (h1.extBut hs₁.extBut D.i1z) (hl1.extBut hs₁.extBut D.l1z) hx fun h₂ h1₂ hs₂ => wpAny_pure (wpAny_pure ?_))
      refine wpAny_bind (wpAny_bind (wpAny_holding ?_))
      show wpAny _ _ (Builtin.SmallTypes.nextOf (.ref i2) >>= _) _ _ _
      refine wpAny_bind (wpAny_nextOf_list_end hh ((h2.extBut hs₁.extBut D.i2z).extBut hs₂.extBut D.i12.symm) ((hl2.extBut hs₁.extBut D.l2z).extBut hs₂.extBut D.l2i1) hy fun h₄ e hs₄ he => ?_)
      exact hE h₄ e (fun c o c1 _ c3 c4 x => hs₄ _ _ c4 (hs₂.extBut _ _ c3 (hs₁.extBut _ _ c1 x))) he

/-- what stands between turns -/
structure Zst (h : Heap) (z TI TO i1 i2 l1 l2 : Addr) (i : Nat) : Prop where
  zip : ∃ f0 f1, IsZipB h z TI TO f0 f1 ∧ F0 f0
  ti : IsPair h TI (.ref i1) (.ref i2)
  to : ∃ a b, IsPair h TO a b
  it1 : h.IsListIter i1 l1 i
  it2 : h.IsListIter i2 l2 i
theorem Zst.at {h h' : Heap} {z TI TO i1 i2 l1 l2 : Addr} {i : Nat} (st : Zst h z TI TO i1 i2 l1 l2 i) (k : ∀ b ∈ [z, TI, TO, i1, i2], ∀ o, h.get? b = some o → h'.get? b = some o) : Zst h' z TI TO i1 i2 l1 l2 i := by
  obtain ⟨⟨f0, f1, hz, hf⟩, hTI, ⟨x, y, hTO⟩, h1, h2⟩ := st
  exact ⟨⟨f0, f1, k z (by simp) _ hz, hf⟩, k TI (by simp) _ hTI, ⟨x, y, k TO (by simp) _ hTO⟩, h1.at fun o q => k i1 (by simp) o q, h2.at fun o q => k i2 (by simp) o q⟩
theorem nextOf_zip_item {z TI TO i1 i2 l1 l2 : Addr} {k : Nat} {xs ys : Array Value} {x y : Value} {Q : Value → Shared → Prop} (D : ZipApart z TI TO i1 i2 l1 l2)
    (st : Zst s.heap z TI TO i1 i2 l1 l2 k) (hl1 : s.heap.IsList l1 xs) (hl2 : s.heap.IsList l2 ys) (hx : xs[k]? = some x) (hy : ys[k]? = some y)
    (hQ : ∀ h', Zst h' z TI TO i1 i2 l1 l2 (k + 1) → IsPair h' s.heap.objs.size x y → h'.objs.size = s.heap.objs.size + 1 →
      (∀ c o, c ≠ z → c ≠ TO → c ≠ i1 → c ≠ i2 → s.heap.get? c = some o → h'.get? c = some o) → Q (.ref s.heap.objs.size) { s with heap := h' }) :
    wpAny (model prog w) A (Builtin.SmallTypes.nextOf (.ref z)) Q E s := by
  obtain ⟨⟨f0, f1, hz, hf⟩, hTI, ⟨a, b, hTO⟩, h1, h2⟩ := st
  have hT : s.TypeIs (.ref z) "zip" := ⟨_, hz, rfl⟩
  unfold Builtin.SmallTypes.nextOf
  refine wpAny_bind (wpAny_callSpecial?_slot (name := Str.ofString "__next__") hT F.slot_zip_next
    (wpAny_call_entry F.slot_zip_next hT F.entry_zip_next (zipB_item D hz hf hTI hTO h1 h2 hl1 hl2 hx hy fun h' g0 g1 a1 a2 a3 a4 a5 a6 a7 a8 => wpAny_pure (hQ h' ⟨⟨g0, g1, a1, a2⟩, a8 _ _ D.TIz D.TITO D.TIi1 D.TIi2 hTI, a3, a4, a5⟩ a6 a7 a8)) (F.args_zip_next_1 _)))
theorem nextOf_zip_end {z TI TO i1 i2 l1 l2 : Addr} {k : Nat} {xs ys : Array Value} {Q : Value → Shared → Prop} (hh : A.handled = none) (D : ZipApart z TI TO i1 i2 l1 l2)
    (st : Zst s.heap z TI TO i1 i2 l1 l2 k) (hl1 : s.heap.IsList l1 xs) (hl2 : s.heap.IsList l2 ys) (hend : xs[k]? = none ∨ ys[k]? = none)
    (hE : ∀ h' e, (∀ c o, c ≠ z → c ≠ TO → c ≠ i1 → c ≠ i2 → s.heap.get? c = some o → h'.get? c = some o) → (∃ o, h'.get? e = some o ∧ o.cls = .type "StopIteration") → E (.ref e) { s with heap := h' }) :
    wpAny (model prog w) A (Builtin.SmallTypes.nextOf (.ref z)) Q E s := by
  obtain ⟨⟨f0, f1, hz, hf⟩, hTI, ⟨a, b, hTO⟩, h1, h2⟩ := st
  have hT : s.TypeIs (.ref z) "zip" := ⟨_, hz, rfl⟩
  unfold Builtin.SmallTypes.nextOf
  refine wpAny_bind (wpAny_callSpecial?_slot (name := Str.ofString "__next__") hT F.slot_zip_next
    (wpAny_call_entry F.slot_zip_next hT F.entry_zip_next (zipB_end hh D hz hf hTI hTO h1 h2 hl1 hl2 hend hE) (F.args_zip_next_1 _)))

end
end EL
namespace ZL
open PySem PySem.Spec PyProof.Rows
/-- a zip between turns -/
structure Src (prog : Program) (w : World) (z : Addr) (fp sr : List Addr) (xs ys : Array Value) (St : Nat → Heap → Prop) : Prop where
  mem : z ∈ fp
  ty : ∀ i h, St i h → ∃ o, h.get? z = some o ∧ o.cls = .type "zip"
  keep : ∀ i h h', St i h → (∀ b ∈ fp ++ sr, ∀ o, h.get? b = some o → h'.get? b = some o) → St i h'
  item : ∀ (A : Around) (E : Value → Shared → Prop) (s : Shared) (i : Nat) (x y : Value) (Q : Option Value → Shared → Prop), St i s.heap → xs[i]? = some x → ys[i]? = some y →
    (∀ h', St (i + 1) h' → IsPair h' s.heap.objs.size x y → h'.objs.size = s.heap.objs.size + 1 → (∀ c o, c ∉ fp → s.heap.get? c = some o → h'.get? c = some o) → Q (some (.ref s.heap.objs.size)) { s with heap := h' }) → wpAny (model prog w) A (pyNext (.ref z)) Q E s
  done : ∀ (A : Around) (E : Value → Shared → Prop) (s : Shared) (i : Nat) (Q : Option Value → Shared → Prop), A.handled = none → St i s.heap → (xs[i]? = none ∨ ys[i]? = none) →
    (∀ h', (∀ c o, c ∉ fp → s.heap.get? c = some o → h'.get? c = some o) → Q none { s with heap := h' }) → wpAny (model prog w) A (pyNext (.ref z)) Q E s
  self : ∀ (A : Around) (E : Value → Shared → Prop) (s : Shared) (i : Nat) (Q : Value → Shared → Prop), St i s.heap → Q (.ref z) s → wpAny (model prog w) A (pyIter (.ref z)) Q E s
section
variable {prog : Program} {w : World}
theorem src_tup {z TI TO i1 i2 l1 l2 : Addr} {xs ys : Array Value} (D : ZipApart z TI TO i1 i2 l1 l2) : Src prog w z [z, TI, TO, i1, i2] [l1, l2] xs ys (fun i h => EZ.Zst h z TI TO i1 i2 l1 l2 i ∧ h.IsTuple l1 xs ∧ h.IsTuple l2 ys) where
  mem := by simp
  ty := fun i h st => by obtain ⟨f0, f1, hz, _⟩ := st.1.zip; exact ⟨_, hz, rfl⟩
  keep := fun i h h' st k => ⟨st.1.at fun b hb o e => k b (by simp at hb ⊢; rcases hb with h | h | h | h | h <;> simp [h]) o e, st.2.1.at fun o e => k l1 (by simp) o e, st.2.2.at fun o e => k l2 (by simp) o e⟩
  item := fun A E s i x y Q st hx hy h => by
    have hT : s.TypeIs (.ref z) "zip" := by obtain ⟨f0, f1, hz, _⟩ := st.1.zip; exact ⟨_, hz, rfl⟩
    obtain ⟨⟨f0, f1, hz, hf⟩, hTI, ⟨a, b, hTO⟩, h1, h2⟩ := st.1
    unfold pyNext
    refine wpAny_bind (wpAny_attempt (wpAny_callSpecial?_slot (name := Str.ofString "__next__") hT F.slot_zip_next
      (wpAny_call_entry F.slot_zip_next hT F.entry_zip_next (EZ.zipB_item D hz hf hTI hTO h1 h2 st.2.1 st.2.2 hx hy fun h' g0 g1 a1 a2 a3 a4 a5 a6 a7 a8 => wpAny_pure (h h' ⟨⟨⟨g0, g1, a1, a2⟩, a8 _ _ D.TIz D.TITO D.TIi1 D.TIi2 hTI, a3, a4, a5⟩, st.2.1.at fun o e => a8 _ o D.l1z D.l1TO D.l1i1 D.l1i2 e, st.2.2.at fun o e => a8 _ o D.l2z D.l2TO D.l2i1 D.l2i2 e⟩ a6 a7 fun c o hc e => a8 c o (fun q => hc (by simp [q])) (fun q => hc (by simp [q])) (fun q => hc (by simp [q])) (fun q => hc (by simp [q])) e)) (F.args_zip_next_1 _))))
  done := fun A E s i Q hh st hend h => by
    have hT : s.TypeIs (.ref z) "zip" := by obtain ⟨f0, f1, hz, _⟩ := st.1.zip; exact ⟨_, hz, rfl⟩
    obtain ⟨⟨f0, f1, hz, hf⟩, hTI, ⟨a, b, hTO⟩, h1, h2⟩ := st.1
    unfold pyNext
    refine wpAny_bind (wpAny_attempt (wpAny_callSpecial?_slot (name := Str.ofString "__next__") hT F.slot_zip_next
      (wpAny_call_entry F.slot_zip_next hT F.entry_zip_next (EZ.zipB_end (by exact hh) D hz hf hTI hTO h1 h2 st.2.1 st.2.2 hend fun h' e hk he => ?_) (F.args_zip_next_1 _))))
    obtain ⟨o, ho, hc⟩ := he
    refine wpAny_bind (wpAny_isInstance (T := "StopIteration") (b := true) ⟨o, ho, hc⟩ isSubtype_stop ?_)
    exact wpAny_pure (h _ fun c o hc e => hk c o (fun q => hc (by simp [q])) (fun q => hc (by simp [q])) (fun q => hc (by simp [q])) (fun q => hc (by simp [q])) e)
  self := fun A E s i Q st h => by
    obtain ⟨f0, f1, hz, _⟩ := st.1.zip
    have hT : s.TypeIs (.ref z) "zip" := ⟨_, hz, rfl⟩
    refine wpAny_pyIter_slot hT F.slot_zip_iter (wpAny_call_entry F.slot_zip_iter hT F.entry_zip_iter ?_ (F.args_zip_iter_1 _))
    show wpAny _ _ (ret (.ref z)) _ _ s
    exact wpAny_pure ⟨_, rfl, "zip", _, hT, F.slot_zip_next.lookup, h⟩
theorem src_lst {z TI TO i1 i2 l1 l2 : Addr} {xs ys : Array Value} (D : ZipApart z TI TO i1 i2 l1 l2) : Src prog w z [z, TI, TO, i1, i2] [l1, l2] xs ys (fun i h => EL.Zst h z TI TO i1 i2 l1 l2 i ∧ h.IsList l1 xs ∧ h.IsList l2 ys) where
  mem := by simp
  ty := fun i h st => by obtain ⟨f0, f1, hz, _⟩ := st.1.zip; exact ⟨_, hz, rfl⟩
  keep := fun i h h' st k => ⟨st.1.at fun b hb o e => k b (by simp at hb ⊢; rcases hb with h | h | h | h | h <;> simp [h]) o e, st.2.1.at fun o e => k l1 (by simp) o e, st.2.2.at fun o e => k l2 (by simp) o e⟩
  item := fun A E s i x y Q st hx hy h => by
    have hT : s.TypeIs (.ref z) "zip" := by obtain ⟨f0, f1, hz, _⟩ := st.1.zip; exact ⟨_, hz, rfl⟩
    obtain ⟨⟨f0, f1, hz, hf⟩, hTI, ⟨a, b, hTO⟩, h1, h2⟩ := st.1
    unfold pyNext
    refine wpAny_bind (wpAny_attempt (wpAny_callSpecial?_slot (name := Str.ofString "__next__") hT F.slot_zip_next
      (wpAny_call_entry F.slot_zip_next hT F.entry_zip_next (EL.zipB_item D hz hf hTI hTO h1 h2 st.2.1 st.2.2 hx hy fun h' g0 g1 a1 a2 a3 a4 a5 a6 a7 a8 => wpAny_pure (h h' ⟨⟨⟨g0, g1, a1, a2⟩, a8 _ _ D.TIz D.TITO D.TIi1 D.TIi2 hTI, a3, a4, a5⟩, st.2.1.at fun o e => a8 _ o D.l1z D.l1TO D.l1i1 D.l1i2 e, st.2.2.at fun o e => a8 _ o D.l2z D.l2TO D.l2i1 D.l2i2 e⟩ a6 a7 fun c o hc e => a8 c o (fun q => hc (by simp [q])) (fun q => hc (by simp [q])) (fun q => hc (by simp [q])) (fun q => hc (by simp [q])) e)) (F.args_zip_next_1 _))))
  done := fun A E s i Q hh st hend h => by
    have hT : s.TypeIs (.ref z) "zip" := by obtain ⟨f0, f1, hz, _⟩ := st.1.zip; exact ⟨_, hz, rfl⟩
    obtain ⟨⟨f0, f1, hz, hf⟩, hTI, ⟨a, b, hTO⟩, h1, h2⟩ := st.1
    unfold pyNext
    refine wpAny_bind (wpAny_attempt (wpAny_callSpecial?_slot (name := Str.ofString "__next__") hT F.slot_zip_next
      (wpAny_call_entry F.slot_zip_next hT F.entry_zip_next (EL.zipB_end (by exact hh) D hz hf hTI hTO h1 h2 st.2.1 st.2.2 hend fun h' e hk he => ?_) (F.args_zip_next_1 _))))
    obtain ⟨o, ho, hc⟩ := he
    refine wpAny_bind (wpAny_isInstance (T := "StopIteration") (b := true) ⟨o, ho, hc⟩ isSubtype_stop ?_)
    exact wpAny_pure (h _ fun c o hc e => hk c o (fun q => hc (by simp [q])) (fun q => hc (by simp [q])) (fun q => hc (by simp [q])) (fun q => hc (by simp [q])) e)
  self := fun A E s i Q st h => by
    obtain ⟨f0, f1, hz, _⟩ := st.1.zip
    have hT : s.TypeIs (.ref z) "zip" := ⟨_, hz, rfl⟩
    refine wpAny_pyIter_slot hT F.slot_zip_iter (wpAny_call_entry F.slot_zip_iter hT F.entry_zip_iter ?_ (F.args_zip_iter_1 _))
    show wpAny _ _ (ret (.ref z)) _ _ s
    exact wpAny_pure ⟨_, rfl, "zip", _, hT, F.slot_zip_next.lookup, h⟩

theorem zip_no_len : typeLookup (.type "zip") "__len__" = pure none := am_miss_of_fast (by decide +kernel)
theorem zip_no_hint : typeLookup (.type "zip") "__length_hint__" = pure none := am_miss_of_fast (by decide +kernel)
/-- the new pairs, in order -/
structure Got (xs ys : Array Value) (lo : Addr) (h : Heap) (as : List Addr) : Prop where
  rise : as.Pairwise (· < ·)
  above : ∀ a ∈ as, lo ≤ a
  pairs : ∀ (j : Nat) (a : Addr), as[j]? = some a → ∃ x y, xs[j]? = some x ∧ ys[j]? = some y ∧ IsPair h a x y
theorem Got.lt {xs ys : Array Value} {lo : Addr} {h : Heap} {as : List Addr} (g : Got xs ys lo h as) {a : Addr} (ha : a ∈ as) : a < h.objs.size := by
  obtain ⟨j, hj⟩ := List.mem_iff_getElem?.mp ha
  obtain ⟨_, _, _, _, e⟩ := g.pairs j a hj
  exact Heap.lt_size e
theorem loop {A : Around} {R : Result → Shared → Prop} {s : Shared} {z S : Addr} {fp sr : List Addr} {xs ys : Array Value} {St : Nat → Heap → Prop} {n : Nat} (W : Src prog w z fp sr xs ys St) (hh : A.handled = none) (hS : S ∉ fp ++ sr) (hn : n ≤ sizeLine) (hmin : n = min xs.size ys.size) (res : Value) {h₁ : Heap} (lo : Addr)
    (hlS : S < lo) (hlf : ∀ b ∈ fp, b < lo)
    (hR : ∀ h' tk acc c as, (∀ b o, b ≠ S → b ∉ fp → h₁.get? b = some o → h'.get? b = some o) → h'.get? S = some { cls := .type "list", dict := none, data := .seq acc c, slots := #[] } → as.length = n → Got xs ys lo h' as →
      acc.toList = as.map Value.ref → R (.ok (.ret res)) { s with heap := h', toks := tk }) :
    ∀ (k i : Nat) (h : Heap) (tk c : Nat) (acc : Array Value) (as : List Addr), n - i = k → i ≤ n → St i h → (∀ b o, b ≠ S → b ∉ fp → h₁.get? b = some o → h.get? b = some o) →
      h.get? S = some { cls := .type "list", dict := none, data := .seq acc c, slots := #[] } → acc.toList = as.map Value.ref → as.length = i → Got xs ys lo h as → lo ≤ h.objs.size →
      codeAny (model prog w) A (.builtin "list.extend.loop" ⟨[.ref S, .ref z, res], []⟩) R { s with heap := h, toks := tk } := by
  intro k
  induction k with
  | zero =>
    intro i h tk c acc as hk hi hst hkeep hS' hacc hal hG hlo
    have hin : i = n := by omega
    subst hin
    refine codeAny_builtin PySem.F.entry_extend_loop ?_
    rw [Around.under_plainId PySem.F.plain_extend_loop _]
    show wpAny _ A.in1 (pyNext (.ref z) >>= _) _ _ _
    have hend : xs[i]? = none ∨ ys[i]? = none := by
      rcases Nat.le_total xs.size ys.size with q | q
      · exact .inl (Array.getElem?_eq_none (by omega))
      · exact .inr (Array.getElem?_eq_none (by omega))
    refine wpAny_bind (W.done _ _ { s with heap := h, toks := tk } i _ hh hst hend fun h' he => ?_)
    refine wpAny_pure (hR h' tk acc c as (fun b o h1 h2 e => he b o h2 (hkeep b o h1 h2 e)) (he S _ (fun q => hS (List.mem_append_left _ q)) hS') hal ⟨hG.rise, hG.above, fun j a hj => ?_⟩ hacc)
    obtain ⟨x, y, e1, e2, e3⟩ := hG.pairs j a hj
    exact ⟨x, y, e1, e2, he a _ (fun z => Nat.not_lt.mpr (hG.above a (List.mem_of_getElem? hj)) (hlf a z)) e3⟩
  | succ k ih =>
    intro i h tk c acc as hk hi hst hkeep hS' hacc hal hG hlo
    have hlt : i < n := by omega
    have hx : i < xs.size := by omega
    have hy : i < ys.size := by omega
    have hsz : acc.size = i := by rw [← Array.length_toList, hacc, List.length_map, hal]
    refine codeAny_builtin PySem.F.entry_extend_loop ?_
    rw [Around.under_plainId PySem.F.plain_extend_loop _]
    show wpAny _ A.in1 (pyNext (.ref z) >>= _) _ _ _
    refine wpAny_bind (W.item _ _ { s with heap := h, toks := tk } i xs[i] ys[i] _ hst (Array.getElem?_eq_getElem hx) (Array.getElem?_eq_getElem hy) fun h' hst' ht hz hkp => ?_)
    dsimp only at ht hz hkp ⊢
    have hS2 := hkp S _ (fun q => hS (List.mem_append_left _ q)) hS'
    have up : ∀ b o, b ≠ S → h'.get? b = some o → (h'.update S (Obj.mapSeq (·.push (Value.ref h.objs.size)))).get? b = some o := fun b o hb e => (Heap.get?_update_other _ _ (Ne.symm hb)).trans e
    have hSl : S < h.objs.size := Heap.lt_size hS'
    have nf : ∀ b, lo ≤ b → b ∉ fp := fun b hb q => Nat.not_lt.mpr hb (hlf b q)
    show wpAny _ A.in1 (updateSeq S (·.push (Value.ref h.objs.size)) >>= _) _ _ _
    refine wpAny_bind ?_
    refine wpAny_updateSeq hS2 rfl (wpAny_pure ⟨plainId_quiet PySem.F.plain_extend_loop _, ih (i + 1) _ tk _ (acc.push (Value.ref h.objs.size)) (as ++ [h.objs.size]) (by omega) hlt (W.keep _ _ _ hst' fun b hb o e => up b o (fun q => hS (q ▸ hb)) e)
      (fun b o h1 h2 e => up b o h1 (hkp b o h2 (hkeep b o h1 h2 e))) (Heap.get?_update_self _ hS2 rfl) (by rw [Array.toList_push, hacc, List.map_append]; rfl) (by rw [List.length_append, hal]; rfl) ⟨?_, ?_, ?_⟩ ?_⟩) (by rw [hsz]; omega) (by show (acc.push (Value.ref h.objs.size)).size ≤ sizeLine + 1; rw [Array.size_push, hsz]; omega)
    · refine List.pairwise_append.mpr ⟨hG.rise, List.pairwise_singleton _ _, fun a ha b hb => ?_⟩
      rw [List.mem_singleton.mp hb]
      exact hG.lt ha
    · intro a ha
      rcases List.mem_append.mp ha with ha | ha
      · exact hG.above a ha
      · rw [List.mem_singleton.mp ha]; exact hlo
    · intro j b hj
      rcases Nat.lt_trichotomy j as.length with h1 | h1 | h1
      · rw [List.getElem?_append_left h1] at hj
        obtain ⟨x, y, e1, e2, e3⟩ := hG.pairs j b hj
        have hb := hG.above b (List.mem_of_getElem? hj)
        exact ⟨x, y, e1, e2, up b _ (fun q => by rw [q] at hb; exact Nat.not_lt.mpr hb hlS) (hkp b _ (nf b hb) e3)⟩
      · subst h1
        have hb : h.objs.size = b := by simpa using hj
        subst hb
        refine ⟨xs[i], ys[i], by rw [hal]; exact Array.getElem?_eq_getElem hx, by rw [hal]; exact Array.getElem?_eq_getElem hy, up _ _ (Nat.ne_of_gt hSl) ht⟩
      · have hnone : (as ++ [h.objs.size])[j]? = none := List.getElem?_eq_none (by rw [List.length_append, List.length_singleton]; omega)
        rw [hnone] at hj; cases hj
    · have e : (h'.update S (Obj.mapSeq (·.push (Value.ref h.objs.size)))).get? h.objs.size = _ := up _ _ (Nat.ne_of_gt hSl) ht
      exact Nat.le_of_lt (Nat.lt_of_le_of_lt hlo (Heap.lt_size e))
theorem extend {A : Around} {R : Result → Shared → Prop} {s : Shared} {z S : Addr} {fp sr : List Addr} {xs ys : Array Value} {St : Nat → Heap → Prop} {n : Nat} (W : Src prog w z fp sr xs ys St) (hh : A.handled = none) (hS : S ∉ fp ++ sr) (hn : n ≤ sizeLine) (hmin : n = min xs.size ys.size) (res : Value) (c₀ : Nat)
    (hst : St 0 s.heap) (hfp : ∀ b ∈ fp ++ sr, b < s.heap.objs.size) (hS0 : s.heap.get? S = some { cls := .type "list", data := .seq #[] c₀ })
    (hR : ∀ h' tk acc c as, (∀ b o, b ≠ S → b ∉ fp → s.heap.get? b = some o → h'.get? b = some o) → h'.get? S = some { cls := .type "list", dict := none, data := .seq acc c, slots := #[] } → as.length = n → Got xs ys s.heap.objs.size h' as →
      acc.toList = as.map Value.ref → R (.ok (.ret res)) { s with heap := h', toks := tk }) :
    wpAny (model prog w) A.in1 (Builtin.List.listExtendWith (.ref S) (.ref z) res)
      (fun fin s' => match fin with | .done f => R (.ok f) s' | .again c' => c'.quiet = true ∧ codeAny (model prog w) A c' R s') (fun e s' => R (.error e) s') s := by
  have hSl : S < s.heap.objs.size := Heap.lt_size hS0
  obtain ⟨oz, hoz, hcz⟩ := W.ty 0 _ hst
  have hT : s.TypeIs (.ref z) "zip" := ⟨oz, hoz, hcz⟩
  have hne : S ≠ z := fun q => hS (List.mem_append_left _ (q ▸ W.mem))
  have key : ∀ (h : Heap) (c₁ tk : Nat), (∀ b o, b ≠ S → s.heap.get? b = some o → h.get? b = some o) → h.objs.size = s.heap.objs.size →
      h.get? S = some { cls := .type "list", data := .seq #[] c₁ } → codeAny (model prog w) A (.builtin "list.extend.loop" ⟨[.ref S, .ref z, res], []⟩) R { s with heap := h, toks := tk } := by
    intro h c₁ tk hk hz hS₁
    exact loop (s := s) (h₁ := s.heap) W hh hS hn hmin res s.heap.objs.size hSl (fun b hb => hfp b (List.mem_append_left _ hb)) hR n 0 h tk c₁ #[] [] (Nat.sub_zero _) (Nat.zero_le _) (W.keep _ _ _ hst fun b hb o e => hk b o (fun q => hS (q ▸ hb)) e) (fun b o hb _ e => hk b o hb e) hS₁ rfl rfl
      ⟨List.Pairwise.nil, (fun _ ha => nomatch ha), (fun j a hj => by simp at hj)⟩ (by rw [hz]; exact Nat.le_refl _)
  unfold Builtin.List.listExtendWith
  refine wpAny_bind (wpAny_typeOf hT ?_)
  have h1 : Builtin.List.listSameRef (.ref S) (.ref z) = false := by simp [Builtin.List.listSameRef, hne]
  have h2 : (Value.type "zip" == Value.type "list") = false := by decide
  have h3 : (Value.type "zip" == Value.type "tuple") = false := by decide
  simp only [h1, h2, h3, Bool.or_false, Bool.false_eq_true, if_false]
  refine wpAny_bind (W.self _ _ _ 0 _ hst ?_)
  refine wpAny_bind (wpAny_holding ?_)
  unfold Builtin.List.listLengthHint
  refine wpAny_bind (wpAny_specialOf hT zip_no_len ?_)
  show wpAny _ A.in1 (specialOf (Value.ref z) (Str.ofString "__length_hint__") >>= _) _ _ _
  refine wpAny_bind (wpAny_specialOf hT zip_no_hint ?_)
  refine wpAny_pure ?_
  show wpAny _ A.in1 (rule "list.extend.makes-room" >>= fun _ => Builtin.List.listTouch (.ref S) >>= fun _ =>
    again (.builtin "list.extend.loop" ⟨[.ref S, .ref z, res], []⟩)) _ _ _
  refine wpAny_bind (wpAny_rule ?_)
  refine wpAny_bind ?_
  show wpAny _ A.in1 (updateSeq S (·.push .none) >>= fun _ => updateSeq S (·.pop)) _ _ _
  refine wpAny_bind (wpAny_updateSeq hS0 rfl ?_)
  have hS₂ := Heap.get?_update_self (Obj.mapSeq (·.push Value.none)) hS0 rfl
  refine wpAny_updateSeq (hz := by seq_fits) hS₂ rfl ?_
  have hS₃ := Heap.get?_update_self (Obj.mapSeq (·.pop)) hS₂ rfl
  refine wpAny_pure ⟨plainId_quiet PySem.F.plain_extend_loop _, key _ _ _ (fun b o hb e => ?_) (by rw [Heap.size_update, Heap.size_update]) hS₃⟩
  exact (Heap.get?_update_other _ _ (Ne.symm hb)).trans ((Heap.get?_update_other _ _ (Ne.symm hb)).trans e)
theorem Got.low {xs ys : Array Value} {lo lo' : Addr} {h : Heap} {as : List Addr} (g : Got xs ys lo h as) (hl : lo' ≤ lo) : Got xs ys lo' h as := ⟨g.rise, fun a ha => Nat.le_trans hl (g.above a ha), g.pairs⟩
/-- list(z) -/
theorem call_list {A : Around} {E : Value → Shared → Prop} {s : Shared} {z : Addr} {fp sr : List Addr} {xs ys : Array Value} {St : Nat → Heap → Prop} {n : Nat} {Q : Value → Shared → Prop} (W : Src prog w z fp sr xs ys St) (hh : A.handled = none) (hn : n ≤ sizeLine) (hmin : n = min xs.size ys.size)
    (hst : St 0 s.heap) (hfp : ∀ b ∈ fp ++ sr, b < s.heap.objs.size)
    (hQ : ∀ h' tk acc c as, (∀ b o, b ∉ fp → s.heap.get? b = some o → h'.get? b = some o) → h'.get? s.heap.objs.size = some { cls := .type "list", dict := none, data := .seq acc c, slots := #[] } → as.length = n → Got xs ys (s.heap.objs.size + 1) h' as →
      acc.toList = as.map Value.ref → Q (.ref s.heap.objs.size) { s with heap := h', toks := tk }) :
    wpAny (model prog w) A (call (.type "list") [.ref z]) Q E s := by
  refine callType_codes (Q₁ := fun obj s₁ => obj = .ref s.heap.objs.size ∧ s₁ = { s with heap := s.heap.push { cls := .type "list", data := .seq #[] } }) PySem.F.called_list (PySem.F.typeCall_list_1 _) PySem.F.entry_list_init
    (code_list_new _ ⟨rfl, rfl⟩) fun obj s₁ h₁ => ?_
  obtain ⟨rfl, rfl⟩ := h₁
  have hS : (s.heap.push { cls := .type "list", data := .seq #[] }).get? s.heap.objs.size = some { cls := .type "list", data := .seq #[] } := Heap.get?_push_size _ rfl
  have hSf : s.heap.objs.size ∉ fp ++ sr := fun q => Nat.lt_irrefl _ (hfp _ q)
  refine ⟨⟨_, hS, rfl⟩, PySem.F.args_list_init_2 _ _, ?_⟩
  show wpAny _ _ (do let old ← Builtin.List.listItems (.ref s.heap.objs.size); Builtin.List.listUpdate (.ref s.heap.objs.size) (fun _ => #[]); letGo old.toList.reverse; Builtin.List.listExtendWith (.ref s.heap.objs.size) (.ref z) .none) _ _ _
  refine wpAny_bind ?_
  unfold Builtin.List.listItems
  refine wpAny_bind (wpAny_seqItems hS rfl (wpAny_pure ?_))
  show wpAny _ _ (updateSeq s.heap.objs.size (fun _ => #[]) >>= fun _ => letGo (#[] : Array Value).toList.reverse >>= fun _ => Builtin.List.listExtendWith (.ref s.heap.objs.size) (.ref z) .none) _ _ _
  refine wpAny_bind (wpAny_updateSeq hS rfl ?_)
  have hS₂ := Heap.get?_update_self (Obj.mapSeq (fun _ => (#[] : Array Value))) hS rfl
  have oth : ∀ b o, b ≠ s.heap.objs.size → (s.heap.push { cls := .type "list", data := .seq #[] }).get? b = some o → ((s.heap.push { cls := .type "list", data := .seq #[] }).update s.heap.objs.size (Obj.mapSeq (fun _ => (#[] : Array Value)))).get? b = some o :=
    fun b o hb e => (Heap.get?_update_other _ _ (Ne.symm hb)).trans e
  have hsz : ((s.heap.push { cls := .type "list", data := .seq #[] }).update s.heap.objs.size (Obj.mapSeq (fun _ => (#[] : Array Value)))).objs.size = s.heap.objs.size + 1 := by rw [Heap.size_update, Heap.size_push]
  refine wpAny_bind (wpAny_letGo ?_)
  refine extend (s := { s with heap := (s.heap.push { cls := .type "list", data := .seq #[] }).update s.heap.objs.size (Obj.mapSeq (fun _ => (#[] : Array Value))) }) W (by exact hh) hSf hn hmin .none _ (W.keep _ _ _ hst fun b hb o e => oth b o (fun q => hSf (q ▸ hb)) (Heap.get?_push_of_some _ e)) (fun b hb => ?_) hS₂ (fun h' tk acc c as hk hS' hl hG hacc => ?_)
  · show b < ((s.heap.push { cls := .type "list", data := .seq #[] }).update s.heap.objs.size (Obj.mapSeq (fun _ => (#[] : Array Value)))).objs.size
    rw [hsz]; exact Nat.lt_succ_of_lt (hfp b hb)
  · refine ⟨rfl, hQ h' tk acc c as (fun b o hb e => hk b o (Nat.ne_of_lt (Heap.lt_size e)) hb (oth b o (Nat.ne_of_lt (Heap.lt_size e)) (Heap.get?_push_of_some _ e))) hS' hl (hG.low ?_) hacc⟩
    show s.heap.objs.size + 1 ≤ ((s.heap.push { cls := .type "list", data := .seq #[] }).update s.heap.objs.size (Obj.mapSeq (fun _ => (#[] : Array Value)))).objs.size
    rw [hsz]; exact Nat.le_refl _
end
end ZL

set_option Elab.async false
set_option linter.all false
set_option maxRecDepth 100000
set_option maxHeartbeats 4000000
/-! AbX: list(zip(a, b)) as an expression. -/
namespace ZL
open PySem PySem.Spec PyProof.Rows L2
/-- the tuples tracked at their addresses -/
def putP : Hp → List Addr → List (V × V) → Hp
  | H, a :: as, p :: ps => putP (upd H a (.tup [p.1, p.2])) as ps
  | H, _, _ => H
theorem putP_off {b : Addr} : ∀ (as : List Addr) (ps : List (V × V)) (H : Hp), b ∉ as → putP H as ps b = H b
  | [], _, _, _ => rfl
  | _ :: _, [], _, _ => rfl
  | a :: as, p :: ps, H, h => by
    show putP (upd H a (.tup [p.1, p.2])) as ps b = H b
    rw [putP_off as ps _ (fun z => h (List.mem_cons_of_mem _ z)), upd_ne (fun z => h (by rw [z]; exact List.mem_cons_self))]
theorem putP_at : ∀ (as : List Addr) (ps : List (V × V)) (H : Hp), as.length = ps.length → as.Nodup → Paired (fun (t : Addr) (p : V × V) => putP H as ps t = some (.tup [p.1, p.2])) as ps
  | [], [], _, _, _ => .nil
  | [], _ :: _, _, h, _ => by cases h
  | _ :: _, [], _, h, _ => by cases h
  | a :: as, p :: ps, H, h, hn => by
    have hn' := List.nodup_cons.mp hn
    have ih := putP_at as ps (upd H a (.tup [p.1, p.2])) (Nat.succ.inj h) hn'.2
    refine .cons ?_ ih
    show putP (upd H a (.tup [p.1, p.2])) as ps a = some (.tup [p.1, p.2])
    rw [putP_off as ps _ hn'.1, upd_same]
theorem paired_mono {α β : Type} {F G : α → β → Prop} : ∀ {xs : List α} {ys : List β}, (∀ x y, x ∈ xs → F x y → G x y) → Paired F xs ys → Paired G xs ys
  | _, _, _, .nil => .nil
  | _, _, h, .cons r t => .cons (h _ _ List.mem_cons_self r) (paired_mono (fun x y hx => h x y (List.mem_cons_of_mem _ hx)) t)
theorem vrefs : ∀ as : List Addr, Vals (as.map V.ref) (as.map Value.ref)
  | [] => .nil
  | _ :: as => .cons rfl (vrefs as)
theorem pix {α β : Type} {F : α → β → Prop} : ∀ {xs : List α} {ys : List β}, Paired F xs ys → ∀ {x : α}, x ∈ xs → ∃ (j : Nat) (y : β), xs[j]? = some x ∧ ys[j]? = some y ∧ F x y
  | _, _, .cons h t, x, hx => by
    rcases List.mem_cons.mp hx with e | hx
    · rw [e]; exact ⟨0, _, rfl, rfl, h⟩
    · obtain ⟨j, y, e1, e2, e3⟩ := pix t hx
      exact ⟨j + 1, y, e1, e2, e3⟩
section
variable {X : Cx} {pins : List (Addr × Obj)} {σ : L2.St} {H : Hp} {s : Shared} {h' : Heap}
theorem laid {tk : Nat} {xs ys : List V} {us us2 : List Value} {acc : Array Value} {c : Nat} {as : List Addr} {S : Addr} (I : Inv X pins σ H s) (hz : xs.length ≤ sizeLine) (rx : Vals xs us) (ry : Vals ys us2)
    (hk : ∀ b o, s.heap.get? b = some o → h'.get? b = some o) (hSl : s.heap.objs.size ≤ S) (hS : h'.get? S = some { cls := .type "list", dict := none, data := .seq acc c, slots := #[] }) (hl : as.length = min us.length us2.length) (hG : Got us.toArray us2.toArray (S + 1) h' as) (hacc : acc.toList = as.map Value.ref) :
    ∃ H' : Hp, (∀ b o, H b = some o → H' b = some o) ∧ H S = none ∧ (∀ t ∈ as, H t = none) ∧ S ∉ as ∧ as.Nodup ∧ H' S = some (.lst (as.map V.ref)) ∧ Paired (fun (t : Addr) (q : V × V) => H' t = some (.tup [q.1, q.2])) as (xs.zip ys) ∧ (∀ b, b ∉ as → b ≠ S → H' b = H b) ∧ Inv X pins σ H' { s with heap := h', toks := tk } := by
  have l1 := rx.length
  have l2 := ry.length
  have lz : as.length = (xs.zip ys).length := by rw [List.length_zip, hl]; omega
  have hSn : S ∉ as := fun z => Nat.lt_irrefl _ (hG.above _ z)
  have nd : as.Nodup := List.Pairwise.imp (fun {a b} (h : a < b) => Nat.ne_of_lt h) hG.rise
  have ab : ∀ t ∈ as, s.heap.objs.size ≤ t := fun t ht => Nat.le_trans hSl (Nat.le_of_lt (hG.above t ht))
  have new : ∀ t ∈ as, H t = none := fun t ht => I.hok.fresh (ab t ht)
  have newS : H S = none := I.hok.fresh hSl
  have atP := putP_at as (xs.zip ys) (upd H S (.lst (as.map V.ref))) lz nd
  have off : ∀ b, b ∉ as → b ≠ S → putP (upd H S (.lst (as.map V.ref))) as (xs.zip ys) b = H b := fun b h1 h2 => by rw [putP_off as _ _ h1, upd_ne h2]
  have low : ∀ b o, s.heap.get? b = some o → b ∉ as ∧ b ≠ S := fun b o e => ⟨fun z => absurd (Heap.lt_size e) (Nat.not_lt.mpr (ab b z)), fun z => absurd (Heap.lt_size e) (Nat.not_lt.mpr (z ▸ hSl))⟩
  have kp : ∀ b u, H b = some u → (putP (upd H S (.lst (as.map V.ref))) as (xs.zip ys)) b = some u := fun b u e => by
    rw [off b (fun z => by rw [new b z] at e; cases e) (fun z => by rw [z, newS] at e; cases e)]
    exact e
  have eS : putP (upd H S (.lst (as.map V.ref))) as (xs.zip ys) S = some (.lst (as.map V.ref)) := by rw [putP_off as _ _ hSn, upd_same]
  refine ⟨putP (upd H S (.lst (as.map V.ref))) as (xs.zip ys), kp, newS, new, hSn, nd, eS, atP, off, ?_⟩
  refine I.call' (ch := []) rfl ⟨fun b o q _ _ _ => hk b o q, fun b o q _ _ _ => ⟨o.slots, hk b o q⟩, fun b o q n _ => ?_, fun b o q _ => ⟨o, hk b o q⟩, fun b xs q => kp b _ q, fun b o u q => kp b _ q, fun b ps q => ⟨#[], by rw [kp b _ q]; simp⟩⟩ (fun b u q => ?_) I.bare fun _ z => nomatch z
  · obtain ⟨z1, z2⟩ := low b o q
    rw [off b z1 z2]
    exact n
  · by_cases hb : b ∈ as
    · obtain ⟨j, pk, e1, e2, e3⟩ := pix atP hb
      rw [e3] at q
      cases q
      obtain ⟨x, y, f1, f2, f3⟩ := hG.pairs j b e1
      rw [List.getElem?_zip_eq_some] at e2
      obtain ⟨v, hv, rv⟩ := rx.get e2.1
      obtain ⟨v2, hv2, rv2⟩ := ry.get e2.2
      have g1 : us[j]? = some x := by simpa using f1
      have g2 : us2[j]? = some y := by simpa using f2
      rw [hv] at g1
      rw [hv2] at g2
      cases g1
      cases g2
      exact ⟨by show 2 ≤ sizeLine; decide, [_, _], .cons rv (.cons rv2 .nil), ⟨_, f3, rfl, _, rfl⟩⟩
    · by_cases hb2 : b = S
      · rw [hb2] at q ⊢
        rw [eS] at q
        cases q
        refine ⟨by rw [List.length_map, lz, List.length_zip]; omega, acc.toList, c, by rw [hacc]; exact vrefs as, ?_⟩
        rw [Array.toArray_toList]
        exact hS
      · rw [off b hb hb2] at q
        exact (I.hok b u q).stay (fun d v _ y => hk d v y) (fun d y => kp d _ y) fun d xs y => kp d _ y
end
def rListZip (K : PySem.W.Frag) : List V → Hp → VK → Prop := fun vs H Q => ∃ (a b : Addr) (xs ys : List V), vs = [.ref a, .ref b] ∧ ((SqL K H a xs ∧ SqL K H b ys) ∨ (SqT K H a xs ∧ SqT K H b ys)) ∧ xs.length ≤ sizeLine ∧
  ∀ (H' : Hp) (p : Addr) (ts : List Addr), (∀ b o, H b = some o → H' b = some o) → H p = none → (∀ t ∈ ts, H t = none) → p ∉ ts → H' p = some (.lst (ts.map V.ref)) → Paired (fun (t : Addr) (q : V × V) => H' t = some (.tup [q.1, q.2])) ts (xs.zip ys) → (∀ b, b ∉ ts → b ≠ p → H' b = H b) → Q (.ref p) H'
def tListZip (K : PySem.W.Frag) (ta : TA) : TE := fun σ H Q => ta σ H fun vs H1 => rListZip K vs H1 Q
section
variable {X : Cx}
theorem pe_listZip {e e2 : Expr} {ta : TA} {p p2 pos pos2 : Pos} (hc : X.calm = true) (hgl : Gl X "list") (hml : X.mg "list" = none) (hg : Gl X "zip") (hm : X.mg "zip" = none) (ha : PA X [e, e2] ta)
    (hs : starEach [e, e2] X.env = (false, eval e X.env) :: starEach [e2] X.env := by rfl) (hpl : (backTo pos (starEach [e2] X.env)).any (·.1) = false := by rfl)
    (hs2 : starEach [.Call (.Name "zip" p) [e, e2] [] pos] X.env = [(false, eval (.Call (.Name "zip" p) [e, e2] [] pos) X.env)] := by rfl) :
    PE X (.Call (.Name "list" p2) [.Call (.Name "zip" p) [e, e2] [] pos] [] pos2) (tListZip X.K ta) := by
  refine ⟨fun pins s σ H Q I h => ?_⟩
  refine wpAny_Call_Name_kw (ld_blt I hgl hml (show bootBuiltins "list" = some (.type "list") by decide +kernel) ?_)
  refine PyProof.Rows.callWith_type1 ?_ hs2 rfl
  rw [hs2]
  show wpAny _ _ (spliced [(false, eval (.Call (.Name "zip" p) [e, e2] [] pos) X.env)]) _ _ s
  refine Calls.spliced_cons ?_
  refine Call_ (ld_blt I hg hm PyProof.Rows.boot_zip (PyProof.Rows.callWith_type1 (thn (ha.run pos pins s σ H _ I h) fun us s1 ⟨vs, H1, I1, r1, q1⟩ => ?_) hs hpl))
  obtain ⟨a, b, xs, ys, ex, hq, hz, q⟩ := q1
  subst ex
  cases r1 with
  | cons r rr =>
    cases rr with
    | cons r' rr =>
      cases rr
      cases r
      cases r'
      rcases hq with ⟨hqx, hqy⟩ | ⟨hqx, hqy⟩
      · obtain ⟨its, rv, p1, _⟩ := I1.list hqx
        obtain ⟨its2, rv2, p2, _⟩ := I1.list hqy
        have la := p1.lt
        have lb := p2.lt
        have l1 := rv.length
        have l2 := rv2.length
        refine call_zip_2 p1.isList p2.isList fun h' hz' hTI hTO h1 h2 hsz hk => Calls.spliced_nil ?_
        refine call_list (s := { s1 with heap := h' }) (src_lst (xs := its.toArray) (ys := its2.toArray) (PySem.W.ktu_apart s1.heap.objs.size a b la lb)) (I1.ok.hd hc) (n := min its.length its2.length) (by omega) (by simp)
          ⟨⟨⟨_, _, hz', .inl rfl⟩, hTI, ⟨_, _, hTO⟩, h1, h2⟩, p1.isList.at fun o e => hk _ o e, p2.isList.at fun o e => hk _ o e⟩ (fun c hcm => ?_) fun h'' tk acc c as hkk hS hl hG hacc => ?_
        · show c < h'.objs.size
          rw [hsz]
          have e' : c = s1.heap.objs.size + 4 ∨ c = s1.heap.objs.size + 2 ∨ c = s1.heap.objs.size + 3 ∨ c = s1.heap.objs.size ∨ c = s1.heap.objs.size + 1 ∨ c = a ∨ c = b := by simpa using hcm
          have f : ∀ n c a b : Nat, a < n → b < n → (c = n + 4 ∨ c = n + 2 ∨ c = n + 3 ∨ c = n ∨ c = n + 1 ∨ c = a ∨ c = b) → c < n + 5 := by omega
          exact f _ _ _ _ la lb e'
        · have hS1 : s1.heap.objs.size ≤ h'.objs.size := by rw [hsz]; exact Nat.le_add_right _ _
          have hks : ∀ b o, s1.heap.get? b = some o → h''.get? b = some o := fun b o e => hkk b o (fun hm => by
            have lb := Heap.lt_size e
            have e' : b = s1.heap.objs.size + 4 ∨ b = s1.heap.objs.size + 2 ∨ b = s1.heap.objs.size + 3 ∨ b = s1.heap.objs.size ∨ b = s1.heap.objs.size + 1 := by simpa using hm
            have f : ∀ n c : Nat, c < n → ¬ (c = n + 4 ∨ c = n + 2 ∨ c = n + 3 ∨ c = n ∨ c = n + 1) := by omega
            exact f _ _ lb e') (hk b o e)
          obtain ⟨H', k1, k2, k3, k4, k5, k6, k7, k8, J⟩ := laid (tk := tk) I1 hz rv rv2 hks hS1 hS hl hG hacc
          exact ⟨.ref _, H', J, rfl, q H' _ as k1 k2 k3 k4 k6 k7 k8⟩
      · obtain ⟨its, rv, p1, _⟩ := I1.tuple hqx
        obtain ⟨its2, rv2, p2, _⟩ := I1.tuple hqy
        obtain ⟨o1, ho1, _⟩ := id p1
        obtain ⟨o2, ho2, _⟩ := id p2
        have la : a < s1.heap.objs.size := Heap.lt_size ho1
        have lb : b < s1.heap.objs.size := Heap.lt_size ho2
        have l1 := rv.length
        have l2 := rv2.length
        refine RZ.call_zipT (show s1.heap.IsTuple a its.toArray from p1) (show s1.heap.IsTuple b its2.toArray from p2) fun h' hz' hTI hTO h1 h2 hsz hk => Calls.spliced_nil ?_
        refine call_list (s := { s1 with heap := h' }) (src_tup (xs := its.toArray) (ys := its2.toArray) (PySem.W.ktu_apart s1.heap.objs.size a b la lb)) (I1.ok.hd hc) (n := min its.length its2.length) (by omega) (by simp)
          ⟨⟨⟨_, _, hz', .inl rfl⟩, hTI, ⟨_, _, hTO⟩, h1, h2⟩, (show s1.heap.IsTuple a its.toArray from p1).at fun o e => hk _ o e, (show s1.heap.IsTuple b its2.toArray from p2).at fun o e => hk _ o e⟩ (fun c hcm => ?_) fun h'' tk acc c as hkk hS hl hG hacc => ?_
        · show c < h'.objs.size
          rw [hsz]
          have e' : c = s1.heap.objs.size + 4 ∨ c = s1.heap.objs.size + 2 ∨ c = s1.heap.objs.size + 3 ∨ c = s1.heap.objs.size ∨ c = s1.heap.objs.size + 1 ∨ c = a ∨ c = b := by simpa using hcm
          have f : ∀ n c a b : Nat, a < n → b < n → (c = n + 4 ∨ c = n + 2 ∨ c = n + 3 ∨ c = n ∨ c = n + 1 ∨ c = a ∨ c = b) → c < n + 5 := by omega
          exact f _ _ _ _ la lb e'
        · have hS1 : s1.heap.objs.size ≤ h'.objs.size := by rw [hsz]; exact Nat.le_add_right _ _
          have hks : ∀ b o, s1.heap.get? b = some o → h''.get? b = some o := fun b o e => hkk b o (fun hm => by
            have lb := Heap.lt_size e
            have e' : b = s1.heap.objs.size + 4 ∨ b = s1.heap.objs.size + 2 ∨ b = s1.heap.objs.size + 3 ∨ b = s1.heap.objs.size ∨ b = s1.heap.objs.size + 1 := by simpa using hm
            have f : ∀ n c : Nat, c < n → ¬ (c = n + 4 ∨ c = n + 2 ∨ c = n + 3 ∨ c = n ∨ c = n + 1) := by omega
            exact f _ _ lb e') (hk b o e)
          obtain ⟨H', k1, k2, k3, k4, k5, k6, k7, k8, J⟩ := laid (tk := tk) I1 hz rv rv2 hks hS1 hS hl hG hacc
          exact ⟨.ref _, H', J, rfl, q H' _ as k1 k2 k3 k4 k6 k7 k8⟩
end
end ZL
namespace Ab
open PySem PySem.Spec PyProof.Rows L2
section
variable {X : Cx} {K : Kw}
def pairsD (ds es : List PyData) : List PyData := (ds.zip es).map fun p => .tuple [p.1, p.2]
def fListZip : ACall := fun xs μ Q => match xs with
  | [.d (.list ds), .d (.list es)] => Q (.d (.list (pairsD ds es))) μ
  | [.d (.tuple ds), .d (.tuple es)] => Q (.d (.list (pairsD ds es))) μ
  | _ => False
theorem reps_pairs {B B2 : Hp} (e : Ex B B2) : ∀ {xs ys : List V} {ds es : List PyData} {ts : List Addr}, RepAll K B xs ds → RepAll K B ys es → Paired (fun (t : Addr) (q : V × V) => B2 t = some (.tup [q.1, q.2])) ts (xs.zip ys) → RepAll K B2 (ts.map V.ref) (pairsD ds es)
  | _, _, [], _, _, h1, _, p => by cases h1; cases p; exact .nil
  | _, _, _ :: _, [], _, h1, h2, p => by cases h1; cases h2; cases p; exact .nil
  | _, _, _ :: _, _ :: _, _, h1, h2, p => by
    cases h1 with
    | cons a1 a2 =>
      cases h2 with
      | cons b1 b2 =>
        cases p with
        | cons c1 c2 => exact .cons (.tup (SqT.of c1) (by show 2 ≤ sizeLine; decide) (.cons (Rep.mono e _ a1) (.cons (Rep.mono e _ b1) .nil))) (reps_pairs e a2 b2 c2)
theorem batch {B F H H' : Hp} {μ : Mu} {p : Addr} {ts : List Addr} {vs : List V} (st : St K B μ F H) (ex : Ex H H') (hp : H p = none) (hts : ∀ t ∈ ts, H t = none) (e1 : H' p = some (.lst vs)) (off : ∀ b, b ∉ ts → b ≠ p → H' b = H b) :
    ∃ B2, Ex B B2 ∧ St K B2 μ F H' ∧ (∀ b, b ∈ ts ∨ b = p → B2 b = H' b) := by
  have eB : Ex B (fun b => if b ∈ ts ∨ b = p then H' b else B b) := fun b o h => by
    have hb := st.ex b o h
    have n : ¬ (b ∈ ts ∨ b = p) := fun z => by
      rcases z with z | z
      · rw [hts b z] at hb; cases hb
      · rw [z, hp] at hb; cases hb
    show (if b ∈ ts ∨ b = p then H' b else B b) = some o
    rw [if_neg n]; exact h
  refine ⟨_, eB, ⟨fun b o h => ?_, fun b o h => ex b o (st.fr b o h), fun b o h => ⟨?_, (st.off b o h).2⟩, fun b m h => ?_⟩, fun b h => if_pos h⟩
  · have h' : (if b ∈ ts ∨ b = p then H' b else B b) = some o := h
    split at h'
    · exact h'
    · exact ex b o (st.ex b o h')
  · have hb := st.fr b o h
    have n : ¬ (b ∈ ts ∨ b = p) := fun z => by
      rcases z with z | z
      · rw [hts b z] at hb; cases hb
      · rw [z, hp] at hb; cases hb
    show (if b ∈ ts ∨ b = p then H' b else B b) = none
    rw [if_neg n]; exact (st.off b o h).1
  · obtain ⟨nB, o, ho, r⟩ := st.mu b m h
    have n : ¬ (b ∈ ts ∨ b = p) := fun z => by
      rcases z with z | z
      · rw [hts b z] at ho; cases ho
      · rw [z, hp] at ho; cases ho
    exact ⟨by show (if b ∈ ts ∨ b = p then H' b else B b) = none; rw [if_neg n]; exact nB, o, ex b o ho, r.mono eB⟩
theorem ae_listZip {e e2 : Expr} {t : ATA} {p p2 pos pos2 : Pos} (hc : X.calm = true) (hgl : Gl X "list") (hml : X.mg "list" = none) (hg : Gl X "zip") (hm : X.mg "zip" = none) (ha : PA X [e, e2] (cA X.kw t))
    (hs : starEach [e, e2] X.env = (false, eval e X.env) :: starEach [e2] X.env := by rfl) (hpl : (backTo pos (starEach [e2] X.env)).any (·.1) = false := by rfl)
    (hs2 : starEach [.Call (.Name "zip" p) [e, e2] [] pos] X.env = [(false, eval (.Call (.Name "zip" p) [e, e2] [] pos) X.env)] := by rfl) :
    PE X (.Call (.Name "list" p2) [.Call (.Name "zip" p) [e, e2] [] pos] [] pos2) (cE X.kw (aCall fListZip t)) :=
  pe_weak (ZL.pe_listZip hc hgl hml hg hm ha hs hpl hs2) fun σ H Q ⟨ρ, μ, Qa, B, F, h, s, st, k⟩ => by
    refine cA_bind h s st fun vs B1 H1 xs μ1 q e1 st1 r1 => ?_
    match xs, q, r1 with
    | [.d (.list ds), .d (.list es)], q, .cons r (.cons r' .nil) =>
      cases r with
      | lst h1 hz h2 =>
        cases r' with
        | lst h3 hz2 h4 =>
          refine ⟨_, _, _, _, rfl, .inl ⟨SqL.of (st1.ex _ _ h1), SqL.of (st1.ex _ _ h3)⟩, by rw [h2.length]; exact hz, fun H' p ts ex hp hts hpt hl hpr off => ?_⟩
          obtain ⟨B2, eB, st2, hB⟩ := batch st1 ex hp hts hl off
          refine k _ B2 H' _ μ1 q (e1.trans eB) st2 (.lst ((hB p (.inr rfl)).trans hl) ?_ (reps_pairs eB h2 h4 ?_))
          · unfold pairsD; rw [List.length_map, List.length_zip]; omega
          · exact ZL.paired_mono (fun t q ht e => (hB t (.inl ht)).trans e) hpr
    | [.d (.tuple ds), .d (.tuple es)], q, .cons r (.cons r' .nil) =>
      cases r with
      | tup h1 hz h2 =>
        cases r' with
        | tup h3 hz2 h4 =>
          refine ⟨_, _, _, _, rfl, .inr ⟨st1.ex.st h1, st1.ex.st h3⟩, by rw [h2.length]; exact hz, fun H' p ts ex hp hts hpt hl hpr off => ?_⟩
          obtain ⟨B2, eB, st2, hB⟩ := batch st1 ex hp hts hl off
          refine k _ B2 H' _ μ1 q (e1.trans eB) st2 (.lst ((hB p (.inr rfl)).trans hl) ?_ (reps_pairs eB h2 h4 ?_))
          · unfold pairsD; rw [List.length_map, List.length_zip]; omega
          · exact ZL.paired_mono (fun t q ht e => (hB t (.inl ht)).trans e) hpr
end
end Ab

set_option Elab.async false
set_option linter.all false
set_option maxRecDepth 100000
set_option maxHeartbeats 4000000
/-! AbY: the script: slices of it. -/
namespace Ab
open PySem PySem.Spec PyProof.Rows L2
/-- the script at a: a list of ints that is locked, or one of the module's own -/
def ScrAt (K : Kw) (μ : Mu) (a : Addr) (ns : List Int) : Prop := (∃ o : Obj, μ a = some (.raw (.frz o (.lst (ns.map V.int))))) ∨ SqL K.K (fun _ => none) a (ns.map V.int)
section
variable {X : Cx} {K : Kw}
theorem ScrAt.sq {B F H : Hp} {μ : Mu} {a : Addr} {ns : List Int} (h : ScrAt K μ a ns) (st : St K B μ F H) : SqL K.K H a (ns.map V.int) := by
  rcases h with ⟨o, h⟩ | h
  · obtain ⟨_, u, ho, r⟩ := st.mu a _ h
    obtain rfl := r.raw
    exact .inl (.inr ⟨o, ho⟩)
  · rcases h with (h | ⟨o, h⟩) | h
    · cases h
    · cases h
    · exact .inr h
def fSlK (K : Kw) (x : AV) (lo hi : Option Int) (μ : Mu) (Q : AV → Mu → Prop) : Prop := match x with
  | .v (.ref l) => ∃ ns, ScrAt K μ l ns ∧ ns.length ≤ sizeLine ∧ Q (.d (.list (cutD (ns.map PyData.int) lo hi))) μ
  | _ => False
def aSlK (K : Kw) (a : AT) (lo hi : ATO) : AT := fun ρ μ Q => a ρ μ fun x μ1 => lo ρ μ1 fun l μ2 => hi ρ μ2 fun h μ3 => fSlK K x l h μ3 Q
theorem ae_slK {e : Expr} {lo hi : Option Expr} {te : AT} {tl th : ATO} {p2 pos : Pos} (he : PE X e (cE X.kw te)) (hl : PO X lo (cO X.kw tl)) (hh : PO X hi (cO X.kw th)) : PE X (.Subscript e (.Slice lo hi none p2) pos) (cE X.kw (aSlK X.kw te tl th)) :=
  pe_weak (pe_slice (sl_or sl_list sl_tupA) he hl hh) fun σ H Q ⟨ρ, μ, Qa, B, F, h, s, st, k⟩ => by
    refine cE_bind h s st fun v B1 H1 x μ1 q e1 st1 r1 => ?_
    refine ⟨ρ, μ1, _, B1, F, q, s.mono e1, st1, fun l B2 H2 μ2 q e2 st2 => ?_⟩
    refine ⟨ρ, μ2, _, B2, F, q, (s.mono e1).mono e2, st2, fun h B3 H3 μ3 q e3 st3 => ?_⟩
    have e4 := e1.trans (e2.trans e3)
    have k' : ∀ v B' H' x μ', Qa x μ' → Ex B3 B' → St X.kw B' μ' F H' → ARel X.kw B' v x → Q v H' := fun v B' H' x μ' q e => k v B' H' x μ' q (e4.trans e)
    match x, q, r1 with
    | .v (.ref a), ⟨ns, hs, hz, q⟩, r1 =>
      cases r1
      exact .inl ⟨a, _, rfl, hs.sq st3, new_lst st3 (cutD_le (by simpa using hz)) ((RepAll.ints ns).cut l h) q k'⟩
end
/-- what a law's def keeps: told True -/
def LawSp (sp : Kw → ACall) : Prop := ∀ (K : Kw) (μ : Mu) (a : Addr) (ns : List Int) (Q : AV → Mu → Prop), ScrAt K μ a ns → ns.length ≤ 63 → (∀ μ', Q (.d (.bool true)) μ') → sp K [.v (.ref a)] μ Q
theorem law_end {sp : Kw → ACall} (h : LawSp sp) {K : Kw} {H : Hp} {a : Addr} {ns : List Int} (hl : ns.length ≤ 63) (ho : Only H) (hs : SqL K.K H a (ns.map V.int)) :
    cSp K (sp K) [.ref a] H (fun v _ => v = .bl true) fun _ _ _ => False := by
  have fin : ∀ (v : V) (B' H' : Hp) (x : AV) (μ' : Mu), x = .d (.bool true) → Ex (fun _ => none) B' → St K B' μ' (fun _ => none) H' → ARel K B' v x → v = .bl true := by
    intro v B' H' x μ' e _ _ r
    subst e
    cases r
    rfl
  rcases hs with (hs | ⟨o, hs⟩) | hs
  · rcases ho a with z | ⟨o, xs, z⟩
    · rw [hs] at z; cases z
    · rw [hs] at z; cases z
  · refine ⟨[.v (.ref a)], fun b => if b = a then some (.raw (.frz o (.lst (ns.map V.int)))) else none, fun x _ => x = .d (.bool true), fun _ => none, fun _ => none, h _ _ _ ns _ (.inl ⟨o, if_pos rfl⟩) hl fun _ => rfl, .cons rfl .nil, ⟨fun _ _ q => (nomatch q), fun _ _ q => (nomatch q), fun _ _ q => (nomatch q), fun b m hb => ?_⟩, fin⟩
    by_cases e : b = a
    · subst e
      have hb' : (if b = b then some (MO.raw (.frz o (.lst (ns.map V.int)))) else none) = some m := hb
      rw [if_pos rfl] at hb'
      cases hb'
      exact ⟨rfl, _, hs, rfl⟩
    · have hb' : (if b = a then some (MO.raw (.frz o (.lst (ns.map V.int)))) else none) = some m := hb
      rw [if_neg e] at hb'
      cases hb'
  · exact ⟨[.v (.ref a)], fun _ => none, fun x _ => x = .d (.bool true), fun _ => none, fun _ => none, h _ _ _ ns _ (.inr (.inr hs)) hl fun _ => rfl, .cons rfl .nil, ⟨fun _ _ q => (nomatch q), fun _ _ q => (nomatch q), fun _ _ q => (nomatch q), fun _ _ q => (nomatch q)⟩, fin⟩
end Ab

set_option Elab.async false
set_option linter.all false
set_option maxRecDepth 100000
set_option maxHeartbeats 4000000
/-! AbV: for x in zip(a, b), two tuples, x one name. -/
namespace L2
open PySem PySem.Spec PyProof.Rows
theorem turn_zipN {P : Program} {w : World} {K : PySem.W.Frag} {x : Str} {p : Pos} {a b z TI TO i1 i2 : Addr} (D : ZipApart z TI TO i1 i2 a b) :
    Turn P w K (.Name x p) (RZ.ItzT K a b) [z, TI, TO, i1, i2] z (fun i h => EZ.Zst h z TI TO i1 i2 a b i) where
  mem := by simp
  obj := fun i h st c hc => by
    obtain ⟨⟨f0, f1, hz, hf⟩, hTI, ⟨x, y, hTO⟩, ⟨o1, e1, _, d1⟩, ⟨o2, e2, _, d2⟩⟩ := st
    have e' : c = z ∨ c = TI ∨ c = TO ∨ c = i1 ∨ c = i2 := by simpa using hc
    rcases e' with q | q | q | q | q
    · rw [q]; exact ⟨_, hz, fun v q => nomatch q⟩
    · rw [q]; exact ⟨_, hTI, fun v q => nomatch q⟩
    · rw [q]; exact ⟨_, hTO, fun v q => nomatch q⟩
    · rw [q]; exact ⟨o1, e1, fun v q => by rw [d1] at q; cases q⟩
    · rw [q]; exact ⟨o2, e2, fun v q => by rw [d2] at q; cases q⟩
  keep := fun i h h' st k => st.at fun b hb o q => k b hb o q
  item := by
    intro X hP hw hK hc i pins s σ H E I hf st hg
    subst hP hw hK
    obtain ⟨xs, ys, x, y, hqx, hqy, hx, hy⟩ := hg
    obtain ⟨its, rv, p, _⟩ := I.tuple hqx
    obtain ⟨its2, rv2, p2, _⟩ := I.tuple hqy
    obtain ⟨u, hu, ru⟩ := rv.get hx
    obtain ⟨u2, hu2, ru2⟩ := rv2.get hy
    refine (ZL.src_tup (xs := its.toArray) (ys := its2.toArray) D).item _ _ _ i u u2 _ ⟨st, show s.heap.IsTuple a its.toArray from p, show s.heap.IsTuple b its2.toArray from p2⟩ (by simpa using hu) (by simpa using hu2) fun h' st' hT hsz hk => ?_
    refine ⟨_, rfl, wpAny_pure ?_⟩
    have new : ObjOk X.prog X.w (upd H s.heap.objs.size (.tup [x, y])) h' s.heap.objs.size (.tup [x, y]) :=
      ⟨by show 2 ≤ sizeLine; decide, [u, u2], .cons ru (.cons ru2 .nil), ⟨_, hT, rfl, _, rfl⟩⟩
    have I1 : Inv X pins σ (upd H s.heap.objs.size (.tup [x, y])) { s with heap := h' } := I.turnedNew (t' := s.toks) (ch := [z, TI, TO, i1, i2]) (fun c o hb q => hk c o hb q) hf (Nat.le_refl _) new
    refine ⟨.ref s.heap.objs.size, _, I1, rfl, ⟨_, x, y, rfl, I.hok.fresh (Nat.le_refl _), rfl, fun l hl => by rw [I.tuple_inj hl hqx]; exact hx, fun l hl => by rw [I.tuple_inj hl hqy]; exact hy⟩, st'.1, fun c hcm => ?_⟩
    have hlt : c < s.heap.objs.size := by
      obtain ⟨⟨f0, f1, hz, _⟩, hTI, ⟨x0, y0, hTO⟩, h1, h2⟩ := st
      have e' : c = z ∨ c = TI ∨ c = TO ∨ c = i1 ∨ c = i2 := by simpa using hcm
      rcases e' with q | q | q | q | q
      · rw [q]; exact Heap.lt_size hz
      · rw [q]; exact Heap.lt_size hTI
      · rw [q]; exact Heap.lt_size hTO
      · rw [q]; obtain ⟨_, e1, _⟩ := h1; exact Heap.lt_size e1
      · rw [q]; obtain ⟨_, e2, _⟩ := h2; exact Heap.lt_size e2
    rw [upd_ne (Nat.ne_of_lt hlt)]
    exact (hf c hcm).1
  done := by
    intro X hP hw hK hc i pins s σ H E I hf st hg
    subst hP hw hK
    obtain ⟨xs, ys, hqx, hqy, hend⟩ := hg
    obtain ⟨its, rv, p, _⟩ := I.tuple hqx
    obtain ⟨its2, rv2, p2, _⟩ := I.tuple hqy
    have l1 := rv.length
    have l2 := rv2.length
    have he : its.toArray[i]? = none ∨ its2.toArray[i]? = none := by
      rcases hend with q | q
      · exact .inl (by simp; omega)
      · exact .inr (by simp; omega)
    exact (ZL.src_tup (xs := its.toArray) (ys := its2.toArray) D).done _ _ _ i _ (I.ok.hd hc) ⟨st, show s.heap.IsTuple a its.toArray from p, show s.heap.IsTuple b its2.toArray from p2⟩ he fun h' hk => ⟨rfl, I.turnedL (t' := s.toks) (ch := [z, TI, TO, i1, i2]) (fun c o hb q => hk c o hb q) hf⟩
  self := fun A i s Q E st h => by
    obtain ⟨f0, f1, hz, _⟩ := st.zip
    have hT : s.TypeIs (.ref z) "zip" := ⟨_, hz, rfl⟩
    refine wpAny_pyIter_slot hT F.slot_zip_iter (wpAny_call_entry F.slot_zip_iter hT F.entry_zip_iter ?_ (F.args_zip_iter_1 _))
    show wpAny _ _ (ret (.ref z)) _ _ s
    exact wpAny_pure ⟨_, rfl, "zip", _, hT, F.slot_zip_next.lookup, h⟩
def iZipN (K : PySem.W.Frag) (ta : TA) : TI := fun σ H R => ta σ H fun vs H1 => ∃ a b xs ys, vs = [.ref a, .ref b] ∧ SqT K H1 a xs ∧ SqT K H1 b ys ∧ R (RZ.ItzT K a b) H1
theorem pi_zipN {X : Cx} {x : Str} {e e2 : Expr} {ta : TA} {p pos tpos : Pos} (hg : Gl X "zip") (hm : X.mg "zip" = none) (ha : PA X [e, e2] ta)
    (hs : starEach [e, e2] X.env = (false, eval e X.env) :: starEach [e2] X.env := by rfl) (hpl : (backTo pos (starEach [e2] X.env)).any (·.1) = false := by rfl) :
    PI X (.Name x tpos) (.Call (.Name "zip" p) [e, e2] [] pos) (iZipN X.K ta) := by
  refine ⟨fun pins s σ H R I h => ?_⟩
  refine Call_ (ld_blt I hg hm PyProof.Rows.boot_zip (PyProof.Rows.callWith_type1 (thn (ha.run pos pins s σ H _ I h) fun us s1 ⟨vs, H1, I1, r1, q1⟩ => ?_) hs hpl))
  obtain ⟨a, b, xs, ys, ex, hqx, hqy, q⟩ := q1
  subst ex
  cases r1 with
  | cons r rr =>
    cases rr with
    | cons r' rr =>
      cases rr
      cases r
      cases r'
      obtain ⟨its, rv, p1, _⟩ := I1.tuple hqx
      obtain ⟨its2, rv2, p2, _⟩ := I1.tuple hqy
      obtain ⟨o1, ho1, _⟩ := id p1
      obtain ⟨o2, ho2, _⟩ := id p2
      refine RZ.call_zipT (show s1.heap.IsTuple a its.toArray from p1) (show s1.heap.IsTuple b its2.toArray from p2) fun h' hz hTI hTO h1 h2 hsz hk => wpAny_pyIter_zip hz ?_
      have I2 : Inv X pins σ H1 { s1 with heap := h' } := I1.kept (t' := s1.toks) hk
      refine ⟨s1.heap.objs.size + 4, [s1.heap.objs.size + 4, s1.heap.objs.size + 2, s1.heap.objs.size + 3, s1.heap.objs.size, s1.heap.objs.size + 1], _, _, H1, rfl, I2, turn_zipN (PySem.W.ktu_apart s1.heap.objs.size a b (Heap.lt_size ho1) (Heap.lt_size ho2)), ⟨⟨_, _, hz, .inl rfl⟩, hTI, ⟨_, _, hTO⟩, h1, h2⟩, fun c hcm => ?_, q⟩
      have hle : s1.heap.objs.size ≤ c := by
        have e' : c = s1.heap.objs.size + 4 ∨ c = s1.heap.objs.size + 2 ∨ c = s1.heap.objs.size + 3 ∨ c = s1.heap.objs.size ∨ c = s1.heap.objs.size + 1 := by simpa using hcm
        rcases e' with z | z | z | z | z
        · rw [z]; exact Nat.le_add_right _ _
        · rw [z]; exact Nat.le_add_right _ _
        · rw [z]; exact Nat.le_add_right _ _
        · rw [z]; exact Nat.le_refl _
        · rw [z]; exact Nat.le_add_right _ _
      exact I1.fpOk hle (I1.hok.fresh hle)
end L2
namespace Ab
open PySem PySem.Spec PyProof.Rows L2
section
variable {X : Cx} {K : Kw}
def aiZipN (t : ATA) : ATI := fun ρ μ R => t ρ μ fun xs μ1 => match xs with
  | [.d (.tuple ds), .d (.tuple es)] => R (zipD ds es) μ1
  | _ => False
theorem ai_zipN {x : Str} {e e2 : Expr} {t : ATA} {p pos tpos : Pos} (hg : Gl X "zip") (hm : X.mg "zip" = none) (ha : PA X [e, e2] (cA X.kw t))
    (hs : starEach [e, e2] X.env = (false, eval e X.env) :: starEach [e2] X.env := by rfl) (hpl : (backTo pos (starEach [e2] X.env)).any (·.1) = false := by rfl) :
    PI X (.Name x tpos) (.Call (.Name "zip" p) [e, e2] [] pos) (cI X.kw (aiZipN t)) := pi_weak (pi_zipN hg hm ha hs hpl) fun σ H R ⟨ρ, μ, Ra, B, F, h, s, st, k⟩ => by
  refine cA_bind h s st fun vs B1 H1 xs μ1 q e1 st1 r1 => ?_
  match xs, q, r1 with
  | [.d (.tuple ds), .d (.tuple es)], q, .cons r (.cons r' .nil) =>
    cases r with
    | tup h1 hz h2 =>
      cases r' with
      | tup h3 hz2 h4 => exact ⟨_, _, _, _, rfl, st1.ex.st h1, st1.ex.st h3, k _ B1 H1 _ μ1 q e1 st1 (walkA_zipT hz h1 h2 h3 h4)⟩
theorem ag_more {e : Expr} {vs vs' : List Nat} {g : ATG} (h : PG X e (cG X.kw vs g)) (hs : ∀ i ∈ vs, i ∈ vs' := by decide) : PG X e (cG X.kw vs' g) :=
  pg_weak h fun v σ H Q ⟨x, ρ, μ, Qa, B, F, q, r, s, st, k⟩ => ⟨x, ρ, μ, Qa, B, F, q, r, s, st, fun ρ' μ' σ' B' H' q e s st b => k ρ' μ' σ' B' H' q e s st ⟨b.1, fun i hi => b.2 i fun z => hi (hs i z)⟩⟩
end
end Ab

set_option Elab.async false
set_option linter.all false
set_option maxRecDepth 100000
set_option maxHeartbeats 4000000
/-! What the defs of marks, and of the law's own, promise. -/
namespace K60
open PySem PySem.Spec PyProof.Rows L2 Ab
/-! ### data -/
def mk (xs : List Int) : PyData := .tuple (xs.map .int)
abbrev I (i : Int) : AV := .d (.int i)
abbrev Bo (b : Bool) : AV := .d (.bool b)
abbrev M (xs : List Int) : AV := .d (mk xs)
/-- a list or a tuple of data -/
def seqD (t : Bool) (ds : List PyData) : PyData := if t then .tuple ds else .list ds
/-! ### mathematics -/
def above (xs ys : List Int) : Bool := (xs.zip ys).all fun p => decide (p.2 ≤ p.1)
def aboveSome (xs : List Int) (some : List (List Int)) : Bool := some.any (above xs)
def back (xs cs : List Int) : List Int := (xs.zip cs).map fun p => if p.1 - p.2 > 0 then p.1 - p.2 else 0
structure Bag where
  a : Int
  s : Int
  p : Int
  cells : List Int
structure Bag.Ok (β : Bag) : Prop where
  a0 : 0 ≤ β.a
  s0 : 0 ≤ β.s
  s1 : β.s < 4294967296
  c0 : ∀ c ∈ β.cells, 0 ≤ c
  len : β.cells.length ≤ 63
def BagM (β : Bag) : MO := .lst [I β.a, I β.s, I β.p, .d (.list (β.cells.map .int))]
abbrev Mk := List Int
def lub (xs ys : Mk) : Mk := (xs.zip ys).map fun p => max p.1 p.2
def grownM (xs ys : Mk) : List Int := ((xs.zip ys).zipIdx.filter fun p => decide (p.1.1 < p.1.2)).map fun p => (p.2 : Int)
/-- the distinct ones -/
def uniq {α : Type} [DecidableEq α] : List α → List α
  | [] => []
  | x :: xs => if x ∈ xs then uniq xs else x :: uniq xs
def isMin (some : List Mk) (x : Mk) : Bool := some.all fun y => decide (y = x) || !above x y
def isMax (some : List Mk) (x : Mk) : Bool := some.all fun y => decide (y = x) || !above y x
def srt (L : List Mk) : List Mk := (uniq L).mergeSort fun a b => decide (a ≤ b)
def minL (some : List Mk) : List Mk := srt (some.filter (isMin some))
def maxL (some : List Mk) : List Mk := srt (some.filter (isMax some))
def latt (some others : List Mk) : List Mk := some.flatMap fun a => others.map fun b => lub a b
def rises (line : List Mk) : List (Nat × Nat) := (List.range line.length).flatMap fun later => ((List.range later).filter fun i => above (line.getD later []) (line.getD i [])).map fun i => (i, later)
def riseD : Option (Nat × Nat) → PyData
  | none => .none
  | some p => .tuple [.int p.1, .int p.2]
abbrev Pl := Int × Mk
def plD (p : Pl) : PyData := .tuple [.int p.1, mk p.2]
def ltP (a b : Pl) : Prop := a.1 < b.1 ∨ (a.1 = b.1 ∧ a.2 < b.2)
instance : DecidableRel ltP := fun a b => by unfold ltP; exact inferInstance
def isMinP (ps : List Pl) (p : Pl) : Bool := ps.all fun y => decide (y = p) || !(decide (y.1 = p.1) && above p.2 y.2)
def leastPl (ps : List Pl) : List Pl := (uniq (ps.filter (isMinP ps))).mergeSort fun a b => !decide (ltP b a)
mutual
def nodes : PyData → Nat
  | .list ds => nodesAll ds + 1
  | .tuple ds => nodesAll ds + 1
  | _ => 1
def nodesAll : List PyData → Nat
  | [] => 0
  | d :: ds => nodes d + nodesAll ds
end
mutual
/-- no text, no dict within -/
def numD : PyData → Bool
  | .none => true
  | .bool _ => true
  | .int _ => true
  | .str _ => false
  | .list ds => numDs ds
  | .tuple ds => numDs ds
  | .dict _ => false
def numDs : List PyData → Bool
  | [] => true
  | d :: ds => numD d && numDs ds
end
def moved (xs cs : Mk) : Mk := (xs.zip cs).map fun p => p.1 + p.2
def allM : Nat → Nat → List Mk
  | 0, _ => [[]]
  | n + 1, k => (allM n k).flatMap fun one => (List.range (k + 1)).map fun (i : Nat) => one ++ [(Int.ofNat i)]
def bag0 (ns : List Int) : Bag := ⟨0, 1234567891, 0, ns.map fun n => (n.natAbs : Int)⟩
def Len (n : Nat) (some : List Mk) : Prop := ∀ x ∈ some, x.length = n
/-! ### promises -/
def sp_is_above : ACall := fun as μ Q => ∃ xs ys, as = [M xs, M ys] ∧ Q (Bo (above xs ys)) μ
def sp_is_above_some : ACall := fun as μ Q => ∃ xs t some, as = [M xs, .d (seqD t (some.map mk))] ∧ Q (Bo (aboveSome xs some)) μ
def sp_back_marks : ACall := fun as μ Q => ∃ xs ys, as = [M xs, M ys] ∧ Q (M (back xs ys)) μ
def sp_are_apart : ACall := fun as μ Q => ∃ xs ys, as = [M xs, M ys] ∧ Q (Bo (!above xs ys && !above ys xs)) μ
def sp__law_take : ACall := fun as μ Q => ∃ b n β, as = [.v (.ref b), I n] ∧ μ b = some (BagM β) ∧ β.Ok ∧ 0 < n ∧ n < 1000000 ∧ ∀ β' r, β'.Ok → 0 ≤ r → r < n → Q (I r) (mset μ b (BagM β'))
def sp__law_is_above : ACall := fun as μ Q => ∃ xs ys, as = [M xs, M ys] ∧ Q (Bo (above xs ys)) μ
def sp_least_marks : ACall := fun as μ Q => ∃ (n : Nat) (t : Bool) (some : List Mk), as = [.d (seqD t (some.map mk))] ∧ 1 ≤ n ∧ Len n some ∧ some.length ≤ 1000 ∧ Q (.d (.tuple ((minL some).map mk))) μ
def sp_greatest_marks : ACall := fun as μ Q => ∃ (n : Nat) (t : Bool) (some : List Mk), as = [.d (seqD t (some.map mk))] ∧ 1 ≤ n ∧ Len n some ∧ some.length ≤ 1000 ∧ Q (.d (.tuple ((maxL some).map mk))) μ
def sp_least_above : ACall := fun as μ Q => ∃ xs ys, as = [M xs, M ys] ∧ Q (M (lub xs ys)) μ
def sp_first_rise : ACall := fun as μ Q => ∃ (line : List Mk), as = [.d (.list (line.map mk))] ∧ line.length ≤ 1000 ∧ Q (.d (riseD (rises line).head?)) μ
def sp_grown : ACall := fun as μ Q => ∃ xs ys, as = [M xs, M ys] ∧ Q (M (grownM xs ys)) μ
def sp_in_both : ACall := fun as μ Q => ∃ (n : Nat) (some others : List Mk), as = [.d (.list (some.map mk)), .d (.list (others.map mk))] ∧ 1 ≤ n ∧ Len n some ∧ Len n others ∧ some.length ≤ 20 ∧ others.length ≤ 20 ∧ Q (.d (.tuple ((minL (latt some others)).map mk))) μ
def sp_are_within : ACall := fun as μ Q => ∃ (some others : List Mk), as = [.d (.list (some.map mk)), .d (.list (others.map mk))] ∧ Q (Bo (some.all fun m => aboveSome m others)) μ
def sp_are_same_above : ACall := fun as μ Q => ∃ (n : Nat) (some others : List Mk), as = [.d (.list (some.map mk)), .d (.list (others.map mk))] ∧ 1 ≤ n ∧ Len n some ∧ Len n others ∧ some.length ≤ 1000 ∧ others.length ≤ 1000 ∧ Q (Bo (decide (minL some = minL others))) μ
def sp_least_places : ACall := fun as μ Q => ∃ (n : Nat) (ps : List Pl), as = [.d (.tuple (ps.map plD))] ∧ 1 ≤ n ∧ Len n (ps.map (·.2)) ∧ ps.length ≤ 60 ∧ Q (.d (.tuple ((leastPl ps).map plD))) μ
def sp_is_place_above : ACall := fun as μ Q => ∃ (p : Pl) (ps : List Pl), as = [.d (plD p), .d (.tuple (ps.map plD))] ∧ Q (Bo (aboveSome p.2 ((ps.filter fun q => decide (q.1 = p.1)).map (·.2)))) μ
def sp__law_bag (KK : Kw) : ACall := fun as μ Q => ∃ a ns, as = [.v (.ref a)] ∧ ScrAt KK μ a ns ∧ ns.length ≤ 63 ∧ ∀ l, μ l = none → Q (.v (.ref l)) (mset μ l (BagM (bag0 ns)))
def sp__law_alike : ACall := fun as μ Q => ∃ x, as = [.d x, .d x] ∧ numD x = true ∧ nodes x ≤ 1000000 ∧ Q (Bo true) μ
def sp__law_moved : ACall := fun as μ Q => ∃ xs cs, as = [M xs, M cs] ∧ Q (if (moved xs cs).all (fun x => decide (0 ≤ x)) = true then M (moved xs cs) else .d .none) μ
def sp__law_least : ACall := fun as μ Q => ∃ (n : Nat) (ps : List Pl), as = [.d (.list (ps.map plD))] ∧ 1 ≤ n ∧ Len n (ps.map (·.2)) ∧ ps.length ≤ 60 ∧ Q (.d (.list ((leastPl ps).map plD))) μ
def sp__law_marks : ACall := fun as μ Q => ∃ (b : Addr) (n : Int) (β : Bag), as = [.v (.ref b), I n] ∧ μ b = some (BagM β) ∧ β.Ok ∧ 0 ≤ n ∧ n ≤ 10 ∧ ∀ β' xs, β'.Ok → (xs.length : Int) = n → (∀ x ∈ xs, 0 ≤ x ∧ x < 4) → Q (M xs) (mset μ b (BagM β'))
def sp__law_all_marks : ACall := fun as μ Q => ∃ n k : Nat, as = [I n, I k] ∧ n ≤ 3 ∧ k ≤ 7 ∧ Q (.d (.list ((allM n k).map mk))) μ
def sp__law_in : ACall := fun as μ Q => ∃ (t : Bool) (some : List Mk) (xs : Mk), as = [.d (seqD t (some.map mk)), M xs] ∧ Q (Bo (aboveSome xs some)) μ
def sp_law (KK : Kw) : ACall := fun as μ Q => ∃ a ns, as = [.v (.ref a)] ∧ ScrAt KK μ a ns ∧ ns.length ≤ 63 ∧ ∀ μ', Q (Bo true) μ'
end K60

set_option Elab.async false
set_option linter.all false
set_option maxRecDepth 100000
set_option maxHeartbeats 4000000
namespace K60
open PySem PySem.Spec PyProof.Rows L2 Ab
def top (i : Nat) : Stmt := PySem.Challenge.pw_counterkeep_k60_marks_above_one_another.main.body.getD i (.Pass ⟨0, 0, 0, 0⟩)
structure Txt (mg : Str → Option Value) : Prop where
  abs : mg "abs" = none
  all : mg "all" = none
  any : mg "any" = none
  bool : mg "bool" = none
  enumerate : mg "enumerate" = none
  int : mg "int" = none
  isinstance : mg "isinstance" = none
  len : mg "len" = none
  list : mg "list" = none
  max : mg "max" = none
  range : mg "range" = none
  set : mg "set" = none
  sorted : mg "sorted" = none
  str : mg "str" = none
  tuple : mg "tuple" = none
  zip : mg "zip" = none
abbrev s_is_above : Stmt := top 1
abbrev N_is_above : List Str := (["marks", "other", "mine", "its"] : List Str)
theorem sc_is_above : FnScope N_is_above ["marks", "other"] (defScope s_is_above) := ⟨rfl, rfl, rfl, by decide +kernel, rfl, by decide +kernel, by decide +kernel⟩
def A_is_above : ATS := (aRet (aCall fAll (aCons (aLc (aiZip (aCons (aVar 0) (aCons (aVar 1) aNil))) (agTup 2 (agCons (agN 2) (agCons (agN 3) agNil))) aYes (aOp fGe (aVar 2) (aVar 3)) [2, 3]) aNil)))
theorem der_is_above {P : Program} {w : World} {K : PySem.W.Frag} {mg : Str → Option Value} {base : Heap} (T : Txt mg)  {f : Addr} {cdv : Value} {A : Around} {outer : List Env} {s : Shared} {H : Hp} {E : XK} (hr : Room 0 (A.deeper (envOfC "is_above" (defScope s_is_above) s.heap.objs.size f cdv))) :
    PSs (cxOf CX0 P w K mg base N_is_above "is_above" (defScope s_is_above) f cdv A outer s H E).nox (defBody s_is_above) (cS ⟨K, P, w⟩ A_is_above) :=
  (ass_one (as_ret (ae_callB (cr_all rfl) rc_all (by rfl) T.all (by decide +kernel) (aa_cons (ae_lc (own := [("mine", 2), ("its", 3)]) rfl sc_is_above.nd (ai_zip (by rfl) T.zip (aa_cons (av 0) (aa_cons (av 1) aa_nil))) (blkOk_by (N := N_is_above) (sc := defScope s_is_above) (by decide +kernel)) (fun _ _ _ _ _ => (ag_tup (n := 2) rfl (ags_cons (ag_name 2 sc_is_above.nd) (ags_cons (ag_name 3 sc_is_above.nd) ags_nil)))) (fun _ _ _ _ _ => ats_nil) (fun _ _ _ _ _ => (ae_ge (av 2) (av 3)))) aa_nil))))
theorem has_is_above {P : Program} {w : World} {K : PySem.W.Frag} {mg : Str → Option Value} {base : Heap} (T : Txt mg)  {f : Addr} {fd : FuncData} (F : Fun K "is_above" "is_above" s_is_above f fd) (hm : mg "is_above" = some (.ref f)) (bi : Binds K fd ["marks", "other"] [])
    (len : ∀ as μ Q, sp_is_above as μ Q → as.length = 2) (rd : ∀ as μ Q, sp_is_above as μ Q → A_is_above { nx := fun _ μ' => Q (.d .none) μ', rt := Q } (astart N_is_above as) μ) : Has P w K mg base 1 "is_above" ["marks", "other"] sp_is_above :=
  ⟨f, fd, hm, F.kp, bi, okA F sc_is_above len fun cdv A outer s H E hr => ⟨_, der_is_above T  hr, rd⟩⟩
abbrev s_is_above_some : Stmt := top 2
abbrev N_is_above_some : List Str := (["marks", "some", "one"] : List Str)
theorem sc_is_above_some : FnScope N_is_above_some ["marks", "some"] (defScope s_is_above_some) := ⟨rfl, rfl, rfl, by decide +kernel, rfl, by decide +kernel, by decide +kernel⟩
def A_is_above_some : ATS := (aRet (aCall fAny (aCons (aLc (aiSeq (aVar 1)) (agN 2) aYes (aCall sp_is_above (aCons (aVar 0) (aCons (aVar 2) aNil))) [2]) aNil)))
theorem der_is_above_some {P : Program} {w : World} {K : PySem.W.Frag} {mg : Str → Option Value} {base : Heap} (T : Txt mg) (G_is_above : Has P w K mg base 1 "is_above" ["marks", "other"] sp_is_above) {f : Addr} {cdv : Value} {A : Around} {outer : List Env} {s : Shared} {H : Hp} {E : XK} (hr : Room 1 (A.deeper (envOfC "is_above_some" (defScope s_is_above_some) s.heap.objs.size f cdv))) :
    PSs (cxOf CX0 P w K mg base N_is_above_some "is_above_some" (defScope s_is_above_some) f cdv A outer s H E).nox (defBody s_is_above_some) (cS ⟨K, P, w⟩ A_is_above_some) :=
  (ass_one (as_ret (ae_callB (cr_any rfl) rc_any (by rfl) T.any (by decide +kernel) (aa_cons (ae_lc (own := [("one", 2)]) rfl sc_is_above_some.nd (ai_seq (av 1)) (blkOk_by (N := N_is_above_some) (sc := defScope s_is_above_some) (by decide +kernel)) (fun _ _ _ _ _ => (ag_name 2 sc_is_above_some.nd)) (fun _ _ _ _ _ => ats_nil) (fun _ _ _ _ _ => (ae_callH G_is_above (rm hr) (by rfl) (aa_cons (av 0) (aa_cons (av 2) aa_nil))))) aa_nil))))
theorem has_is_above_some {P : Program} {w : World} {K : PySem.W.Frag} {mg : Str → Option Value} {base : Heap} (T : Txt mg) (G_is_above : Has P w K mg base 1 "is_above" ["marks", "other"] sp_is_above) {f : Addr} {fd : FuncData} (F : Fun K "is_above_some" "is_above_some" s_is_above_some f fd) (hm : mg "is_above_some" = some (.ref f)) (bi : Binds K fd ["marks", "some"] [])
    (len : ∀ as μ Q, sp_is_above_some as μ Q → as.length = 2) (rd : ∀ as μ Q, sp_is_above_some as μ Q → A_is_above_some { nx := fun _ μ' => Q (.d .none) μ', rt := Q } (astart N_is_above_some as) μ) : Has P w K mg base 2 "is_above_some" ["marks", "some"] sp_is_above_some :=
  ⟨f, fd, hm, F.kp, bi, okA F sc_is_above_some len fun cdv A outer s H E hr => ⟨_, der_is_above_some T G_is_above hr, rd⟩⟩
abbrev s_least_marks : Stmt := top 3
abbrev N_least_marks : List Str := (["some", "found", "marks", "one"] : List Str)
theorem sc_least_marks : FnScope N_least_marks ["some"] (defScope s_least_marks) := ⟨rfl, rfl, rfl, by decide +kernel, rfl, by decide +kernel, by decide +kernel⟩
def A_least_marks_4 : ATS := (aDrop (aMt fAppend (aVar 1) (aCons (aVar 2) aNil)))
def A_least_marks_3 : ATS := (aIfS (aLendT 1 (aNot (aB (aCall sp_is_above_some (aCons (aVar 2) (aCons (aVar 1) aNil)))))) A_least_marks_4 aNext)
def A_least_marks_5 : ATS := (aRet (aCall fTuple (aCons (aVar 1) aNil)))
def A_least_marks_2 : ATS := (aSeq (aFor (aiSeq (aCall (fSorted false) (aCons (aDc (aiSeq (aVar 0)) (agN 3) aYes (aVar 3) (aC (.d (.bool true))) [3]) aNil))) (agN 2) A_least_marks_3) A_least_marks_5)
def A_least_marks : ATS := (aSeq (aAsg (aMut aNil) (agN 1)) A_least_marks_2)
theorem der_least_marks {P : Program} {w : World} {K : PySem.W.Frag} {mg : Str → Option Value} {base : Heap} (T : Txt mg) (G_is_above_some : Has P w K mg base 2 "is_above_some" ["marks", "some"] sp_is_above_some) {f : Addr} {cdv : Value} {A : Around} {outer : List Env} {s : Shared} {H : Hp} {E : XK} (hr : Room 2 (A.deeper (envOfC "least_marks" (defScope s_least_marks) s.heap.objs.size f cdv))) :
    PSs (cxOf CX0 P w K mg base N_least_marks "least_marks" (defScope s_least_marks) f cdv A outer s H E).nox (defBody s_least_marks) (cS ⟨K, P, w⟩ A_least_marks) :=
  (ass_cons (as_asg (ae_mut aa_nil) (ag_name 1 sc_least_marks.nd))
    (ass_cons (as_for PassesOwn.never rfl (ai_seq (ae_sorted rfl hr.units (by rfl) T.sorted (aa_cons (ae_dc (own := [("one", 3)]) hr.units rfl sc_least_marks.nd (ai_seq (av 0)) (blkOk_by (N := N_least_marks) (sc := defScope s_least_marks) (by decide +kernel)) (fun _ _ _ _ _ => (ag_name 3 sc_least_marks.nd)) (fun _ _ _ _ _ => ats_nil) (fun _ _ _ _ _ => (av 3)) (fun _ _ _ _ _ => ac_bl)) aa_nil))) (ag_name 2 sc_least_marks.nd) (ass_one (as_if (at_lend 1 (at_not (at_val (ae_callH G_is_above_some (rm hr) (by rfl) (aa_cons (av 2) (aa_cons (av 1) aa_nil)))))) (ass_one (as_expr (ae_mt PySem.F.slot_list_append PySem.F.type_list_append mt_append rm_append (av 1) (aa_cons (av 2) aa_nil)))) ass_nil)))
    (ass_one (as_ret (ae_callTy call_tuple_of rc_tuple (by rfl) T.tuple (by decide +kernel) (aa_cons (av 1) aa_nil))))))
theorem has_least_marks {P : Program} {w : World} {K : PySem.W.Frag} {mg : Str → Option Value} {base : Heap} (T : Txt mg) (G_is_above_some : Has P w K mg base 2 "is_above_some" ["marks", "some"] sp_is_above_some) {f : Addr} {fd : FuncData} (F : Fun K "least_marks" "least_marks" s_least_marks f fd) (hm : mg "least_marks" = some (.ref f)) (bi : Binds K fd ["some"] [])
    (len : ∀ as μ Q, sp_least_marks as μ Q → as.length = 1) (rd : ∀ as μ Q, sp_least_marks as μ Q → A_least_marks { nx := fun _ μ' => ∃ μ2, Sub μ2 μ' ∧ Q (.d .none) μ2, rt := fun v μ' => ∃ μ2, Sub μ2 μ' ∧ Q v μ2 } (astart N_least_marks as) μ) : Has P w K mg base 3 "least_marks" ["some"] sp_least_marks :=
  ⟨f, fd, hm, F.kp, bi, okF F sc_least_marks len fun cdv A outer s H E hr => ⟨_, der_least_marks T G_is_above_some hr, rd⟩⟩
abbrev s_greatest_marks : Stmt := top 4
abbrev N_greatest_marks : List Str := (["some", "found", "marks", "one"] : List Str)
theorem sc_greatest_marks : FnScope N_greatest_marks ["some"] (defScope s_greatest_marks) := ⟨rfl, rfl, rfl, by decide +kernel, rfl, by decide +kernel, by decide +kernel⟩
def A_greatest_marks_4 : ATS := (aDrop (aMt fAppend (aVar 1) (aCons (aVar 2) aNil)))
def A_greatest_marks_3 : ATS := (aIfS (aLendT 1 (aNot (aB (aCall fAny (aCons (aLc (aiSeq (aVar 1)) (agN 3) aYes (aCall sp_is_above (aCons (aVar 3) (aCons (aVar 2) aNil))) [3]) aNil))))) A_greatest_marks_4 aNext)
def A_greatest_marks_5 : ATS := (aRet (aGive 1 (aCall fTuple (aCons (aCall (fSorted false) (aCons (aVar 1) aNil)) aNil))))
def A_greatest_marks_2 : ATS := (aSeq (aFor (aiSeq (aCall fSortedR (aCons (aDc (aiSeq (aVar 0)) (agN 3) aYes (aVar 3) (aC (.d (.bool true))) [3]) aNil))) (agN 2) A_greatest_marks_3) A_greatest_marks_5)
def A_greatest_marks : ATS := (aSeq (aAsg (aMut aNil) (agN 1)) A_greatest_marks_2)
theorem der_greatest_marks {P : Program} {w : World} {K : PySem.W.Frag} {mg : Str → Option Value} {base : Heap} (T : Txt mg) (G_is_above : Has P w K mg base 1 "is_above" ["marks", "other"] sp_is_above) {f : Addr} {cdv : Value} {A : Around} {outer : List Env} {s : Shared} {H : Hp} {E : XK} (hr : Room 1 (A.deeper (envOfC "greatest_marks" (defScope s_greatest_marks) s.heap.objs.size f cdv))) :
    PSs (cxOf CX0 P w K mg base N_greatest_marks "greatest_marks" (defScope s_greatest_marks) f cdv A outer s H E).nox (defBody s_greatest_marks) (cS ⟨K, P, w⟩ A_greatest_marks) :=
  (ass_cons (as_asg (ae_mut aa_nil) (ag_name 1 sc_greatest_marks.nd))
    (ass_cons (as_for PassesOwn.never rfl (ai_seq (ae_sortedR rfl hr.units (by rfl) T.sorted (aa_cons (ae_dc (own := [("one", 3)]) hr.units rfl sc_greatest_marks.nd (ai_seq (av 0)) (blkOk_by (N := N_greatest_marks) (sc := defScope s_greatest_marks) (by decide +kernel)) (fun _ _ _ _ _ => (ag_name 3 sc_greatest_marks.nd)) (fun _ _ _ _ _ => ats_nil) (fun _ _ _ _ _ => (av 3)) (fun _ _ _ _ _ => ac_bl)) aa_nil))) (ag_name 2 sc_greatest_marks.nd) (ass_one (as_if (at_lend 1 (at_not (at_val (ae_callB (cr_any rfl) rc_any (by rfl) T.any (by decide +kernel) (aa_cons (ae_lc (own := [("one", 3)]) rfl sc_greatest_marks.nd (ai_seq (av 1)) (blkOk_by (N := N_greatest_marks) (sc := defScope s_greatest_marks) (by decide +kernel)) (fun _ _ _ _ _ => (ag_name 3 sc_greatest_marks.nd)) (fun _ _ _ _ _ => ats_nil) (fun _ _ _ _ _ => (ae_callH G_is_above (rm hr) (by rfl) (aa_cons (av 3) (aa_cons (av 2) aa_nil))))) aa_nil))))) (ass_one (as_expr (ae_mt PySem.F.slot_list_append PySem.F.type_list_append mt_append rm_append (av 1) (aa_cons (av 2) aa_nil)))) ass_nil)))
    (ass_one (as_ret (ae_give 1 (ae_callTy call_tuple_of rc_tuple (by rfl) T.tuple (by decide +kernel) (aa_cons (ae_sorted rfl hr.units (by rfl) T.sorted (aa_cons (av 1) aa_nil)) aa_nil)))))))
theorem has_greatest_marks {P : Program} {w : World} {K : PySem.W.Frag} {mg : Str → Option Value} {base : Heap} (T : Txt mg) (G_is_above : Has P w K mg base 1 "is_above" ["marks", "other"] sp_is_above) {f : Addr} {fd : FuncData} (F : Fun K "greatest_marks" "greatest_marks" s_greatest_marks f fd) (hm : mg "greatest_marks" = some (.ref f)) (bi : Binds K fd ["some"] [])
    (len : ∀ as μ Q, sp_greatest_marks as μ Q → as.length = 1) (rd : ∀ as μ Q, sp_greatest_marks as μ Q → A_greatest_marks { nx := fun _ μ' => ∃ μ2, Sub μ2 μ' ∧ Q (.d .none) μ2, rt := fun v μ' => ∃ μ2, Sub μ2 μ' ∧ Q v μ2 } (astart N_greatest_marks as) μ) : Has P w K mg base 2 "greatest_marks" ["some"] sp_greatest_marks :=
  ⟨f, fd, hm, F.kp, bi, okF F sc_greatest_marks len fun cdv A outer s H E hr => ⟨_, der_greatest_marks T G_is_above hr, rd⟩⟩
abbrev s_back_marks : Stmt := top 5
abbrev N_back_marks : List Str := (["marks", "change", "mark", "more"] : List Str)
theorem sc_back_marks : FnScope N_back_marks ["marks", "change"] (defScope s_back_marks) := ⟨rfl, rfl, rfl, by decide +kernel, rfl, by decide +kernel, by decide +kernel⟩
def A_back_marks : ATS := (aRet (aCall fTuple (aCons (aLc (aiZip (aCons (aVar 0) (aCons (aVar 1) aNil))) (agTup 2 (agCons (agN 2) (agCons (agN 3) agNil))) aYes (aCall fMax2 (aCons (aC (.d (.int 0))) (aCons (aOp fSub (aVar 2) (aVar 3)) aNil))) [2, 3]) aNil)))
theorem der_back_marks {P : Program} {w : World} {K : PySem.W.Frag} {mg : Str → Option Value} {base : Heap} (T : Txt mg)  {f : Addr} {cdv : Value} {A : Around} {outer : List Env} {s : Shared} {H : Hp} {E : XK} (hr : Room 0 (A.deeper (envOfC "back_marks" (defScope s_back_marks) s.heap.objs.size f cdv))) :
    PSs (cxOf CX0 P w K mg base N_back_marks "back_marks" (defScope s_back_marks) f cdv A outer s H E).nox (defBody s_back_marks) (cS ⟨K, P, w⟩ A_back_marks) :=
  (ass_one (as_ret (ae_callTy call_tuple_of rc_tuple (by rfl) T.tuple (by decide +kernel) (aa_cons (ae_lc (own := [("mark", 2), ("more", 3)]) rfl sc_back_marks.nd (ai_zip (by rfl) T.zip (aa_cons (av 0) (aa_cons (av 1) aa_nil))) (blkOk_by (N := N_back_marks) (sc := defScope s_back_marks) (by decide +kernel)) (fun _ _ _ _ _ => (ag_tup (n := 2) rfl (ags_cons (ag_name 2 sc_back_marks.nd) (ags_cons (ag_name 3 sc_back_marks.nd) ags_nil)))) (fun _ _ _ _ _ => ats_nil) (fun _ _ _ _ _ => (ae_callB (call_max2 rfl) rc_max2 (by rfl) T.max (by decide +kernel) (aa_cons ac_int (aa_cons (ae_sub (av 2) (av 3)) aa_nil))))) aa_nil))))
theorem has_back_marks {P : Program} {w : World} {K : PySem.W.Frag} {mg : Str → Option Value} {base : Heap} (T : Txt mg)  {f : Addr} {fd : FuncData} (F : Fun K "back_marks" "back_marks" s_back_marks f fd) (hm : mg "back_marks" = some (.ref f)) (bi : Binds K fd ["marks", "change"] [])
    (len : ∀ as μ Q, sp_back_marks as μ Q → as.length = 2) (rd : ∀ as μ Q, sp_back_marks as μ Q → A_back_marks { nx := fun _ μ' => Q (.d .none) μ', rt := Q } (astart N_back_marks as) μ) : Has P w K mg base 1 "back_marks" ["marks", "change"] sp_back_marks :=
  ⟨f, fd, hm, F.kp, bi, okA F sc_back_marks len fun cdv A outer s H E hr => ⟨_, der_back_marks T  hr, rd⟩⟩
abbrev s_least_above : Stmt := top 6
abbrev N_least_above : List Str := (["one", "other", "pair"] : List Str)
theorem sc_least_above : FnScope N_least_above ["one", "other"] (defScope s_least_above) := ⟨rfl, rfl, rfl, by decide +kernel, rfl, by decide +kernel, by decide +kernel⟩
def A_least_above : ATS := (aRet (aCall fTuple (aCons (aLc (aiZipN (aCons (aVar 0) (aCons (aVar 1) aNil))) (agN 2) aYes (aCall fMax1 (aCons (aVar 2) aNil)) [2]) aNil)))
theorem der_least_above {P : Program} {w : World} {K : PySem.W.Frag} {mg : Str → Option Value} {base : Heap} (T : Txt mg)  {f : Addr} {cdv : Value} {A : Around} {outer : List Env} {s : Shared} {H : Hp} {E : XK} (hr : Room 0 (A.deeper (envOfC "least_above" (defScope s_least_above) s.heap.objs.size f cdv))) :
    PSs (cxOf CX0 P w K mg base N_least_above "least_above" (defScope s_least_above) f cdv A outer s H E).nox (defBody s_least_above) (cS ⟨K, P, w⟩ A_least_above) :=
  (ass_one (as_ret (ae_callTy call_tuple_of rc_tuple (by rfl) T.tuple (by decide +kernel) (aa_cons (ae_lc (own := [("pair", 2)]) rfl sc_least_above.nd (ai_zipN (by rfl) T.zip (aa_cons (av 0) (aa_cons (av 1) aa_nil))) (blkOk_by (N := N_least_above) (sc := defScope s_least_above) (by decide +kernel)) (fun _ _ _ _ _ => (ag_name 2 sc_least_above.nd)) (fun _ _ _ _ _ => ats_nil) (fun _ _ _ _ _ => (ae_callB (cr_max1 rfl hr.units) rc_max1 (by rfl) T.max (by decide +kernel) (aa_cons (av 2) aa_nil)))) aa_nil))))
theorem has_least_above {P : Program} {w : World} {K : PySem.W.Frag} {mg : Str → Option Value} {base : Heap} (T : Txt mg)  {f : Addr} {fd : FuncData} (F : Fun K "least_above" "least_above" s_least_above f fd) (hm : mg "least_above" = some (.ref f)) (bi : Binds K fd ["one", "other"] [])
    (len : ∀ as μ Q, sp_least_above as μ Q → as.length = 2) (rd : ∀ as μ Q, sp_least_above as μ Q → A_least_above { nx := fun _ μ' => Q (.d .none) μ', rt := Q } (astart N_least_above as) μ) : Has P w K mg base 1 "least_above" ["one", "other"] sp_least_above :=
  ⟨f, fd, hm, F.kp, bi, okA F sc_least_above len fun cdv A outer s H E hr => ⟨_, der_least_above T  hr, rd⟩⟩
abbrev s_are_apart : Stmt := top 7
abbrev N_are_apart : List Str := (["one", "other"] : List Str)
theorem sc_are_apart : FnScope N_are_apart ["one", "other"] (defScope s_are_apart) := ⟨rfl, rfl, rfl, by decide +kernel, rfl, by decide +kernel, by decide +kernel⟩
def A_are_apart : ATS := (aRet (aAndV (aNotV (aCall sp_is_above (aCons (aVar 0) (aCons (aVar 1) aNil)))) (aNotV (aCall sp_is_above (aCons (aVar 1) (aCons (aVar 0) aNil))))))
theorem der_are_apart {P : Program} {w : World} {K : PySem.W.Frag} {mg : Str → Option Value} {base : Heap} (T : Txt mg) (G_is_above : Has P w K mg base 1 "is_above" ["marks", "other"] sp_is_above) {f : Addr} {cdv : Value} {A : Around} {outer : List Env} {s : Shared} {H : Hp} {E : XK} (hr : Room 1 (A.deeper (envOfC "are_apart" (defScope s_are_apart) s.heap.objs.size f cdv))) :
    PSs (cxOf CX0 P w K mg base N_are_apart "are_apart" (defScope s_are_apart) f cdv A outer s H E).nox (defBody s_are_apart) (cS ⟨K, P, w⟩ A_are_apart) :=
  (ass_one (as_ret (ae_and (ae_not (ae_callH G_is_above (rm hr) (by rfl) (aa_cons (av 0) (aa_cons (av 1) aa_nil)))) (ae_one (ae_not (ae_callH G_is_above (rm hr) (by rfl) (aa_cons (av 1) (aa_cons (av 0) aa_nil))))))))
theorem has_are_apart {P : Program} {w : World} {K : PySem.W.Frag} {mg : Str → Option Value} {base : Heap} (T : Txt mg) (G_is_above : Has P w K mg base 1 "is_above" ["marks", "other"] sp_is_above) {f : Addr} {fd : FuncData} (F : Fun K "are_apart" "are_apart" s_are_apart f fd) (hm : mg "are_apart" = some (.ref f)) (bi : Binds K fd ["one", "other"] [])
    (len : ∀ as μ Q, sp_are_apart as μ Q → as.length = 2) (rd : ∀ as μ Q, sp_are_apart as μ Q → A_are_apart { nx := fun _ μ' => Q (.d .none) μ', rt := Q } (astart N_are_apart as) μ) : Has P w K mg base 2 "are_apart" ["one", "other"] sp_are_apart :=
  ⟨f, fd, hm, F.kp, bi, okA F sc_are_apart len fun cdv A outer s H E hr => ⟨_, der_are_apart T G_is_above hr, rd⟩⟩
abbrev s_first_rise : Stmt := top 8
abbrev N_first_rise : List Str := (["line", "later", "marks", "at"] : List Str)
theorem sc_first_rise : FnScope N_first_rise ["line"] (defScope s_first_rise) := ⟨rfl, rfl, rfl, by decide +kernel, rfl, by decide +kernel, by decide +kernel⟩
def A_first_rise_4 : ATS := (aRet (aTup (aCons (aVar 3) (aCons (aVar 1) aNil))))
def A_first_rise_3 : ATS := (aIfS (aB (aCall sp_is_above (aCons (aVar 2) (aCons (aOp fIx (aVar 0) (aVar 3)) aNil)))) A_first_rise_4 aNext)
def A_first_rise_2 : ATS := (aFor (aiR1 (aCons (aVar 1) aNil)) (agN 3) A_first_rise_3)
def A_first_rise : ATS := (aSeq (aFor (aiEnum (aCons (aVar 0) aNil)) (agTup 2 (agCons (agN 1) (agCons (agN 2) agNil))) A_first_rise_2) (aRet (aC (.d .none))))
theorem der_first_rise {P : Program} {w : World} {K : PySem.W.Frag} {mg : Str → Option Value} {base : Heap} (T : Txt mg) (G_is_above : Has P w K mg base 1 "is_above" ["marks", "other"] sp_is_above) {f : Addr} {cdv : Value} {A : Around} {outer : List Env} {s : Shared} {H : Hp} {E : XK} (hr : Room 1 (A.deeper (envOfC "first_rise" (defScope s_first_rise) s.heap.objs.size f cdv))) :
    PSs (cxOf CX0 P w K mg base N_first_rise "first_rise" (defScope s_first_rise) f cdv A outer s H E).nox (defBody s_first_rise) (cS ⟨K, P, w⟩ A_first_rise) :=
  (ass_cons (as_for PassesOwn.never rfl (ai_enum (by rfl) T.enumerate (aa_cons (av 0) aa_nil)) (ag_tup (n := 2) rfl (ags_cons (ag_name 1 sc_first_rise.nd) (ags_cons (ag_name 2 sc_first_rise.nd) ags_nil))) (ass_one (as_for PassesOwn.never rfl (ai_r1 (by rfl) T.range (aa_cons (av 1) aa_nil)) (ag_name 3 sc_first_rise.nd) (ass_one (as_if (at_val (ae_callH G_is_above (rm hr) (by rfl) (aa_cons (av 2) (aa_cons (ae_ix (av 0) (av 3)) aa_nil)))) (ass_one (as_ret (ae_tup (aa_cons (av 3) (aa_cons (av 1) aa_nil))))) ass_nil)))))
    (ass_one (as_ret ac_non)))
theorem has_first_rise {P : Program} {w : World} {K : PySem.W.Frag} {mg : Str → Option Value} {base : Heap} (T : Txt mg) (G_is_above : Has P w K mg base 1 "is_above" ["marks", "other"] sp_is_above) {f : Addr} {fd : FuncData} (F : Fun K "first_rise" "first_rise" s_first_rise f fd) (hm : mg "first_rise" = some (.ref f)) (bi : Binds K fd ["line"] [])
    (len : ∀ as μ Q, sp_first_rise as μ Q → as.length = 1) (rd : ∀ as μ Q, sp_first_rise as μ Q → A_first_rise { nx := fun _ μ' => Q (.d .none) μ', rt := Q } (astart N_first_rise as) μ) : Has P w K mg base 2 "first_rise" ["line"] sp_first_rise :=
  ⟨f, fd, hm, F.kp, bi, okA F sc_first_rise len fun cdv A outer s H E hr => ⟨_, der_first_rise T G_is_above hr, rd⟩⟩
abbrev s_grown : Stmt := top 9
abbrev N_grown : List Str := (["one", "other", "at", "mine", "its"] : List Str)
theorem sc_grown : FnScope N_grown ["one", "other"] (defScope s_grown) := ⟨rfl, rfl, rfl, by decide +kernel, rfl, by decide +kernel, by decide +kernel⟩
def A_grown : ATS := (aRet (aCall fTuple (aCons (aLc (aiEnumZip (aCons (aVar 0) (aCons (aVar 1) aNil))) (agTup 2 (agCons (agN 2) (agCons (agTup 2 (agCons (agN 3) (agCons (agN 4) agNil))) agNil))) (aB (aOp fGt (aVar 4) (aVar 3))) (aVar 2) [2, 3, 4]) aNil)))
theorem der_grown {P : Program} {w : World} {K : PySem.W.Frag} {mg : Str → Option Value} {base : Heap} (T : Txt mg)  {f : Addr} {cdv : Value} {A : Around} {outer : List Env} {s : Shared} {H : Hp} {E : XK} (hr : Room 0 (A.deeper (envOfC "grown" (defScope s_grown) s.heap.objs.size f cdv))) :
    PSs (cxOf CX0 P w K mg base N_grown "grown" (defScope s_grown) f cdv A outer s H E).nox (defBody s_grown) (cS ⟨K, P, w⟩ A_grown) :=
  (ass_one (as_ret (ae_callTy call_tuple_of rc_tuple (by rfl) T.tuple (by decide +kernel) (aa_cons (ae_lc (own := [("at", 2), ("mine", 3), ("its", 4)]) rfl sc_grown.nd (ai_enumzip (by rfl) T.enumerate (by rfl) T.zip (aa_cons (av 0) (aa_cons (av 1) aa_nil))) (blkOk_by (N := N_grown) (sc := defScope s_grown) (by decide +kernel)) (fun _ _ _ _ _ => (ag_tup (n := 2) rfl (ags_cons (ag_name 2 sc_grown.nd) (ags_cons (ag_tup (n := 2) rfl (ags_cons (ag_name 3 sc_grown.nd) (ags_cons (ag_name 4 sc_grown.nd) ags_nil))) ags_nil)))) (fun _ _ _ _ _ => (ats_one (at_gt (av 4) (av 3)))) (fun _ _ _ _ _ => (av 2))) aa_nil))))
theorem has_grown {P : Program} {w : World} {K : PySem.W.Frag} {mg : Str → Option Value} {base : Heap} (T : Txt mg)  {f : Addr} {fd : FuncData} (F : Fun K "grown" "grown" s_grown f fd) (hm : mg "grown" = some (.ref f)) (bi : Binds K fd ["one", "other"] [])
    (len : ∀ as μ Q, sp_grown as μ Q → as.length = 2) (rd : ∀ as μ Q, sp_grown as μ Q → A_grown { nx := fun _ μ' => Q (.d .none) μ', rt := Q } (astart N_grown as) μ) : Has P w K mg base 1 "grown" ["one", "other"] sp_grown :=
  ⟨f, fd, hm, F.kp, bi, okA F sc_grown len fun cdv A outer s H E hr => ⟨_, der_grown T  hr, rd⟩⟩
abbrev s_in_both : Stmt := top 10
abbrev N_in_both : List Str := (["some", "others", "one", "other"] : List Str)
theorem sc_in_both : FnScope N_in_both ["some", "others"] (defScope s_in_both) := ⟨rfl, rfl, rfl, by decide +kernel, rfl, by decide +kernel, by decide +kernel⟩
def A_in_both : ATS := (aRet (aCall sp_least_marks (aCons (aLc2 (aiSeq (aVar 0)) (agN 2) aYes (aiSeq (aVar 1)) (agN 3) aYes (aCall sp_least_above (aCons (aVar 2) (aCons (aVar 3) aNil))) [2, 3] [3]) aNil)))
theorem der_in_both {P : Program} {w : World} {K : PySem.W.Frag} {mg : Str → Option Value} {base : Heap} (T : Txt mg) (G_least_marks : Has P w K mg base 3 "least_marks" ["some"] sp_least_marks) (G_least_above : Has P w K mg base 1 "least_above" ["one", "other"] sp_least_above) {f : Addr} {cdv : Value} {A : Around} {outer : List Env} {s : Shared} {H : Hp} {E : XK} (hr : Room 3 (A.deeper (envOfC "in_both" (defScope s_in_both) s.heap.objs.size f cdv))) :
    PSs (cxOf CX0 P w K mg base N_in_both "in_both" (defScope s_in_both) f cdv A outer s H E).nox (defBody s_in_both) (cS ⟨K, P, w⟩ A_in_both) :=
  (ass_one (as_ret (ae_callH G_least_marks (rm hr) (by rfl) (aa_cons (ae_lc2 (own := [("one", 2), ("other", 3)]) (vs1 := [3]) rfl sc_in_both.nd (ai_seq (av 0)) (blkOk_by (N := N_in_both) (sc := defScope s_in_both) (by decide +kernel)) (by decide) (fun _ _ _ _ _ => (ag_more (ag_name 2 sc_in_both.nd))) (fun _ _ _ _ _ => ats_nil) (fun _ _ _ _ _ => (ai_seq (av 1))) (fun _ _ _ _ _ => (ag_name 3 sc_in_both.nd)) (fun _ _ _ _ _ => ats_nil) (fun _ _ _ _ _ => (ae_callH G_least_above (rm hr) (by rfl) (aa_cons (av 2) (aa_cons (av 3) aa_nil))))) aa_nil))))
theorem has_in_both {P : Program} {w : World} {K : PySem.W.Frag} {mg : Str → Option Value} {base : Heap} (T : Txt mg) (G_least_marks : Has P w K mg base 3 "least_marks" ["some"] sp_least_marks) (G_least_above : Has P w K mg base 1 "least_above" ["one", "other"] sp_least_above) {f : Addr} {fd : FuncData} (F : Fun K "in_both" "in_both" s_in_both f fd) (hm : mg "in_both" = some (.ref f)) (bi : Binds K fd ["some", "others"] [])
    (len : ∀ as μ Q, sp_in_both as μ Q → as.length = 2) (rd : ∀ as μ Q, sp_in_both as μ Q → A_in_both { nx := fun _ μ' => Q (.d .none) μ', rt := Q } (astart N_in_both as) μ) : Has P w K mg base 4 "in_both" ["some", "others"] sp_in_both :=
  ⟨f, fd, hm, F.kp, bi, okA F sc_in_both len fun cdv A outer s H E hr => ⟨_, der_in_both T G_least_marks G_least_above hr, rd⟩⟩
abbrev s_are_within : Stmt := top 11
abbrev N_are_within : List Str := (["some", "others", "marks"] : List Str)
theorem sc_are_within : FnScope N_are_within ["some", "others"] (defScope s_are_within) := ⟨rfl, rfl, rfl, by decide +kernel, rfl, by decide +kernel, by decide +kernel⟩
def A_are_within : ATS := (aRet (aCall fAll (aCons (aLc (aiSeq (aVar 0)) (agN 2) aYes (aCall sp_is_above_some (aCons (aVar 2) (aCons (aVar 1) aNil))) [2]) aNil)))
theorem der_are_within {P : Program} {w : World} {K : PySem.W.Frag} {mg : Str → Option Value} {base : Heap} (T : Txt mg) (G_is_above_some : Has P w K mg base 2 "is_above_some" ["marks", "some"] sp_is_above_some) {f : Addr} {cdv : Value} {A : Around} {outer : List Env} {s : Shared} {H : Hp} {E : XK} (hr : Room 2 (A.deeper (envOfC "are_within" (defScope s_are_within) s.heap.objs.size f cdv))) :
    PSs (cxOf CX0 P w K mg base N_are_within "are_within" (defScope s_are_within) f cdv A outer s H E).nox (defBody s_are_within) (cS ⟨K, P, w⟩ A_are_within) :=
  (ass_one (as_ret (ae_callB (cr_all rfl) rc_all (by rfl) T.all (by decide +kernel) (aa_cons (ae_lc (own := [("marks", 2)]) rfl sc_are_within.nd (ai_seq (av 0)) (blkOk_by (N := N_are_within) (sc := defScope s_are_within) (by decide +kernel)) (fun _ _ _ _ _ => (ag_name 2 sc_are_within.nd)) (fun _ _ _ _ _ => ats_nil) (fun _ _ _ _ _ => (ae_callH G_is_above_some (rm hr) (by rfl) (aa_cons (av 2) (aa_cons (av 1) aa_nil))))) aa_nil))))
theorem has_are_within {P : Program} {w : World} {K : PySem.W.Frag} {mg : Str → Option Value} {base : Heap} (T : Txt mg) (G_is_above_some : Has P w K mg base 2 "is_above_some" ["marks", "some"] sp_is_above_some) {f : Addr} {fd : FuncData} (F : Fun K "are_within" "are_within" s_are_within f fd) (hm : mg "are_within" = some (.ref f)) (bi : Binds K fd ["some", "others"] [])
    (len : ∀ as μ Q, sp_are_within as μ Q → as.length = 2) (rd : ∀ as μ Q, sp_are_within as μ Q → A_are_within { nx := fun _ μ' => Q (.d .none) μ', rt := Q } (astart N_are_within as) μ) : Has P w K mg base 3 "are_within" ["some", "others"] sp_are_within :=
  ⟨f, fd, hm, F.kp, bi, okA F sc_are_within len fun cdv A outer s H E hr => ⟨_, der_are_within T G_is_above_some hr, rd⟩⟩
abbrev s_are_same_above : Stmt := top 12
abbrev N_are_same_above : List Str := (["some", "others"] : List Str)
theorem sc_are_same_above : FnScope N_are_same_above ["some", "others"] (defScope s_are_same_above) := ⟨rfl, rfl, rfl, by decide +kernel, rfl, by decide +kernel, by decide +kernel⟩
def A_are_same_above : ATS := (aRet (aOp fEq (aCall sp_least_marks (aCons (aVar 0) aNil)) (aCall sp_least_marks (aCons (aVar 1) aNil))))
theorem der_are_same_above {P : Program} {w : World} {K : PySem.W.Frag} {mg : Str → Option Value} {base : Heap} (T : Txt mg) (G_least_marks : Has P w K mg base 3 "least_marks" ["some"] sp_least_marks) {f : Addr} {cdv : Value} {A : Around} {outer : List Env} {s : Shared} {H : Hp} {E : XK} (hr : Room 3 (A.deeper (envOfC "are_same_above" (defScope s_are_same_above) s.heap.objs.size f cdv))) :
    PSs (cxOf CX0 P w K mg base N_are_same_above "are_same_above" (defScope s_are_same_above) f cdv A outer s H E).nox (defBody s_are_same_above) (cS ⟨K, P, w⟩ A_are_same_above) :=
  (ass_one (as_ret (ae_eq hr.units (ae_callH G_least_marks (rm hr) (by rfl) (aa_cons (av 0) aa_nil)) (ae_callH G_least_marks (rm hr) (by rfl) (aa_cons (av 1) aa_nil)))))
theorem has_are_same_above {P : Program} {w : World} {K : PySem.W.Frag} {mg : Str → Option Value} {base : Heap} (T : Txt mg) (G_least_marks : Has P w K mg base 3 "least_marks" ["some"] sp_least_marks) {f : Addr} {fd : FuncData} (F : Fun K "are_same_above" "are_same_above" s_are_same_above f fd) (hm : mg "are_same_above" = some (.ref f)) (bi : Binds K fd ["some", "others"] [])
    (len : ∀ as μ Q, sp_are_same_above as μ Q → as.length = 2) (rd : ∀ as μ Q, sp_are_same_above as μ Q → A_are_same_above { nx := fun _ μ' => Q (.d .none) μ', rt := Q } (astart N_are_same_above as) μ) : Has P w K mg base 4 "are_same_above" ["some", "others"] sp_are_same_above :=
  ⟨f, fd, hm, F.kp, bi, okA F sc_are_same_above len fun cdv A outer s H E hr => ⟨_, der_are_same_above T G_least_marks hr, rd⟩⟩
abbrev s_least_places : Stmt := top 13
abbrev N_least_places : List Str := (["places", "by_standing", "standing", "marks", "found"] : List Str)
theorem sc_least_places : FnScope N_least_places ["places"] (defScope s_least_places) := ⟨rfl, rfl, rfl, by decide +kernel, rfl, by decide +kernel, by decide +kernel⟩
def A_least_places_3 : ATS := (aDrop (aMt fAppend (aSetd (aVar 1) (aVar 2) (aMut aNil)) (aCons (aVar 3) aNil)))
def A_least_places_6 : ATS := (aDrop (aMt fExtend (aVar 4) (aCons (aLc (aiSeq (aCall sp_least_marks (aCons (aGiveE (aOp fIxK (aVar 1) (aVar 2))) aNil))) (agN 3) aYes (aTup (aCons (aVar 2) (aCons (aVar 3) aNil))) [3]) aNil)))
def A_least_places_7 : ATS := (aRet (aCall fTuple (aCons (aVar 4) aNil)))
def A_least_places_5 : ATS := (aSeq (aFor (aiSeq (aCall fSortedK (aCons (aVar 1) aNil))) (agN 2) A_least_places_6) A_least_places_7)
def A_least_places_4 : ATS := (aSeq (aAsg (aMut aNil) (agN 4)) A_least_places_5)
def A_least_places_2 : ATS := (aSeq (aFor (aiSeq (aVar 0)) (agTup 2 (agCons (agN 2) (agCons (agN 3) agNil))) A_least_places_3) A_least_places_4)
def A_least_places : ATS := (aSeq (aAsg aDNew (agN 1)) A_least_places_2)
theorem der_least_places {P : Program} {w : World} {K : PySem.W.Frag} {mg : Str → Option Value} {base : Heap} (T : Txt mg) (G_least_marks : Has P w K mg base 3 "least_marks" ["some"] sp_least_marks) {f : Addr} {cdv : Value} {A : Around} {outer : List Env} {s : Shared} {H : Hp} {E : XK} (hr : Room 3 (A.deeper (envOfC "least_places" (defScope s_least_places) s.heap.objs.size f cdv))) :
    PSs (cxOf CX0 P w K mg base N_least_places "least_places" (defScope s_least_places) f cdv A outer s H E).nox (defBody s_least_places) (cS ⟨K, P, w⟩ A_least_places) :=
  (ass_cons (as_asg ae_dnew (ag_name 1 sc_least_places.nd))
    (ass_cons (as_for PassesOwn.never rfl (ai_seq (av 0)) (ag_tup (n := 2) rfl (ags_cons (ag_name 2 sc_least_places.nd) (ags_cons (ag_name 3 sc_least_places.nd) ags_nil))) (ass_one (as_expr (ae_mt PySem.F.slot_list_append PySem.F.type_list_append mt_append rm_append (ae_setd (av 1) (av 2) (ae_mut aa_nil) ⟨rfl, rfl, rfl, rfl⟩) (aa_cons (av 3) aa_nil)))))
    (ass_cons (as_asg (ae_mut aa_nil) (ag_name 4 sc_least_places.nd))
    (ass_cons (as_for PassesOwn.never rfl (ai_seq (ae_callB (cr_sortedK rfl) rc_sortedK (by rfl) T.sorted (by decide +kernel) (aa_cons (av 1) aa_nil))) (ag_name 2 sc_least_places.nd) (ass_one (as_expr (ae_mt PySem.F.slot_list_extend PySem.F.type_list_extend mt_extend rm_extend (av 4) (aa_cons (ae_lc (own := [("marks", 3)]) rfl sc_least_places.nd (ai_seq (ae_callH G_least_marks (rm hr) (by rfl) (aa_cons (ae_giveE (ae_ixK hr.units (av 1) (av 2))) aa_nil))) (blkOk_by (N := N_least_places) (sc := defScope s_least_places) (by decide +kernel)) (fun _ _ _ _ _ => (ag_name 3 sc_least_places.nd)) (fun _ _ _ _ _ => ats_nil) (fun _ _ _ _ _ => (ae_tup (aa_cons (av 2) (aa_cons (av 3) aa_nil))))) aa_nil)))))
    (ass_one (as_ret (ae_callTy call_tuple_of rc_tuple (by rfl) T.tuple (by decide +kernel) (aa_cons (av 4) aa_nil))))))))
theorem has_least_places {P : Program} {w : World} {K : PySem.W.Frag} {mg : Str → Option Value} {base : Heap} (T : Txt mg) (G_least_marks : Has P w K mg base 3 "least_marks" ["some"] sp_least_marks) {f : Addr} {fd : FuncData} (F : Fun K "least_places" "least_places" s_least_places f fd) (hm : mg "least_places" = some (.ref f)) (bi : Binds K fd ["places"] [])
    (len : ∀ as μ Q, sp_least_places as μ Q → as.length = 1) (rd : ∀ as μ Q, sp_least_places as μ Q → A_least_places { nx := fun _ μ' => ∃ μ2, Sub μ2 μ' ∧ Q (.d .none) μ2, rt := fun v μ' => ∃ μ2, Sub μ2 μ' ∧ Q v μ2 } (astart N_least_places as) μ) : Has P w K mg base 4 "least_places" ["places"] sp_least_places :=
  ⟨f, fd, hm, F.kp, bi, okF F sc_least_places len fun cdv A outer s H E hr => ⟨_, der_least_places T G_least_marks hr, rd⟩⟩
abbrev s_is_place_above : Stmt := top 14
abbrev N_is_place_above : List Str := (["place", "places", "standing", "marks"] : List Str)
theorem sc_is_place_above : FnScope N_is_place_above ["place", "places"] (defScope s_is_place_above) := ⟨rfl, rfl, rfl, by decide +kernel, rfl, by decide +kernel, by decide +kernel⟩
def A_is_place_above : ATS := (aRet (aCall sp_is_above_some (aCons (aOp fIx (aVar 0) (aC (.d (.int 1)))) (aCons (aLc (aiSeq (aVar 1)) (agTup 2 (agCons (agN 2) (agCons (agN 3) agNil))) (aB (aOp fEq (aVar 2) (aOp fIx (aVar 0) (aC (.d (.int 0)))))) (aVar 3) [2, 3]) aNil))))
theorem der_is_place_above {P : Program} {w : World} {K : PySem.W.Frag} {mg : Str → Option Value} {base : Heap} (T : Txt mg) (G_is_above_some : Has P w K mg base 2 "is_above_some" ["marks", "some"] sp_is_above_some) {f : Addr} {cdv : Value} {A : Around} {outer : List Env} {s : Shared} {H : Hp} {E : XK} (hr : Room 2 (A.deeper (envOfC "is_place_above" (defScope s_is_place_above) s.heap.objs.size f cdv))) :
    PSs (cxOf CX0 P w K mg base N_is_place_above "is_place_above" (defScope s_is_place_above) f cdv A outer s H E).nox (defBody s_is_place_above) (cS ⟨K, P, w⟩ A_is_place_above) :=
  (ass_one (as_ret (ae_callH G_is_above_some (rm hr) (by rfl) (aa_cons (ae_ix (av 0) ac_int) (aa_cons (ae_lc (own := [("standing", 2), ("marks", 3)]) rfl sc_is_place_above.nd (ai_seq (av 1)) (blkOk_by (N := N_is_place_above) (sc := defScope s_is_place_above) (by decide +kernel)) (fun _ _ _ _ _ => (ag_tup (n := 2) rfl (ags_cons (ag_name 2 sc_is_place_above.nd) (ags_cons (ag_name 3 sc_is_place_above.nd) ags_nil)))) (fun _ _ _ _ _ => (ats_one (at_eq hr.units (av 2) (ae_ix (av 0) ac_int)))) (fun _ _ _ _ _ => (av 3))) aa_nil)))))
theorem has_is_place_above {P : Program} {w : World} {K : PySem.W.Frag} {mg : Str → Option Value} {base : Heap} (T : Txt mg) (G_is_above_some : Has P w K mg base 2 "is_above_some" ["marks", "some"] sp_is_above_some) {f : Addr} {fd : FuncData} (F : Fun K "is_place_above" "is_place_above" s_is_place_above f fd) (hm : mg "is_place_above" = some (.ref f)) (bi : Binds K fd ["place", "places"] [])
    (len : ∀ as μ Q, sp_is_place_above as μ Q → as.length = 2) (rd : ∀ as μ Q, sp_is_place_above as μ Q → A_is_place_above { nx := fun _ μ' => Q (.d .none) μ', rt := Q } (astart N_is_place_above as) μ) : Has P w K mg base 3 "is_place_above" ["place", "places"] sp_is_place_above :=
  ⟨f, fd, hm, F.kp, bi, okA F sc_is_place_above len fun cdv A outer s H E hr => ⟨_, der_is_place_above T G_is_above_some hr, rd⟩⟩
abbrev s__law_take : Stmt := top 16
abbrev N__law_take : List Str := (["bag", "many", "begin", "second", "cell", "stirred", "value"] : List Str)
theorem sc__law_take : FnScope N__law_take ["bag", "many"] (defScope s__law_take) := ⟨rfl, rfl, rfl, by decide +kernel, rfl, by decide +kernel, by decide +kernel⟩
def A__law_take_5 : ATS := (aAsg (aVar 4) (agSub (aVar 0) (aC (.d (.int 0)))))
def A__law_take_7 : ATS := (aAsg (aOp fMod (aCall fInt1 (aCons (aVar 5) aNil)) (aC (.d (.int 2147483647)))) (agSub (aVar 0) (aC (.d (.int 1)))))
def A__law_take_6 : ATS := (aSeq (aAsg (aOp fAdd (aOp fAdd (aOp fMul (aOp fIx (aVar 0) (aC (.d (.int 1)))) (aC (.d (.int 48271)))) (aOp fMod (aCall fInt1 (aCons (aVar 4) aNil)) (aC (.d (.int 2147483647))))) (aOp fMul (aC (.d (.int 7919))) (aOp fIx (aVar 0) (aC (.d (.int 2)))))) (agN 5)) A__law_take_7)
def A__law_take_4 : ATS := (aSeq (aIfS (aB (aOp fGe (aVar 4) (aOp fPow (aC (.d (.int 10))) (aC (.d (.int 18)))))) A__law_take_5 aNext) A__law_take_6)
def A__law_take_3 : ATS := (aSeq (aAugS (aVar 0) (aC (.d (.int 2))) (aC (.d (.int 1)))) A__law_take_4)
def A__law_take_2 : ATS := (aSeq (aAsg (aOp fIx (aOp fAdd (aSl (aOp fIx (aVar 0) (aC (.d (.int 3)))) (aPart (aOp fIx (aVar 0) (aC (.d (.int 2))))) aNoPart) (aLst (aCons (aC (.d (.int 0))) aNil))) (aC (.d (.int 0)))) (agN 4)) A__law_take_3)
def A__law_take_10 : ATS := (aSeq (aAsg (aOp fDiv (aCall fInt1 (aCons (aOp fIx (aVar 0) (aC (.d (.int 0)))) aNil)) (aVar 1)) (agSub (aVar 0) (aC (.d (.int 0))))) (aRet (aVar 6)))
def A__law_take_9 : ATS := (aSeq (aAsg (aOp fMod (aCall fInt1 (aCons (aOp fIx (aVar 0) (aC (.d (.int 0)))) aNil)) (aVar 1)) (agN 6)) A__law_take_10)
def A__law_take_14 : ATS := (aRet (aOp fMod (aCall fInt1 (aCons (aOp fDiv (aVar 3) (aC (.d (.int 7)))) aNil)) (aVar 1)))
def A__law_take_13 : ATS := (aSeq (aAsg (aOp fMod (aCall fInt1 (aCons (aOp fMul (aOp fMod (aCall fInt1 (aCons (aOp fMul (aVar 2) (aVar 2)) aNil)) (aC (.d (.int 998244353)))) (aC (.d (.int 30011)))) aNil)) (aC (.d (.int 998244353)))) (agN 3)) A__law_take_14)
def A__law_take_12 : ATS := (aSeq (aAsg (aOp fMod (aCall fInt1 (aCons (aOp fMul (aOp fAdd (aOp fIx (aVar 0) (aC (.d (.int 1)))) (aC (.d (.int 1)))) (aC (.d (.int 39373)))) aNil)) (aC (.d (.int 1000000007)))) (agN 2)) A__law_take_13)
def A__law_take_8 : ATS := (aSeq (aIfS (aB (aOp fGt (aOp fIx (aVar 0) (aC (.d (.int 0)))) (aC (.d (.int 0))))) A__law_take_9 aNext) A__law_take_12)
def A__law_take : ATS := (aSeq (aIfS (aB (aOp fEq (aOp fIx (aVar 0) (aC (.d (.int 0)))) (aC (.d (.int 0))))) A__law_take_2 aNext) A__law_take_8)
theorem der__law_take {P : Program} {w : World} {K : PySem.W.Frag} {mg : Str → Option Value} {base : Heap} (T : Txt mg)  {f : Addr} {cdv : Value} {A : Around} {outer : List Env} {s : Shared} {H : Hp} {E : XK} (hr : Room 0 (A.deeper (envOfC "_law_take" (defScope s__law_take) s.heap.objs.size f cdv))) :
    PSs (cxOf CX0 P w K mg base N__law_take "_law_take" (defScope s__law_take) f cdv A outer s H E).nox (defBody s__law_take) (cS ⟨K, P, w⟩ A__law_take) :=
  (ass_cons (as_if (at_eq hr.units (ae_ix (av 0) ac_int) ac_int) (ass_cons (as_asg (ae_ix (ae_add (ae_sl (ae_ix (av 0) ac_int) (ao_some (ae_ix (av 0) ac_int)) ao_none) (ae_lst (aa_cons ac_int aa_nil))) ac_int) (ag_name 4 sc__law_take.nd))
    (ass_cons (as_augS (av 0) ac_int ac_int)
    (ass_cons (as_if (at_ge (av 4) (ae_pow ac_int ac_int)) (ass_one (as_asg (av 4) (ag_sub (av 0) ac_int))) ass_nil)
    (ass_cons (as_asg (ae_add (ae_add (ae_mul (ae_ix (av 0) ac_int) ac_int) (ae_mod (ae_callTy call_int1 rc_int1 (by rfl) T.int (by decide +kernel) (aa_cons (av 4) aa_nil)) ac_int)) (ae_mul ac_int (ae_ix (av 0) ac_int))) (ag_name 5 sc__law_take.nd))
    (ass_one (as_asg (ae_mod (ae_callTy call_int1 rc_int1 (by rfl) T.int (by decide +kernel) (aa_cons (av 5) aa_nil)) ac_int) (ag_sub (av 0) ac_int))))))) ass_nil)
    (ass_cons (as_if (at_gt (ae_ix (av 0) ac_int) ac_int) (ass_cons (as_asg (ae_mod (ae_callTy call_int1 rc_int1 (by rfl) T.int (by decide +kernel) (aa_cons (ae_ix (av 0) ac_int) aa_nil)) (av 1)) (ag_name 6 sc__law_take.nd))
    (ass_cons (as_asg (ae_div (ae_callTy call_int1 rc_int1 (by rfl) T.int (by decide +kernel) (aa_cons (ae_ix (av 0) ac_int) aa_nil)) (av 1)) (ag_sub (av 0) ac_int))
    (ass_one (as_ret (av 6))))) ass_nil)
    (ass_cons (as_asg (ae_mod (ae_callTy call_int1 rc_int1 (by rfl) T.int (by decide +kernel) (aa_cons (ae_mul (ae_add (ae_ix (av 0) ac_int) ac_int) ac_int) aa_nil)) ac_int) (ag_name 2 sc__law_take.nd))
    (ass_cons (as_asg (ae_mod (ae_callTy call_int1 rc_int1 (by rfl) T.int (by decide +kernel) (aa_cons (ae_mul (ae_mod (ae_callTy call_int1 rc_int1 (by rfl) T.int (by decide +kernel) (aa_cons (ae_mul (av 2) (av 2)) aa_nil)) ac_int) ac_int) aa_nil)) ac_int) (ag_name 3 sc__law_take.nd))
    (ass_one (as_ret (ae_mod (ae_callTy call_int1 rc_int1 (by rfl) T.int (by decide +kernel) (aa_cons (ae_div (av 3) ac_int) aa_nil)) (av 1))))))))
theorem has__law_take {P : Program} {w : World} {K : PySem.W.Frag} {mg : Str → Option Value} {base : Heap} (T : Txt mg)  {f : Addr} {fd : FuncData} (F : Fun K "_law_take" "_law_take" s__law_take f fd) (hm : mg "_law_take" = some (.ref f)) (bi : Binds K fd ["bag", "many"] [])
    (len : ∀ as μ Q, sp__law_take as μ Q → as.length = 2) (rd : ∀ as μ Q, sp__law_take as μ Q → A__law_take { nx := fun _ μ' => Q (.d .none) μ', rt := Q } (astart N__law_take as) μ) : Has P w K mg base 1 "_law_take" ["bag", "many"] sp__law_take :=
  ⟨f, fd, hm, F.kp, bi, okA F sc__law_take len fun cdv A outer s H E hr => ⟨_, der__law_take T  hr, rd⟩⟩
abbrev s__law_is_above : Stmt := top 17
abbrev N__law_is_above : List Str := (["marks", "other", "mine", "its"] : List Str)
theorem sc__law_is_above : FnScope N__law_is_above ["marks", "other"] (defScope s__law_is_above) := ⟨rfl, rfl, rfl, by decide +kernel, rfl, by decide +kernel, by decide +kernel⟩
def A__law_is_above : ATS := (aRet (aOp fEq (aLc (aiZip (aCons (aVar 0) (aCons (aVar 1) aNil))) (agTup 2 (agCons (agN 2) (agCons (agN 3) agNil))) (aB (aOp fLt (aVar 2) (aVar 3))) (aC (.d (.int 1))) [2, 3]) (aLst aNil)))
theorem der__law_is_above {P : Program} {w : World} {K : PySem.W.Frag} {mg : Str → Option Value} {base : Heap} (T : Txt mg)  {f : Addr} {cdv : Value} {A : Around} {outer : List Env} {s : Shared} {H : Hp} {E : XK} (hr : Room 0 (A.deeper (envOfC "_law_is_above" (defScope s__law_is_above) s.heap.objs.size f cdv))) :
    PSs (cxOf CX0 P w K mg base N__law_is_above "_law_is_above" (defScope s__law_is_above) f cdv A outer s H E).nox (defBody s__law_is_above) (cS ⟨K, P, w⟩ A__law_is_above) :=
  (ass_one (as_ret (ae_eq hr.units (ae_lc (own := [("mine", 2), ("its", 3)]) rfl sc__law_is_above.nd (ai_zip (by rfl) T.zip (aa_cons (av 0) (aa_cons (av 1) aa_nil))) (blkOk_by (N := N__law_is_above) (sc := defScope s__law_is_above) (by decide +kernel)) (fun _ _ _ _ _ => (ag_tup (n := 2) rfl (ags_cons (ag_name 2 sc__law_is_above.nd) (ags_cons (ag_name 3 sc__law_is_above.nd) ags_nil)))) (fun _ _ _ _ _ => (ats_one (at_lt (av 2) (av 3)))) (fun _ _ _ _ _ => ac_int)) (ae_lst aa_nil))))
theorem has__law_is_above {P : Program} {w : World} {K : PySem.W.Frag} {mg : Str → Option Value} {base : Heap} (T : Txt mg)  {f : Addr} {fd : FuncData} (F : Fun K "_law_is_above" "_law_is_above" s__law_is_above f fd) (hm : mg "_law_is_above" = some (.ref f)) (bi : Binds K fd ["marks", "other"] [])
    (len : ∀ as μ Q, sp__law_is_above as μ Q → as.length = 2) (rd : ∀ as μ Q, sp__law_is_above as μ Q → A__law_is_above { nx := fun _ μ' => Q (.d .none) μ', rt := Q } (astart N__law_is_above as) μ) : Has P w K mg base 1 "_law_is_above" ["marks", "other"] sp__law_is_above :=
  ⟨f, fd, hm, F.kp, bi, okA F sc__law_is_above len fun cdv A outer s H E hr => ⟨_, der__law_is_above T  hr, rd⟩⟩
abbrev s__law_bag : Stmt := top 18
abbrev N__law_bag : List Str := (["script", "cell"] : List Str)
theorem sc__law_bag : FnScope N__law_bag ["script"] (defScope s__law_bag) := ⟨rfl, rfl, rfl, by decide +kernel, rfl, by decide +kernel, by decide +kernel⟩
def A__law_bag (KK : Kw) : ATS := (aRet (aMut (aCons (aC (.d (.int 0))) (aCons (aC (.d (.int 1234567891))) (aCons (aC (.d (.int 0))) (aCons (aLc (aiSeq (aSlK KK (aVar 0) aNoPart (aPart (aC (.d (.int 63)))))) (agN 1) aYes (aCall fAbs (aCons (aVar 1) aNil)) [1]) aNil))))))
theorem der__law_bag {P : Program} {w : World} {K : PySem.W.Frag} {mg : Str → Option Value} {base : Heap} (T : Txt mg)  {f : Addr} {cdv : Value} {A : Around} {outer : List Env} {s : Shared} {H : Hp} {E : XK} (hr : Room 0 (A.deeper (envOfC "_law_bag" (defScope s__law_bag) s.heap.objs.size f cdv))) :
    PSs (cxOf CX0 P w K mg base N__law_bag "_law_bag" (defScope s__law_bag) f cdv A outer s H E).nox (defBody s__law_bag) (cS ⟨K, P, w⟩ (A__law_bag ⟨K, P, w⟩)) :=
  (ass_one (as_ret (ae_mut (aa_cons ac_int (aa_cons ac_int (aa_cons ac_int (aa_cons (ae_lc (own := [("cell", 1)]) rfl sc__law_bag.nd (ai_seq (ae_slK (av 0) ao_none (ao_some ac_int))) (blkOk_by (N := N__law_bag) (sc := defScope s__law_bag) (by decide +kernel)) (fun _ _ _ _ _ => (ag_name 1 sc__law_bag.nd)) (fun _ _ _ _ _ => ats_nil) (fun _ _ _ _ _ => (ae_callB call_abs rc_abs (by rfl) T.abs (by decide +kernel) (aa_cons (av 1) aa_nil)))) aa_nil)))))))
theorem has__law_bag {P : Program} {w : World} {K : PySem.W.Frag} {mg : Str → Option Value} {base : Heap} (T : Txt mg)  {f : Addr} {fd : FuncData} (F : Fun K "_law_bag" "_law_bag" s__law_bag f fd) (hm : mg "_law_bag" = some (.ref f)) (bi : Binds K fd ["script"] [])
    (len : ∀ as μ Q, (sp__law_bag ⟨K, P, w⟩) as μ Q → as.length = 1) (rd : ∀ as μ Q, (sp__law_bag ⟨K, P, w⟩) as μ Q → (A__law_bag ⟨K, P, w⟩) { nx := fun _ μ' => Q (.d .none) μ', rt := Q } (astart N__law_bag as) μ) : Has P w K mg base 1 "_law_bag" ["script"] (sp__law_bag ⟨K, P, w⟩) :=
  ⟨f, fd, hm, F.kp, bi, okA F sc__law_bag len fun cdv A outer s H E hr => ⟨_, der__law_bag T  hr, rd⟩⟩
abbrev s__law_alike : Stmt := top 19
abbrev N__law_alike : List Str := (["found", "due", "pairs", "at", "one", "other"] : List Str)
theorem sc__law_alike : FnScope N__law_alike ["found", "due"] (defScope s__law_alike) := ⟨rfl, rfl, rfl, by decide +kernel, rfl, by decide +kernel, by decide +kernel⟩
def A__law_alike_12 : ATS := (aDrop (aMt fExtend (aVar 2) (aCons (aCall fListZip (aCons (aVar 4) (aCons (aVar 5) aNil))) aNil)))
def A__law_alike_10 : ATS := (aSeq (aIfS (aOr (aB (aOp fNe (aIsi (aVar 4) ["tuple"]) (aIsi (aVar 5) ["tuple"]))) (aB (aOp fNe (aCall fLen (aCons (aVar 4) aNil)) (aCall fLen (aCons (aVar 5) aNil))))) (aRet (aC (.d (.bool false)))) aNext) A__law_alike_12)
def A__law_alike_13 : ATS := (aIfS (aB (aOp fNe (aVar 4) (aVar 5))) (aRet (aC (.d (.bool false)))) aNext)
def A__law_alike_9 : ATS := (aIfS (aB (aIsi (aVar 4) ["tuple", "list"])) A__law_alike_10 A__law_alike_13)
def A__law_alike_7 : ATS := (aSeq (aIfS (aB (aOp fNe (aIsi (aVar 4) ["tuple", "list"]) (aIsi (aVar 5) ["tuple", "list"]))) (aRet (aC (.d (.bool false)))) aNext) A__law_alike_9)
def A__law_alike_5 : ATS := (aSeq (aIfS (aOr (aB (aOp fNe (aIsi (aVar 4) ["bool"]) (aIsi (aVar 5) ["bool"]))) (aB (aOp fNe (aIsi (aVar 4) ["str"]) (aIsi (aVar 5) ["str"])))) (aRet (aC (.d (.bool false)))) aNext) A__law_alike_7)
def A__law_alike_4 : ATS := (aSeq (aAug 3 (aC (.d (.int 1)))) A__law_alike_5)
def A__law_alike_3 : ATS := (aSeq (aAsg (aOp fIx (aVar 2) (aVar 3)) (agTup 2 (agCons (agN 4) (agCons (agN 5) agNil)))) A__law_alike_4)
def A__law_alike_2 : ATS := (aSeq (aWhile (aB (aOp fLt (aVar 3) (aCall fLen (aCons (aVar 2) aNil)))) A__law_alike_3) (aRet (aC (.d (.bool true)))))
def A__law_alike : ATS := (aSeq (aPar 2 3 (aCons (aMut (aCons (aTup (aCons (aVar 0) (aCons (aVar 1) aNil))) aNil)) (aCons (aC (.d (.int 0))) aNil))) A__law_alike_2)
theorem der__law_alike {P : Program} {w : World} {K : PySem.W.Frag} {mg : Str → Option Value} {base : Heap} (T : Txt mg)  {f : Addr} {cdv : Value} {A : Around} {outer : List Env} {s : Shared} {H : Hp} {E : XK} (hr : Room 0 (A.deeper (envOfC "_law_alike" (defScope s__law_alike) s.heap.objs.size f cdv))) :
    PSs (cxOf CX0 P w K mg base N__law_alike "_law_alike" (defScope s__law_alike) f cdv A outer s H E).nox (defBody s__law_alike) (cS ⟨K, P, w⟩ A__law_alike) :=
  (ass_cons (as_par (i := 2) (j := 3) rfl sc__law_alike.nd rfl rfl (by decide) rfl rfl (aa_cons (ae_mut (aa_cons (ae_tup (aa_cons (av 0) (aa_cons (av 1) aa_nil))) aa_nil)) (aa_cons ac_int aa_nil)) (by rfl))
    (ass_cons (as_while PassesOwn.never (at_lt (av 3) (ae_callB hc_len rc_len (by rfl) T.len (by decide +kernel) (aa_cons (av 2) aa_nil))) (ass_cons (as_asg (ae_ix (av 2) (av 3)) (ag_tup (n := 2) rfl (ags_cons (ag_name 4 sc__law_alike.nd) (ags_cons (ag_name 5 sc__law_alike.nd) ags_nil))))
    (ass_cons (as_aug (i := 3) sc__law_alike.nd rfl (Or.inl rfl) ac_int)
    (ass_cons (as_if (PW.pt (aw_or (at_ne hr.units (ae_isi (av 4) (by rfl) T.isinstance (by rfl) T.bool ty_bool) (ae_isi (av 5) (by rfl) T.isinstance (by rfl) T.bool ty_bool)) (aw_or1 (at_ne hr.units (ae_isi (av 4) (by rfl) T.isinstance (by rfl) T.str ty_str) (ae_isi (av 5) (by rfl) T.isinstance (by rfl) T.str ty_str))))) (ass_one (as_ret ac_bl)) ass_nil)
    (ass_cons (as_if (at_ne hr.units (ae_isi2 (av 4) (by rfl) T.isinstance (by rfl) T.tuple ty_tuple (by rfl) T.list ty_list) (ae_isi2 (av 5) (by rfl) T.isinstance (by rfl) T.tuple ty_tuple (by rfl) T.list ty_list)) (ass_one (as_ret ac_bl)) ass_nil)
    (ass_one (as_if (at_val (ae_isi2 (av 4) (by rfl) T.isinstance (by rfl) T.tuple ty_tuple (by rfl) T.list ty_list)) (ass_cons (as_if (PW.pt (aw_or (at_ne hr.units (ae_isi (av 4) (by rfl) T.isinstance (by rfl) T.tuple ty_tuple) (ae_isi (av 5) (by rfl) T.isinstance (by rfl) T.tuple ty_tuple)) (aw_or1 (at_ne hr.units (ae_callB hc_len rc_len (by rfl) T.len (by decide +kernel) (aa_cons (av 4) aa_nil)) (ae_callB hc_len rc_len (by rfl) T.len (by decide +kernel) (aa_cons (av 5) aa_nil)))))) (ass_one (as_ret ac_bl)) ass_nil)
    (ass_one (as_expr (ae_mt PySem.F.slot_list_extend PySem.F.type_list_extend mt_extend rm_extend (av 2) (aa_cons (ae_listZip rfl (by rfl) T.list (by rfl) T.zip (aa_cons (av 4) (aa_cons (av 5) aa_nil))) aa_nil))))) (ass_one (as_if (at_ne hr.units (av 4) (av 5)) (ass_one (as_ret ac_bl)) ass_nil)))))))))
    (ass_one (as_ret ac_bl))))
theorem has__law_alike {P : Program} {w : World} {K : PySem.W.Frag} {mg : Str → Option Value} {base : Heap} (T : Txt mg)  {f : Addr} {fd : FuncData} (F : Fun K "_law_alike" "_law_alike" s__law_alike f fd) (hm : mg "_law_alike" = some (.ref f)) (bi : Binds K fd ["found", "due"] [])
    (len : ∀ as μ Q, sp__law_alike as μ Q → as.length = 2) (rd : ∀ as μ Q, sp__law_alike as μ Q → A__law_alike { nx := fun _ μ' => ∃ μ2, Sub μ2 μ' ∧ Q (.d .none) μ2, rt := fun v μ' => ∃ μ2, Sub μ2 μ' ∧ Q v μ2 } (astart N__law_alike as) μ) : Has P w K mg base 1 "_law_alike" ["found", "due"] sp__law_alike :=
  ⟨f, fd, hm, F.kp, bi, okF F sc__law_alike len fun cdv A outer s H E hr => ⟨_, der__law_alike T  hr, rd⟩⟩
abbrev s__law_moved : Stmt := top 20
abbrev N__law_moved : List Str := (["marks", "change", "found", "mark", "more"] : List Str)
theorem sc__law_moved : FnScope N__law_moved ["marks", "change"] (defScope s__law_moved) := ⟨rfl, rfl, rfl, by decide +kernel, rfl, by decide +kernel, by decide +kernel⟩
def A__law_moved_2 : ATS := (aRet (aIf (aB (aOp fEq (aLc (aiSeq (aVar 2)) (agN 3) (aB (aOp fLt (aVar 3) (aC (.d (.int 0))))) (aC (.d (.int 1))) [3]) (aLst aNil))) (aVar 2) (aC (.d .none))))
def A__law_moved : ATS := (aSeq (aAsg (aCall fTuple (aCons (aLc (aiZip (aCons (aVar 0) (aCons (aVar 1) aNil))) (agTup 2 (agCons (agN 3) (agCons (agN 4) agNil))) aYes (aOp fAdd (aVar 3) (aVar 4)) [3, 4]) aNil)) (agN 2)) A__law_moved_2)
theorem der__law_moved {P : Program} {w : World} {K : PySem.W.Frag} {mg : Str → Option Value} {base : Heap} (T : Txt mg)  {f : Addr} {cdv : Value} {A : Around} {outer : List Env} {s : Shared} {H : Hp} {E : XK} (hr : Room 0 (A.deeper (envOfC "_law_moved" (defScope s__law_moved) s.heap.objs.size f cdv))) :
    PSs (cxOf CX0 P w K mg base N__law_moved "_law_moved" (defScope s__law_moved) f cdv A outer s H E).nox (defBody s__law_moved) (cS ⟨K, P, w⟩ A__law_moved) :=
  (ass_cons (as_asg (ae_callTy call_tuple_of rc_tuple (by rfl) T.tuple (by decide +kernel) (aa_cons (ae_lc (own := [("mark", 3), ("more", 4)]) rfl sc__law_moved.nd (ai_zip (by rfl) T.zip (aa_cons (av 0) (aa_cons (av 1) aa_nil))) (blkOk_by (N := N__law_moved) (sc := defScope s__law_moved) (by decide +kernel)) (fun _ _ _ _ _ => (ag_tup (n := 2) rfl (ags_cons (ag_name 3 sc__law_moved.nd) (ags_cons (ag_name 4 sc__law_moved.nd) ags_nil)))) (fun _ _ _ _ _ => ats_nil) (fun _ _ _ _ _ => (ae_add (av 3) (av 4)))) aa_nil)) (ag_name 2 sc__law_moved.nd))
    (ass_one (as_ret (ae_if (at_eq hr.units (ae_lc (own := [("mark", 3)]) rfl sc__law_moved.nd (ai_seq (av 2)) (blkOk_by (N := N__law_moved) (sc := defScope s__law_moved) (by decide +kernel)) (fun _ _ _ _ _ => (ag_name 3 sc__law_moved.nd)) (fun _ _ _ _ _ => (ats_one (at_lt (av 3) ac_int))) (fun _ _ _ _ _ => ac_int)) (ae_lst aa_nil)) (av 2) ac_non))))
theorem has__law_moved {P : Program} {w : World} {K : PySem.W.Frag} {mg : Str → Option Value} {base : Heap} (T : Txt mg)  {f : Addr} {fd : FuncData} (F : Fun K "_law_moved" "_law_moved" s__law_moved f fd) (hm : mg "_law_moved" = some (.ref f)) (bi : Binds K fd ["marks", "change"] [])
    (len : ∀ as μ Q, sp__law_moved as μ Q → as.length = 2) (rd : ∀ as μ Q, sp__law_moved as μ Q → A__law_moved { nx := fun _ μ' => Q (.d .none) μ', rt := Q } (astart N__law_moved as) μ) : Has P w K mg base 1 "_law_moved" ["marks", "change"] sp__law_moved :=
  ⟨f, fd, hm, F.kp, bi, okA F sc__law_moved len fun cdv A outer s H E hr => ⟨_, der__law_moved T  hr, rd⟩⟩
abbrev s__law_least : Stmt := top 21
abbrev N__law_least : List Str := (["some", "found", "place", "below", "one"] : List Str)
theorem sc__law_least : FnScope N__law_least ["some"] (defScope s__law_least) := ⟨rfl, rfl, rfl, by decide +kernel, rfl, by decide +kernel, by decide +kernel⟩
def A__law_least_4 : ATS := (aAsg (aOp fAdd (aVar 1) (aIf (aB (aOp fEq (aVar 3) (aLst aNil))) (aLst (aCons (aVar 2) aNil)) (aLst aNil))) (agN 1))
def A__law_least_3 : ATS := (aSeq (aAsg (aLc (aiSeq (aVar 0)) (agN 4) (aAnd (aB (aOp fNe (aVar 4) (aVar 2))) (aAnd (aB (aOp fEq (aOp fIx (aVar 4) (aC (.d (.int 0)))) (aOp fIx (aVar 2) (aC (.d (.int 0)))))) (aB (aCall sp__law_is_above (aCons (aOp fIx (aVar 2) (aC (.d (.int 1)))) (aCons (aOp fIx (aVar 4) (aC (.d (.int 1)))) aNil)))))) (aVar 4) [4]) (agN 3)) A__law_least_4)
def A__law_least_2 : ATS := (aSeq (aFor (aiSeq (aVar 0)) (agN 2) A__law_least_3) (aRet (aVar 1)))
def A__law_least : ATS := (aSeq (aPar 0 1 (aCons (aCall (fSorted false) (aCons (aCall fSortSet (aCons (aVar 0) aNil)) aNil)) (aCons (aLst aNil) aNil))) A__law_least_2)
theorem der__law_least {P : Program} {w : World} {K : PySem.W.Frag} {mg : Str → Option Value} {base : Heap} (T : Txt mg) (G__law_is_above : Has P w K mg base 1 "_law_is_above" ["marks", "other"] sp__law_is_above) {f : Addr} {cdv : Value} {A : Around} {outer : List Env} {s : Shared} {H : Hp} {E : XK} (hr : Room 1 (A.deeper (envOfC "_law_least" (defScope s__law_least) s.heap.objs.size f cdv))) :
    PSs (cxOf CX0 P w K mg base N__law_least "_law_least" (defScope s__law_least) f cdv A outer s H E).nox (defBody s__law_least) (cS ⟨K, P, w⟩ A__law_least) :=
  (ass_cons (as_par (i := 0) (j := 1) rfl sc__law_least.nd rfl rfl (by decide) rfl rfl (aa_cons (ae_sorted rfl hr.units (by rfl) T.sorted (aa_cons (ae_sortSet rfl hr.units (by rfl) T.sorted (by rfl) T.set (aa_cons (av 0) aa_nil)) aa_nil)) (aa_cons (ae_lst aa_nil) aa_nil)) (by rfl))
    (ass_cons (as_for PassesOwn.never rfl (ai_seq (av 0)) (ag_name 2 sc__law_least.nd) (ass_cons (as_setLc (i := 3) (own := [("one", 4)]) rfl sc__law_least.nd rfl rfl (sw_true rfl rfl rfl (by decide +kernel)) (ai_seq (av 0)) (blkOk_by (N := N__law_least) (sc := defScope s__law_least) (by decide +kernel)) (fun _ _ _ _ _ => (ag_name 4 sc__law_least.nd)) (fun _ _ _ _ _ => (ats_one (PW.pt (aw_and (at_ne hr.units (av 4) (av 2)) (aw_and (at_eq hr.units (ae_ix (av 4) ac_int) (ae_ix (av 2) ac_int)) (aw_and1 (at_val (ae_callH G__law_is_above (rm hr) (by rfl) (aa_cons (ae_ix (av 2) ac_int) (aa_cons (ae_ix (av 4) ac_int) aa_nil)))))))))) (fun _ _ _ _ _ => (av 4)))
    (ass_one (as_asg (ae_add (av 1) (ae_if (at_eq hr.units (av 3) (ae_lst aa_nil)) (ae_lst (aa_cons (av 2) aa_nil)) (ae_lst aa_nil))) (ag_name 1 sc__law_least.nd)))))
    (ass_one (as_ret (av 1)))))
theorem has__law_least {P : Program} {w : World} {K : PySem.W.Frag} {mg : Str → Option Value} {base : Heap} (T : Txt mg) (G__law_is_above : Has P w K mg base 1 "_law_is_above" ["marks", "other"] sp__law_is_above) {f : Addr} {fd : FuncData} (F : Fun K "_law_least" "_law_least" s__law_least f fd) (hm : mg "_law_least" = some (.ref f)) (bi : Binds K fd ["some"] [])
    (len : ∀ as μ Q, sp__law_least as μ Q → as.length = 1) (rd : ∀ as μ Q, sp__law_least as μ Q → A__law_least { nx := fun _ μ' => Q (.d .none) μ', rt := Q } (astart N__law_least as) μ) : Has P w K mg base 2 "_law_least" ["some"] sp__law_least :=
  ⟨f, fd, hm, F.kp, bi, okA F sc__law_least len fun cdv A outer s H E hr => ⟨_, der__law_least T G__law_is_above hr, rd⟩⟩
abbrev s__law_marks : Stmt := top 22
abbrev N__law_marks : List Str := (["bag", "many", "counter"] : List Str)
theorem sc__law_marks : FnScope N__law_marks ["bag", "many"] (defScope s__law_marks) := ⟨rfl, rfl, rfl, by decide +kernel, rfl, by decide +kernel, by decide +kernel⟩
def A__law_marks : ATS := (aRet (aCall fTuple (aCons (aLc (aiR1 (aCons (aVar 1) aNil)) (agN 2) aYes (aCall sp__law_take (aCons (aVar 0) (aCons (aC (.d (.int 4))) aNil))) [2]) aNil)))
theorem der__law_marks {P : Program} {w : World} {K : PySem.W.Frag} {mg : Str → Option Value} {base : Heap} (T : Txt mg) (G__law_take : Has P w K mg base 1 "_law_take" ["bag", "many"] sp__law_take) {f : Addr} {cdv : Value} {A : Around} {outer : List Env} {s : Shared} {H : Hp} {E : XK} (hr : Room 1 (A.deeper (envOfC "_law_marks" (defScope s__law_marks) s.heap.objs.size f cdv))) :
    PSs (cxOf CX0 P w K mg base N__law_marks "_law_marks" (defScope s__law_marks) f cdv A outer s H E).nox (defBody s__law_marks) (cS ⟨K, P, w⟩ A__law_marks) :=
  (ass_one (as_ret (ae_callTy call_tuple_of rc_tuple (by rfl) T.tuple (by decide +kernel) (aa_cons (ae_lc (own := [("counter", 2)]) rfl sc__law_marks.nd (ai_r1 (by rfl) T.range (aa_cons (av 1) aa_nil)) (blkOk_by (N := N__law_marks) (sc := defScope s__law_marks) (by decide +kernel)) (fun _ _ _ _ _ => (ag_name 2 sc__law_marks.nd)) (fun _ _ _ _ _ => ats_nil) (fun _ _ _ _ _ => (ae_callH G__law_take (rm hr) (by rfl) (aa_cons (av 0) (aa_cons ac_int aa_nil))))) aa_nil))))
theorem has__law_marks {P : Program} {w : World} {K : PySem.W.Frag} {mg : Str → Option Value} {base : Heap} (T : Txt mg) (G__law_take : Has P w K mg base 1 "_law_take" ["bag", "many"] sp__law_take) {f : Addr} {fd : FuncData} (F : Fun K "_law_marks" "_law_marks" s__law_marks f fd) (hm : mg "_law_marks" = some (.ref f)) (bi : Binds K fd ["bag", "many"] [])
    (len : ∀ as μ Q, sp__law_marks as μ Q → as.length = 2) (rd : ∀ as μ Q, sp__law_marks as μ Q → A__law_marks { nx := fun _ μ' => Q (.d .none) μ', rt := Q } (astart N__law_marks as) μ) : Has P w K mg base 2 "_law_marks" ["bag", "many"] sp__law_marks :=
  ⟨f, fd, hm, F.kp, bi, okA F sc__law_marks len fun cdv A outer s H E hr => ⟨_, der__law_marks T G__law_take hr, rd⟩⟩
abbrev s__law_all_marks : Stmt := top 23
abbrev N__law_all_marks : List Str := (["many", "most", "found", "counter", "later", "one", "mark"] : List Str)
theorem sc__law_all_marks : FnScope N__law_all_marks ["many", "most"] (defScope s__law_all_marks) := ⟨rfl, rfl, rfl, by decide +kernel, rfl, by decide +kernel, by decide +kernel⟩
def A__law_all_marks_5 : ATS := (aAsg (aOp fAdd (aVar 4) (aLc (aiR1 (aCons (aOp fAdd (aVar 1) (aC (.d (.int 1)))) aNil)) (agN 6) aYes (aOp fAdd (aVar 5) (aTup (aCons (aVar 6) aNil))) [6])) (agN 4))
def A__law_all_marks_4 : ATS := (aSeq (aFor (aiSeq (aVar 2)) (agN 5) A__law_all_marks_5) (aAsg (aVar 4) (agN 2)))
def A__law_all_marks_3 : ATS := (aSeq (aAsg (aLst aNil) (agN 4)) A__law_all_marks_4)
def A__law_all_marks_2 : ATS := (aSeq (aFor (aiR1 (aCons (aVar 0) aNil)) (agN 3) A__law_all_marks_3) (aRet (aVar 2)))
def A__law_all_marks : ATS := (aSeq (aAsg (aLst (aCons (aTup aNil) aNil)) (agN 2)) A__law_all_marks_2)
theorem der__law_all_marks {P : Program} {w : World} {K : PySem.W.Frag} {mg : Str → Option Value} {base : Heap} (T : Txt mg)  {f : Addr} {cdv : Value} {A : Around} {outer : List Env} {s : Shared} {H : Hp} {E : XK} (hr : Room 0 (A.deeper (envOfC "_law_all_marks" (defScope s__law_all_marks) s.heap.objs.size f cdv))) :
    PSs (cxOf CX0 P w K mg base N__law_all_marks "_law_all_marks" (defScope s__law_all_marks) f cdv A outer s H E).nox (defBody s__law_all_marks) (cS ⟨K, P, w⟩ A__law_all_marks) :=
  (ass_cons (as_asg (ae_lst (aa_cons (ae_tup aa_nil) aa_nil)) (ag_name 2 sc__law_all_marks.nd))
    (ass_cons (as_for PassesOwn.never rfl (ai_r1 (by rfl) T.range (aa_cons (av 0) aa_nil)) (ag_name 3 sc__law_all_marks.nd) (ass_cons (as_asg (ae_lst aa_nil) (ag_name 4 sc__law_all_marks.nd))
    (ass_cons (as_for PassesOwn.never rfl (ai_seq (av 2)) (ag_name 5 sc__law_all_marks.nd) (ass_one (as_asg (ae_add (av 4) (ae_lc (own := [("mark", 6)]) rfl sc__law_all_marks.nd (ai_r1 (by rfl) T.range (aa_cons (ae_add (av 1) ac_int) aa_nil)) (blkOk_by (N := N__law_all_marks) (sc := defScope s__law_all_marks) (by decide +kernel)) (fun _ _ _ _ _ => (ag_name 6 sc__law_all_marks.nd)) (fun _ _ _ _ _ => ats_nil) (fun _ _ _ _ _ => (ae_add (av 5) (ae_tup (aa_cons (av 6) aa_nil)))))) (ag_name 4 sc__law_all_marks.nd))))
    (ass_one (as_asg (av 4) (ag_name 2 sc__law_all_marks.nd))))))
    (ass_one (as_ret (av 2)))))
theorem has__law_all_marks {P : Program} {w : World} {K : PySem.W.Frag} {mg : Str → Option Value} {base : Heap} (T : Txt mg)  {f : Addr} {fd : FuncData} (F : Fun K "_law_all_marks" "_law_all_marks" s__law_all_marks f fd) (hm : mg "_law_all_marks" = some (.ref f)) (bi : Binds K fd ["many", "most"] [])
    (len : ∀ as μ Q, sp__law_all_marks as μ Q → as.length = 2) (rd : ∀ as μ Q, sp__law_all_marks as μ Q → A__law_all_marks { nx := fun _ μ' => Q (.d .none) μ', rt := Q } (astart N__law_all_marks as) μ) : Has P w K mg base 1 "_law_all_marks" ["many", "most"] sp__law_all_marks :=
  ⟨f, fd, hm, F.kp, bi, okA F sc__law_all_marks len fun cdv A outer s H E hr => ⟨_, der__law_all_marks T  hr, rd⟩⟩
abbrev s__law_in : Stmt := top 24
abbrev N__law_in : List Str := (["some", "marks", "one"] : List Str)
theorem sc__law_in : FnScope N__law_in ["some", "marks"] (defScope s__law_in) := ⟨rfl, rfl, rfl, by decide +kernel, rfl, by decide +kernel, by decide +kernel⟩
def A__law_in : ATS := (aRet (aOp fNe (aLc (aiSeq (aVar 0)) (agN 2) (aB (aCall sp__law_is_above (aCons (aVar 1) (aCons (aVar 2) aNil)))) (aC (.d (.int 1))) [2]) (aLst aNil)))
theorem der__law_in {P : Program} {w : World} {K : PySem.W.Frag} {mg : Str → Option Value} {base : Heap} (T : Txt mg) (G__law_is_above : Has P w K mg base 1 "_law_is_above" ["marks", "other"] sp__law_is_above) {f : Addr} {cdv : Value} {A : Around} {outer : List Env} {s : Shared} {H : Hp} {E : XK} (hr : Room 1 (A.deeper (envOfC "_law_in" (defScope s__law_in) s.heap.objs.size f cdv))) :
    PSs (cxOf CX0 P w K mg base N__law_in "_law_in" (defScope s__law_in) f cdv A outer s H E).nox (defBody s__law_in) (cS ⟨K, P, w⟩ A__law_in) :=
  (ass_one (as_ret (ae_ne hr.units (ae_lc (own := [("one", 2)]) rfl sc__law_in.nd (ai_seq (av 0)) (blkOk_by (N := N__law_in) (sc := defScope s__law_in) (by decide +kernel)) (fun _ _ _ _ _ => (ag_name 2 sc__law_in.nd)) (fun _ _ _ _ _ => (ats_one (at_val (ae_callH G__law_is_above (rm hr) (by rfl) (aa_cons (av 1) (aa_cons (av 2) aa_nil)))))) (fun _ _ _ _ _ => ac_int)) (ae_lst aa_nil))))
theorem has__law_in {P : Program} {w : World} {K : PySem.W.Frag} {mg : Str → Option Value} {base : Heap} (T : Txt mg) (G__law_is_above : Has P w K mg base 1 "_law_is_above" ["marks", "other"] sp__law_is_above) {f : Addr} {fd : FuncData} (F : Fun K "_law_in" "_law_in" s__law_in f fd) (hm : mg "_law_in" = some (.ref f)) (bi : Binds K fd ["some", "marks"] [])
    (len : ∀ as μ Q, sp__law_in as μ Q → as.length = 2) (rd : ∀ as μ Q, sp__law_in as μ Q → A__law_in { nx := fun _ μ' => Q (.d .none) μ', rt := Q } (astart N__law_in as) μ) : Has P w K mg base 2 "_law_in" ["some", "marks"] sp__law_in :=
  ⟨f, fd, hm, F.kp, bi, okA F sc__law_in len fun cdv A outer s H E hr => ⟨_, der__law_in T G__law_is_above hr, rd⟩⟩
abbrev s_law : Stmt := top 25
abbrev N_law : List Str := (["script", "bag", "turn", "many", "some", "others", "every", "one", "other", "above", "told", "least", "most", "change", "back", "marks", "due", "up", "both", "mine", "its", "within", "line", "rises"] : List Str) ++ (["later", "places", "place", "near", "there", "step", "counter", "couple", "at", "standing", "z", "y"] : List Str)
theorem sc_law : FnScope N_law ["script"] (defScope s_law) := ⟨rfl, rfl, rfl, by decide +kernel, rfl, by decide +kernel, by decide +kernel⟩
def A_law_19 (KK : Kw) : ATS := (aIfS (aB (aOp fNe (aAndV (aOp fNotN (aVar 28) (aC (.d .none))) (aCall sp__law_is_above (aCons (aVar 28) (aCons (aVar 7) aNil)))) (aCall sp__law_is_above (aCons (aVar 15) (aCons (aVar 14) aNil))))) (aRet (aC (.d (.bool false)))) aNext)
def A_law_18 (KK : Kw) : ATS := (aSeq (aAsg (aCall sp__law_moved (aCons (aVar 15) (aCons (aVar 13) aNil))) (agN 28)) (A_law_19 KK))
def A_law_27 (KK : Kw) : ATS := (aIfS (aB (aOp fNe (aCall sp__law_in (aCons (aVar 18) (aCons (aVar 15) aNil))) (aAndV (aCall sp__law_in (aCons (aVar 4) (aCons (aVar 15) aNil))) (aCall sp__law_in (aCons (aVar 5) (aCons (aVar 15) aNil)))))) (aRet (aC (.d (.bool false)))) aNext)
def A_law_39 (KK : Kw) : ATS := (aAsg (aOp fAdd (aVar 23) (aLc (aiR1 (aCons (aVar 24) aNil)) (agN 32) (aB (aCall sp__law_is_above (aCons (aOp fIx (aVar 22) (aVar 24)) (aCons (aOp fIx (aVar 22) (aVar 32)) aNil)))) (aTup (aCons (aVar 32) (aCons (aVar 24) aNil))) [32])) (agN 23))
def A_law_47 (KK : Kw) : ATS := (aIfS (aNot (aB (aCall sp__law_alike (aCons (aCall sp_is_place_above (aCons (aVar 26) (aCons (aVar 25) aNil))) (aCons (aVar 27) aNil))))) (aRet (aC (.d (.bool false)))) aNext)
def A_law_46 (KK : Kw) : ATS := (aSeq (aAsg (aOp fNe (aLc (aiSeq (aVar 25)) (agTup 2 (agCons (agN 33) (agCons (agN 15) agNil))) (aAnd (aB (aOp fEq (aVar 33) (aOp fIx (aVar 26) (aC (.d (.int 0)))))) (aB (aCall sp__law_is_above (aCons (aVar 7) (aCons (aVar 15) aNil))))) (aC (.d (.int 1))) [33, 15]) (aLst aNil)) (agN 27)) (A_law_47 KK))
def A_law_45 (KK : Kw) : ATS := (aSeq (aAsg (aTup (aCons (aCall sp__law_take (aCons (aVar 1) (aCons (aC (.d (.int 2))) aNil))) (aCons (aVar 7) aNil))) (agN 26)) (A_law_46 KK))
def A_law_43 (KK : Kw) : ATS := (aSeq (aIfS (aNot (aB (aCall sp__law_alike (aCons (aCall fTuple (aCons (aCall sp_least_places (aCons (aVar 25) aNil)) aNil)) (aCons (aCall fTuple (aCons (aCall sp__law_least (aCons (aCall fList (aCons (aVar 25) aNil)) aNil)) aNil)) aNil))))) (aRet (aC (.d (.bool false)))) aNext) (A_law_45 KK))
def A_law_42 (KK : Kw) : ATS := (aSeq (aAsg (aCall fTuple (aCons (aLc (aiSeq (aVar 4)) (agN 15) aYes (aTup (aCons (aCall sp__law_take (aCons (aVar 1) (aCons (aC (.d (.int 2))) aNil))) (aCons (aVar 15) aNil))) [15]) aNil)) (agN 25)) (A_law_43 KK))
def A_law_40 (KK : Kw) : ATS := (aSeq (aIfS (aNot (aB (aCall sp__law_alike (aCons (aCall sp_first_rise (aCons (aVar 22) aNil)) (aCons (aIf (aB (aOp fNe (aVar 23) (aLst aNil))) (aOp fIx (aVar 23) (aC (.d (.int 0)))) (aC (.d .none))) aNil))))) (aRet (aC (.d (.bool false)))) aNext) (A_law_42 KK))
def A_law_38 (KK : Kw) : ATS := (aSeq (aFor (aiR1 (aCons (aCall fLen (aCons (aVar 22) aNil)) aNil)) (agN 24) (A_law_39 KK)) (A_law_40 KK))
def A_law_37 (KK : Kw) : ATS := (aSeq (aAsg (aLst aNil) (agN 23)) (A_law_38 KK))
def A_law_36 (KK : Kw) : ATS := (aSeq (aAsg (aLc (aiR1 (aCons (aCall sp__law_take (aCons (aVar 1) (aCons (aC (.d (.int 6))) aNil))) aNil)) (agN 29) aYes (aCall sp__law_marks (aCons (aVar 1) (aCons (aVar 3) aNil))) [29]) (agN 22)) (A_law_37 KK))
def A_law_34 (KK : Kw) : ATS := (aSeq (aIfS (aNot (aB (aCall sp__law_alike (aCons (aLst (aCons (aCall sp_are_within (aCons (aVar 4) (aCons (aVar 5) aNil))) (aCons (aCall sp_are_same_above (aCons (aVar 4) (aCons (aVar 5) aNil))) aNil))) (aCons (aLst (aCons (aVar 21) (aCons (aOp fEq (aVar 19) (aVar 20)) aNil))) aNil))))) (aRet (aC (.d (.bool false)))) aNext) (A_law_36 KK))
def A_law_33 (KK : Kw) : ATS := (aSeq (aAsg (aOp fEq (aLc (aiSeq (aVar 19)) (agN 15) (aB (aOp fNotIn (aVar 15) (aVar 20))) (aVar 15) [15]) (aLst aNil)) (agN 21)) (A_law_34 KK))
def A_law_32 (KK : Kw) : ATS := (aSeq (aAsg (aLc (aiSeq (aVar 6)) (agN 15) (aB (aCall sp__law_in (aCons (aVar 5) (aCons (aVar 15) aNil)))) (aVar 15) [15]) (agN 20)) (A_law_33 KK))
def A_law_31 (KK : Kw) : ATS := (aSeq (aAsg (aLc (aiSeq (aVar 6)) (agN 15) (aB (aCall sp__law_in (aCons (aVar 4) (aCons (aVar 15) aNil)))) (aVar 15) [15]) (agN 19)) (A_law_32 KK))
def A_law_29 (KK : Kw) : ATS := (aSeq (aIfS (aB (aOp fNe (aVar 18) (aCall sp_least_marks (aCons (aVar 18) aNil)))) (aRet (aC (.d (.bool false)))) aNext) (A_law_31 KK))
def A_law_26 (KK : Kw) : ATS := (aSeq (aFor (aiSeq (aVar 6)) (agN 15) (A_law_27 KK)) (A_law_29 KK))
def A_law_25 (KK : Kw) : ATS := (aSeq (aAsg (aCall sp_in_both (aCons (aVar 4) (aCons (aVar 5) aNil))) (agN 18)) (A_law_26 KK))
def A_law_23 (KK : Kw) : ATS := (aSeq (aIfS (aNot (aB (aCall sp__law_alike (aCons (aLst (aCons (aCall sp_least_above (aCons (aVar 7) (aCons (aVar 8) aNil))) (aCons (aCall sp_grown (aCons (aVar 7) (aCons (aVar 8) aNil))) aNil))) (aCons (aLst (aCons (aVar 16) (aCons (aVar 17) aNil))) aNil))))) (aRet (aC (.d (.bool false)))) aNext) (A_law_25 KK))
def A_law_22 (KK : Kw) : ATS := (aSeq (aAsg (aCall fTuple (aCons (aLc (aiEnumZip (aCons (aVar 7) (aCons (aVar 8) aNil))) (agTup 2 (agCons (agN 32) (agCons (agTup 2 (agCons (agN 19) (agCons (agN 20) agNil))) agNil))) (aB (aOp fGt (aVar 20) (aVar 19))) (aVar 32) [32, 19, 20]) aNil)) (agN 17)) (A_law_23 KK))
def A_law_21 (KK : Kw) : ATS := (aSeq (aAsg (aCall fTuple (aCons (aLc (aiZipN (aCons (aVar 7) (aCons (aVar 8) aNil))) (agN 31) aYes (aCall fMax1 (aCons (aVar 31) aNil)) [31]) aNil)) (agN 16)) (A_law_22 KK))
def A_law_17 (KK : Kw) : ATS := (aSeq (aFor (aiSeq (aCall sp__law_all_marks (aCons (aVar 3) (aCons (aC (.d (.int 7))) aNil)))) (agN 15) (A_law_18 KK)) (A_law_21 KK))
def A_law_16 (KK : Kw) : ATS := (aSeq (aAsg (aCall sp_back_marks (aCons (aVar 7) (aCons (aVar 13) aNil))) (agN 14)) (A_law_17 KK))
def A_law_15 (KK : Kw) : ATS := (aSeq (aAsg (aCall fTuple (aCons (aLc (aiR1 (aCons (aVar 3) aNil)) (agN 30) aYes (aOp fSub (aCall sp__law_take (aCons (aVar 1) (aCons (aC (.d (.int 7))) aNil))) (aC (.d (.int 3)))) [30]) aNil)) (agN 13)) (A_law_16 KK))
def A_law_13 (KK : Kw) : ATS := (aSeq (aIfS (aNot (aB (aCall sp__law_alike (aCons (aLst (aCons (aCall sp_least_marks (aCons (aVar 4) aNil)) (aCons (aCall sp_greatest_marks (aCons (aCall fTuple (aCons (aVar 4) aNil)) aNil)) aNil))) (aCons (aLst (aCons (aCall fTuple (aCons (aVar 11) aNil)) (aCons (aCall fTuple (aCons (aVar 12) aNil)) aNil))) aNil))))) (aRet (aC (.d (.bool false)))) aNext) (A_law_15 KK))
def A_law_12 (KK : Kw) : ATS := (aSeq (aAsg (aCall fSortSet (aCons (aLc (aiSeq (aVar 4)) (agN 34) (aB (aOp fEq (aLc (aiSeq (aVar 4)) (agN 35) (aAnd (aB (aOp fNe (aVar 35) (aVar 34))) (aB (aCall sp__law_is_above (aCons (aVar 35) (aCons (aVar 34) aNil))))) (aVar 35) [35]) (aLst aNil))) (aVar 34) [34]) aNil)) (agN 12)) (A_law_13 KK))
def A_law_11 (KK : Kw) : ATS := (aSeq (aAsg (aCall fSortSet (aCons (aLc (aiSeq (aVar 4)) (agN 34) (aB (aOp fEq (aLc (aiSeq (aVar 4)) (agN 35) (aAnd (aB (aOp fNe (aVar 35) (aVar 34))) (aB (aCall sp__law_is_above (aCons (aVar 34) (aCons (aVar 35) aNil))))) (aVar 35) [35]) (aLst aNil))) (aVar 34) [34]) aNil)) (agN 11)) (A_law_12 KK))
def A_law_9 (KK : Kw) : ATS := (aSeq (aIfS (aNot (aB (aCall sp__law_alike (aCons (aVar 10) (aCons (aLst (aCons (aVar 9) (aCons (aCall sp__law_in (aCons (aVar 4) (aCons (aVar 7) aNil))) (aCons (aAndV (aNotV (aVar 9)) (aNotV (aCall sp__law_is_above (aCons (aVar 8) (aCons (aVar 7) aNil))))) aNil)))) aNil))))) (aRet (aC (.d (.bool false)))) aNext) (A_law_11 KK))
def A_law_8 (KK : Kw) : ATS := (aSeq (aAsg (aLst (aCons (aCall sp_is_above (aCons (aVar 7) (aCons (aVar 8) aNil))) (aCons (aCall sp_is_above_some (aCons (aVar 7) (aCons (aVar 4) aNil))) (aCons (aCall sp_are_apart (aCons (aVar 7) (aCons (aVar 8) aNil))) aNil)))) (agN 10)) (A_law_9 KK))
def A_law_7 (KK : Kw) : ATS := (aSeq (aAsg (aCall sp__law_is_above (aCons (aVar 7) (aCons (aVar 8) aNil))) (agN 9)) (A_law_8 KK))
def A_law_6 (KK : Kw) : ATS := (aSeq (aAsg (aTup (aCons (aCall sp__law_all_marks (aCons (aVar 3) (aCons (aC (.d (.int 4))) aNil))) (aCons (aCall sp__law_marks (aCons (aVar 1) (aCons (aVar 3) aNil))) (aCons (aCall sp__law_marks (aCons (aVar 1) (aCons (aVar 3) aNil))) aNil)))) (agTup 3 (agCons (agN 6) (agCons (agN 7) (agCons (agN 8) agNil))))) (A_law_7 KK))
def A_law_5 (KK : Kw) : ATS := (aSeq (aAsg (aLc (aiR1 (aCons (aCall sp__law_take (aCons (aVar 1) (aCons (aC (.d (.int 4))) aNil))) aNil)) (agN 7) aYes (aCall sp__law_marks (aCons (aVar 1) (aCons (aVar 3) aNil))) [7]) (agN 5)) (A_law_6 KK))
def A_law_4 (KK : Kw) : ATS := (aSeq (aAsg (aLc (aiR1 (aCons (aCall sp__law_take (aCons (aVar 1) (aCons (aC (.d (.int 5))) aNil))) aNil)) (agN 7) aYes (aCall sp__law_marks (aCons (aVar 1) (aCons (aVar 3) aNil))) [7]) (agN 4)) (A_law_5 KK))
def A_law_3 (KK : Kw) : ATS := (aSeq (aAsg (aOp fAdd (aC (.d (.int 1))) (aCall sp__law_take (aCons (aVar 1) (aCons (aC (.d (.int 3))) aNil)))) (agN 3)) (A_law_4 KK))
def A_law_2 (KK : Kw) : ATS := (aSeq (aFor (aiR1 (aCons (aC (.d (.int 5))) aNil)) (agN 2) (A_law_3 KK)) (aRet (aC (.d (.bool true)))))
def A_law (KK : Kw) : ATS := (aSeq (aAsg (aCall (sp__law_bag KK) (aCons (aVar 0) aNil)) (agN 1)) (A_law_2 KK))
theorem der_law {P : Program} {w : World} {K : PySem.W.Frag} {mg : Str → Option Value} {base : Heap} (T : Txt mg) (G_is_above : Has P w K mg base 1 "is_above" ["marks", "other"] sp_is_above) (G_is_above_some : Has P w K mg base 2 "is_above_some" ["marks", "some"] sp_is_above_some) (G_least_marks : Has P w K mg base 3 "least_marks" ["some"] sp_least_marks) (G_greatest_marks : Has P w K mg base 2 "greatest_marks" ["some"] sp_greatest_marks) (G_back_marks : Has P w K mg base 1 "back_marks" ["marks", "change"] sp_back_marks) (G_least_above : Has P w K mg base 1 "least_above" ["one", "other"] sp_least_above) (G_are_apart : Has P w K mg base 2 "are_apart" ["one", "other"] sp_are_apart) (G_first_rise : Has P w K mg base 2 "first_rise" ["line"] sp_first_rise) (G_grown : Has P w K mg base 1 "grown" ["one", "other"] sp_grown) (G_in_both : Has P w K mg base 4 "in_both" ["some", "others"] sp_in_both) (G_are_within : Has P w K mg base 3 "are_within" ["some", "others"] sp_are_within) (G_are_same_above : Has P w K mg base 4 "are_same_above" ["some", "others"] sp_are_same_above) (G_least_places : Has P w K mg base 4 "least_places" ["places"] sp_least_places) (G_is_place_above : Has P w K mg base 3 "is_place_above" ["place", "places"] sp_is_place_above) (G__law_take : Has P w K mg base 1 "_law_take" ["bag", "many"] sp__law_take) (G__law_is_above : Has P w K mg base 1 "_law_is_above" ["marks", "other"] sp__law_is_above) (G__law_bag : Has P w K mg base 1 "_law_bag" ["script"] (sp__law_bag ⟨K, P, w⟩)) (G__law_alike : Has P w K mg base 1 "_law_alike" ["found", "due"] sp__law_alike) (G__law_moved : Has P w K mg base 1 "_law_moved" ["marks", "change"] sp__law_moved) (G__law_least : Has P w K mg base 2 "_law_least" ["some"] sp__law_least) (G__law_marks : Has P w K mg base 2 "_law_marks" ["bag", "many"] sp__law_marks) (G__law_all_marks : Has P w K mg base 1 "_law_all_marks" ["many", "most"] sp__law_all_marks) (G__law_in : Has P w K mg base 2 "_law_in" ["some", "marks"] sp__law_in) {f : Addr} {cdv : Value} {A : Around} {outer : List Env} {s : Shared} {H : Hp} {E : XK} (hr : Room 4 (A.deeper (envOfC "law" (defScope s_law) s.heap.objs.size f cdv))) :
    PSs (cxOf CX0 P w K mg base N_law "law" (defScope s_law) f cdv A outer s H E).nox (defBody s_law) (cS ⟨K, P, w⟩ (A_law ⟨K, P, w⟩)) :=
  (ass_cons (as_asg (ae_callH G__law_bag (rm hr) (by rfl) (aa_cons (av 0) aa_nil)) (ag_name 1 sc_law.nd))
    (ass_cons (as_for PassesOwn.never rfl (ai_r1 (by rfl) T.range (aa_cons ac_int aa_nil)) (ag_name 2 sc_law.nd) (ass_cons (as_asg (ae_add ac_int (ae_callH G__law_take (rm hr) (by rfl) (aa_cons (av 1) (aa_cons ac_int aa_nil)))) (ag_name 3 sc_law.nd))
    (ass_cons (as_asg (ae_lc (own := [("one", 7)]) rfl sc_law.nd (ai_r1 (by rfl) T.range (aa_cons (ae_callH G__law_take (rm hr) (by rfl) (aa_cons (av 1) (aa_cons ac_int aa_nil))) aa_nil)) (blkOk_by (N := N_law) (sc := defScope s_law) (by decide +kernel)) (fun _ _ _ _ _ => (ag_name 7 sc_law.nd)) (fun _ _ _ _ _ => ats_nil) (fun _ _ _ _ _ => (ae_callH G__law_marks (rm hr) (by rfl) (aa_cons (av 1) (aa_cons (av 3) aa_nil))))) (ag_name 4 sc_law.nd))
    (ass_cons (as_asg (ae_lc (own := [("one", 7)]) rfl sc_law.nd (ai_r1 (by rfl) T.range (aa_cons (ae_callH G__law_take (rm hr) (by rfl) (aa_cons (av 1) (aa_cons ac_int aa_nil))) aa_nil)) (blkOk_by (N := N_law) (sc := defScope s_law) (by decide +kernel)) (fun _ _ _ _ _ => (ag_name 7 sc_law.nd)) (fun _ _ _ _ _ => ats_nil) (fun _ _ _ _ _ => (ae_callH G__law_marks (rm hr) (by rfl) (aa_cons (av 1) (aa_cons (av 3) aa_nil))))) (ag_name 5 sc_law.nd))
    (ass_cons (as_asg (ae_tup (aa_cons (ae_callH G__law_all_marks (rm hr) (by rfl) (aa_cons (av 3) (aa_cons ac_int aa_nil))) (aa_cons (ae_callH G__law_marks (rm hr) (by rfl) (aa_cons (av 1) (aa_cons (av 3) aa_nil))) (aa_cons (ae_callH G__law_marks (rm hr) (by rfl) (aa_cons (av 1) (aa_cons (av 3) aa_nil))) aa_nil)))) (ag_tup (n := 3) rfl (ags_cons (ag_name 6 sc_law.nd) (ags_cons (ag_name 7 sc_law.nd) (ags_cons (ag_name 8 sc_law.nd) ags_nil)))))
    (ass_cons (as_asg (ae_callH G__law_is_above (rm hr) (by rfl) (aa_cons (av 7) (aa_cons (av 8) aa_nil))) (ag_name 9 sc_law.nd))
    (ass_cons (as_asg (ae_lst (aa_cons (ae_callH G_is_above (rm hr) (by rfl) (aa_cons (av 7) (aa_cons (av 8) aa_nil))) (aa_cons (ae_callH G_is_above_some (rm hr) (by rfl) (aa_cons (av 7) (aa_cons (av 4) aa_nil))) (aa_cons (ae_callH G_are_apart (rm hr) (by rfl) (aa_cons (av 7) (aa_cons (av 8) aa_nil))) aa_nil)))) (ag_name 10 sc_law.nd))
    (ass_cons (as_if (at_not (at_val (ae_callH G__law_alike (rm hr) (by rfl) (aa_cons (av 10) (aa_cons (ae_lst (aa_cons (av 9) (aa_cons (ae_callH G__law_in (rm hr) (by rfl) (aa_cons (av 4) (aa_cons (av 7) aa_nil))) (aa_cons (ae_and (ae_not (av 9)) (ae_one (ae_not (ae_callH G__law_is_above (rm hr) (by rfl) (aa_cons (av 8) (aa_cons (av 7) aa_nil)))))) aa_nil)))) aa_nil))))) (ass_one (as_ret ac_bl)) ass_nil)
    (ass_cons (as_asg (ae_sortSet rfl hr.units (by rfl) T.sorted (by rfl) T.set (aa_cons (ae_lc (own := [("z", 34)]) rfl sc_law.nd (ai_seq (av 4)) (blkOk_by (N := N_law) (sc := defScope s_law) (by decide +kernel)) (fun _ _ _ _ _ => (ag_name 34 sc_law.nd)) (fun _ _ _ _ _ => (ats_one (at_eq hr.units (ae_lc (own := [("y", 35)]) rfl sc_law.nd (ai_seq (av 4)) (blkOk_by (by kernel_rfl)) (fun _ _ _ _ _ => (ag_name 35 sc_law.nd)) (fun _ _ _ _ _ => (ats_one (PW.pt (aw_and (at_ne hr.units (av 35) (av 34)) (aw_and1 (at_val (ae_callH G__law_is_above (rm hr) (by rfl) (aa_cons (av 34) (aa_cons (av 35) aa_nil))))))))) (fun _ _ _ _ _ => (av 35))) (ae_lst aa_nil)))) (fun _ _ _ _ _ => (av 34))) aa_nil)) (ag_name 11 sc_law.nd))
    (ass_cons (as_asg (ae_sortSet rfl hr.units (by rfl) T.sorted (by rfl) T.set (aa_cons (ae_lc (own := [("z", 34)]) rfl sc_law.nd (ai_seq (av 4)) (blkOk_by (N := N_law) (sc := defScope s_law) (by decide +kernel)) (fun _ _ _ _ _ => (ag_name 34 sc_law.nd)) (fun _ _ _ _ _ => (ats_one (at_eq hr.units (ae_lc (own := [("y", 35)]) rfl sc_law.nd (ai_seq (av 4)) (blkOk_by (by kernel_rfl)) (fun _ _ _ _ _ => (ag_name 35 sc_law.nd)) (fun _ _ _ _ _ => (ats_one (PW.pt (aw_and (at_ne hr.units (av 35) (av 34)) (aw_and1 (at_val (ae_callH G__law_is_above (rm hr) (by rfl) (aa_cons (av 35) (aa_cons (av 34) aa_nil))))))))) (fun _ _ _ _ _ => (av 35))) (ae_lst aa_nil)))) (fun _ _ _ _ _ => (av 34))) aa_nil)) (ag_name 12 sc_law.nd))
    (ass_cons (as_if (at_not (at_val (ae_callH G__law_alike (rm hr) (by rfl) (aa_cons (ae_lst (aa_cons (ae_callH G_least_marks (rm hr) (by rfl) (aa_cons (av 4) aa_nil)) (aa_cons (ae_callH G_greatest_marks (rm hr) (by rfl) (aa_cons (ae_callTy call_tuple_of rc_tuple (by rfl) T.tuple (by decide +kernel) (aa_cons (av 4) aa_nil)) aa_nil)) aa_nil))) (aa_cons (ae_lst (aa_cons (ae_callTy call_tuple_of rc_tuple (by rfl) T.tuple (by decide +kernel) (aa_cons (av 11) aa_nil)) (aa_cons (ae_callTy call_tuple_of rc_tuple (by rfl) T.tuple (by decide +kernel) (aa_cons (av 12) aa_nil)) aa_nil))) aa_nil))))) (ass_one (as_ret ac_bl)) ass_nil)
    (ass_cons (as_asg (ae_callTy call_tuple_of rc_tuple (by rfl) T.tuple (by decide +kernel) (aa_cons (ae_lc (own := [("counter", 30)]) rfl sc_law.nd (ai_r1 (by rfl) T.range (aa_cons (av 3) aa_nil)) (blkOk_by (N := N_law) (sc := defScope s_law) (by decide +kernel)) (fun _ _ _ _ _ => (ag_name 30 sc_law.nd)) (fun _ _ _ _ _ => ats_nil) (fun _ _ _ _ _ => (ae_sub (ae_callH G__law_take (rm hr) (by rfl) (aa_cons (av 1) (aa_cons ac_int aa_nil))) ac_int))) aa_nil)) (ag_name 13 sc_law.nd))
    (ass_cons (as_asg (ae_callH G_back_marks (rm hr) (by rfl) (aa_cons (av 7) (aa_cons (av 13) aa_nil))) (ag_name 14 sc_law.nd))
    (ass_cons (as_for PassesOwn.never rfl (ai_seq (ae_callH G__law_all_marks (rm hr) (by rfl) (aa_cons (av 3) (aa_cons ac_int aa_nil)))) (ag_name 15 sc_law.nd) (ass_cons (as_asg (ae_callH G__law_moved (rm hr) (by rfl) (aa_cons (av 15) (aa_cons (av 13) aa_nil))) (ag_name 28 sc_law.nd))
    (ass_one (as_if (at_ne hr.units (ae_and (ae_notN (av 28) ac_non) (ae_one (ae_callH G__law_is_above (rm hr) (by rfl) (aa_cons (av 28) (aa_cons (av 7) aa_nil))))) (ae_callH G__law_is_above (rm hr) (by rfl) (aa_cons (av 15) (aa_cons (av 14) aa_nil)))) (ass_one (as_ret ac_bl)) ass_nil))))
    (ass_cons (as_asg (ae_callTy call_tuple_of rc_tuple (by rfl) T.tuple (by decide +kernel) (aa_cons (ae_lc (own := [("couple", 31)]) rfl sc_law.nd (ai_zipN (by rfl) T.zip (aa_cons (av 7) (aa_cons (av 8) aa_nil))) (blkOk_by (N := N_law) (sc := defScope s_law) (by decide +kernel)) (fun _ _ _ _ _ => (ag_name 31 sc_law.nd)) (fun _ _ _ _ _ => ats_nil) (fun _ _ _ _ _ => (ae_callB (cr_max1 rfl hr.units) rc_max1 (by rfl) T.max (by decide +kernel) (aa_cons (av 31) aa_nil)))) aa_nil)) (ag_name 16 sc_law.nd))
    (ass_cons (as_asg (ae_callTy call_tuple_of rc_tuple (by rfl) T.tuple (by decide +kernel) (aa_cons (ae_lc (own := [("at", 32), ("mine", 19), ("its", 20)]) rfl sc_law.nd (ai_enumzip (by rfl) T.enumerate (by rfl) T.zip (aa_cons (av 7) (aa_cons (av 8) aa_nil))) (blkOk_by (N := N_law) (sc := defScope s_law) (by decide +kernel)) (fun _ _ _ _ _ => (ag_tup (n := 2) rfl (ags_cons (ag_name 32 sc_law.nd) (ags_cons (ag_tup (n := 2) rfl (ags_cons (ag_name 19 sc_law.nd) (ags_cons (ag_name 20 sc_law.nd) ags_nil))) ags_nil)))) (fun _ _ _ _ _ => (ats_one (at_gt (av 20) (av 19)))) (fun _ _ _ _ _ => (av 32))) aa_nil)) (ag_name 17 sc_law.nd))
    (ass_cons (as_if (at_not (at_val (ae_callH G__law_alike (rm hr) (by rfl) (aa_cons (ae_lst (aa_cons (ae_callH G_least_above (rm hr) (by rfl) (aa_cons (av 7) (aa_cons (av 8) aa_nil))) (aa_cons (ae_callH G_grown (rm hr) (by rfl) (aa_cons (av 7) (aa_cons (av 8) aa_nil))) aa_nil))) (aa_cons (ae_lst (aa_cons (av 16) (aa_cons (av 17) aa_nil))) aa_nil))))) (ass_one (as_ret ac_bl)) ass_nil)
    (ass_cons (as_asg (ae_callH G_in_both (rm hr) (by rfl) (aa_cons (av 4) (aa_cons (av 5) aa_nil))) (ag_name 18 sc_law.nd))
    (ass_cons (as_for PassesOwn.never rfl (ai_seq (av 6)) (ag_name 15 sc_law.nd) (ass_one (as_if (at_ne hr.units (ae_callH G__law_in (rm hr) (by rfl) (aa_cons (av 18) (aa_cons (av 15) aa_nil))) (ae_and (ae_callH G__law_in (rm hr) (by rfl) (aa_cons (av 4) (aa_cons (av 15) aa_nil))) (ae_one (ae_callH G__law_in (rm hr) (by rfl) (aa_cons (av 5) (aa_cons (av 15) aa_nil)))))) (ass_one (as_ret ac_bl)) ass_nil)))
    (ass_cons (as_if (at_ne hr.units (av 18) (ae_callH G_least_marks (rm hr) (by rfl) (aa_cons (av 18) aa_nil))) (ass_one (as_ret ac_bl)) ass_nil)
    (ass_cons (as_setLc (i := 19) (own := [("marks", 15)]) rfl sc_law.nd rfl rfl (sw_true rfl rfl rfl (by decide +kernel)) (ai_seq (av 6)) (blkOk_by (N := N_law) (sc := defScope s_law) (by decide +kernel)) (fun _ _ _ _ _ => (ag_name 15 sc_law.nd)) (fun _ _ _ _ _ => (ats_one (at_val (ae_callH G__law_in (rm hr) (by rfl) (aa_cons (av 4) (aa_cons (av 15) aa_nil)))))) (fun _ _ _ _ _ => (av 15)))
    (ass_cons (as_asg (ae_lc (own := [("marks", 15)]) rfl sc_law.nd (ai_seq (av 6)) (blkOk_by (N := N_law) (sc := defScope s_law) (by decide +kernel)) (fun _ _ _ _ _ => (ag_name 15 sc_law.nd)) (fun _ _ _ _ _ => (ats_one (at_val (ae_callH G__law_in (rm hr) (by rfl) (aa_cons (av 5) (aa_cons (av 15) aa_nil)))))) (fun _ _ _ _ _ => (av 15))) (ag_name 20 sc_law.nd))
    (ass_cons (as_asg (ae_eq hr.units (ae_lc (own := [("marks", 15)]) rfl sc_law.nd (ai_seq (av 19)) (blkOk_by (N := N_law) (sc := defScope s_law) (by decide +kernel)) (fun _ _ _ _ _ => (ag_name 15 sc_law.nd)) (fun _ _ _ _ _ => (ats_one (at_notIn (hu65 hr) (av 15) (av 20)))) (fun _ _ _ _ _ => (av 15))) (ae_lst aa_nil)) (ag_name 21 sc_law.nd))
    (ass_cons (as_if (at_not (at_val (ae_callH G__law_alike (rm hr) (by rfl) (aa_cons (ae_lst (aa_cons (ae_callH G_are_within (rm hr) (by rfl) (aa_cons (av 4) (aa_cons (av 5) aa_nil))) (aa_cons (ae_callH G_are_same_above (rm hr) (by rfl) (aa_cons (av 4) (aa_cons (av 5) aa_nil))) aa_nil))) (aa_cons (ae_lst (aa_cons (av 21) (aa_cons (ae_eq hr.units (av 19) (av 20)) aa_nil))) aa_nil))))) (ass_one (as_ret ac_bl)) ass_nil)
    (ass_cons (as_asg (ae_lc (own := [("step", 29)]) rfl sc_law.nd (ai_r1 (by rfl) T.range (aa_cons (ae_callH G__law_take (rm hr) (by rfl) (aa_cons (av 1) (aa_cons ac_int aa_nil))) aa_nil)) (blkOk_by (N := N_law) (sc := defScope s_law) (by decide +kernel)) (fun _ _ _ _ _ => (ag_name 29 sc_law.nd)) (fun _ _ _ _ _ => ats_nil) (fun _ _ _ _ _ => (ae_callH G__law_marks (rm hr) (by rfl) (aa_cons (av 1) (aa_cons (av 3) aa_nil))))) (ag_name 22 sc_law.nd))
    (ass_cons (as_asg (ae_lst aa_nil) (ag_name 23 sc_law.nd))
    (ass_cons (as_for PassesOwn.never rfl (ai_r1 (by rfl) T.range (aa_cons (ae_callB hc_len rc_len (by rfl) T.len (by decide +kernel) (aa_cons (av 22) aa_nil)) aa_nil)) (ag_name 24 sc_law.nd) (ass_one (as_asg (ae_add (av 23) (ae_lc (own := [("at", 32)]) rfl sc_law.nd (ai_r1 (by rfl) T.range (aa_cons (av 24) aa_nil)) (blkOk_by (N := N_law) (sc := defScope s_law) (by decide +kernel)) (fun _ _ _ _ _ => (ag_name 32 sc_law.nd)) (fun _ _ _ _ _ => (ats_one (at_val (ae_callH G__law_is_above (rm hr) (by rfl) (aa_cons (ae_ix (av 22) (av 24)) (aa_cons (ae_ix (av 22) (av 32)) aa_nil)))))) (fun _ _ _ _ _ => (ae_tup (aa_cons (av 32) (aa_cons (av 24) aa_nil)))))) (ag_name 23 sc_law.nd))))
    (ass_cons (as_if (at_not (at_val (ae_callH G__law_alike (rm hr) (by rfl) (aa_cons (ae_callH G_first_rise (rm hr) (by rfl) (aa_cons (av 22) aa_nil)) (aa_cons (ae_if (at_ne hr.units (av 23) (ae_lst aa_nil)) (ae_ix (av 23) ac_int) ac_non) aa_nil))))) (ass_one (as_ret ac_bl)) ass_nil)
    (ass_cons (as_asg (ae_callTy call_tuple_of rc_tuple (by rfl) T.tuple (by decide +kernel) (aa_cons (ae_lc (own := [("marks", 15)]) rfl sc_law.nd (ai_seq (av 4)) (blkOk_by (N := N_law) (sc := defScope s_law) (by decide +kernel)) (fun _ _ _ _ _ => (ag_name 15 sc_law.nd)) (fun _ _ _ _ _ => ats_nil) (fun _ _ _ _ _ => (ae_tup (aa_cons (ae_callH G__law_take (rm hr) (by rfl) (aa_cons (av 1) (aa_cons ac_int aa_nil))) (aa_cons (av 15) aa_nil))))) aa_nil)) (ag_name 25 sc_law.nd))
    (ass_cons (as_if (at_not (at_val (ae_callH G__law_alike (rm hr) (by rfl) (aa_cons (ae_callTy call_tuple_of rc_tuple (by rfl) T.tuple (by decide +kernel) (aa_cons (ae_callH G_least_places (rm hr) (by rfl) (aa_cons (av 25) aa_nil)) aa_nil)) (aa_cons (ae_callTy call_tuple_of rc_tuple (by rfl) T.tuple (by decide +kernel) (aa_cons (ae_callH G__law_least (rm hr) (by rfl) (aa_cons (ae_callTy call_list_of rc_list (by rfl) T.list (by decide +kernel) (aa_cons (av 25) aa_nil)) aa_nil)) aa_nil)) aa_nil))))) (ass_one (as_ret ac_bl)) ass_nil)
    (ass_cons (as_asg (ae_tup (aa_cons (ae_callH G__law_take (rm hr) (by rfl) (aa_cons (av 1) (aa_cons ac_int aa_nil))) (aa_cons (av 7) aa_nil))) (ag_name 26 sc_law.nd))
    (ass_cons (as_asg (ae_ne hr.units (ae_lc (own := [("standing", 33), ("marks", 15)]) rfl sc_law.nd (ai_seq (av 25)) (blkOk_by (N := N_law) (sc := defScope s_law) (by decide +kernel)) (fun _ _ _ _ _ => (ag_tup (n := 2) rfl (ags_cons (ag_name 33 sc_law.nd) (ags_cons (ag_name 15 sc_law.nd) ags_nil)))) (fun _ _ _ _ _ => (ats_one (PW.pt (aw_and (at_eq hr.units (av 33) (ae_ix (av 26) ac_int)) (aw_and1 (at_val (ae_callH G__law_is_above (rm hr) (by rfl) (aa_cons (av 7) (aa_cons (av 15) aa_nil))))))))) (fun _ _ _ _ _ => ac_int)) (ae_lst aa_nil)) (ag_name 27 sc_law.nd))
    (ass_one (as_if (at_not (at_val (ae_callH G__law_alike (rm hr) (by rfl) (aa_cons (ae_callH G_is_place_above (rm hr) (by rfl) (aa_cons (av 26) (aa_cons (av 25) aa_nil))) (aa_cons (av 27) aa_nil))))) (ass_one (as_ret ac_bl)) ass_nil))))))))))))))))))))))))))))))))))
    (ass_one (as_ret ac_bl))))
theorem has_law {P : Program} {w : World} {K : PySem.W.Frag} {mg : Str → Option Value} {base : Heap} (T : Txt mg) (G_is_above : Has P w K mg base 1 "is_above" ["marks", "other"] sp_is_above) (G_is_above_some : Has P w K mg base 2 "is_above_some" ["marks", "some"] sp_is_above_some) (G_least_marks : Has P w K mg base 3 "least_marks" ["some"] sp_least_marks) (G_greatest_marks : Has P w K mg base 2 "greatest_marks" ["some"] sp_greatest_marks) (G_back_marks : Has P w K mg base 1 "back_marks" ["marks", "change"] sp_back_marks) (G_least_above : Has P w K mg base 1 "least_above" ["one", "other"] sp_least_above) (G_are_apart : Has P w K mg base 2 "are_apart" ["one", "other"] sp_are_apart) (G_first_rise : Has P w K mg base 2 "first_rise" ["line"] sp_first_rise) (G_grown : Has P w K mg base 1 "grown" ["one", "other"] sp_grown) (G_in_both : Has P w K mg base 4 "in_both" ["some", "others"] sp_in_both) (G_are_within : Has P w K mg base 3 "are_within" ["some", "others"] sp_are_within) (G_are_same_above : Has P w K mg base 4 "are_same_above" ["some", "others"] sp_are_same_above) (G_least_places : Has P w K mg base 4 "least_places" ["places"] sp_least_places) (G_is_place_above : Has P w K mg base 3 "is_place_above" ["place", "places"] sp_is_place_above) (G__law_take : Has P w K mg base 1 "_law_take" ["bag", "many"] sp__law_take) (G__law_is_above : Has P w K mg base 1 "_law_is_above" ["marks", "other"] sp__law_is_above) (G__law_bag : Has P w K mg base 1 "_law_bag" ["script"] (sp__law_bag ⟨K, P, w⟩)) (G__law_alike : Has P w K mg base 1 "_law_alike" ["found", "due"] sp__law_alike) (G__law_moved : Has P w K mg base 1 "_law_moved" ["marks", "change"] sp__law_moved) (G__law_least : Has P w K mg base 2 "_law_least" ["some"] sp__law_least) (G__law_marks : Has P w K mg base 2 "_law_marks" ["bag", "many"] sp__law_marks) (G__law_all_marks : Has P w K mg base 1 "_law_all_marks" ["many", "most"] sp__law_all_marks) (G__law_in : Has P w K mg base 2 "_law_in" ["some", "marks"] sp__law_in) {f : Addr} {fd : FuncData} (F : Fun K "law" "law" s_law f fd) (hm : mg "law" = some (.ref f)) (bi : Binds K fd ["script"] [])
    (len : ∀ as μ Q, (sp_law ⟨K, P, w⟩) as μ Q → as.length = 1) (rd : ∀ as μ Q, (sp_law ⟨K, P, w⟩) as μ Q → (A_law ⟨K, P, w⟩) { nx := fun _ μ' => ∃ μ2, Sub μ2 μ' ∧ Q (.d .none) μ2, rt := fun v μ' => ∃ μ2, Sub μ2 μ' ∧ Q v μ2 } (astart N_law as) μ) : Has P w K mg base 5 "law" ["script"] (sp_law ⟨K, P, w⟩) :=
  ⟨f, fd, hm, F.kp, bi, okF F sc_law len fun cdv A outer s H E hr => ⟨_, der_law T G_is_above G_is_above_some G_least_marks G_greatest_marks G_back_marks G_least_above G_are_apart G_first_rise G_grown G_in_both G_are_within G_are_same_above G_least_places G_is_place_above G__law_take G__law_is_above G__law_bag G__law_alike G__law_moved G__law_least G__law_marks G__law_all_marks G__law_in hr, rd⟩⟩
end K60

set_option Elab.async false
set_option linter.all false
set_option maxRecDepth 100000
set_option maxHeartbeats 4000000
namespace K60
open PySem PySem.Spec PyProof.Rows L2 Ab
/-- what a def's body comes to -/
abbrev Rd (A : ATS) (N : List Str) (sp : ACall) : Prop := ∀ as μ Q, sp as μ Q → A { nx := fun _ μ' => Q (.d .none) μ', rt := Q } (astart N as) μ
local macro_rules | `(tactic| walk_at "au") => `(tactic| simp only [aSeq, aNext, aIfS, aRet, aRetN, aAsg, agN, agNil, agCons, agTup, aVar, aC, aOp, aB, aAnd, aOr, aNot, aAndV, aOrV, aNotV, aIf, aNil, aCons, aTup, aLst, aMut, aCall, aDrop, aBreak, aCont, aAug, aAugS, agSub, fSet, aPar, aNeg, aSl, aPart, aNoPart, fSl,
  fAdd, fSub, fMul, fDiv, fMod, fPow, fLt, fLe, fGt, fGe, fI, fI0, fEq, fNe, fIn, fNotIn, fIsN, fNotN, fIx, fLen, fInt1, fAbs, fMax2, fMin2, fAll, fAny, fTuple, fList, fListM,
  List.getElem?_cons_zero, List.getElem?_cons_succ, List.set_cons_zero, List.set_cons_succ, Option.some.injEq, exists_eq_left', datas, Option.map_some, List.map_cons, List.map_nil])
theorem zip_mk (xs ys : List Int) : zipD (xs.map .int) (ys.map .int) = (xs.zip ys).map fun p => AV.d (.tuple [.int p.1, .int p.2]) := zip_items _ _ _ _
theorem zip_it {xs ys : List Int} {R : List AV → Mu → Prop} {μ : Mu} (h : R ((xs.zip ys).map fun p => AV.d (.tuple [.int p.1, .int p.2])) μ) : R (zipD (xs.map .int) (ys.map .int)) μ := by
  rw [zip_mk]; exact h
theorem rd_is_above : Rd A_is_above N_is_above sp_is_above := by
  rintro as μ Q ⟨xs, ys, rfl, q⟩
  unfold A_is_above aRet aCall aCons
  refine aLc_map (fun p : Int × Int => AV.d (.tuple [.int p.1, .int p.2])) (fun p => .bool (decide (p.2 ≤ p.1))) (xs.zip ys) ?_ ?_ ?_
  · exact fun R h => zip_it h
  · exact fun p _ k hk => ⟨rfl, rfl, hk⟩
  · refine ⟨(xs.zip ys).map fun p => decide (p.2 ≤ p.1), by rw [List.map_map]; rfl, ?_⟩
    rw [List.all_map]
    exact q
theorem seq_var {i : Nat} {t : Bool} {ds : List PyData} {ρ : AEnv} {μ : Mu} {R : List AV → Mu → Prop} (hi : ρ[i]? = some (some (.d (seqD t ds)))) (h : R (ds.map AV.d) μ) : aiSeq (aVar i) ρ μ R := by
  unfold aiSeq aVar
  rw [hi]
  cases t <;> exact h
theorem rd_is_above_some : Rd A_is_above_some N_is_above_some sp_is_above_some := by
  rintro as μ Q ⟨xs, t, some, rfl, q⟩
  unfold A_is_above_some aRet aCall aCons
  refine aLc_map (fun ys : List Int => M ys) (fun ys => .bool (above xs ys)) some ?_ ?_ ?_
  · exact fun R h => seq_var (t := t) (ds := some.map mk) rfl (by rw [List.map_map]; exact h)
  · exact fun p _ k hk => ⟨xs, p, rfl, hk⟩
  · refine ⟨some.map (above xs), by rw [List.map_map]; rfl, ?_⟩
    rw [List.any_map]
    exact q
theorem rd_back_marks : Rd A_back_marks N_back_marks sp_back_marks := by
  rintro as μ Q ⟨xs, ys, rfl, q⟩
  unfold A_back_marks aRet aCall aCons
  refine aLc_map (fun p : Int × Int => AV.d (.tuple [.int p.1, .int p.2])) (fun p => .int (if p.1 - p.2 > 0 then p.1 - p.2 else 0)) (xs.zip ys) ?_ ?_ ?_
  · exact fun R h => zip_it h
  · exact fun p _ k hk => ⟨rfl, rfl, hk⟩
  · have e : (back xs ys).map PyData.int = (xs.zip ys).map fun p => PyData.int (if p.1 - p.2 > 0 then p.1 - p.2 else 0) := by
      unfold back
      rw [List.map_map]
      rfl
    show Q (.d (.tuple _)) μ
    rw [← e]
    exact q
theorem rd_are_apart : Rd A_are_apart N_are_apart sp_are_apart := by
  rintro as μ Q ⟨xs, ys, rfl, q⟩
  refine ⟨xs, ys, rfl, ?_⟩
  show if (!above xs ys) = true then _ else _
  cases h : above xs ys with
  | true =>
    rw [h] at q
    exact q
  | false =>
    rw [h] at q
    exact ⟨ys, xs, rfl, q⟩
theorem all_nil (ps : List (Int × Int)) : (ps.filterMap fun p => if decide (p.1 < p.2) = true then some (PyData.int 1) else none) = [] ↔ (ps.all fun p => decide (p.2 ≤ p.1)) = true := by
  rw [List.filterMap_eq_nil_iff, List.all_eq_true]
  refine ⟨fun h p hp => ?_, fun h p hp => ?_⟩
  · have := h p hp
    by_cases q : p.1 < p.2
    · simp [q] at this
    · simp; omega
  · have := of_decide_eq_true (h p hp)
    rw [if_neg]
    simp; omega
theorem sh_int (i : Int) : SeqAt.shaped (.int i) = true := rfl
theorem eqv_int (i j : Int) : PyData.eqv (.int i) (.int j) = decide (i = j) := by unfold PyData.eqv; exact Bool.beq_eq_decide_eq i j
theorem ix0 {α : Type} {x : α} {xs : List α} : atI (x :: xs) 0 = some x := by
  have : ixN (x :: xs).length 0 = some 0 := by unfold ixN; simp
  unfold atI; rw [this]; rfl
theorem ix1 {α : Type} {x y : α} {xs : List α} : atI (x :: y :: xs) 1 = some y := by
  have : ixN (x :: y :: xs).length 1 = some 1 := by unfold ixN; simp; omega
  unfold atI; rw [this]; rfl
theorem ix2 {α : Type} {x y z : α} {xs : List α} : atI (x :: y :: z :: xs) 2 = some z := by
  have : ixN (x :: y :: z :: xs).length 2 = some 2 := by unfold ixN; simp; omega
  unfold atI; rw [this]; rfl
theorem ix3 {α : Type} {x y z u : α} {xs : List α} : atI (x :: y :: z :: u :: xs) 3 = some u := by
  have : ixN (x :: y :: z :: u :: xs).length 3 = some 3 := by unfold ixN; simp; omega
  unfold atI; rw [this]; rfl
theorem fmod_b {a n : Int} (h : 0 < n) : 0 ≤ a.fmod n ∧ a.fmod n < n := ⟨Int.fmod_nonneg_of_pos a h, Int.fmod_lt_of_pos a h⟩
theorem take_12 {b : Addr} {n : Int} {β : Bag} {o4 o5 o6 : Option AV} {D : AEnds} {μ : Mu} (hb : μ b = some (BagM β)) (hok : β.Ok) (h0 : 0 < n) (q : ∀ r, 0 ≤ r → r < n → D.rt (I r) μ) :
    A__law_take_12 D [some (.v (.ref b)), some (I n), none, none, o4, o5, o6] μ := by
  unfold A__law_take_12 A__law_take_13 A__law_take_14
  walk_at "au"
  simp only [hb, BagM, ix1, Option.some.injEq, exists_eq_left']
  have hn : n ≠ 0 := by omega
  refine ⟨.inr ⟨by omega, by omega⟩, by omega, ?_⟩
  have h2 := fmod_b (a := (β.s + 1) * 39373) (n := 1000000007) (by omega)
  generalize ((β.s + 1) * 39373).fmod 1000000007 = c at *
  refine ⟨.inl ⟨by omega, by omega⟩, by omega, ?_⟩
  refine ⟨.inr ⟨by omega, by omega⟩, by omega, ?_⟩
  refine ⟨⟨by omega, by omega⟩, hn, ?_⟩
  have h3 := fmod_b (a := Int.fdiv (Int.fmod (Int.fmod (c * c) 998244353 * 30011) 998244353) 7) h0
  exact q _ h3.1 h3.2
theorem take_9 {b : Addr} {n : Int} {β : Bag} {o4 o5 o6 : Option AV} {D : AEnds} {μ : Mu} (hb : μ b = some (BagM β)) (hok : β.Ok) (h0 : 0 < n) (h1 : n < 1000000) (q : ∀ β' r, β'.Ok → 0 ≤ r → r < n → D.rt (I r) (mset μ b (BagM β'))) :
    A__law_take_9 D [some (.v (.ref b)), some (I n), none, none, o4, o5, o6] μ := by
  unfold A__law_take_9 A__law_take_10
  walk_at "au"
  simp only [hb, BagM, ix0, Option.some.injEq, exists_eq_left']
  have hn : n ≠ 0 := by omega
  refine ⟨hn, ⟨hn, by omega⟩, _, 0, ⟨rfl, ?_, ?_⟩⟩
  · unfold ixN; simp
  · have h3 := fmod_b (a := β.a) h0
    exact q { β with a := β.a.fdiv n } _ ⟨Int.fdiv_nonneg hok.a0 (by omega), hok.s0, hok.s1, hok.c0, hok.len⟩ h3.1 h3.2
theorem take_8 {b : Addr} {n : Int} {β : Bag} {o4 o5 : Option AV} {D : AEnds} {μ : Mu} (hb : μ b = some (BagM β)) (hok : β.Ok) (h0 : 0 < n) (h1 : n < 1000000) (q : ∀ β' r, β'.Ok → 0 ≤ r → r < n → D.rt (I r) (mset μ b (BagM β'))) :
    A__law_take_8 D [some (.v (.ref b)), some (I n), none, none, o4, o5, none] μ := by
  unfold A__law_take_8
  walk_at "au"
  simp only [hb, BagM, ix0, Option.some.injEq, exists_eq_left']
  split
  · exact take_9 hb hok h0 h1 q
  · refine take_12 hb hok h0 fun r a b' => ?_
    have := q β r hok a b'
    rwa [mset_self hb] at this
theorem take_6 {b : Addr} {n c : Int} {β : Bag} {o5 : Option AV} {D : AEnds} {μ : Mu} (hb : μ b = some (BagM β)) (hok : β.Ok) (q : ∀ β' o5, β'.Ok → D.nx [some (.v (.ref b)), some (I n), none, none, some (I c), o5, none] (mset μ b (BagM β'))) :
    A__law_take_6 D [some (.v (.ref b)), some (I n), none, none, some (I c), o5, none] μ := by
  unfold A__law_take_6 A__law_take_7
  walk_at "au"
  simp only [hb, BagM, ix1, ix2, Option.some.injEq, exists_eq_left']
  refine ⟨.inr ⟨by omega, by omega⟩, by omega, .inl ⟨by omega, by omega⟩, by omega, _, 1, rfl, ?_, ?_⟩
  · unfold ixN; simp
  · generalize β.s * 48271 + c.fmod 2147483647 + 7919 * β.p = z
    have h3 := fmod_b (a := z) (n := 2147483647) (by omega)
    exact q { β with s := z.fmod 2147483647 } _ ⟨hok.a0, h3.1, by show Int.fmod _ _ < _; omega, hok.c0, hok.len⟩
theorem take_3 {b : Addr} {n c : Int} {β : Bag} {o5 : Option AV} {D : AEnds} {μ : Mu} (hb : μ b = some (BagM β)) (hok : β.Ok) (hc : 0 ≤ c) (q : ∀ β' o5, β'.Ok → D.nx [some (.v (.ref b)), some (I n), none, none, some (I c), o5, none] (mset μ b (BagM β'))) :
    A__law_take_3 D [some (.v (.ref b)), some (I n), none, none, some (I c), o5, none] μ := by
  unfold A__law_take_3 A__law_take_4 A__law_take_5
  walk_at "au"
  refine ⟨_, β.p, hb, ix2, _, 2, hb, ?_, ?_⟩
  · unfold ixN; simp
  · have hb2 : mset μ b (BagM { β with p := β.p + 1 }) b = some (BagM { β with p := β.p + 1 }) := mset_same
    have ok2 : ({ β with p := β.p + 1 } : Bag).Ok := ⟨hok.a0, hok.s0, hok.s1, hok.c0, hok.len⟩
    refine ⟨⟨by omega, by omega, by omega⟩, ?_⟩
    split
    · refine ⟨_, 0, hb2, ?_, ?_⟩
      · unfold ixN; simp
      · rw [mset_mset]
        refine take_6 (β := { β with p := β.p + 1, a := c }) mset_same ⟨hc, hok.s0, hok.s1, hok.c0, hok.len⟩ fun β' o5 ok' => ?_
        rw [mset_mset]
        exact q β' o5 ok'
    · refine take_6 (β := { β with p := β.p + 1 }) hb2 ok2 fun β' o5 ok' => ?_
      rw [mset_mset]
      exact q β' o5 ok'
theorem rd__law_take : Rd A__law_take N__law_take sp__law_take := by
  rintro as μ Q ⟨b, n, β, rfl, hb, hok, h0, h1, q⟩
  have es : astart N__law_take [.v (.ref b), I n] = [some (.v (.ref b)), some (I n), none, none, none, none, none] := rfl
  rw [es]
  unfold A__law_take A__law_take_2
  walk_at "au"
  simp only [hb, BagM, ix0, ix2, ix3, sh_int, true_and, eqv_int, exists_eq_left', Option.some.injEq]
  split
  · have hl : (Ab.cutD (β.cells.map PyData.int) (some β.p) none).length ≤ 63 := by
      unfold Ab.cutD
      rw [List.length_take, List.length_drop, List.length_map]
      have := hok.len
      omega
    have hm : ∀ x ∈ Ab.cutD (β.cells.map PyData.int) (some β.p) none ++ [PyData.int 0], ∃ c, x = PyData.int c ∧ 0 ≤ c := by
      intro x hx
      rcases List.mem_append.mp hx with hx | hx
      · obtain ⟨c, hc, rfl⟩ := List.mem_map.mp (List.mem_of_mem_drop (List.mem_of_mem_take hx))
        exact ⟨c, rfl, hok.c0 c hc⟩
      · exact ⟨0, by simpa using hx, by omega⟩
    refine ⟨by show 1 ≤ sizeLine; decide, by show _ + 1 ≤ sizeLine; rw [sizeLine_eq]; omega, ?_⟩
    have hne : (Ab.cutD (β.cells.map PyData.int) (some β.p) none ++ [PyData.int 0]) ≠ [] := by simp
    cases hc : (Ab.cutD (β.cells.map PyData.int) (some β.p) none ++ [PyData.int 0]) with
    | nil => exact absurd hc hne
    | cons x xs =>
      obtain ⟨c, rfl, hc0⟩ := hm x (by rw [hc]; simp)
      refine ⟨_, ix0, ?_⟩
      refine take_3 hb hok hc0 fun β' o5 ok' => ?_
      refine take_8 mset_same ok' h0 h1 fun β'' r ok'' a b' => ?_
      rw [mset_mset]
      exact q β'' r ok'' a b'
  · exact take_8 hb hok h0 h1 q
end K60

set_option Elab.async false
set_option linter.all false
set_option maxRecDepth 100000
set_option maxHeartbeats 4000000
/-! The mathematics of marks: orders, sorted lists, least ones. -/
namespace K60
open PySem PySem.Spec PyProof.Rows L2 Ab
/-! ### sorted lists -/
theorem sorted_uniq {α : Type} {lt : α → α → Prop} (asy : ∀ a b, lt a b → ¬ lt b a) : ∀ {l m : List α}, l.Pairwise lt → m.Pairwise lt → (∀ x, x ∈ l ↔ x ∈ m) → l = m
  | [], [], _, _, _ => rfl
  | [], y :: m, _, _, h => by have := (h y).mpr (by simp); simp at this
  | x :: l, [], _, _, h => by have := (h x).mp (by simp); simp at this
  | x :: l, y :: m, hl, hm, h => by
    have hl' := List.pairwise_cons.mp hl
    have hm' := List.pairwise_cons.mp hm
    have exy : x = y := by
      have h1 : x = y ∨ x ∈ m := by simpa using (h x).mp (by simp)
      have h2 : y = x ∨ y ∈ l := by simpa using (h y).mpr (by simp)
      rcases h1 with e | h1
      · exact e
      · rcases h2 with e | h2
        · exact e.symm
        · exact absurd (hl'.1 y h2) (asy _ _ (hm'.1 x h1))
    subst exy
    have nx : ∀ z ∈ l, z ≠ x := fun z hz e => by subst e; exact asy _ _ (hl'.1 z hz) (hl'.1 z hz)
    have ny : ∀ z ∈ m, z ≠ x := fun z hz e => by subst e; exact asy _ _ (hm'.1 z hz) (hm'.1 z hz)
    rw [sorted_uniq asy hl'.2 hm'.2 fun z => ⟨fun hz => ?_, fun hz => ?_⟩]
    · have : z = x ∨ z ∈ m := by simpa using (h z).mp (by simp [hz])
      exact this.resolve_left (nx z hz)
    · have : z = x ∨ z ∈ l := by simpa using (h z).mpr (by simp [hz])
      exact this.resolve_left (ny z hz)
theorem mem_uniq {α : Type} [DecidableEq α] {x : α} : ∀ {l : List α}, x ∈ uniq l ↔ x ∈ l
  | [] => by simp [uniq]
  | y :: l => by
    unfold uniq
    split
    · rename_i h
      rw [mem_uniq, List.mem_cons]
      exact ⟨.inr, fun q => q.elim (fun e => e ▸ h) id⟩
    · rw [List.mem_cons, List.mem_cons, mem_uniq]
theorem nodup_uniq {α : Type} [DecidableEq α] : ∀ {l : List α}, (uniq l).Nodup
  | [] => List.nodup_nil
  | y :: l => by
    unfold uniq
    split
    · exact nodup_uniq
    · rename_i h
      exact List.nodup_cons.mpr ⟨fun q => h (mem_uniq.mp q), nodup_uniq⟩
theorem len_uniq {α : Type} [DecidableEq α] : ∀ {l : List α}, (uniq l).length ≤ l.length
  | [] => Nat.le_refl _
  | y :: l => by
    unfold uniq
    have := len_uniq (l := l)
    split <;> simp <;> omega
/-- a strict order by which data are told -/
structure Sto {α : Type} (f : α → PyData) (lt : α → α → Prop) [DecidableRel lt] : Prop where
  asy : ∀ a b, lt a b → ¬ lt b a
  tra : ∀ a b c, lt a b → lt b c → lt a c
  tri : ∀ a b, lt a b ∨ a = b ∨ lt b a
  dat : ∀ a b, PySem.W.dataLt (f a) (f b) = decide (lt a b)
section
variable {α : Type} {f : α → PyData} {lt : α → α → Prop} [DecidableRel lt]
abbrev leB (lt : α → α → Prop) [DecidableRel lt] (a b : α) : Bool := !decide (lt b a)
theorem Sto.letra (S : Sto f lt) (a b c : α) (h1 : leB lt a b = true) (h2 : leB lt b c = true) : leB lt a c = true := by
  simp only [leB, Bool.not_eq_true', decide_eq_false_iff_not] at *
  intro h
  rcases S.tri a b with q | q | q
  · rcases S.tri b c with r | r | r
    · exact S.asy _ _ (S.tra _ _ _ q r) h
    · subst r; exact S.asy _ _ q h
    · exact h2 r
  · subst q; exact h2 h
  · exact h1 q
theorem Sto.letot (S : Sto f lt) (a b : α) : (leB lt a b || leB lt b a) = true := by
  simp only [leB, Bool.or_eq_true, Bool.not_eq_true', decide_eq_false_iff_not]
  by_cases h : lt b a
  · exact .inr (S.asy _ _ h)
  · exact .inl h
theorem Sto.sort_eq (S : Sto f lt) (L : List α) : sortD false (L.map f) = (L.mergeSort (leB lt)).map f := by
  unfold sortD
  refine (List.map_mergeSort fun a _ b _ => ?_).symm
  show leB lt a b = !PySem.W.dataLt (f b) (f a)
  rw [S.dat]
theorem Sto.sortR_eq (S : Sto f lt) (L : List α) : sortD true (L.map f) = (L.mergeSort fun a b => leB lt b a).map f := by
  unfold sortD
  refine (List.map_mergeSort fun a _ b _ => ?_).symm
  show leB lt b a = !PySem.W.dataLt (f a) (f b)
  rw [S.dat]
theorem Sto.sorted (S : Sto f lt) {L : List α} (nd : L.Nodup) : (L.mergeSort (leB lt)).Pairwise lt := by
  have h1 := List.pairwise_mergeSort (le := leB lt) S.letra S.letot L
  have h2 : (L.mergeSort (leB lt)).Nodup := (List.mergeSort_perm L _).nodup_iff.mpr nd
  refine List.Pairwise.imp₂ (R := fun a b => leB lt a b = true) (S := fun a b => a ≠ b) (fun a b h ne => ?_) h1 h2
  simp only [leB, Bool.not_eq_true', decide_eq_false_iff_not] at h
  rcases S.tri a b with q | q | q
  · exact q
  · exact absurd q ne
  · exact absurd q h
theorem Sto.sortedR (S : Sto f lt) {L : List α} (nd : L.Nodup) : (L.mergeSort fun a b => leB lt b a).Pairwise fun a b => lt b a := by
  have h1 := List.pairwise_mergeSort (le := fun a b => leB lt b a) (fun a b c h1 h2 => S.letra c b a h2 h1) (fun a b => S.letot b a) L
  have h2 : (L.mergeSort fun a b => leB lt b a).Nodup := (List.mergeSort_perm L _).nodup_iff.mpr nd
  refine List.Pairwise.imp₂ (R := fun a b => leB lt b a = true) (S := fun a b => a ≠ b) (fun a b h ne => ?_) h1 h2
  simp only [leB, Bool.not_eq_true', decide_eq_false_iff_not] at h
  rcases S.tri a b with q | q | q
  · exact absurd q h
  · exact absurd q ne
  · exact q
end
/-! ### marks -/
theorem datas_num : ∀ xs : List Int, NestedKey.datas (xs.map .num) = xs.map PyData.int
  | [] => rfl
  | x :: xs => by
    show NestedKey.data (.num x) :: NestedKey.datas (xs.map .num) = _
    rw [datas_num xs]
    rfl
def nk (xs : Mk) : NestedKey := .tup (xs.map .num)
theorem nk_data (xs : Mk) : (nk xs).data = mk xs := by
  show PyData.tuple (NestedKey.datas (xs.map .num)) = _
  rw [datas_num]
  rfl
theorem depthAll_num : ∀ xs : List Int, NestedKey.depthAll (xs.map .num) = 0
  | [] => rfl
  | x :: xs => by
    show max (NestedKey.depth (.num x)) (NestedKey.depthAll (xs.map .num)) = 0
    rw [depthAll_num xs]
    rfl
theorem nk_depth (xs : Mk) : (nk xs).depth ≤ 8 := by
  show NestedKey.depthAll (xs.map .num) + 1 ≤ 8
  rw [depthAll_num]
  decide
theorem num_inj : ∀ {xs ys : List Int}, xs.map NestedKey.num = ys.map NestedKey.num → xs = ys
  | [], [], _ => rfl
  | [], _ :: _, h => by cases h
  | _ :: _, [], h => by cases h
  | x :: xs, y :: ys, h => by
    injection h with h1 h2
    injection h1 with h1
    rw [h1, num_inj h2]
theorem nk_inj {xs ys : Mk} (h : nk xs = nk ys) : xs = ys := by
  injection h with h
  exact num_inj h
theorem stoM : Sto mk (fun a b : Mk => a < b) where
  asy := fun a b h => List.lt_asymm h
  tra := fun a b c h1 h2 => List.lt_trans h1 h2
  tri := fun a b => by
    by_cases h : a < b
    · exact .inl h
    · rcases List.le_iff_lt_or_eq.mp (List.not_lt.mp h) with q | q
      · exact .inr (.inr q)
      · exact .inr (.inl q.symm)
  dat := fun a b => by
    show PySem.W.dataLt (.tuple (a.map .int)) (.tuple (b.map .int)) = _
    rw [PySem.W.dataLt_tuple]
    exact PySem.W.dataLt_ints a b
theorem above_refl (xs : Mk) : above xs xs = true := by
  unfold above
  rw [List.all_eq_true]
  intro p hp
  have : p.1 = p.2 := by
    obtain ⟨i, hi, e⟩ := List.getElem_of_mem hp
    rw [List.getElem_zip] at e
    rw [← e]
  simp [this]
theorem above_cons (x y : Int) (xs ys : Mk) : above (x :: xs) (y :: ys) = (decide (y ≤ x) && above xs ys) := by
  unfold above
  simp
theorem above_tra : ∀ {xs ys zs : Mk}, xs.length = ys.length → ys.length = zs.length → above xs ys = true → above ys zs = true → above xs zs = true
  | [], [], [], _, _, _, _ => rfl
  | x :: xs, y :: ys, z :: zs, h1, h2, a, b => by
    rw [above_cons, Bool.and_eq_true, decide_eq_true_eq] at *
    exact ⟨Int.le_trans b.1 a.1, above_tra (by simpa using h1) (by simpa using h2) a.2 b.2⟩
theorem above_le : ∀ {xs ys : Mk}, xs.length = ys.length → above xs ys = true → ys = xs ∨ ys < xs
  | [], [], _, _ => .inl rfl
  | x :: xs, y :: ys, h, a => by
    rw [above_cons, Bool.and_eq_true, decide_eq_true_eq] at a
    by_cases e : y = x
    · subst e
      rcases above_le (by simpa using h) a.2 with q | q
      · exact .inl (by rw [q])
      · exact .inr (List.cons_lt_cons_iff.mpr (.inr ⟨rfl, q⟩))
    · exact .inr (List.cons_lt_cons_iff.mpr (.inl (by omega)))
/-! ### what is left of a sorted list when each one strikes out those it lies beneath -/
def scan {α : Type} (P : α → α → Bool) : List α → List α → List α
  | acc, [] => acc
  | acc, x :: xs => if acc.any (fun y => P y x) = true then scan P acc xs else scan P (acc ++ [x]) xs
theorem scan_min {α : Type} [DecidableEq α] {P : α → α → Bool} {lt : α → α → Prop} (asy : ∀ a b, lt a b → ¬ lt b a) {S : List α} (so : S.Pairwise lt) (tra : ∀ a ∈ S, ∀ b ∈ S, ∀ c ∈ S, P a b = true → P b c = true → P a c = true)
    (le : ∀ a ∈ S, ∀ b ∈ S, P a b = true → a = b ∨ lt a b) (refl : ∀ a ∈ S, P a a = true) : ∀ (xs pre : List α), S = pre ++ xs → scan P (pre.filter fun x => S.all fun y => decide (y = x) || !P y x) xs = S.filter fun x => S.all fun y => decide (y = x) || !P y x
  | [], pre, h => by
    rw [List.append_nil] at h
    subst h
    rfl
  | x :: xs, pre, h => by
    have hx : x ∈ S := by rw [h]; simp
    have hpre : ∀ y ∈ pre, y ∈ S := fun y hy => by rw [h]; simp [hy]
    have so' := so
    rw [h] at so'
    obtain ⟨_, so2, so3⟩ := List.pairwise_append.mp so'
    have so2' := List.pairwise_cons.mp so2
    have key : ((pre.filter fun x => S.all fun y => decide (y = x) || !P y x).any fun y => P y x) = !(S.all fun y => decide (y = x) || !P y x) := by
      rw [Bool.eq_iff_iff, List.any_eq_true, Bool.not_eq_true', List.all_eq_false]
      constructor
      · rintro ⟨y, hy, py⟩
        have hy' := List.mem_filter.mp hy
        have ne : y ≠ x := fun e => by
          have := so3 y hy'.1 x (by simp)
          rw [e] at this
          exact asy _ _ this this
        exact ⟨y, hpre y hy'.1, by simp [ne, py]⟩
      · rintro ⟨y, hy, q⟩
        have ny : y ≠ x ∧ P y x = true := by simpa using q
        -- the first of those above which x lies
        obtain ⟨m, hm, hmin⟩ : ∃ m ∈ S.filter (fun z => P z x), ∀ z ∈ S.filter (fun z => P z x), z = m ∨ lt m z := by
          have sof : (S.filter fun z => P z x).Pairwise lt := so.filter _
          cases hf : S.filter (fun z => P z x) with
          | nil =>
            have : y ∈ S.filter (fun z => P z x) := List.mem_filter.mpr ⟨hy, ny.2⟩
            rw [hf] at this
            cases this
          | cons m r =>
            rw [hf] at sof
            have := (List.pairwise_cons.mp sof).1
            exact ⟨m, by simp, fun z hz => by
              rcases List.mem_cons.mp hz with e | hz
              · exact .inl e
              · exact .inr (this z hz)⟩
        have hm' := List.mem_filter.mp hm
        have mne : m ≠ x := fun e => by
          subst e
          rcases hmin y (List.mem_filter.mpr ⟨hy, ny.2⟩) with q | q
          · exact ny.1 q
          · rcases le y hy m hm'.1 ny.2 with r | r
            · exact ny.1 r
            · exact asy _ _ q r
        have mlt : lt m x := (le m hm'.1 x hx hm'.2).resolve_left mne
        have mpre : m ∈ pre := by
          have : m ∈ pre ++ x :: xs := by rw [← h]; exact hm'.1
          rcases List.mem_append.mp this with q | q
          · exact q
          · rcases List.mem_cons.mp q with q | q
            · exact absurd q mne
            · exact absurd (so2'.1 m q) (asy _ _ mlt)
        refine ⟨m, List.mem_filter.mpr ⟨mpre, ?_⟩, hm'.2⟩
        rw [List.all_eq_true]
        intro z hz
        by_cases e : z = m
        · simp [e]
        · have : P z m = false := by
            cases pz : P z m with
            | false => rfl
            | true =>
              have pzx := tra z hz m hm'.1 x hx pz hm'.2
              rcases hmin z (List.mem_filter.mpr ⟨hz, pzx⟩) with q | q
              · exact absurd q e
              · rcases le z hz m hm'.1 pz with r | r
                · exact absurd r e
                · exact absurd r (asy _ _ q)
          simp [this]
    show (if _ then _ else _) = _
    rw [key]
    have nxt : S = (pre ++ [x]) ++ xs := by rw [h]; simp
    have ih := scan_min asy so tra le refl xs (pre ++ [x]) nxt
    rw [List.filter_append] at ih
    cases hq : S.all fun y => decide (y = x) || !P y x with
    | true =>
      rw [Bool.not_true, if_neg (by decide)]
      have e : ([x].filter fun x => S.all fun y => decide (y = x) || !P y x) = [x] := by
        rw [List.filter_cons, hq]
        rfl
      rw [e] at ih
      exact ih
    | false =>
      rw [Bool.not_false, if_pos rfl]
      have e : ([x].filter fun x => S.all fun y => decide (y = x) || !P y x) = [] := by
        rw [List.filter_cons, hq]
        rfl
      rw [e, List.append_nil] at ih
      exact ih
end K60

set_option Elab.async false
set_option linter.all false
set_option maxRecDepth 100000
set_option maxHeartbeats 4000000
/-! Readings: least and greatest marks. -/
namespace K60
open PySem PySem.Spec PyProof.Rows L2 Ab
local macro_rules | `(tactic| walk_at "au") => `(tactic| simp only [aSeq, aNext, aIfS, aRet, aRetN, aAsg, agN, agNil, agCons, agTup, aVar, aC, aOp, aB, aAnd, aOr, aNot, aAndV, aOrV, aNotV, aIf, aNil, aCons, aTup, aLst, aMut, aCall, aDrop, aBreak, aCont, aAug, aAugS, agSub, fSet, aPar, aNeg, aSl, aPart, aNoPart, fSl,
  fAdd, fSub, fMul, fDiv, fMod, fPow, fLt, fLe, fGt, fGe, fI, fI0, fEq, fNe, fIn, fNotIn, fIsN, fNotN, fIx, fLen, fInt1, fAbs, fMax2, fMin2, fAll, fAny, fTuple, fList, fListM,
  List.getElem?_cons_zero, List.getElem?_cons_succ, List.set_cons_zero, List.set_cons_succ, Option.some.injEq, exists_eq_left', datas, Option.map_some, List.map_cons, List.map_nil])
/-- .. of a def that may leave objects behind -/
abbrev RdF (A : ATS) (N : List Str) (sp : ACall) : Prop := ∀ as μ Q, sp as μ Q → A { nx := fun _ μ' => ∃ μ2, Ab.Sub μ2 μ' ∧ Q (.d .none) μ2, rt := fun v μ' => ∃ μ2, Ab.Sub μ2 μ' ∧ Q v μ2 } (astart N as) μ
theorem seq_call {f : ACall} {a : AT} {ρ : AEnv} {μ : Mu} {R : List AV → Mu → Prop} (h : a ρ μ fun x μ1 => f [x] μ1 fun y μ2 => aiSeq (fun _ μ Q => Q y μ) ρ μ2 R) : aiSeq (aCall f (aCons a aNil)) ρ μ R := h
theorem sub_refl (μ : Mu) : Ab.Sub μ μ := fun _ _ h => h
theorem sub_set {μ μ' : Mu} {l : Addr} {m : MO} (h : Ab.Sub μ μ') (hl : μ l = none) : Ab.Sub μ (mset μ' l m) := fun b x e => by
  have ne : b ≠ l := fun z => by rw [z, hl] at e; cases e
  rw [mset_ne ne]
  exact h b x e
theorem sub_del {μ μ' : Mu} {l : Addr} (h : Ab.Sub μ μ') (hl : μ l = none) : Ab.Sub μ (mdel μ' l) := fun b x e => by
  have ne : b ≠ l := fun z => by rw [z, hl] at e; cases e
  rw [mdel_ne ne]
  exact h b x e
theorem sub_none {μ μ' : Mu} {l : Addr} (h : Ab.Sub μ μ') (hl : μ' l = none) : μ l = none := by
  cases q : μ l with
  | none => rfl
  | some m => rw [h l m q] at hl; cases hl
theorem mapM (L : List Mk) : L.map (fun xs => M xs) = (L.map mk).map AV.d := by rw [List.map_map]; rfl
theorem datasM (L : List Mk) : datas (L.map fun xs => M xs) = some (L.map mk) := by rw [mapM, datas_map]
def foldD (acc : List (NestedKey × AV)) (items : List Mk) : List (NestedKey × AV) := items.foldl (fun acc xs => storeA acc (nk xs) (Bo true)) acc
theorem dcGo_marks {i : Nat} {μ : Mu} {Q : List (NestedKey × AV) → Mu → Prop} : ∀ (items : List Mk) (ρ : AEnv) (acc : List (NestedKey × AV)), i < ρ.length → Q (foldD acc items) μ → dcGo (agN i) aYes (aVar i) (aC (.d (.bool true))) ρ (items.map fun xs => M xs) acc μ Q
  | [], _, _, _, q => q
  | xs :: items, ρ, acc, hi, q => by
    unfold dcGo agN aYes aVar aC
    simp only [if_true, List.getElem?_set_self hi]
    refine ⟨xs.map .num, congrArg AV.d (nk_data xs).symm, nk_depth xs, ?_⟩
    exact dcGo_marks items ρ _ hi q
theorem foldD_keys : ∀ (items : List Mk) (acc : List (NestedKey × AV)) (L : List Mk), acc.map (·.1) = L.map nk → L.Nodup → ∃ L' : List Mk, (foldD acc items).map (·.1) = L'.map nk ∧ L'.Nodup ∧ L'.length ≤ L.length + items.length ∧ ∀ x, x ∈ L' ↔ x ∈ L ∨ x ∈ items
  | [], acc, L, h, nd => ⟨L, h, nd, by simp, fun x => by simp⟩
  | y :: items, acc, L, h, nd => by
    have step : ∃ L1 : List Mk, (storeA acc (nk y) (Bo true)).map (·.1) = L1.map nk ∧ L1.Nodup ∧ L1.length ≤ L.length + 1 ∧ ∀ x, x ∈ L1 ↔ x ∈ L ∨ x = y := by
      unfold storeA
      rw [h]
      by_cases hy : y ∈ L
      · rw [if_pos (List.mem_map.mpr ⟨y, hy, rfl⟩)]
        refine ⟨L, ?_, nd, by omega, fun x => ⟨.inl, fun q => q.elim id fun e => e ▸ hy⟩⟩
        rw [← h, List.map_map]
        refine List.map_congr_left fun p _ => ?_
        show (if p.1 = nk y then (p.1, Bo true) else p).1 = p.1
        split <;> rfl
      · rw [if_neg (fun q => by
          obtain ⟨z, hz, e⟩ := List.mem_map.mp q
          exact hy (nk_inj e ▸ hz))]
        refine ⟨L ++ [y], by simp [h], ?_, by simp, fun x => by simp⟩
        refine List.nodup_append.mpr ⟨nd, by simp, fun a ha b hb => ?_⟩
        have e : b = y := by simpa using hb
        exact fun q => hy (by rw [← e, ← q]; exact ha)
    obtain ⟨L1, e1, n1, l1, m1⟩ := step
    obtain ⟨L', e2, n2, l2, m2⟩ := foldD_keys items _ L1 e1 n1
    refine ⟨L', e2, n2, by simp; omega, fun x => ?_⟩
    rw [m2, m1, List.mem_cons, or_assoc]
theorem keys_data {kvs : List (NestedKey × AV)} {L : List Mk} (h : kvs.map (·.1) = L.map nk) : kvs.map (fun p => p.1.data) = L.map mk := by
  have : kvs.map (fun p => p.1.data) = (kvs.map (·.1)).map NestedKey.data := by rw [List.map_map]; rfl
  rw [this, h, List.map_map]
  exact List.map_congr_left fun x _ => nk_data x
theorem depth_mk (x : Mk) : (mk x).depth ≤ 30 := by
  show PyData.depth (.tuple (x.map .int)) ≤ 30
  rw [PyData.depth, PySem.W.depth_ints]
  decide
theorem sortOkM {n : Nat} (hn : 1 ≤ n) {L : List Mk} (h : Len n L) : SortOk (L.map mk) where
  al := PySem.W.AllAlike.of fun b b' => by
    show PySem.W.alike (.tuple (b.map .int)) (.tuple (b'.map .int)) = true
    rw [PySem.W.alike]
    exact PySem.W.alike_ints b b'
  so := .inl fun d hd => by
    obtain ⟨x, hx, rfl⟩ := List.mem_map.mp hd
    have := h x hx
    cases x with
    | nil => simp at this; omega
    | cons y r => exact ⟨.int y, r.map .int, rfl⟩
  dp := fun d hd => by
    obtain ⟨x, hx, rfl⟩ := List.mem_map.mp hd
    exact depth_mk x
theorem body_least {D : AEnds} {a0 a3 : Option AV} {l : Addr} {x : Mk} {acc : List Mk} {μ : Mu} (hl : μ l = some (.lst (acc.map fun xs => M xs))) (hz : acc.length < sizeLine)
    (k : if (acc.any fun y => above x y) = true then D.nx [a0, some (.v (.ref l)), some (M x), a3] μ else D.nx [a0, some (.v (.ref l)), some (M x), a3] (mset μ l (.lst ((acc ++ [x]).map fun xs => M xs)))) :
    A_least_marks_3 D [a0, some (.v (.ref l)), some (M x), a3] μ := by
  unfold A_least_marks_3 A_least_marks_4
  refine ⟨l, _, _, rfl, hl, datasM acc, ?_⟩
  refine ⟨x, false, acc, rfl, ?_⟩
  show if (!aboveSome x acc) = true then _ else _
  have e : aboveSome x acc = acc.any fun y => above x y := rfl
  rw [e]
  cases h : (acc.any fun y => above x y) with
  | true =>
    rw [h, if_pos rfl] at k
    exact k
  | false =>
    rw [h, if_neg (by decide)] at k
    refine ⟨⟨_, hl⟩, _, hl, by simpa using hz, ?_⟩
    rw [List.map_append] at k
    exact k
theorem loop_least {D : AEnds} {a0 a3 : Option AV} {l : Addr} {μ0 : Mu} (h0 : μ0 l = none) {F : List Mk} (k : ∀ o2 μ', Ab.Sub μ0 μ' → μ' l = some (.lst (F.map fun xs => M xs)) → D.nx [a0, some (.v (.ref l)), o2, a3] μ') :
    ∀ (xs acc : List Mk) (o2 : Option AV) (μ : Mu), μ l = some (.lst (acc.map fun xs => M xs)) → acc.length + xs.length ≤ 1000 → Ab.Sub μ0 μ → scan (fun y x => above x y) acc xs = F → forGo (agN 2) A_least_marks_3 D (xs.map fun xs => M xs) [a0, some (.v (.ref l)), o2, a3] μ
  | [], acc, o2, μ, hl, _, hs, hF => by
    subst hF
    exact k o2 μ hs hl
  | x :: xs, acc, o2, μ, hl, hz, hs, hF => by
    have hz' : acc.length < sizeLine := by rw [sizeLine_eq]; simp at hz; omega
    show A_least_marks_3 _ [a0, some (.v (.ref l)), some (M x), a3] μ
    refine body_least hl hz' ?_
    unfold scan at hF
    cases h : (acc.any fun y => above x y) with
    | true =>
      rw [h, if_pos rfl] at hF
      rw [if_pos rfl]
      exact loop_least h0 k xs acc _ μ hl (by simp at hz; omega) hs hF
    | false =>
      rw [h, if_neg (by decide)] at hF
      rw [if_neg (by decide)]
      exact loop_least h0 k xs (acc ++ [x]) _ _ mset_same (by simp at hz ⊢; omega) (sub_set hs h0) hF
theorem srt_leB : (fun a b : Mk => decide (a ≤ b)) = leB (fun a b : Mk => a < b) := by
  funext a b
  show decide (a ≤ b) = !decide (b < a)
  by_cases h : b < a
  · have : ¬ a ≤ b := fun q => List.not_lt.mpr q h
    simp [h, this]
  · have : a ≤ b := List.not_lt.mp h
    simp [h, this]
theorem srt_pw (L : List Mk) : (srt L).Pairwise (fun a b => a < b) := by
  unfold srt
  rw [srt_leB]
  exact stoM.sorted nodup_uniq
theorem mem_srt {L : List Mk} {x : Mk} : x ∈ srt L ↔ x ∈ L := by
  unfold srt
  rw [(List.mergeSort_perm _ _).mem_iff, mem_uniq]
theorem len_srt {L : List Mk} : (srt L).length ≤ L.length := by
  unfold srt
  rw [List.length_mergeSort]
  exact len_uniq
theorem srt_of {R L : List Mk} (h : R.Pairwise fun a b => a < b) (hm : ∀ x, x ∈ R ↔ x ∈ L) : R = srt L :=
  sorted_uniq stoM.asy h (srt_pw L) fun x => by rw [hm, mem_srt]
theorem mem_minL {some : List Mk} {x : Mk} : x ∈ minL some ↔ x ∈ some ∧ isMin some x = true := by unfold minL; rw [mem_srt, List.mem_filter]
theorem mem_maxL {some : List Mk} {x : Mk} : x ∈ maxL some ↔ x ∈ some ∧ isMax some x = true := by unfold maxL; rw [mem_srt, List.mem_filter]
theorem all_congr_mem {α : Type} {l m : List α} {p : α → Bool} (h : ∀ x, x ∈ l ↔ x ∈ m) : l.all p = m.all p := by
  rw [Bool.eq_iff_iff, List.all_eq_true, List.all_eq_true]
  exact ⟨fun q x hx => q x ((h x).mpr hx), fun q x hx => q x ((h x).mp hx)⟩
/-- what the loop over the sorted ones leaves -/
theorem scan_least {n : Nat} {some S : List Mk} (hl : Len n some) (so : S.Pairwise fun a b => a < b) (hm : ∀ x, x ∈ S ↔ x ∈ some) : scan (fun y x => above x y) [] S = minL some := by
  have hlS : Len n S := fun x hx => hl x ((hm x).mp hx)
  have e := scan_min (P := fun y x => above x y) (lt := fun a b : Mk => a < b) stoM.asy so (fun a ha b hb c hc p q => above_tra ((hlS c hc).trans (hlS b hb).symm) ((hlS b hb).trans (hlS a ha).symm) q p)
    (fun a ha b hb p => above_le ((hlS b hb).trans (hlS a ha).symm) p) (fun a _ => above_refl a) S [] rfl
  rw [show ([] : List Mk).filter (fun x => S.all fun y => decide (y = x) || !above x y) = [] from rfl] at e
  rw [e]
  refine srt_of (so.filter _) fun x => ?_
  rw [List.mem_filter, List.mem_filter, hm]
  have : (S.all fun y => decide (y = x) || !above x y) = isMin some x := all_congr_mem hm
  rw [this]
theorem rd_least_marks : RdF A_least_marks N_least_marks sp_least_marks := by
  rintro as μ Q ⟨n, t, some, rfl, hn, hl, hz, q⟩
  have es : astart N_least_marks [.d (seqD t (some.map mk))] = [.some (.d (seqD t (some.map mk))), none, none, none] := rfl
  rw [es]
  unfold A_least_marks
  refine ⟨Nat.zero_le _, fun l hln => ?_⟩
  show A_least_marks_2 _ [.some (.d (seqD t (some.map mk))), .some (.v (.ref l)), none, none] (mset μ l (.lst []))
  unfold A_least_marks_2
  unfold aSeq aFor
  refine seq_call ?_
  unfold aDc
  refine seq_var (t := t) (ds := some.map mk) rfl ?_
  rw [← mapM]
  refine dcGo_marks some _ [] (by show 3 < 4; decide) fun Dd hD => ?_
  obtain ⟨L, eL, nL, lL, mL⟩ := foldD_keys some [] [] rfl List.nodup_nil
  have hlL : Len n L := fun x hx => hl x (by simpa using (mL x).mp hx)
  have ed := keys_data eL
  show ∃ kvs, _
  refine ⟨_, mset_same, by rw [ed]; exact sortOkM hn hlL, ?_⟩
  rw [ed, stoM.sort_eq]
  show forGo _ _ _ _ _ _
  have hne : Dd ≠ l := fun e => by rw [e, mset_same] at hD; cases hD
  have hDμ : μ Dd = none := by rw [mset_ne hne] at hD; exact hD
  rw [← mapM]
  refine loop_least (F := minL some) (μ0 := μ) hln (fun o2 μ' hs hl' => ?_) _ [] none _ ?_ ?_ ?_ ?_
  · unfold A_least_marks_5
    show match μ' l with | .some (.lst as) => ∃ ds, datas as = .some ds ∧ _ | _ => False
    rw [hl']
    exact ⟨_, datasM _, μ, hs, q⟩
  · rw [mset_ne (Ne.symm hne), mset_same]; rfl
  · rw [List.length_mergeSort]; simp at lL ⊢; omega
  · exact sub_set (sub_set (sub_refl μ) hln) hDμ
  · refine scan_least hl (stoM.sorted nL) fun x => ?_
    rw [(List.mergeSort_perm _ _).mem_iff, mL]
    simp

theorem map_filter_fm {α β : Type} {p : α → Bool} {f : α → β} : ∀ l : List α, (l.filter p).map f = l.filterMap fun a => if p a = true then some (f a) else none
  | [] => rfl
  | a :: l => by
    rw [List.filter_cons, List.filterMap_cons]
    by_cases h : p a = true
    · rw [if_pos h, if_pos h, List.map_cons, map_filter_fm l]
    · rw [if_neg h, if_neg h, map_filter_fm l]
theorem fm_congr {α β : Type} {f g : α → Option β} : ∀ {l : List α}, (∀ a ∈ l, f a = g a) → l.filterMap f = l.filterMap g
  | [], _ => rfl
  | a :: l, h => by
    rw [List.filterMap_cons, List.filterMap_cons, h a (by simp), fm_congr fun b hb => h b (by simp [hb])]
theorem turn_one {g : ATG} {te : AT} {ρ : AEnv} {x : AV} {μ : Mu} {d : PyData} (h : ∀ k : AV → Mu → Prop, k (.d d) μ → g x ρ μ fun ρ2 μ2 => te ρ2 μ2 k) : Turn g aYes te ρ x μ (some d) := fun k hk => h (fun y μ => k (some y) μ) hk
theorem body_greatest {D : AEnds} {a0 a3 : Option AV} {l : Addr} {x : Mk} {acc : List Mk} {μ : Mu} (hl : μ l = some (.lst (acc.map fun xs => M xs))) (hz : acc.length < sizeLine)
    (k : if (acc.any fun y => above y x) = true then D.nx [a0, some (.v (.ref l)), some (M x), a3] μ else D.nx [a0, some (.v (.ref l)), some (M x), a3] (mset μ l (.lst ((acc ++ [x]).map fun xs => M xs)))) :
    A_greatest_marks_3 D [a0, some (.v (.ref l)), some (M x), a3] μ := by
  unfold A_greatest_marks_3 A_greatest_marks_4
  refine ⟨l, _, _, rfl, hl, datasM acc, ?_⟩
  unfold aNot aB aCall aCons
  refine aLc_map (fun ys : Mk => M ys) (fun ys => .bool (above ys x)) acc ?_ ?_ ?_
  · exact fun R h => seq_var (t := false) (ds := acc.map mk) rfl (by rw [← mapM]; exact h)
  · exact fun ys _ => turn_one fun k hk => ⟨ys, x, rfl, hk⟩
  · refine ⟨acc.map fun ys => above ys x, by rw [List.map_map]; rfl, ?_⟩
    show if (!_) = true then _ else _
    have e : ((acc.map fun ys => above ys x).any id) = acc.any fun y => above y x := by rw [List.any_map]; rfl
    rw [e]
    cases h : (acc.any fun y => above y x) with
    | true =>
      rw [h, if_pos rfl] at k
      exact k
    | false =>
      rw [h, if_neg (by decide)] at k
      refine ⟨⟨_, hl⟩, _, hl, by simpa using hz, ?_⟩
      rw [List.map_append] at k
      exact k
theorem loop_greatest {D : AEnds} {a0 a3 : Option AV} {l : Addr} {μ0 : Mu} (h0 : μ0 l = none) {F : List Mk} (k : ∀ o2 μ', Ab.Sub μ0 μ' → μ' l = some (.lst (F.map fun xs => M xs)) → D.nx [a0, some (.v (.ref l)), o2, a3] μ') :
    ∀ (xs acc : List Mk) (o2 : Option AV) (μ : Mu), μ l = some (.lst (acc.map fun xs => M xs)) → acc.length + xs.length ≤ 1000 → Ab.Sub μ0 μ → scan (fun y x => above y x) acc xs = F → forGo (agN 2) A_greatest_marks_3 D (xs.map fun xs => M xs) [a0, some (.v (.ref l)), o2, a3] μ
  | [], acc, o2, μ, hl, _, hs, hF => by
    subst hF
    exact k o2 μ hs hl
  | x :: xs, acc, o2, μ, hl, hz, hs, hF => by
    have hz' : acc.length < sizeLine := by rw [sizeLine_eq]; simp at hz; omega
    show A_greatest_marks_3 _ [a0, some (.v (.ref l)), some (M x), a3] μ
    refine body_greatest hl hz' ?_
    unfold scan at hF
    cases h : (acc.any fun y => above y x) with
    | true =>
      rw [h, if_pos rfl] at hF
      rw [if_pos rfl]
      exact loop_greatest h0 k xs acc _ μ hl (by simp at hz; omega) hs hF
    | false =>
      rw [h, if_neg (by decide)] at hF
      rw [if_neg (by decide)]
      exact loop_greatest h0 k xs (acc ++ [x]) _ _ mset_same (by simp at hz ⊢; omega) (sub_set hs h0) hF
theorem scan_greatest {n : Nat} {some S : List Mk} (hl : Len n some) (so : S.Pairwise fun a b => b < a) (hm : ∀ x, x ∈ S ↔ x ∈ some) : (scan (fun y x => above y x) [] S).Nodup ∧ ∀ x, x ∈ scan (fun y x => above y x) [] S ↔ x ∈ some ∧ isMax some x = true := by
  have hlS : Len n S := fun x hx => hl x ((hm x).mp hx)
  have e := scan_min (P := fun y x => above y x) (lt := fun a b : Mk => b < a) (fun a b h => stoM.asy b a h) so (fun a ha b hb c hc p q => above_tra ((hlS a ha).trans (hlS b hb).symm) ((hlS b hb).trans (hlS c hc).symm) p q)
    (fun a ha b hb p => (above_le ((hlS a ha).trans (hlS b hb).symm) p).imp Eq.symm id) (fun a _ => above_refl a) S [] rfl
  rw [show ([] : List Mk).filter (fun x => S.all fun y => decide (y = x) || !above y x) = [] from rfl] at e
  rw [e]
  refine ⟨(List.Pairwise.imp (fun {a b} h q => by subst q; exact stoM.asy _ _ h h) so).filter _, fun x => ?_⟩
  rw [List.mem_filter, hm]
  have : (S.all fun y => decide (y = x) || !above y x) = isMax some x := all_congr_mem hm
  rw [this]
theorem scan_len {α : Type} {P : α → α → Bool} : ∀ (xs acc : List α), (scan P acc xs).length ≤ acc.length + xs.length
  | [], acc => by simp [scan]
  | x :: xs, acc => by
    unfold scan
    have h1 := scan_len (P := P) xs acc
    have h2 := scan_len (P := P) xs (acc ++ [x])
    split <;> simp at * <;> omega
theorem rd_greatest_marks : RdF A_greatest_marks N_greatest_marks sp_greatest_marks := by
  rintro as μ Q ⟨n, t, some, rfl, hn, hl, hz, q⟩
  have es : astart N_greatest_marks [.d (seqD t (some.map mk))] = [.some (.d (seqD t (some.map mk))), none, none, none] := rfl
  rw [es]
  unfold A_greatest_marks
  refine ⟨Nat.zero_le _, fun l hln => ?_⟩
  show A_greatest_marks_2 _ [.some (.d (seqD t (some.map mk))), .some (.v (.ref l)), none, none] (mset μ l (.lst []))
  unfold A_greatest_marks_2
  unfold aSeq aFor
  refine seq_call ?_
  unfold aDc
  refine seq_var (t := t) (ds := some.map mk) rfl ?_
  rw [← mapM]
  refine dcGo_marks some _ [] (by show 3 < 4; decide) fun Dd hD => ?_
  obtain ⟨L, eL, nL, lL, mL⟩ := foldD_keys some [] [] rfl List.nodup_nil
  have hlL : Len n L := fun x hx => hl x (by simpa using (mL x).mp hx)
  have ed := keys_data eL
  show ∃ kvs, _
  refine ⟨_, mset_same, by rw [ed]; exact sortOkM hn hlL, ?_⟩
  rw [ed, stoM.sortR_eq]
  show forGo _ _ _ _ _ _
  have hne : Dd ≠ l := fun e => by rw [e, mset_same] at hD; cases hD
  have hDμ : μ Dd = none := by rw [mset_ne hne] at hD; exact hD
  rw [← mapM]
  have hS := scan_greatest (S := L.mergeSort fun a b => leB (fun a b : Mk => a < b) b a) hl (stoM.sortedR nL) fun x => by
    rw [(List.mergeSort_perm _ _).mem_iff, mL]
    simp
  refine loop_greatest (μ0 := μ) hln (fun o2 μ' hs hl' => ?_) _ [] none _ ?_ ?_ ?_ rfl
  · generalize scan (fun y x => above y x) [] (L.mergeSort fun a b => leB (fun a b : Mk => a < b) b a) = F at hS hl'
    unfold A_greatest_marks_5
    refine ⟨l, _, _, rfl, hl', datasM F, ?_⟩
    have hlF : Len n F := fun x hx => hl x ((hS.2 x).mp hx).1
    refine ⟨sortOkM hn hlF, ?_⟩
    rw [stoM.sort_eq]
    refine ⟨μ, sub_del hs hln, ?_⟩
    have e : F.mergeSort (leB fun a b : Mk => a < b) = maxL some := srt_of (stoM.sorted hS.1) fun x => by
      rw [(List.mergeSort_perm _ _).mem_iff, hS.2, List.mem_filter]
    rw [e]
    exact q
  · rw [mset_ne (Ne.symm hne), mset_same]; rfl
  · rw [List.length_mergeSort]; simp at lL ⊢; omega
  · exact sub_set (sub_set (sub_refl μ) hln) hDμ
theorem rd_least_above : Rd A_least_above N_least_above sp_least_above := by
  rintro as μ Q ⟨xs, ys, rfl, q⟩
  unfold A_least_above aRet aCall aCons
  refine aLc_map (fun p : Int × Int => AV.d (.tuple [.int p.1, .int p.2])) (fun p => .int (max p.1 p.2)) (xs.zip ys) ?_ ?_ ?_
  · exact fun R h => zip_it h
  · exact fun p _ => turn_one fun k hk => ⟨p.1, [p.2], rfl, hk⟩
  · have e : (lub xs ys).map PyData.int = (xs.zip ys).map fun p => PyData.int (max p.1 p.2) := by
      unfold lub
      rw [List.map_map]
      rfl
    show Q (.d (.tuple _)) μ
    rw [← e]
    exact q
theorem rd_are_within : Rd A_are_within N_are_within sp_are_within := by
  rintro as μ Q ⟨some, others, rfl, q⟩
  unfold A_are_within aRet aCall aCons
  refine aLc_map (fun ys : Mk => M ys) (fun ys => .bool (aboveSome ys others)) some ?_ ?_ ?_
  · exact fun R h => seq_var (t := false) (ds := some.map mk) rfl (by rw [← mapM]; exact h)
  · exact fun ys _ => turn_one fun k hk => ⟨ys, false, others, rfl, hk⟩
  · refine ⟨some.map fun ys => aboveSome ys others, by rw [List.map_map]; rfl, ?_⟩
    rw [List.all_map]
    exact q
theorem rd_grown : Rd A_grown N_grown sp_grown := by
  rintro as μ Q ⟨xs, ys, rfl, q⟩
  unfold A_grown aRet aCall aCons
  have hz : enumZipD (xs.map .int) (ys.map .int) = ((xs.zip ys).zipIdx).map fun p : (Int × Int) × Nat => AV.d (.tuple [.int (p.2 : Int), .tuple [.int p.1.1, .int p.1.2]]) := by
    unfold enumZipD
    rw [List.zip_map, List.zipIdx_map, List.map_map]
    rfl
  refine aLc_if (fun p : (Int × Int) × Nat => AV.d (.tuple [.int (p.2 : Int), .tuple [.int p.1.1, .int p.1.2]])) (fun p => if p.1.1 < p.1.2 then some (.int (p.2 : Int)) else none) ((xs.zip ys).zipIdx) ?_ ?_ ?_
  · intro R h
    show R (enumZipD (xs.map .int) (ys.map .int)) μ
    rw [hz]
    exact h
  · intro p _ k hk
    refine ⟨rfl, rfl, rfl, rfl, ?_⟩
    show if decide (p.1.1 < p.1.2) = true then k (some (I (p.2 : Int))) μ else k none μ
    by_cases h : p.1.1 < p.1.2
    · rw [if_pos h] at hk
      rw [if_pos (decide_eq_true h)]
      exact hk
    · rw [if_neg h] at hk
      rw [if_neg (by simpa using h)]
      exact hk
  · have e : (grownM xs ys).map PyData.int = ((xs.zip ys).zipIdx).filterMap fun p => if p.1.1 < p.1.2 then some (PyData.int (p.2 : Int)) else none := by
      unfold grownM
      rw [List.map_map, map_filter_fm]
      refine fm_congr fun p _ => ?_
      by_cases h : p.1.1 < p.1.2
      · rw [if_pos h, if_pos (decide_eq_true h)]; rfl
      · rw [if_neg h, if_neg (by simpa using h)]
    show Q (.d (.tuple _)) μ
    rw [← e]
    exact q
end K60

set_option Elab.async false
set_option linter.all false
set_option maxRecDepth 100000
set_option maxHeartbeats 4000000
/-! Readings: the rest of marks, and of the law's own. -/
namespace K60
open PySem PySem.Spec PyProof.Rows L2 Ab
/-! ### shapes, equality -/
theorem canLay_ints : ∀ xs : List Int, PyData.canLayAll0 (xs.map .int) = true
  | [] => rfl
  | x :: xs => by
    show PyData.canLayAll0 (.int x :: xs.map .int) = true
    rw [PyData.canLayAll0, canLay_ints xs]
    rfl
theorem canLay_mk (x : Mk) : (mk x).canLay0 = true := by
  show PyData.canLay0 (.tuple (x.map .int)) = true
  rw [PyData.canLay0]
  exact canLay_ints x
theorem canLay_all {α : Type} {f : α → PyData} (h : ∀ x, (f x).canLay0 = true) : ∀ xs : List α, PyData.canLayAll0 (xs.map f) = true
  | [] => rfl
  | x :: xs => by
    show PyData.canLayAll0 (f x :: xs.map f) = true
    rw [PyData.canLayAll0, h x, canLay_all h xs]
    rfl
theorem depth_all {α : Type} {f : α → PyData} {n : Nat} (h : ∀ x, (f x).depth ≤ n) : ∀ xs : List α, PyData.depthAll (xs.map f) ≤ n
  | [] => Nat.zero_le _
  | x :: xs => by
    show PyData.depthAll (f x :: xs.map f) ≤ n
    rw [PyData.depthAll]
    exact Nat.max_le.mpr ⟨h x, depth_all h xs⟩
theorem sh_of {d : PyData} (h : d.canLay0 = true) (h2 : d.depth ≤ 64) : SeqAt.shaped d = true := by
  unfold SeqAt.shaped
  rw [h, decide_eq_true h2]
  rfl
theorem depth_mk1 (x : Mk) : (mk x).depth ≤ 1 := by
  show PyData.depth (.tuple (x.map .int)) ≤ 1
  rw [PyData.depth, PySem.W.depth_ints]
  decide
theorem sh_mk (x : Mk) : SeqAt.shaped (mk x) = true := sh_of (canLay_mk x) (Nat.le_trans (depth_mk1 x) (by decide))
theorem sh_list {α : Type} {f : α → PyData} {n : Nat} (h : ∀ x, (f x).canLay0 = true) (h2 : ∀ x, (f x).depth ≤ n) (hn : n ≤ 60) (xs : List α) : SeqAt.shaped (.list (xs.map f)) = true :=
  sh_of (by rw [PyData.canLay0]; exact canLay_all h xs) (by rw [PyData.depth]; have := depth_all h2 xs; omega)
theorem sh_tuple {α : Type} {f : α → PyData} {n : Nat} (h : ∀ x, (f x).canLay0 = true) (h2 : ∀ x, (f x).depth ≤ n) (hn : n ≤ 60) (xs : List α) : SeqAt.shaped (.tuple (xs.map f)) = true :=
  sh_of (by rw [PyData.canLay0]; exact canLay_all h xs) (by rw [PyData.depth]; have := depth_all h2 xs; omega)
theorem sh_marks (xs : List Mk) : SeqAt.shaped (.list (xs.map mk)) = true := sh_list canLay_mk depth_mk1 (by decide) xs
theorem sh_marksT (xs : List Mk) : SeqAt.shaped (.tuple (xs.map mk)) = true := sh_tuple canLay_mk depth_mk1 (by decide) xs
theorem sh_ints (xs : List Int) : SeqAt.shaped (.list (xs.map .int)) = true := sh_list (f := PyData.int) (n := 0) (fun _ => rfl) (fun _ => Nat.le_refl _) (by decide) xs
theorem sh_nil : SeqAt.shaped (.list []) = true := rfl
theorem eqv_all {α : Type} [DecidableEq α] {f : α → PyData} (h : ∀ x y, PyData.eqv (f x) (f y) = decide (x = y)) : ∀ xs ys : List α, PyData.eqvAll (xs.map f) (ys.map f) = decide (xs = ys)
  | [], [] => by unfold PyData.eqvAll; simp
  | [], _ :: _ => by unfold PyData.eqvAll; simp
  | _ :: _, [] => by unfold PyData.eqvAll; simp
  | x :: xs, y :: ys => by
    show PyData.eqvAll (f x :: xs.map f) (f y :: ys.map f) = _
    unfold PyData.eqvAll
    rw [h, eqv_all h xs ys]
    by_cases e : x = y <;> by_cases e2 : xs = ys <;> simp [e, e2]
theorem eqv_mk (x y : Mk) : PyData.eqv (mk x) (mk y) = decide (x = y) := by
  show PyData.eqv (.tuple (x.map .int)) (.tuple (y.map .int)) = _
  unfold PyData.eqv
  exact eqv_all eqv_int x y
theorem eqv_marksT (xs ys : List Mk) : PyData.eqv (.tuple (xs.map mk)) (.tuple (ys.map mk)) = decide (xs = ys) := by
  unfold PyData.eqv
  exact eqv_all eqv_mk xs ys
theorem eqv_marks (xs ys : List Mk) : PyData.eqv (.list (xs.map mk)) (.list (ys.map mk)) = decide (xs = ys) := by
  unfold PyData.eqv
  exact eqv_all eqv_mk xs ys
theorem eqv_nil (ds : List PyData) : PyData.eqv (.list ds) (.list []) = ds.isEmpty := by
  unfold PyData.eqv
  cases ds <;> simp [PyData.eqvAll]
/-! ### readings -/
theorem rd_are_same_above : Rd A_are_same_above N_are_same_above sp_are_same_above := by
  rintro as μ Q ⟨n, some, others, rfl, hn, h1, h2, z1, z2, q⟩
  refine ⟨n, false, some, rfl, hn, h1, z1, n, false, others, rfl, hn, h2, z2, sh_marksT _, sh_marksT _, ?_⟩
  rw [eqv_marksT]
  exact q
theorem rd_in_both : Rd A_in_both N_in_both sp_in_both := by
  rintro as μ Q ⟨n, some, others, rfl, hn, h1, h2, z1, z2, q⟩
  unfold A_in_both aRet aCall aCons aLc2
  refine seq_var (t := false) (ds := some.map mk) rfl ?_
  rw [← mapM]
  have inner : ∀ (a : Mk) (os acc : List Mk) (ρ : AEnv) (R : List AV → Mu → Prop), ρ.length = 4 → ρ[2]? = .some (.some (M a)) → acc.length + os.length ≤ 1000 → R ((acc ++ os.map fun b => lub a b).map fun xs => M xs) μ →
      lcGoB (agN 3) aYes (fun ρ μ Q => aVar 2 ρ μ fun x μ1 => aVar 3 ρ μ1 fun y μ2 => aNil ρ μ2 fun xs μ3 => sp_least_above (x :: y :: xs) μ3 Q) ρ (os.map fun xs => M xs) (acc.map fun xs => M xs) μ R := by
    intro a os
    induction os with
    | nil => intro acc ρ R _ _ _ h; simpa [lcGoB] using h
    | cons b os ih =>
      intro acc ρ R hρ h2' hz h
      rw [List.map_cons]
      unfold lcGoB agN aYes aVar
      simp only [if_true]
      rw [List.getElem?_set_ne (by decide : (3 : Nat) ≠ 2), h2', List.getElem?_set_self (by omega)]
      refine ⟨a, b, rfl, by rw [List.length_map, sizeLine_eq]; simp at hz; omega, ?_⟩
      have := ih (acc ++ [lub a b]) ρ R hρ h2' (by simp at hz ⊢; omega) (by simpa using h)
      rw [List.map_append] at this
      exact this
  have outer : ∀ (ss acc : List Mk) (R : List AV → Mu → Prop), acc.length + ss.length * others.length ≤ 1000 → R ((acc ++ latt ss others).map fun xs => M xs) μ →
      lc2Go (agN 2) aYes (aiSeq (aVar 1)) (agN 3) aYes (fun ρ μ Q => aVar 2 ρ μ fun x μ1 => aVar 3 ρ μ1 fun y μ2 => aNil ρ μ2 fun xs μ3 => sp_least_above (x :: y :: xs) μ3 Q) [3] (awipe (astart N_in_both [.d (.list (some.map mk)), .d (.list (others.map mk))]) [2, 3]) (ss.map fun xs => M xs) (acc.map fun xs => M xs) μ R := by
    intro ss
    induction ss with
    | nil => intro acc R _ h; simpa [lc2Go, latt] using h
    | cons a ss ih =>
      intro acc R hz h
      rw [List.map_cons]
      unfold lc2Go agN aYes
      simp only [if_true]
      refine seq_var (t := false) (ds := others.map mk) rfl ?_
      rw [← mapM]
      have hz' : acc.length + others.length + ss.length * others.length ≤ 1000 := by
        rw [List.length_cons, Nat.succ_mul] at hz
        omega
      refine inner a others acc _ _ rfl rfl (by omega) ?_
      refine ih (acc ++ others.map fun b => lub a b) R (by rw [List.length_append, List.length_map]; omega) ?_
      have e : latt (a :: ss) others = (others.map fun b => lub a b) ++ latt ss others := rfl
      rw [e, ← List.append_assoc] at h
      exact h
  have lz : some.length * others.length ≤ 400 := Nat.mul_le_mul z1 z2
  refine outer some [] _ (by simp; omega) ⟨_, by rw [List.nil_append]; exact datasM _, n, false, latt some others, rfl, hn, ?_, ?_, q⟩
  · intro x hx
    obtain ⟨a, ha, hx⟩ := List.mem_flatMap.mp hx
    obtain ⟨b, hb, rfl⟩ := List.mem_map.mp hx
    unfold lub
    rw [List.length_map, List.length_zip, h1 a ha, h2 b hb, Nat.min_self]
  · unfold latt
    rw [List.length_flatMap]
    have : (some.map fun a => (others.map fun b => lub a b).length).sum = some.length * others.length := by
      clear z1 lz h1 q outer
      induction some with
      | nil => simp
      | cons a s ih => rw [List.map_cons, List.sum_cons, ih, List.length_map, List.length_cons, Nat.succ_mul]; omega
    rw [this]
    omega
theorem rd_is_place_above : Rd A_is_place_above N_is_place_above sp_is_place_above := by
  rintro as μ Q ⟨p, ps, rfl, q⟩
  unfold A_is_place_above aRet aCall aCons aOp aVar aC
  refine ⟨mk p.2, ix1, ?_⟩
  refine aLc_if (fun r : Pl => AV.d (plD r)) (fun r => if r.1 = p.1 then some (mk r.2) else none) ps ?_ ?_ ?_
  · exact fun R h => seq_var (i := 1) (t := true) (ds := ps.map plD) rfl (by rw [List.map_map]; exact h)
  · intro r _ k hk
    refine ⟨rfl, rfl, .int p.1, ix0, rfl, rfl, ?_⟩
    show if PyData.eqv (.int r.1) (.int p.1) = true then k (some (M r.2)) μ else k none μ
    rw [eqv_int]
    by_cases h : r.1 = p.1
    · rw [if_pos h] at hk
      rw [if_pos (decide_eq_true h)]
      exact hk
    · rw [if_neg h] at hk
      rw [if_neg (by simpa using h)]
      exact hk
  · refine ⟨p.2, false, (ps.filter fun r => decide (r.1 = p.1)).map (·.2), ?_, q⟩
    have e : ps.filterMap (fun r => if r.1 = p.1 then some (mk r.2) else none) = ((ps.filter fun r => decide (r.1 = p.1)).map (·.2)).map mk := by
      rw [List.map_map, map_filter_fm]
      refine fm_congr fun r _ => ?_
      by_cases h : r.1 = p.1
      · rw [if_pos h, if_pos (decide_eq_true h)]; rfl
      · rw [if_neg h, if_neg (by simpa using h)]
    rw [e]
    rfl
theorem rd__law_is_above : Rd A__law_is_above N__law_is_above sp__law_is_above := by
  rintro as μ Q ⟨xs, ys, rfl, q⟩
  unfold A__law_is_above aRet aOp
  refine aLc_if (fun p : Int × Int => AV.d (.tuple [.int p.1, .int p.2])) (fun p => if p.1 < p.2 then some (.int 1) else none) (xs.zip ys) ?_ ?_ ?_
  · exact fun R h => zip_it h
  · intro p _ k hk
    refine ⟨rfl, rfl, ?_⟩
    show if decide (p.1 < p.2) = true then k (some (I 1)) μ else k none μ
    by_cases h : p.1 < p.2
    · rw [if_pos h] at hk
      rw [if_pos (decide_eq_true h)]
      exact hk
    · rw [if_neg h] at hk
      rw [if_neg (by simpa using h)]
      exact hk
  · have e : (xs.zip ys).filterMap (fun p => if p.1 < p.2 then some (PyData.int 1) else none) = (((xs.zip ys).filter fun p => decide (p.1 < p.2)).map fun _ => (1 : Int)).map .int := by
      rw [List.map_map, map_filter_fm]
      refine fm_congr fun r _ => ?_
      by_cases h : r.1 < r.2
      · rw [if_pos h, if_pos (decide_eq_true h)]; rfl
      · rw [if_neg h, if_neg (by simpa using h)]
    rw [e]
    refine ⟨[], rfl, Nat.zero_le _, sh_ints _, sh_nil, ?_⟩
    rw [eqv_nil]
    have e2 : ((((xs.zip ys).filter fun p => decide (p.1 < p.2)).map fun _ => (1 : Int)).map PyData.int).isEmpty = above xs ys := by
      rw [List.isEmpty_map, List.isEmpty_map, Bool.eq_iff_iff, List.isEmpty_iff, List.filter_eq_nil_iff]
      unfold above
      rw [List.all_eq_true]
      exact forall_congr' fun p => forall_congr' fun _ => by simp
    rw [e2]
    exact q
theorem rd__law_in : Rd A__law_in N__law_in sp__law_in := by
  rintro as μ Q ⟨t, some, xs, rfl, q⟩
  unfold A__law_in aRet aOp
  refine aLc_if (fun ys : Mk => M ys) (fun ys => if above xs ys = true then .some (.int 1) else none) some ?_ ?_ ?_
  · exact fun R h => seq_var (t := t) (ds := some.map mk) rfl (by rw [← mapM]; exact h)
  · intro ys _ k hk
    refine ⟨xs, ys, rfl, ?_⟩
    show if above xs ys = true then k (.some (I 1)) μ else k none μ
    by_cases h : above xs ys = true
    · rw [if_pos h] at hk ⊢
      exact hk
    · rw [if_neg h] at hk ⊢
      exact hk
  · have e : some.filterMap (fun ys => if above xs ys = true then Option.some (PyData.int 1) else none) = ((some.filter fun ys => above xs ys).map fun _ => (1 : Int)).map .int := by
      rw [List.map_map, map_filter_fm]
      rfl
    rw [e]
    refine ⟨[], rfl, Nat.zero_le _, sh_ints _, sh_nil, ?_⟩
    rw [eqv_nil]
    have e2 : (!(((some.filter fun ys => above xs ys).map fun _ => (1 : Int)).map PyData.int).isEmpty) = aboveSome xs some := by
      rw [List.isEmpty_map, List.isEmpty_map, Bool.eq_iff_iff]
      unfold aboveSome
      rw [List.any_eq_true]
      cases hf : some.filter fun ys => above xs ys with
      | nil =>
        have := List.filter_eq_nil_iff.mp hf
        simpa using this
      | cons y r =>
        have : y ∈ some.filter fun ys => above xs ys := by rw [hf]; simp
        have := List.mem_filter.mp this
        simp only [List.isEmpty_cons, Bool.not_false, true_iff]
        exact ⟨y, this.1, this.2⟩
    rw [e2]
    exact q
end K60

set_option Elab.async false
set_option linter.all false
set_option maxRecDepth 100000
set_option maxHeartbeats 4000000
/-! Readings: rises, the bag, drawn marks, all marks, alike. -/
namespace K60
open PySem PySem.Spec PyProof.Rows L2 Ab
/-! ### rises -/
theorem atI_nat {α : Type} {l : List α} {i : Nat} {x : α} (h : l[i]? = some x) : atI l (i : Int) = some x := by
  have hi : i < l.length := (List.getElem?_eq_some_iff.mp h).1
  unfold atI ixN
  rw [if_pos (by omega)]
  have := (List.getElem?_eq_some_iff.mp h).2
  simpa [hi] using this
theorem rise_in {D : AEnds} {line : List Mk} {later : Nat} (hl : later < line.length) (o3 : Option AV) (μ : Mu) : ∀ (ats : List Nat), (∀ i ∈ ats, i < line.length) → ∀ (o3 : Option AV),
    (match (ats.filter fun i => above (line.getD later []) (line.getD i [])).head? with
      | some i => D.rt (.d (riseD (some (i, later)))) μ
      | none => ∀ o, D.nx [some (.d (.list (line.map mk))), some (I later), some (M (line.getD later [])), o] μ) →
    forGo (agN 3) A_first_rise_3 D (ats.map fun i => I (i : Nat)) [some (.d (.list (line.map mk))), some (I later), some (M (line.getD later [])), o3] μ
  | [], _, o3, h => h o3
  | i :: ats, hi, o3, h => by
    have hil : i < line.length := hi i (by simp)
    show A_first_rise_3 _ [some (.d (.list (line.map mk))), some (I later), some (M (line.getD later [])), some (I (i : Nat))] μ
    unfold A_first_rise_3 A_first_rise_4
    refine ⟨mk (line.getD i []), atI_nat ?_, line.getD later [], line.getD i [], rfl, ?_⟩
    · rw [List.getElem?_map, List.getElem?_eq_getElem hil]
      simp [List.getD_eq_getElem?_getD, List.getElem?_eq_getElem hil]
    · rw [List.filter_cons] at h
      cases ha : above (line.getD later []) (line.getD i []) with
      | true =>
        rw [ha, if_pos rfl] at h
        show if true = true then _ else _
        rw [if_pos rfl]
        exact ⟨[.int i, .int later], rfl, by show 2 ≤ sizeLine; decide, h⟩
      | false =>
        rw [ha, if_neg (by decide)] at h
        show if false = true then _ else _
        rw [if_neg (by decide)]
        exact rise_in hl o3 μ ats (fun j hj => hi j (by simp [hj])) _ h
theorem rangeI_eq (lo : Int) (n : Nat) : rangeI lo n = (List.range n).map fun (i : Nat) => I (lo + i) := by
  unfold rangeI
  rfl
theorem rise_out {D : AEnds} {line : List Mk} (hz : line.length ≤ 1000) (μ : Mu) : ∀ (ls : List Nat), (∀ i ∈ ls, i < line.length) → ∀ (o1 o2 o3 : Option AV),
    (match (ls.flatMap fun later => ((List.range later).filter fun i => above (line.getD later []) (line.getD i [])).map fun i => (i, later)).head? with
      | some p => D.rt (.d (riseD (some p))) μ
      | none => ∀ o1 o2 o3, D.nx [some (.d (.list (line.map mk))), o1, o2, o3] μ) →
    forGo (agTup 2 (agCons (agN 1) (agCons (agN 2) agNil))) A_first_rise_2 D (ls.map fun (i : Nat) => AV.d (.tuple [.int (i : Nat), mk (line.getD i [])])) [some (.d (.list (line.map mk))), o1, o2, o3] μ
  | [], _, o1, o2, o3, h => h o1 o2 o3
  | later :: ls, hi, o1, o2, o3, h => by
    have hil : later < line.length := hi later (by simp)
    rw [List.map_cons]
    unfold forGo
    refine ⟨rfl, rfl, ?_⟩
    show A_first_rise_2 _ [some (.d (.list (line.map mk))), some (I (later : Nat)), some (M (line.getD later [])), o3] μ
    unfold A_first_rise_2
    refine ⟨by omega, by omega, ?_⟩
    rw [rangeI_eq]
    have e0 : ((List.range ((later : Int)).toNat).map fun (i : Nat) => I (0 + i)) = (List.range later).map fun i => I (i : Nat) := by simp
    rw [e0]
    refine rise_in hil o3 μ (List.range later) (fun i hi => by have := List.mem_range.mp hi; omega) o3 ?_
    rw [List.flatMap_cons] at h
    cases hf : (List.range later).filter fun i => above (line.getD later []) (line.getD i []) with
    | nil =>
      rw [hf] at h
      intro o
      exact rise_out hz μ ls (fun j hj => hi j (by simp [hj])) _ _ _ h
    | cons i r =>
      rw [hf] at h
      exact h
theorem rd_first_rise : Rd A_first_rise N_first_rise sp_first_rise := by
  rintro as μ Q ⟨line, rfl, hz, q⟩
  unfold A_first_rise aSeq aFor
  have he : enumD (line.map mk) = (List.range line.length).map fun (i : Nat) => AV.d (.tuple [.int (i : Nat), mk (line.getD i [])]) := by
    unfold enumD
    apply List.ext_getElem?
    intro i
    by_cases h : i < line.length
    · simp [h, List.getD_eq_getElem?_getD]
    · rw [List.getElem?_eq_none (by simp; omega), List.getElem?_eq_none (by simp; omega)]
  show forGo _ _ _ (enumD (line.map mk)) [some (.d (.list (line.map mk))), none, none, none] μ
  rw [he]
  refine rise_out hz μ _ (fun i hi => List.mem_range.mp hi) none none none ?_
  have er : ((List.range line.length).flatMap fun later => ((List.range later).filter fun i => above (line.getD later []) (line.getD i [])).map fun i => (i, later)) = rises line := rfl
  rw [er]
  cases hr : (rises line).head? with
  | none =>
    rw [hr] at q
    intro o1 o2 o3
    exact q
  | some p =>
    rw [hr] at q
    exact q
/-! ### the bag -/
theorem rd__law_bag (KK : Kw) : Rd (A__law_bag KK) N__law_bag (sp__law_bag KK) := by
  rintro as μ Q ⟨a, ns, rfl, hs, hl, q⟩
  unfold A__law_bag aRet aMut aCons aC aNil
  have hcut : Ab.cutD (ns.map PyData.int) none (some 63) = ns.map PyData.int := by
    unfold Ab.cutD HT.sIx
    simp
    rw [List.take_of_length_le (by simp; omega)]
  refine aLc_map (fun n : Int => I n) (fun n => .int (if n < 0 then -n else n)) ns ?_ ?_ ?_
  · intro R h
    unfold aiSeq
    refine ⟨ns, hs, by rw [sizeLine_eq]; omega, ?_⟩
    show R ((Ab.cutD (ns.map PyData.int) none (some 63)).map AV.d) μ
    rw [hcut, List.map_map]
    exact h
  · intro n _
    exact turn_one fun k hk => hk
  · refine ⟨by show 4 ≤ sizeLine; decide, fun l hln => ?_⟩
    have := q l hln
    unfold BagM bag0 at this
    rw [List.map_map] at this
    have e : ns.map (fun n : Int => PyData.int (if n < 0 then -n else n)) = ns.map (PyData.int ∘ fun n => (n.natAbs : Int)) := List.map_congr_left fun n _ => by
      have h : (if n < 0 then -n else n) = (n.natAbs : Int) := by split <;> omega
      rw [h]
      rfl
    rw [← e] at this
    exact this
/-! ### drawn marks -/
theorem rd__law_marks : Rd A__law_marks N__law_marks sp__law_marks := by
  rintro as μ Q ⟨b, n, β, rfl, hb, hok, h0, h10, q⟩
  unfold A__law_marks aRet aCall aCons aLc
  refine ⟨by omega, by omega, ?_⟩
  rw [rangeI_eq]
  have key : ∀ (is : List Nat) (acc : List Int) (β : Bag) (μ1 : Mu) (R : List AV → Mu → Prop), μ1 b = some (BagM β) → β.Ok → (∀ x ∈ acc, 0 ≤ x ∧ x < 4) → (∀ (β' : Bag) (xs : List Int), β'.Ok → xs.length = acc.length + is.length → (∀ x ∈ xs, 0 ≤ x ∧ x < 4) → R (xs.map fun x => I x) (mset μ1 b (BagM β'))) →
      lcGo (agN 2) aYes (fun ρ μ Q => aVar 0 ρ μ fun x μ1 => aC (.d (.int 4)) ρ μ1 fun x_1 μ2 => aNil ρ μ2 fun xs μ3 => sp__law_take (x :: x_1 :: xs) μ3 Q) (awipe (astart N__law_marks [.v (.ref b), I n]) [2]) (is.map fun (i : Nat) => I (0 + i)) (acc.map fun x => I x) μ1 R := by
    intro is
    induction is with
    | nil =>
      intro acc β μ1 R hb hok ha k
      have := k β acc hok (by simp) ha
      rw [mset_self hb] at this
      simpa [lcGo] using this
    | cons i is ih =>
      intro acc β μ1 R hb hok ha k
      rw [List.map_cons]
      unfold lcGo
      refine ⟨b, 4, β, rfl, hb, hok, by omega, by omega, fun β' r ok' r0 r1 => ?_⟩
      have := ih (acc ++ [r]) β' (mset μ1 b (BagM β')) R mset_same ok' (fun x hx => by
        rcases List.mem_append.mp hx with h | h
        · exact ha x h
        · rw [List.mem_singleton.mp h]; exact ⟨r0, r1⟩) fun β'' xs ok'' hl hx => by
          rw [mset_mset]
          exact k β'' xs ok'' (by simp at hl ⊢; omega) hx
      rw [List.map_append] at this
      exact this
  refine key _ [] β μ _ hb hok (by simp) fun β' xs ok' hl hx => ⟨xs.map .int, ?_, ?_⟩
  · have : xs.map (fun x => I x) = (xs.map PyData.int).map AV.d := by rw [List.map_map]; rfl
    rw [this, datas_map]
  · refine q β' xs ok' ?_ hx
    rw [hl]
    simp
    omega
/-! ### moved -/
theorem rd__law_moved : Rd A__law_moved N__law_moved sp__law_moved := by
  rintro as μ Q ⟨xs, cs, rfl, q⟩
  unfold A__law_moved aSeq aAsg aCall aCons
  refine aLc_map (fun p : Int × Int => AV.d (.tuple [.int p.1, .int p.2])) (fun p => .int (p.1 + p.2)) (xs.zip cs) ?_ ?_ ?_
  · exact fun R h => zip_it h
  · exact fun p _ k hk => ⟨rfl, rfl, hk⟩
  · have e : (xs.zip cs).map (fun p => PyData.int (p.1 + p.2)) = (moved xs cs).map .int := by
      unfold moved
      rw [List.map_map]
      rfl
    rw [e]
    show A__law_moved_2 _ [some (M xs), some (M cs), some (M (moved xs cs)), none, none] μ
    generalize moved xs cs = ms at q ⊢
    unfold A__law_moved_2 aRet aIf aB aOp
    refine aLc_if (fun m : Int => I m) (fun m => if m < 0 then some (.int 1) else none) ms ?_ ?_ ?_
    · exact fun R h => seq_var (t := true) (ds := ms.map .int) rfl (by rw [List.map_map]; exact h)
    · intro m _ k hk
      show if decide (m < 0) = true then k (some (I 1)) μ else k none μ
      by_cases h : m < 0
      · rw [if_pos h] at hk
        rw [if_pos (decide_eq_true h)]
        exact hk
      · rw [if_neg h] at hk
        rw [if_neg (by simpa using h)]
        exact hk
    · have e : ms.filterMap (fun m => if m < 0 then some (PyData.int 1) else none) = ((ms.filter fun m => decide (m < 0)).map fun _ => (1 : Int)).map .int := by
        rw [List.map_map, map_filter_fm]
        refine fm_congr fun r _ => ?_
        by_cases h : r < 0
        · rw [if_pos h, if_pos (decide_eq_true h)]; rfl
        · rw [if_neg h, if_neg (by simpa using h)]
      rw [e]
      refine ⟨[], rfl, Nat.zero_le _, sh_ints _, sh_nil, ?_⟩
      rw [eqv_nil]
      have e2 : (((ms.filter fun m => decide (m < 0)).map fun _ => (1 : Int)).map PyData.int).isEmpty = ms.all fun x => decide (0 ≤ x) := by
        rw [List.isEmpty_map, List.isEmpty_map, Bool.eq_iff_iff, List.isEmpty_iff, List.filter_eq_nil_iff, List.all_eq_true]
        exact forall_congr' fun p => forall_congr' fun _ => by simp
      rw [e2]
      cases h : ms.all fun x => decide (0 ≤ x) with
      | true =>
        rw [h, if_pos rfl] at q
        exact q
      | false =>
        rw [h, if_neg (by decide)] at q
        exact q
end K60

set_option Elab.async false
set_option linter.all false
set_option maxRecDepth 100000
set_option maxHeartbeats 4000000
/-! Readings: alike, all marks. -/
namespace K60
open PySem PySem.Spec PyProof.Rows L2 Ab
/-! ### alike -/
def nodesP : List PyData → Nat
  | [] => 0
  | d :: ds => nodes d + nodesP ds
theorem nodesP_append : ∀ xs ys : List PyData, nodesP (xs ++ ys) = nodesP xs + nodesP ys
  | [], ys => by simp [nodesP]
  | x :: xs, ys => by simp [nodesP, nodesP_append xs ys]; omega
theorem nodesP_all : ∀ xs : List PyData, nodesP xs = nodesAll xs
  | [] => rfl
  | x :: xs => by simp [nodesP, nodesAll, nodesP_all xs]
theorem nodes_pos (d : PyData) : 1 ≤ nodes d := by cases d <;> simp [nodes]
theorem len_nodesP : ∀ xs : List PyData, xs.length ≤ nodesP xs
  | [] => Nat.le_refl _
  | x :: xs => by
    have := nodes_pos x
    have := len_nodesP xs
    simp [nodesP]
    omega
def dbl (d : PyData) : AV := .d (.tuple [d, d])
theorem pairs_dbl (ds : List PyData) : (pairsD ds ds).map AV.d = ds.map dbl := by
  unfold pairsD
  induction ds with
  | nil => rfl
  | cons d ds ih =>
    simp only [List.zip_cons_cons, List.map_cons]
    rw [ih]
    rfl
theorem plain_mem : ∀ {ds : List PyData}, numDs ds = true → ∀ d ∈ ds, numD d = true
  | [], _, d, hd => by cases hd
  | x :: xs, h, d, hd => by
    have h' := Bool.and_eq_true_iff.mp h
    rcases List.mem_cons.mp hd with e | hd
    · rw [e]; exact h'.1
    · exact plain_mem h'.2 d hd
/-- one turn: what stands at k is looked at, its parts are put behind -/
theorem alike_turn {D : AEnds} {a0 a1 o4 o5 : Option AV} {l : Addr} {P : List PyData} {k : Nat} {d : PyData} {μ : Mu} (hl : μ l = some (.lst (P.map dbl))) (hk : P[k]? = some d) (hp : numD d = true) (hz : P.length + nodes d ≤ 2000000)
    (q : ∀ o4 o5, match d with
      | .list ds => D.nx [a0, a1, some (.v (.ref l)), some (I (k + 1 : Nat)), o4, o5] (mset μ l (.lst ((P ++ ds).map dbl)))
      | .tuple ds => D.nx [a0, a1, some (.v (.ref l)), some (I (k + 1 : Nat)), o4, o5] (mset μ l (.lst ((P ++ ds).map dbl)))
      | _ => D.nx [a0, a1, some (.v (.ref l)), some (I (k + 1 : Nat)), o4, o5] μ) :
    A__law_alike_3 D [a0, a1, some (.v (.ref l)), some (I (k : Nat)), o4, o5] μ := by
  unfold A__law_alike_3 aSeq aAsg aOp aVar
  show match μ l with | some (.lst as) => ∃ e, atI as (k : Nat) = some e ∧ _ | _ => False
  rw [hl]
  refine ⟨dbl d, atI_nat (by rw [List.getElem?_map, hk]; rfl), rfl, rfl, ?_⟩
  show A__law_alike_4 D [a0, a1, some (.v (.ref l)), some (I (k : Nat)), some (.d d), some (.d d)] μ
  unfold A__law_alike_4
  show A__law_alike_5 D [a0, a1, some (.v (.ref l)), some (I ((k : Nat) + 1)), some (.d d), some (.d d)] μ
  have q' := q (some (.d d)) (some (.d d))
  have ek : (((k + 1 : Nat)) : Int) = (k : Int) + 1 := by omega
  rw [ek] at q'
  clear q
  have one : ∀ b : Bool, SeqAt.shaped (.bool b) = true := fun _ => rfl
  have eqb : ∀ b : Bool, (!PyData.eqv (.bool b) (.bool b)) = false := fun b => by unfold PyData.eqv; cases b <;> rfl
  unfold A__law_alike_5
  refine ⟨one _, one _, ?_⟩
  show if (!PyData.eqv (.bool _) (.bool _)) = true then _ else _
  rw [eqb, if_neg (by decide)]
  refine ⟨one _, one _, ?_⟩
  show if (!PyData.eqv (.bool _) (.bool _)) = true then _ else _
  rw [eqb, if_neg (by decide)]
  show A__law_alike_7 D [a0, a1, some (.v (.ref l)), some (I ((k : Nat) + 1)), some (.d d), some (.d d)] μ
  unfold A__law_alike_7
  refine ⟨one _, one _, ?_⟩
  show if (!PyData.eqv (.bool _) (.bool _)) = true then _ else _
  rw [eqb, if_neg (by decide)]
  show A__law_alike_9 D [a0, a1, some (.v (.ref l)), some (I ((k : Nat) + 1)), some (.d d), some (.d d)] μ
  unfold A__law_alike_9
  have atom : SeqAt.shaped d = true → PyData.eqv d d = true → D.nx [a0, a1, some (.v (.ref l)), some (I ((k : Nat) + 1)), some (.d d), some (.d d)] μ → A__law_alike_13 D [a0, a1, some (.v (.ref l)), some (I ((k : Nat) + 1)), some (.d d), some (.d d)] μ := fun h1 h2 h3 => by
    unfold A__law_alike_13
    refine ⟨h1, h1, ?_⟩
    show if (!PyData.eqv d d) = true then _ else _
    rw [h2]
    exact h3
  have grow : ∀ (ds : List PyData), nodesAll ds + 1 = nodes d → (∀ μ (Q : AV → Mu → Prop), Q (.d (.int ds.length)) μ → fLen [.d d] μ Q) → (∀ μ (Q : AV → Mu → Prop), Q (.d (.list (pairsD ds ds))) μ → fListZip [.d d, .d d] μ Q) →
      D.nx [a0, a1, some (.v (.ref l)), some (I ((k : Nat) + 1)), some (.d d), some (.d d)] (mset μ l (.lst ((P ++ ds).map dbl))) → A__law_alike_10 D [a0, a1, some (.v (.ref l)), some (I ((k : Nat) + 1)), some (.d d), some (.d d)] μ := fun ds hn hlen hzip h3 => by
    unfold A__law_alike_10 aSeq aIfS
    refine ⟨one _, one _, ?_⟩
    show if (!PyData.eqv (.bool _) (.bool _)) = true then _ else _
    rw [eqb, if_neg (by decide)]
    simp only [aB, aOp, aCall, aCons, aNil, aVar, List.getElem?_cons_succ, List.getElem?_cons_zero]
    refine hlen _ _ ?_
    refine hlen _ _ ?_
    refine ⟨rfl, rfl, ?_⟩
    have e1 : (!PyData.eqv (.int ds.length) (.int ds.length)) = false := by rw [eqv_int]; simp
    show if (!PyData.eqv (.int _) (.int _)) = true then _ else _
    rw [e1, if_neg (by decide)]
    show A__law_alike_12 D [a0, a1, some (.v (.ref l)), some (I ((k : Nat) + 1)), some (.d d), some (.d d)] μ
    unfold A__law_alike_12
    refine ⟨⟨_, hl⟩, ?_⟩
    simp only [aB, aOp, aCall, aCons, aNil, aVar, List.getElem?_cons_succ, List.getElem?_cons_zero]
    refine hzip _ _ ?_
    refine ⟨_, hl, ?_, ?_⟩
    · have h5 := len_nodesP ds
      rw [nodesP_all] at h5
      have h6 : (pairsD ds ds).length ≤ ds.length := by unfold pairsD; rw [List.length_map, List.length_zip, Nat.min_self]; exact Nat.le_refl _
      rw [List.length_map, sizeLine_eq]
      omega
    · rw [pairs_dbl, ← List.map_append]
      exact h3
  cases d with
  | none => exact atom rfl rfl q'
  | bool b => exact atom rfl (by cases b <;> rfl) q'
  | int i => exact atom rfl (by rw [eqv_int]; simp) q'
  | str x => cases hp
  | list ds => exact grow ds rfl (fun _ _ h => h) (fun _ _ h => h) q'
  | tuple ds => exact grow ds rfl (fun _ _ h => h) (fun _ _ h => h) q'
  | dict _ => cases hp
theorem rd__law_alike : RdF A__law_alike N__law_alike sp__law_alike := by
  rintro as μ Q ⟨x, rfl, hp, hz, q⟩
  unfold A__law_alike aSeq aPar aCons aMut aTup
  refine ⟨[x, x], rfl, by show 2 ≤ sizeLine; decide, by show 1 ≤ sizeLine; decide, fun l hln => ?_⟩
  show A__law_alike_2 _ [some (.d x), some (.d x), some (.v (.ref l)), some (I 0), none, none] (mset μ l (.lst [dbl x]))
  unfold A__law_alike_2 aSeq aWhile
  have key : ∀ (m : Nat) (P : List PyData) (k : Nat) (o4 o5 : Option AV) (μ' : Mu), nodesP (P.drop k) + 1 ≤ m → P.length + nodesP (P.drop k) ≤ nodes x + 1 + (P.drop k).length → (∀ d ∈ P.drop k, numD d = true) → k ≤ P.length → μ' l = some (.lst (P.map dbl)) → Ab.Sub μ μ' →
      whGo (aB (aOp fLt (aVar 3) (aCall fLen (aCons (aVar 2) aNil)))) A__law_alike_3 { nx := aRet (aC (.d (.bool true))) { nx := fun _ μ' => ∃ μ2, Ab.Sub μ2 μ' ∧ Q (.d .none) μ2, rt := fun v μ' => ∃ μ2, Ab.Sub μ2 μ' ∧ Q v μ2 }, rt := fun v μ' => ∃ μ2, Ab.Sub μ2 μ' ∧ Q v μ2 } m [some (.d x), some (.d x), some (.v (.ref l)), some (I (k : Nat)), o4, o5] μ' := by
    intro m
    induction m with
    | zero => intro P k o4 o5 μ' h1; omega
    | succ m ih =>
      intro P k o4 o5 μ' h1 h2 h3 h4 hl hs
      unfold whGo
      show match μ' l with | some (.lst as) => _ | _ => False
      rw [hl]
      show if decide ((k : Int) < ((P.map dbl).length : Int)) = true then _ else _
      by_cases hk : k < P.length
      · rw [if_pos (by rw [List.length_map]; simpa using hk)]
        obtain ⟨d, hd, hdr⟩ := drop_at hk
        rw [hdr] at h1 h2 h3
        have hpd := h3 d (by simp)
        simp only [nodesP, List.length_cons] at h1 h2
        have hlen := len_nodesP (P.drop (k + 1))
        refine alike_turn hl hd hpd (by omega) fun o4 o5 => ?_
        have dropA : ∀ ds : List PyData, (P ++ ds).drop (k + 1) = P.drop (k + 1) ++ ds := fun ds => List.drop_append_of_le_length (by omega)
        have grow : ∀ ds : List PyData, nodesAll ds + 1 = nodes d → numDs ds = true → whGo (aB (aOp fLt (aVar 3) (aCall fLen (aCons (aVar 2) aNil)))) A__law_alike_3 { nx := aRet (aC (.d (.bool true))) { nx := fun _ μ' => ∃ μ2, Ab.Sub μ2 μ' ∧ Q (.d .none) μ2, rt := fun v μ' => ∃ μ2, Ab.Sub μ2 μ' ∧ Q v μ2 }, rt := fun v μ' => ∃ μ2, Ab.Sub μ2 μ' ∧ Q v μ2 } m [some (.d x), some (.d x), some (.v (.ref l)), some (I (k + 1 : Nat)), o4, o5] (mset μ' l (.lst ((P ++ ds).map dbl))) := fun ds hn hpl => by
          refine ih (P ++ ds) (k + 1) o4 o5 _ ?_ ?_ ?_ ?_ mset_same (sub_set hs hln)
          · rw [dropA, nodesP_append, nodesP_all ds]; omega
          · rw [dropA, nodesP_append, nodesP_all ds, List.length_append, List.length_append]; omega
          · intro e he
            rw [dropA] at he
            rcases List.mem_append.mp he with h | h
            · exact h3 e (by simp [h])
            · exact plain_mem hpl e h
          · rw [List.length_append]; omega
        have stay : nodes d = 1 → whGo (aB (aOp fLt (aVar 3) (aCall fLen (aCons (aVar 2) aNil)))) A__law_alike_3 { nx := aRet (aC (.d (.bool true))) { nx := fun _ μ' => ∃ μ2, Ab.Sub μ2 μ' ∧ Q (.d .none) μ2, rt := fun v μ' => ∃ μ2, Ab.Sub μ2 μ' ∧ Q v μ2 }, rt := fun v μ' => ∃ μ2, Ab.Sub μ2 μ' ∧ Q v μ2 } m [some (.d x), some (.d x), some (.v (.ref l)), some (I (k + 1 : Nat)), o4, o5] μ' := fun hn =>
          ih P (k + 1) o4 o5 μ' (by omega) (by omega) (fun e he => h3 e (by simp [he])) hk hl hs
        cases d with
        | none => exact stay rfl
        | bool b => exact stay rfl
        | int i => exact stay rfl
        | str x => cases hpd
        | list ds => exact grow ds rfl hpd
        | tuple ds => exact grow ds rfl hpd
        | dict _ => cases hpd
      · rw [if_neg (by rw [List.length_map]; simpa using hk)]
        exact ⟨μ, hs, q⟩
  refine ⟨nodes x + 1, key _ [x] 0 none none _ ?_ ?_ ?_ ?_ ?_ ?_⟩
  · simp [nodesP]
  · simp [nodesP]; omega
  · intro d hd
    have : d = x := by simpa using hd
    rw [this]; exact hp
  · simp
  · exact mset_same
  · exact sub_set (sub_refl μ) hln
end K60

set_option Elab.async false
set_option linter.all false
set_option maxRecDepth 100000
set_option maxHeartbeats 4000000
/-! Readings: all marks, the law's own least places. -/
namespace K60
open PySem PySem.Spec PyProof.Rows L2 Ab
/-! ### all marks -/
def ext (k : Nat) (one : Mk) : List Mk := (List.range (k + 1)).map fun (i : Nat) => one ++ [(Int.ofNat i)]
theorem all_inner {D : AEnds} {a0 a2 a3 a6 : Option AV} {k : Nat} (hk : k ≤ 7) (μ : Mu) : ∀ (L acc : List Mk) (o5 : Option AV), (∀ x ∈ L, x.length ≤ 10) → acc.length + L.length * (k + 1) ≤ 100000 →
    (∀ o5, D.nx [a0, some (I (k : Nat)), a2, a3, some (.d (.list ((acc ++ L.flatMap (ext k)).map mk))), o5, a6] μ) →
    forGo (agN 5) A__law_all_marks_5 D (L.map fun xs => M xs) [a0, some (I (k : Nat)), a2, a3, some (.d (.list (acc.map mk))), o5, a6] μ
  | [], acc, o5, _, _, q => by
    have := q o5
    rw [List.flatMap_nil, List.append_nil] at this
    exact this
  | one :: L, acc, o5, hl, hz, q => by
    rw [List.map_cons]
    unfold forGo
    show A__law_all_marks_5 _ [a0, some (I (k : Nat)), a2, a3, some (.d (.list (acc.map mk))), some (M one), a6] μ
    unfold A__law_all_marks_5 aAsg aOp aVar
    refine aLc_map (fun i : Nat => I (0 + (i : Nat))) (fun i => mk (one ++ [(i : Int)])) (List.range (k + 1)) ?_ ?_ ?_
    · intro R h
      refine ⟨by omega, by omega, ?_⟩
      rw [rangeI_eq]
      have e : ((k : Int) + 1).toNat = k + 1 := by omega
      rw [e]
      exact h
    · intro i hi
      refine turn_one fun k' hk' => ?_
      refine ⟨[.int (0 + (i : Nat))], rfl, by show 1 ≤ sizeLine; decide, ?_, ?_⟩
      · have := hl one (by simp)
        show (one.map PyData.int).length + 1 ≤ sizeLine
        rw [List.length_map, sizeLine_eq]
        omega
      · have e : (one.map PyData.int) ++ [PyData.int (0 + (i : Nat))] = (one ++ [(i : Int)]).map PyData.int := by simp
        show k' (.d (.tuple ((one.map PyData.int) ++ [PyData.int (0 + (i : Nat))]))) μ
        rw [e]
        exact hk'
    · have e : (List.range (k + 1)).map (fun i : Nat => mk (one ++ [(i : Int)])) = (ext k one).map mk := by
        unfold ext
        rw [List.map_map]
        rfl
      rw [e]
      refine ⟨?_, ?_⟩
      · rw [List.length_cons, Nat.succ_mul] at hz
        rw [List.length_map, List.length_map, sizeLine_eq]
        unfold ext
        rw [List.length_map, List.length_range]
        omega
      · rw [← List.map_append]
        show forGo (agN 5) A__law_all_marks_5 D (L.map fun xs => M xs) [a0, some (I (k : Nat)), a2, a3, some (.d (.list ((acc ++ ext k one).map mk))), some (M one), a6] μ
        refine all_inner hk μ L (acc ++ ext k one) _ (fun x hx => hl x (by simp [hx])) ?_ fun o5 => ?_
        · rw [List.length_cons, Nat.succ_mul] at hz
          rw [List.length_append]
          unfold ext
          rw [List.length_map, List.length_range]
          omega
        · have := q o5
          rw [List.flatMap_cons, ← List.append_assoc] at this
          exact this
theorem allM_len : ∀ (n k : Nat), (∀ x ∈ allM n k, x.length = n) ∧ (allM n k).length = (k + 1) ^ n
  | 0, k => ⟨fun x hx => by simp [allM] at hx; simp [hx], by simp [allM]⟩
  | n + 1, k => by
    obtain ⟨h1, h2⟩ := allM_len n k
    refine ⟨fun x hx => ?_, ?_⟩
    · obtain ⟨one, ho, hx⟩ := List.mem_flatMap.mp hx
      obtain ⟨i, _, rfl⟩ := List.mem_map.mp hx
      simp [h1 one ho]
    · have hs : ∀ L : List Mk, (L.flatMap (ext k)).length = L.length * (k + 1) := by
        intro L
        induction L with
        | nil => simp
        | cons a L ih => rw [List.flatMap_cons, List.length_append, ih, List.length_cons, Nat.succ_mul]; unfold ext; rw [List.length_map, List.length_range]; omega
      show ((allM n k).flatMap (ext k)).length = _
      rw [hs, h2, Nat.pow_succ]
theorem all_outer {D : AEnds} {a0 : Option AV} {k : Nat} (hk : k ≤ 7) (μ : Mu) : ∀ (is : List Nat) (j : Nat), j + is.length ≤ 3 → ∀ (o3 o4 o5 o6 : Option AV), (∀ o3 o4 o5 o6, D.nx [a0, some (I (k : Nat)), some (.d (.list ((allM (j + is.length) k).map mk))), o3, o4, o5, o6] μ) →
    forGo (agN 3) A__law_all_marks_3 D (is.map fun (i : Nat) => I (0 + i)) [a0, some (I (k : Nat)), some (.d (.list ((allM j k).map mk))), o3, o4, o5, o6] μ
  | [], j, _, o3, o4, o5, o6, q => q o3 o4 o5 o6
  | i :: is, j, hj, o3, o4, o5, o6, q => by
    rw [List.map_cons]
    unfold forGo
    show A__law_all_marks_3 _ [a0, some (I (k : Nat)), some (.d (.list ((allM j k).map mk))), some (I (0 + i)), o4, o5, o6] μ
    unfold A__law_all_marks_3
    refine ⟨[], rfl, Nat.zero_le _, ?_⟩
    show A__law_all_marks_4 _ [a0, some (I (k : Nat)), some (.d (.list ((allM j k).map mk))), some (I (0 + i)), some (.d (.list [])), o5, o6] μ
    unfold A__law_all_marks_4 aSeq aFor
    refine seq_var (t := false) (ds := (allM j k).map mk) rfl ?_
    rw [← mapM]
    obtain ⟨l1, l2⟩ := allM_len j k
    have hb : (allM j k).length * (k + 1) ≤ 4096 := by
      rw [l2, ← Nat.pow_succ]
      simp at hj
      calc (k + 1) ^ (j + 1) ≤ 8 ^ (j + 1) := Nat.pow_le_pow_left (by omega) _
        _ ≤ 8 ^ 4 := Nat.pow_le_pow_right (by decide) (by omega)
        _ = 4096 := by decide
    refine all_inner hk μ (allM j k) [] _ (fun x hx => by rw [l1 x hx]; simp at hj; omega) (by simp; omega) fun o5 => ?_
    show forGo (agN 3) A__law_all_marks_3 D (is.map fun (i : Nat) => I (0 + i)) [a0, some (I (k : Nat)), some (.d (.list ((allM (j + 1) k).map mk))), some (I (0 + i)), some (.d (.list ((allM (j + 1) k).map mk))), o5, o6] μ
    refine all_outer hk μ is (j + 1) (by simp at hj; omega) _ _ _ _ fun o3 o4 o5 o6 => ?_
    have e : j + 1 + is.length = j + (i :: is).length := by simp; omega
    rw [e]
    exact q o3 o4 o5 o6
theorem rd__law_all_marks : Rd A__law_all_marks N__law_all_marks sp__law_all_marks := by
  rintro as μ Q ⟨n, k, rfl, hn, hk, q⟩
  unfold A__law_all_marks
  refine ⟨[], rfl, Nat.zero_le _, [.tuple []], rfl, by show 1 ≤ sizeLine; decide, ?_⟩
  show A__law_all_marks_2 _ [some (I n), some (I k), some (.d (.list ((allM 0 k).map mk))), none, none, none, none] μ
  unfold A__law_all_marks_2 aSeq aFor
  refine ⟨by omega, by omega, ?_⟩
  rw [rangeI_eq]
  have e : ((n : Int)).toNat = n := by omega
  rw [e]
  refine all_outer hk μ (List.range n) 0 (by simp; omega) _ _ _ _ fun o3 o4 o5 o6 => ?_
  rw [List.length_range, Nat.zero_add]
  exact q
/-! ### places -/
def pk (p : Pl) : NestedKey := .tup [.num p.1, nk p.2]
theorem pk_data (p : Pl) : (pk p).data = plD p := by
  show PyData.tuple [PyData.int p.1, (nk p.2).data] = _
  rw [nk_data]
  rfl
theorem pk_depth (p : Pl) : (pk p).depth ≤ 8 := by
  show max (NestedKey.depth (.num p.1)) (max (NestedKey.depth (nk p.2)) 0) + 1 ≤ 8
  have : (nk p.2).depth = 1 := by
    show NestedKey.depthAll (p.2.map .num) + 1 = 1
    rw [depthAll_num]
  rw [this]
  show max 0 (max 1 0) + 1 ≤ 8
  decide
theorem pk_inj {p q : Pl} (h : pk p = pk q) : p = q := by
  injection h with h
  injection h with h1 h2
  injection h2 with h2 _
  injection h1 with h1
  exact Prod.ext h1 (nk_inj h2)
theorem plD_can (p : Pl) : (plD p).canLay0 = true := by
  show PyData.canLay0 (.tuple [.int p.1, mk p.2]) = true
  simp only [PyData.canLay0, PyData.canLayAll0, canLay_mk, Bool.and_true]
theorem plD_depth (p : Pl) : (plD p).depth ≤ 2 := by
  show PyData.depth (.tuple [.int p.1, mk p.2]) ≤ 2
  have := depth_mk1 p.2
  simp only [PyData.depth, PyData.depthAll]
  omega
theorem sh_plD (p : Pl) : SeqAt.shaped (plD p) = true := sh_of (plD_can p) (Nat.le_trans (plD_depth p) (by decide))
theorem sh_pls (ps : List Pl) : SeqAt.shaped (.list (ps.map plD)) = true := sh_list plD_can plD_depth (by decide) ps
theorem eqv_plD (p q : Pl) : PyData.eqv (plD p) (plD q) = decide (p = q) := by
  show PyData.eqv (.tuple [.int p.1, mk p.2]) (.tuple [.int q.1, mk q.2]) = _
  simp only [PyData.eqv, PyData.eqvAll, eqv_mk, Bool.and_true]
  by_cases h1 : p.1 = q.1 <;> by_cases h2 : p.2 = q.2 <;> simp [h1, h2, Prod.ext_iff]
theorem stoP : Sto plD ltP where
  asy := fun a b h h' => by
    unfold ltP at h h'
    rcases h with h | ⟨h1, h2⟩
    · rcases h' with h' | ⟨h3, h4⟩ <;> omega
    · rcases h' with h' | ⟨h3, h4⟩
      · omega
      · exact stoM.asy _ _ h2 h4
  tra := fun a b c h h' => by
    unfold ltP at *
    rcases h with h | ⟨h1, h2⟩
    · rcases h' with h' | ⟨h3, h4⟩
      · exact .inl (by omega)
      · exact .inl (by omega)
    · rcases h' with h' | ⟨h3, h4⟩
      · exact .inl (by omega)
      · exact .inr ⟨by omega, stoM.tra _ _ _ h2 h4⟩
  tri := fun a b => by
    unfold ltP
    rcases Int.lt_trichotomy a.1 b.1 with h | h | h
    · exact .inl (.inl h)
    · rcases stoM.tri a.2 b.2 with q | q | q
      · exact .inl (.inr ⟨h, q⟩)
      · exact .inr (.inl (Prod.ext h q))
      · exact .inr (.inr (.inr ⟨h.symm, q⟩))
    · exact .inr (.inr (.inl h))
  dat := fun a b => by
    show PySem.W.dataLt (.tuple [.int a.1, mk a.2]) (.tuple [.int b.1, mk b.2]) = _
    have al : PySem.W.alike (mk a.2) (mk b.2) = true := by
      show PySem.W.alike (.tuple (a.2.map .int)) (.tuple (b.2.map .int)) = true
      rw [PySem.W.alike]
      exact PySem.W.alike_ints _ _
    rw [PySem.W.dataLt_pair (by simp [PySem.W.alike]) al, eqv_int, eqv_mk, PySem.W.dataLt_int, stoM.dat]
    unfold ltP
    by_cases h1 : a.1 = b.1
    · by_cases h2 : a.2 = b.2
      · have : ¬ b.2 < b.2 := List.lt_irrefl _
        simp [h1, h2, this]
      · simp [h1, h2]
    · simp [h1]
theorem sortOkP (L : List Pl) : SortOk (L.map plD) where
  al := PySem.W.AllAlike.of fun b b' => by
    show PySem.W.alike (.tuple [.int b.1, mk b.2]) (.tuple [.int b'.1, mk b'.2]) = true
    have al : PySem.W.alike (mk b.2) (mk b'.2) = true := by
      show PySem.W.alike (.tuple (b.2.map .int)) (.tuple (b'.2.map .int)) = true
      rw [PySem.W.alike]
      exact PySem.W.alike_ints _ _
    simp [PySem.W.alike, PySem.W.alikeAll, al]
  so := PySem.W.Sortable.tuples fun b => ⟨.int b.1, [mk b.2], rfl⟩
  dp := fun d hd => by
    obtain ⟨x, hx, rfl⟩ := List.mem_map.mp hd
    have := plD_depth x
    omega
theorem leastPl_pw (ps : List Pl) : (leastPl ps).Pairwise ltP := stoP.sorted nodup_uniq
theorem mem_leastPl {ps : List Pl} {p : Pl} : p ∈ leastPl ps ↔ p ∈ ps ∧ isMinP ps p = true := by
  unfold leastPl
  rw [(List.mergeSort_perm _ _).mem_iff, mem_uniq, List.mem_filter]
theorem leastPl_of {R ps : List Pl} (h : R.Pairwise ltP) (hm : ∀ p, p ∈ R ↔ p ∈ ps ∧ isMinP ps p = true) : R = leastPl ps :=
  sorted_uniq stoP.asy h (leastPl_pw ps) fun p => by rw [hm, mem_leastPl]
theorem mapP (L : List Pl) : L.map (fun p => AV.d (plD p)) = (L.map plD).map AV.d := by rw [List.map_map]; rfl
def belowP (S : List Pl) (p : Pl) : List Pl := S.filter fun o => !decide (o = p) && (decide (o.1 = p.1) && above p.2 o.2)
theorem below_min (S : List Pl) (p : Pl) : (belowP S p).isEmpty = isMinP S p := by
  unfold belowP isMinP
  rw [Bool.eq_iff_iff, List.isEmpty_iff, List.filter_eq_nil_iff, List.all_eq_true]
  refine forall_congr' fun o => forall_congr' fun _ => ?_
  by_cases h1 : o = p <;> by_cases h2 : o.1 = p.1 <;> cases h3 : above p.2 o.2 <;> simp [h1, h2, h3]
theorem least_turn {D : AEnds} {S acc : List Pl} {p : Pl} {μ : Mu} {o3 o4 : Option AV} (hz : acc.length ≤ 1000) (q : ∀ o3 o4, D.nx [some (.d (.list (S.map plD))), some (.d (.list ((acc ++ if isMinP S p = true then [p] else []).map plD))), some (.d (plD p)), o3, o4] μ) :
    A__law_least_3 D [some (.d (.list (S.map plD))), some (.d (.list (acc.map plD))), some (.d (plD p)), o3, o4] μ := by
  unfold A__law_least_3 aSeq aAsg
  refine aLc_if (fun o : Pl => AV.d (plD o)) (fun o => if (!decide (o = p) && (decide (o.1 = p.1) && above p.2 o.2)) = true then some (plD o) else none) S ?_ ?_ ?_
  · exact fun R h => seq_var (t := false) (ds := S.map plD) rfl (by rw [← mapP]; exact h)
  · intro o _ k hk
    refine ⟨sh_plD o, sh_plD p, ?_⟩
    show if (!PyData.eqv (plD o) (plD p)) = true then _ else _
    rw [eqv_plD]
    by_cases h1 : o = p
    · simp only [h1, decide_true, Bool.not_true, Bool.false_and, Bool.false_eq_true, if_false] at hk ⊢
      exact hk
    · simp only [h1, decide_false, Bool.not_false, Bool.true_and, if_true] at hk ⊢
      refine ⟨.int o.1, ix0, .int p.1, ix0, rfl, rfl, ?_⟩
      show if PyData.eqv (.int o.1) (.int p.1) = true then _ else _
      rw [eqv_int]
      by_cases h2 : o.1 = p.1
      · simp only [h2, decide_true, Bool.true_and, if_true] at hk ⊢
        refine ⟨mk p.2, ix1, mk o.2, ix1, p.2, o.2, rfl, ?_⟩
        show if above p.2 o.2 = true then k (some (.d (plD o))) μ else k none μ
        by_cases h3 : above p.2 o.2 = true
        · rw [if_pos h3] at hk ⊢
          exact hk
        · rw [if_neg h3] at hk ⊢
          exact hk
      · simp only [h2, decide_false, Bool.false_and, Bool.false_eq_true, if_false] at hk ⊢
        exact hk
  · have e : S.filterMap (fun o => if (!decide (o = p) && (decide (o.1 = p.1) && above p.2 o.2)) = true then some (plD o) else none) = (belowP S p).map plD := by
      unfold belowP
      rw [map_filter_fm]
    rw [e]
    show A__law_least_4 D [some (.d (.list (S.map plD))), some (.d (.list (acc.map plD))), some (.d (plD p)), some (.d (.list ((belowP S p).map plD))), o4] μ
    unfold A__law_least_4
    refine ⟨[], rfl, Nat.zero_le _, sh_pls _, sh_nil, ?_⟩
    show if PyData.eqv (.list ((belowP S p).map plD)) (.list []) = true then _ else _
    rw [eqv_nil, List.isEmpty_map, below_min]
    have q' := q (some (.d (.list ((belowP S p).map plD)))) o4
    by_cases h : isMinP S p = true
    · rw [if_pos h] at q' ⊢
      refine ⟨[plD p], rfl, by show 1 ≤ sizeLine; decide, ?_, ?_⟩
      · show _ + 1 ≤ sizeLine
        rw [List.length_map, sizeLine_eq]; omega
      · rw [List.map_append] at q'
        exact q'
    · rw [if_neg h] at q' ⊢
      refine ⟨[], rfl, Nat.zero_le _, ?_, ?_⟩
      · rw [List.length_map, sizeLine_eq]; simp; omega
      · rw [List.append_nil] at q' ⊢
        exact q'
theorem least_loop {D : AEnds} {S : List Pl} {μ : Mu} : ∀ (xs acc : List Pl) (o2 o3 o4 : Option AV), acc.length + xs.length ≤ 1000 → (∀ o2 o3 o4, D.nx [some (.d (.list (S.map plD))), some (.d (.list ((acc ++ xs.filter (isMinP S)).map plD))), o2, o3, o4] μ) →
    forGo (agN 2) A__law_least_3 D (xs.map fun p => AV.d (plD p)) [some (.d (.list (S.map plD))), some (.d (.list (acc.map plD))), o2, o3, o4] μ
  | [], acc, o2, o3, o4, _, q => by
    have := q o2 o3 o4
    rw [List.filter_nil, List.append_nil] at this
    exact this
  | p :: xs, acc, o2, o3, o4, hz, q => by
    rw [List.map_cons]
    unfold forGo
    show A__law_least_3 _ [some (.d (.list (S.map plD))), some (.d (.list (acc.map plD))), some (.d (plD p)), o3, o4] μ
    refine least_turn (by simp at hz; omega) fun o3 o4 => ?_
    refine least_loop xs _ _ _ _ ?_ fun o2 o3 o4 => ?_
    · rw [List.length_append]
      simp at hz
      split <;> simp <;> omega
    · have := q o2 o3 o4
      rw [List.filter_cons] at this
      rw [List.append_assoc]
      by_cases h : isMinP S p = true
      · rw [if_pos h] at this ⊢
        exact this
      · rw [if_neg h] at this ⊢
        exact this
theorem keys_pl : ∀ {js : List NestedKey} {ps : List Pl}, (∀ k ∈ js, k ∈ ps.map pk) → ∃ L : List Pl, js = L.map pk
  | [], _, _ => ⟨[], rfl⟩
  | k :: js, ps, h => by
    obtain ⟨p, _, e⟩ := List.mem_map.mp (h k (by simp))
    obtain ⟨L, e2⟩ := keys_pl (js := js) (ps := ps) fun j hj => h j (by simp [hj])
    exact ⟨p :: L, by rw [e2, ← e]; rfl⟩
theorem isMinP_congr {ps S : List Pl} (h : ∀ p, p ∈ S ↔ p ∈ ps) (p : Pl) : isMinP S p = isMinP ps p := all_congr_mem h
theorem nodup_pk {L : List Pl} (h : (L.map pk).Nodup) : L.Nodup := List.Pairwise.of_map pk (fun a b hne e => hne (congrArg pk e)) h
theorem nodup_le {α : Type} [DecidableEq α] : ∀ {l m : List α}, l.Nodup → (∀ x ∈ l, x ∈ m) → l.length ≤ m.length
  | [], _, _, _ => Nat.zero_le _
  | x :: l, m, nd, h => by
    have nd' := List.nodup_cons.mp nd
    have hx := h x (by simp)
    have := nodup_le (l := l) (m := m.erase x) nd'.2 fun y hy => by
      have hne : y ≠ x := fun e => nd'.1 (e ▸ hy)
      exact (List.mem_erase_of_ne hne).mpr (h y (by simp [hy]))
    rw [List.length_erase_of_mem hx] at this
    have hp : 0 < m.length := List.length_pos_of_mem hx
    simp
    omega
theorem rd__law_least : Rd A__law_least N__law_least sp__law_least := by
  rintro as μ Q ⟨n, ps, rfl, hn, hl, hz, q⟩
  unfold A__law_least aSeq aPar aCons aCall aVar aNil
  refine ⟨ps.map pk, ?_, fun k hk => ?_, by rw [List.length_map]; omega, fun js nd hm => ?_⟩
  · rw [List.map_map]
    exact List.map_congr_left fun p _ => (pk_data p).symm
  · obtain ⟨p, _, rfl⟩ := List.mem_map.mp hk
    exact ⟨rfl, pk_depth p⟩
  · obtain ⟨L, rfl⟩ := keys_pl fun k hk => (hm k).mp hk
    have ndL := nodup_pk nd
    have hmL : ∀ p, p ∈ L ↔ p ∈ ps := fun p => by
      have := hm (pk p)
      rw [List.mem_map, List.mem_map] at this
      refine ⟨fun hp => ?_, fun hp => ?_⟩
      · obtain ⟨r, hr, e⟩ := this.mp ⟨p, hp, rfl⟩
        rw [← pk_inj e]; exact hr
      · obtain ⟨r, hr, e⟩ := this.mpr ⟨p, hp, rfl⟩
        rw [← pk_inj e]; exact hr
    have hd : (L.map pk).map NestedKey.data = L.map plD := by
      rw [List.map_map]
      exact List.map_congr_left fun p _ => pk_data p
    rw [hd]
    refine ⟨sortOkP L, ?_⟩
    rw [stoP.sort_eq]
    refine ⟨sortOkP _, ?_⟩
    rw [stoP.sort_eq]
    refine ⟨[], rfl, Nat.zero_le _, ?_⟩
    have e2 : (L.mergeSort (leB ltP)).mergeSort (leB ltP) = L.mergeSort (leB ltP) := by
      have nd2 : (L.mergeSort (leB ltP)).Nodup := (List.mergeSort_perm L _).nodup_iff.mpr ndL
      exact sorted_uniq stoP.asy (stoP.sorted nd2) (stoP.sorted ndL) fun p => by rw [(List.mergeSort_perm _ _).mem_iff]
    rw [e2]
    have pwS := stoP.sorted ndL
    have hmS : ∀ p, p ∈ L.mergeSort (leB ltP) ↔ p ∈ ps := fun p => by rw [(List.mergeSort_perm _ _).mem_iff, hmL]
    have lenS : (L.mergeSort (leB ltP)).length ≤ 1000 := by
      rw [List.length_mergeSort]
      have : L.length ≤ ps.length := nodup_le ndL fun p hp => (hmL p).mp hp
      omega
    generalize L.mergeSort (leB ltP) = S at pwS hmS lenS
    show A__law_least_2 _ [some (.d (.list (S.map plD))), some (.d (.list [])), none, none, none] μ
    unfold A__law_least_2 aSeq aFor
    refine seq_var (t := false) (ds := S.map plD) rfl ?_
    rw [← mapP]
    refine least_loop S [] none none none (by simpa using lenS) fun o2 o3 o4 => ?_
    rw [List.nil_append]
    have e : S.filter (isMinP S) = leastPl ps := leastPl_of (pwS.filter _) fun p => by
      rw [List.mem_filter, hmS, isMinP_congr hmS]
    rw [e]
    exact q
end K60

set_option Elab.async false
set_option linter.all false
set_option maxRecDepth 100000
set_option maxHeartbeats 4000000
/-! Readings: least places. -/
namespace K60
open PySem PySem.Spec PyProof.Rows L2 Ab
def grp (s : Int) (ps : List Pl) : List Mk := (ps.filter fun p => decide (p.1 = s)).map (·.2)
abbrev gKV (G : List (Int × Addr)) : List (Key × AV) := G.map fun g => ((.inl g.1 : Key), AV.v (.ref g.2))
theorem vA_mem {G : List (Int × Addr)} (nd : (G.map (·.1)).Nodup) {g : Int × Addr} (h : g ∈ G) : vA (gKV G) (.inl g.1) = some (.v (.ref g.2)) := by
  induction G with
  | nil => cases h
  | cons x G ih =>
    have nd' := List.nodup_cons.mp nd
    unfold vA
    rw [show gKV (x :: G) = ((.inl x.1 : Key), AV.v (.ref x.2)) :: gKV G from rfl, List.find?_cons]
    rcases List.mem_cons.mp h with e | h
    · subst e; simp
    · have ne : x.1 ≠ g.1 := fun e => nd'.1 (by
        show x.1 ∈ _
        rw [e]
        exact List.mem_map.mpr ⟨g, h, rfl⟩)
      have := ih nd'.2 h
      unfold vA at this
      have nk : decide ((Sum.inl x.1 : Key) = .inl g.1) = false := by simp [ne]
      show Option.map _ (match decide ((Sum.inl x.1 : Key) = .inl g.1) with | true => _ | false => _) = _
      rw [nk]
      exact this
theorem vA_none {G : List (Int × Addr)} {s : Int} (h : s ∉ G.map (·.1)) : vA (gKV G) (.inl s) = none := by
  unfold vA
  rw [Option.map_eq_none_iff, List.find?_eq_none]
  intro x hx
  obtain ⟨g, hg, rfl⟩ := List.mem_map.mp hx
  have ne : g.1 ≠ s := fun e => h (e ▸ List.mem_map.mpr ⟨g, hg, rfl⟩)
  simp [ne]
theorem pA_new {G : List (Int × Addr)} {s : Int} (h : s ∉ G.map (·.1)) (l : Addr) : pA (gKV G) (.inl s) (.v (.ref l)) = gKV (G ++ [(s, l)]) := by
  unfold pA
  rw [if_neg]
  · unfold gKV
    rw [List.map_append]
    rfl
  · rw [Bool.not_eq_true, List.any_eq_false]
    intro x hx
    obtain ⟨g, hg, rfl⟩ := List.mem_map.mp hx
    have ne : g.1 ≠ s := fun e => h (e ▸ List.mem_map.mpr ⟨g, hg, rfl⟩)
    simp [ne]
structure Grp (μ0 μ : Mu) (d : Addr) (G : List (Int × Addr)) (pre : List Pl) : Prop where
  sub : Ab.Sub μ0 μ
  dk : μ d = some (.dk (gKV G))
  nd : (G.map (·.1)).Nodup
  keys : ∀ s, s ∈ G.map (·.1) ↔ ∃ p ∈ pre, p.1 = s
  lst : ∀ g ∈ G, μ g.2 = some (.lst ((grp g.1 pre).map fun xs => M xs)) ∧ μ0 g.2 = none
  addr : (G.map (·.2)).Nodup
  d0 : μ0 d = none
  len : G.length ≤ pre.length
theorem grp_snoc (s : Int) (pre : List Pl) (p : Pl) : grp s (pre ++ [p]) = grp s pre ++ if p.1 = s then [p.2] else [] := by
  unfold grp
  rw [List.filter_append, List.map_append]
  by_cases h : p.1 = s <;> simp [h]
theorem places_turn {D : AEnds} {a0 a4 : Option AV} {μ0 μ : Mu} {d : Addr} {G : List (Int × Addr)} {pre : List Pl} {p : Pl} (hg : Grp μ0 μ d G pre) (hz : pre.length ≤ 1000)
    (q : ∀ μ' G', Grp μ0 μ' d G' (pre ++ [p]) → D.nx [a0, some (.v (.ref d)), some (I p.1), some (M p.2), a4] μ') :
    A_least_places_3 D [a0, some (.v (.ref d)), some (I p.1), some (M p.2), a4] μ := by
  unfold A_least_places_3 aDrop aMt aSetd
  refine ⟨⟨_, hg.dk⟩, Nat.zero_le _, fun l hl => ?_⟩
  have hld : l ≠ d := fun e => by rw [e, hg.dk] at hl; cases hl
  have hlG : ∀ g ∈ G, g.2 ≠ l := fun g h e => by
    have := (hg.lst g h).1
    rw [e, hl] at this
    cases this
  have dne : ∀ g ∈ G, g.2 ≠ d := fun g h e => by
    have := (hg.lst g h).1
    rw [e, hg.dk] at this
    cases this
  have hl0 := sub_none hg.sub hl
  refine ⟨_, (mset_ne (Ne.symm hld)).trans hg.dk, by rw [List.length_map, sizeLine_eq]; have := hg.len; omega, fun v hv => ?_, fun hv => ?_⟩
  · by_cases hs : p.1 ∈ G.map (·.1)
    · obtain ⟨g, hgG, e⟩ := List.mem_map.mp hs
      have hv2 := vA_mem hg.nd hgG
      rw [e] at hv2
      rw [hv2] at hv
      cases hv
      have hlg := (hg.lst g hgG).1
      have h3 : mset μ l (.lst []) g.2 = some (.lst ((grp g.1 pre).map fun xs => M xs)) := (mset_ne (hlG g hgG)).trans hlg
      refine ⟨⟨_, h3⟩, _, h3, ?_, ?_⟩
      · rw [List.length_map, sizeLine_eq]
        unfold grp
        rw [List.length_map]
        have := List.length_filter_le (fun p : Pl => decide (p.1 = g.1)) pre
        omega
      · refine q _ G ⟨sub_set (sub_set hg.sub hl0) (hg.lst g hgG).2, ?_, hg.nd, fun s => ?_, fun g' hg' => ⟨?_, (hg.lst g' hg').2⟩, hg.addr, hg.d0, by rw [List.length_append]; have := hg.len; omega⟩
        · rw [mset_ne (Ne.symm (dne g hgG)), mset_ne (Ne.symm hld)]
          exact hg.dk
        · rw [hg.keys]
          refine ⟨fun ⟨r, hr, e⟩ => ⟨r, by simp [hr], e⟩, fun ⟨r, hr, e'⟩ => ?_⟩
          rcases List.mem_append.mp hr with h | h
          · exact ⟨r, h, e'⟩
          · rw [List.mem_singleton.mp h] at e'
            exact (hg.keys s).mp (by rw [← e', ← e]; exact List.mem_map.mpr ⟨g, hgG, rfl⟩)
        · rw [grp_snoc]
          by_cases e2 : g'.2 = g.2
          · have eg : g' = g := by
              have h9 : ∀ {G : List (Int × Addr)}, (G.map (·.2)).Nodup → ∀ a ∈ G, ∀ b ∈ G, a.2 = b.2 → a = b := by
                intro G nd
                induction G with
                | nil => intro a ha; cases ha
                | cons x G ih =>
                  have nd' := List.nodup_cons.mp nd
                  intro a ha b hb e
                  rcases List.mem_cons.mp ha with ea | ha
                  · rcases List.mem_cons.mp hb with eb | hb
                    · rw [ea, eb]
                    · exact absurd (List.mem_map.mpr ⟨b, hb, by rw [← e, ea]⟩) nd'.1
                  · rcases List.mem_cons.mp hb with eb | hb
                    · exact absurd (List.mem_map.mpr ⟨a, ha, by rw [e, eb]⟩) nd'.1
                    · exact ih nd'.2 a ha b hb e
              exact h9 hg.addr g' hg' g hgG e2
            rw [eg, mset_same, if_pos e.symm, List.map_append]
            rfl
          · have e3 : ¬ p.1 = g'.1 := fun z => by
              have h9 : vA (gKV G) (.inl g'.1) = some (.v (.ref g'.2)) := vA_mem hg.nd hg'
              rw [← z, hv2] at h9
              injection h9 with h9
              injection h9 with h9
              injection h9 with h9
              exact e2 h9.symm
            rw [mset_ne e2, mset_ne (hlG g' hg'), if_neg e3, List.append_nil]
            exact (hg.lst g' hg').1
    · rw [vA_none hs] at hv
      cases hv
  · have hs : p.1 ∉ G.map (·.1) := fun hs => by
      obtain ⟨g, hgG, e⟩ := List.mem_map.mp hs
      have hv2 := vA_mem hg.nd hgG
      rw [e] at hv2
      rw [hv2] at hv
      cases hv
    have h3 : mset (mset μ l (.lst [])) d (.dk (pA (gKV G) (.inl p.1) (.v (.ref l)))) l = some (.lst []) := by rw [mset_ne hld, mset_same]
    refine ⟨⟨_, h3⟩, _, h3, by decide, ?_⟩
    refine q _ (G ++ [(p.1, l)]) ⟨sub_set (sub_set (sub_set hg.sub hl0) hg.d0) hl0, ?_, ?_, fun s => ?_, fun g' hg' => ?_, ?_, hg.d0, by rw [List.length_append, List.length_append]; have := hg.len; simp; omega⟩
    · rw [mset_ne (Ne.symm hld), mset_same, pA_new hs]
    · rw [List.map_append]
      refine List.nodup_append.mpr ⟨hg.nd, by simp, fun a ha b hb => ?_⟩
      have e : b = p.1 := by simpa using hb
      exact fun z => hs (by rw [← e, ← z]; exact ha)
    · rw [List.map_append, List.mem_append, hg.keys]
      refine ⟨fun h => ?_, fun ⟨r, hr, e'⟩ => ?_⟩
      · rcases h with ⟨r, hr, e⟩ | h
        · exact ⟨r, by simp [hr], e⟩
        · have e : s = p.1 := by simpa using h
          exact ⟨p, by simp, e.symm⟩
      · rcases List.mem_append.mp hr with h | h
        · exact .inl ⟨r, h, e'⟩
        · rw [List.mem_singleton.mp h] at e'
          exact .inr (by simp [e'])
    · rw [grp_snoc]
      rcases List.mem_append.mp hg' with h | h
      · have e3 : ¬ p.1 = g'.1 := fun z => hs (by rw [z]; exact List.mem_map.mpr ⟨g', h, rfl⟩)
        rw [if_neg e3, List.append_nil, mset_ne (hlG g' h), mset_ne (dne g' h), mset_ne (hlG g' h)]
        exact hg.lst g' h
      · have e : g' = (p.1, l) := List.mem_singleton.mp h
        subst e
        refine ⟨?_, hl0⟩
        have eg : grp p.1 pre = [] := by
          unfold grp
          rw [List.map_eq_nil_iff, List.filter_eq_nil_iff]
          intro r hr
          simp only [decide_eq_true_eq]
          exact fun z => hs ((hg.keys p.1).mpr ⟨r, hr, z⟩)
        rw [mset_same, if_pos rfl, eg]
        rfl
    · rw [List.map_append]
      refine List.nodup_append.mpr ⟨hg.addr, by simp, fun a ha b hb => ?_⟩
      have e : b = l := by simpa using hb
      obtain ⟨g, hgG, e2⟩ := List.mem_map.mp ha
      exact fun z => hlG g hgG (by rw [e2, z, e])
theorem places_loop {D : AEnds} {a0 a4 : Option AV} {μ0 : Mu} {d : Addr} : ∀ (xs pre : List Pl) (G : List (Int × Addr)) (μ : Mu) (o2 o3 : Option AV), Grp μ0 μ d G pre → pre.length + xs.length ≤ 1000 → (∀ μ' G' o2 o3, Grp μ0 μ' d G' (pre ++ xs) → D.nx [a0, some (.v (.ref d)), o2, o3, a4] μ') →
    forGo (agTup 2 (agCons (agN 2) (agCons (agN 3) agNil))) A_least_places_3 D (xs.map fun p => AV.d (plD p)) [a0, some (.v (.ref d)), o2, o3, a4] μ
  | [], pre, G, μ, o2, o3, hg, _, q => q μ G o2 o3 (by rw [List.append_nil]; exact hg)
  | p :: xs, pre, G, μ, o2, o3, hg, hz, q => by
    rw [List.map_cons]
    unfold forGo
    refine ⟨rfl, rfl, ?_⟩
    show A_least_places_3 _ [a0, some (.v (.ref d)), some (I p.1), some (M p.2), a4] μ
    refine places_turn hg (by simp at hz; omega) fun μ' G' hg' => ?_
    refine places_loop xs (pre ++ [p]) G' μ' _ _ hg' (by simp at hz ⊢; omega) fun μ'' G'' o2 o3 h => ?_
    rw [List.append_assoc] at h
    exact q μ'' G'' o2 o3 h
theorem found_loop {D : AEnds} {a0 : Option AV} {μ0 : Mu} {d f : Addr} {G : List (Int × Addr)} {ps : List Pl} {n : Nat} (hn : 1 ≤ n) (hl : Len n (ps.map (·.2))) (hz : ps.length ≤ 60) (nd : (G.map (·.1)).Nodup) (ad : (G.map (·.2)).Nodup) (f0 : μ0 f = none) (g0 : ∀ g ∈ G, μ0 g.2 = none ∧ g.2 ≠ f ∧ g.2 ≠ d) (hfd : f ≠ d) :
    ∀ (ys : List Int) (acc : List Pl) (μ : Mu) (o2 o3 : Option AV), ys.Nodup → (∀ s ∈ ys, ∃ g ∈ G, g.1 = s ∧ μ g.2 = some (.lst ((grp s ps).map fun xs => M xs))) → μ d = some (.dk (gKV G)) → μ f = some (.lst (acc.map fun p => AV.d (plD p))) → Ab.Sub μ0 μ → acc.length + ys.length * 60 ≤ 10000 →
      (∀ μ' o2 o3, Ab.Sub μ0 μ' → μ' f = some (.lst ((acc ++ ys.flatMap fun s => (minL (grp s ps)).map fun m => (s, m)).map fun p => AV.d (plD p))) → D.nx [a0, some (.v (.ref d)), o2, o3, some (.v (.ref f))] μ') →
      forGo (agN 2) A_least_places_6 D (ys.map fun (s : Int) => I s) [a0, some (.v (.ref d)), o2, o3, some (.v (.ref f))] μ
  | [], acc, μ, o2, o3, _, _, _, hf, hs, _, q => q μ o2 o3 hs (by rw [List.flatMap_nil, List.append_nil]; exact hf)
  | s :: ys, acc, μ, o2, o3, ndy, hy, hd, hf, hs, hacc, q => by
    have ndy' := List.nodup_cons.mp ndy
    obtain ⟨g, hgG, e, hlg⟩ := hy s (by simp)
    obtain ⟨z0, z1, z2⟩ := g0 g hgG
    rw [List.map_cons]
    unfold forGo
    show A_least_places_6 _ [a0, some (.v (.ref d)), some (I s), o3, some (.v (.ref f))] μ
    unfold A_least_places_6 aDrop aMt aCons aLc
    refine ⟨⟨_, hf⟩, ?_⟩
    have hv : vA (gKV G) (.inl s) = some (.v (.ref g.2)) := by rw [← e]; exact vA_mem nd hgG
    have lg : Len n (grp s ps) := fun x hx => by
      obtain ⟨p, hp, rfl⟩ := List.mem_map.mp hx
      exact hl p.2 (List.mem_map.mpr ⟨p, (List.mem_filter.mp hp).1, rfl⟩)
    have zg : (grp s ps).length ≤ 60 := by
      unfold grp
      rw [List.length_map]
      have := List.length_filter_le (fun p : Pl => decide (p.1 = s)) ps
      omega
    refine ⟨_, _, hd, hv, _, _, hlg, datasM _, n, false, grp s ps, rfl, hn, lg, by omega, ?_⟩
    show lcGo _ _ _ _ (((minL (grp s ps)).map mk).map AV.d) [] (mdel μ g.2) _
    rw [← mapM]
    refine lcGo_pure (inj := fun xs : Mk => M xs) (f := fun xs => some (plD (s, xs))) (fun xs _ => turn_one fun k hk => ⟨[.int s, mk xs], rfl, by show 2 ≤ sizeLine; decide, hk⟩) ?_
    rw [List.nil_append]
    refine ⟨_, datas_map _, ?_⟩
    have zm : (minL (grp s ps)).length ≤ 60 := Nat.le_trans len_srt (Nat.le_trans (List.length_filter_le _ _) zg)
    have hf' : mdel μ g.2 f = some (.lst (acc.map fun p => AV.d (plD p))) := (mdel_ne (Ne.symm z1)).trans hf
    refine ⟨_, hf', ?_, ?_⟩
    · rw [List.filterMap_eq_map', List.length_map, List.length_map, sizeLine_eq]
      rw [List.length_cons, Nat.succ_mul] at hacc
      omega
    · rw [List.filterMap_eq_map']
      have em : (acc.map fun p => AV.d (plD p)) ++ ((minL (grp s ps)).map fun xs => plD (s, xs)).map AV.d = (acc ++ (minL (grp s ps)).map fun m => (s, m)).map fun p => AV.d (plD p) := by
        rw [List.map_append, List.map_map, List.map_map]
        rfl
      show forGo (agN 2) A_least_places_6 D (ys.map fun (s : Int) => I s) [a0, some (.v (.ref d)), some (I s), o3, some (.v (.ref f))] (mset (mdel μ g.2) f (.lst ((acc.map fun p => AV.d (plD p)) ++ ((minL (grp s ps)).map fun xs => plD (s, xs)).map AV.d)))
      rw [em]
      refine found_loop hn hl hz nd ad f0 g0 hfd ys _ _ _ _ ndy'.2 (fun s' hs' => ?_) ?_ mset_same (sub_set (sub_del hs z0) f0) ?_ fun μ' o2 o3 hs' hf' => q μ' o2 o3 hs' (by rw [List.flatMap_cons, ← List.append_assoc]; exact hf')
      · obtain ⟨g', hg', e', hl'⟩ := hy s' (by simp [hs'])
        have ne : g'.2 ≠ g.2 := fun z => by
          have h9 : vA (gKV G) (.inl g'.1) = some (.v (.ref g'.2)) := vA_mem nd hg'
          have h8 : ∀ {G : List (Int × Addr)}, (G.map (·.2)).Nodup → ∀ a ∈ G, ∀ b ∈ G, a.2 = b.2 → a = b := by
            intro G nd
            induction G with
            | nil => intro a ha; cases ha
            | cons x G ih =>
              have nd' := List.nodup_cons.mp nd
              intro a ha b hb e
              rcases List.mem_cons.mp ha with ea | ha
              · rcases List.mem_cons.mp hb with eb | hb
                · rw [ea, eb]
                · exact absurd (List.mem_map.mpr ⟨b, hb, by rw [← e, ea]⟩) nd'.1
              · rcases List.mem_cons.mp hb with eb | hb
                · exact absurd (List.mem_map.mpr ⟨a, ha, by rw [e, eb]⟩) nd'.1
                · exact ih nd'.2 a ha b hb e
          have := h8 ad g' hg' g hgG z
          rw [this, e] at e'
          exact ndy'.1 (e' ▸ hs')
        exact ⟨g', hg', e', by rw [mset_ne (g0 g' hg').2.1, mdel_ne ne]; exact hl'⟩
      · rw [mset_ne (Ne.symm hfd), mdel_ne (Ne.symm z2)]
        exact hd
      · rw [List.length_append, List.length_map]
        rw [List.length_cons, Nat.succ_mul] at hacc
        omega
theorem mem_grp {s : Int} {ps : List Pl} {m : Mk} : m ∈ grp s ps ↔ (s, m) ∈ ps := by
  unfold grp
  rw [List.mem_map]
  constructor
  · rintro ⟨p, hp, rfl⟩
    have := List.mem_filter.mp hp
    have e : p.1 = s := by simpa using this.2
    rw [← e]
    exact this.1
  · intro h
    exact ⟨(s, m), List.mem_filter.mpr ⟨h, by simp⟩, rfl⟩
theorem places_eq {ps : List Pl} {ys : List Int} (hs : ys.Pairwise (· < ·)) (hy : ∀ s, s ∈ ys ↔ ∃ p ∈ ps, p.1 = s) : (ys.flatMap fun s => (minL (grp s ps)).map fun m => (s, m)) = leastPl ps := by
  refine leastPl_of ?_ fun p => ?_
  · rw [List.pairwise_flatMap]
    refine ⟨fun s _ => ?_, List.Pairwise.imp (fun {a b} h x hx y hy => ?_) hs⟩
    · rw [List.pairwise_map]
      exact List.Pairwise.imp (fun {a b} h => .inr ⟨rfl, h⟩) (srt_pw _)
    · obtain ⟨m, _, rfl⟩ := List.mem_map.mp hx
      obtain ⟨m', _, rfl⟩ := List.mem_map.mp hy
      exact .inl h
  · rw [List.mem_flatMap]
    have key : ∀ s m, (isMin (grp s ps) m = true ↔ isMinP ps (s, m) = true) := fun s m => by
      unfold isMin isMinP
      rw [List.all_eq_true, List.all_eq_true]
      constructor
      · intro h y hy
        by_cases e : y.1 = s
        · have hm := h y.2 (mem_grp.mpr (by rw [← e]; exact hy))
          by_cases e2 : y.2 = m
          · have : y = (s, m) := Prod.ext e e2
            simp [this]
          · simp [e2] at hm
            simp [hm]
        · simp [e]
      · intro h y hy
        have hm := h (s, y) (mem_grp.mp hy)
        by_cases e : y = m
        · simp [e]
        · simp [e] at hm ⊢
          exact hm
    constructor
    · rintro ⟨s, hs', hp⟩
      obtain ⟨m, hm, rfl⟩ := List.mem_map.mp hp
      have := mem_minL.mp hm
      exact ⟨mem_grp.mp this.1, (key s m).mp this.2⟩
    · rintro ⟨hp, hm⟩
      refine ⟨p.1, (hy p.1).mpr ⟨p, hp, rfl⟩, List.mem_map.mpr ⟨p.2, mem_minL.mpr ⟨mem_grp.mpr hp, (key p.1 p.2).mpr hm⟩, rfl⟩⟩
theorem rd_least_places : RdF A_least_places N_least_places sp_least_places := by
  rintro as μ Q ⟨n, ps, rfl, hn, hl, hz, q⟩
  unfold A_least_places
  intro d hd
  show A_least_places_2 _ [some (.d (.tuple (ps.map plD))), some (.v (.ref d)), none, none, none] (mset μ d (.dk []))
  unfold A_least_places_2 aSeq aFor
  refine seq_var (t := true) (ds := ps.map plD) rfl ?_
  rw [← mapP]
  have g1 : Grp μ (mset μ d (.dk [])) d [] [] := ⟨sub_set (sub_refl μ) hd, mset_same, List.nodup_nil, fun s => by simp, fun g hg => (nomatch hg), List.nodup_nil, hd, Nat.le_refl _⟩
  refine places_loop ps [] [] _ none none g1 (by simp; omega) fun μ1 G o2 o3 hg => ?_
  rw [List.nil_append] at hg
  unfold A_least_places_4
  refine ⟨Nat.zero_le _, fun f hf => ?_⟩
  show A_least_places_5 _ [some (.d (.tuple (ps.map plD))), some (.v (.ref d)), o2, o3, some (.v (.ref f))] (mset μ1 f (.lst []))
  have hfd : f ≠ d := fun e => by rw [e, hg.dk] at hf; cases hf
  have f0 := sub_none hg.sub hf
  unfold A_least_places_5 aSeq aFor
  refine seq_call ?_
  refine ⟨_, G.map (·.1), (mset_ne (Ne.symm hfd)).trans hg.dk, by rw [List.map_map, List.map_map]; rfl, by rw [List.length_map]; have := hg.len; omega, fun ys hp hs => ?_⟩
  show forGo _ _ _ ((ys.map PyData.int).map AV.d) _ _
  rw [List.map_map]
  have ndy : ys.Nodup := hp.nodup_iff.mpr hg.nd
  have hlt : ys.Pairwise (· < ·) := List.Pairwise.imp₂ (R := fun a b : Int => a ≤ b) (S := fun a b : Int => a ≠ b) (fun a b h ne => by omega) hs ndy
  have hyk : ∀ s, s ∈ ys ↔ ∃ p ∈ ps, p.1 = s := fun s => by rw [hp.mem_iff, hg.keys]
  have g0 : ∀ g ∈ G, μ g.2 = none ∧ g.2 ≠ f ∧ g.2 ≠ d := fun g h => by
    have := hg.lst g h
    refine ⟨this.2, fun e => ?_, fun e => ?_⟩
    · rw [e, hf] at this; cases this.1
    · rw [e, hg.dk] at this; cases this.1
  refine found_loop hn hl hz hg.nd hg.addr f0 g0 hfd ys [] _ o2 o3 ndy (fun s hs' => ?_) ((mset_ne (Ne.symm hfd)).trans hg.dk) mset_same (sub_set hg.sub f0) ?_ fun μ' o2 o3 hs' hf' => ?_
  · have hk : s ∈ G.map (·.1) := hp.mem_iff.mp hs'
    obtain ⟨g, hgG, e⟩ := List.mem_map.mp hk
    refine ⟨g, hgG, e, ?_⟩
    rw [mset_ne (g0 g hgG).2.1, ← e]
    exact (hg.lst g hgG).1
  · have : ys.length = G.length := by rw [hp.length_eq, List.length_map]
    have := hg.len
    simp
    omega
  · rw [List.nil_append, places_eq hlt hyk] at hf'
    unfold A_least_places_7
    show match μ' f with | some (.lst as) => ∃ ds, datas as = some ds ∧ _ | _ => False
    rw [hf']
    exact ⟨_, by rw [mapP, datas_map], μ, hs', q⟩
end K60

set_option Elab.async false
set_option linter.all false
set_option maxRecDepth 100000
set_option maxHeartbeats 4000000
/-! What the law needs: mathematics; the law's slots. -/
namespace K60
open PySem PySem.Spec PyProof.Rows L2 Ab
/-! ### mathematics -/
def Nn (xs : Mk) : Prop := ∀ x ∈ xs, 0 ≤ x
theorem back_law : ∀ {ms cs one : Mk}, ms.length = cs.length → one.length = cs.length → Nn ms → Nn one → ((moved ms cs).all (fun x => decide (0 ≤ x)) && above (moved ms cs) one) = above ms (back one cs)
  | [], [], [], _, _, _, _ => rfl
  | m :: ms, c :: cs, o :: one, h1, h2, n1, n2 => by
    have ih := back_law (ms := ms) (cs := cs) (one := one) (by simpa using h1) (by simpa using h2) (fun x hx => n1 x (by simp [hx])) (fun x hx => n2 x (by simp [hx]))
    have hm := n1 m (by simp)
    have ho := n2 o (by simp)
    have e1 : moved (m :: ms) (c :: cs) = (m + c) :: moved ms cs := rfl
    have e2 : back (o :: one) (c :: cs) = (if o - c > 0 then o - c else 0) :: back one cs := rfl
    rw [e1, e2, List.all_cons, above_cons, above_cons, ← ih]
    have e3 : decide ((if o - c > 0 then o - c else 0) ≤ m) = (decide (0 ≤ m + c) && decide (o ≤ m + c)) := by
      rw [Bool.eq_iff_iff, Bool.and_eq_true, decide_eq_true_eq, decide_eq_true_eq, decide_eq_true_eq]
      split <;> omega
    rw [e3]
    cases decide (0 ≤ m + c) <;> cases decide (o ≤ m + c) <;> cases (moved ms cs).all (fun x => decide (0 ≤ x)) <;> cases above (moved ms cs) one <;> rfl
theorem above_lub : ∀ {xs a b : Mk}, a.length = b.length → xs.length = a.length → above xs (lub a b) = (above xs a && above xs b)
  | [], [], [], _, _ => rfl
  | x :: xs, a :: as, b :: bs, h1, h2 => by
    have ih := above_lub (xs := xs) (a := as) (b := bs) (by simpa using h1) (by simpa using h2)
    have e : lub (a :: as) (b :: bs) = max a b :: lub as bs := rfl
    rw [e, above_cons, above_cons, above_cons, ih]
    have e3 : decide (max a b ≤ x) = (decide (a ≤ x) && decide (b ≤ x)) := by
      rw [Bool.eq_iff_iff, Bool.and_eq_true, decide_eq_true_eq, decide_eq_true_eq, decide_eq_true_eq]
      omega
    rw [e3]
    cases decide (a ≤ x) <;> cases decide (b ≤ x) <;> cases above xs as <;> cases above xs bs <;> rfl
theorem len_lub {a b : Mk} {n : Nat} (h1 : a.length = n) (h2 : b.length = n) : (lub a b).length = n := by
  unfold lub
  rw [List.length_map, List.length_zip, h1, h2, Nat.min_self]
theorem len_latt {n : Nat} {S O : List Mk} (h1 : Len n S) (h2 : Len n O) : Len n (latt S O) := fun x hx => by
  obtain ⟨a, ha, hx⟩ := List.mem_flatMap.mp hx
  obtain ⟨b, hb, rfl⟩ := List.mem_map.mp hx
  exact len_lub (h1 a ha) (h2 b hb)
/-- beneath each one there is a least one -/
theorem least_below {n : Nat} {S : List Mk} (hl : Len n S) {x : Mk} (hx : x ∈ S) : ∃ m ∈ minL S, above x m = true := by
  have so := srt_pw S
  obtain ⟨m, hm, hmin⟩ : ∃ m ∈ (srt S).filter (fun z => above x z), ∀ z ∈ (srt S).filter (fun z => above x z), z = m ∨ m < z := by
    have sof : ((srt S).filter fun z => above x z).Pairwise fun a b => a < b := so.filter _
    cases hf : (srt S).filter (fun z => above x z) with
    | nil =>
      have : x ∈ (srt S).filter (fun z => above x z) := List.mem_filter.mpr ⟨mem_srt.mpr hx, above_refl x⟩
      rw [hf] at this
      cases this
    | cons m r =>
      rw [hf] at sof
      have := (List.pairwise_cons.mp sof).1
      exact ⟨m, by simp, fun z hz => by
        rcases List.mem_cons.mp hz with e | hz
        · exact .inl e
        · exact .inr (this z hz)⟩
  have hm' := List.mem_filter.mp hm
  have hmS := mem_srt.mp hm'.1
  refine ⟨m, mem_minL.mpr ⟨hmS, ?_⟩, hm'.2⟩
  unfold isMin
  rw [List.all_eq_true]
  intro y hy
  by_cases e : y = m
  · simp [e]
  · have : above m y = false := by
      cases py : above m y with
      | false => rfl
      | true =>
        have pxy := above_tra ((hl x hx).trans (hl m hmS).symm) ((hl m hmS).trans (hl y hy).symm) hm'.2 py
        rcases hmin y (List.mem_filter.mpr ⟨mem_srt.mpr hy, pxy⟩) with q | q
        · exact absurd q e
        · rcases above_le ((hl m hmS).trans (hl y hy).symm) py with r | r
          · exact absurd r e
          · exact absurd r (stoM.asy _ _ q)
    simp [this]
theorem some_minL {n : Nat} {S : List Mk} (hl : Len n S) {x : Mk} (hx : x.length = n) : aboveSome x (minL S) = aboveSome x S := by
  unfold aboveSome
  rw [Bool.eq_iff_iff, List.any_eq_true, List.any_eq_true]
  constructor
  · rintro ⟨m, hm, a⟩
    exact ⟨m, (mem_minL.mp hm).1, a⟩
  · rintro ⟨y, hy, a⟩
    obtain ⟨m, hm, b⟩ := least_below hl hy
    exact ⟨m, hm, above_tra (hx.trans (hl y hy).symm) ((hl y hy).trans (hl m (mem_minL.mp hm).1).symm) a b⟩
theorem both_law {n : Nat} {S O : List Mk} (h1 : Len n S) (h2 : Len n O) {x : Mk} (hx : x.length = n) : aboveSome x (minL (latt S O)) = (aboveSome x S && aboveSome x O) := by
  rw [some_minL (len_latt h1 h2) hx]
  unfold aboveSome
  rw [Bool.eq_iff_iff, Bool.and_eq_true, List.any_eq_true, List.any_eq_true, List.any_eq_true]
  constructor
  · rintro ⟨l, hl, a⟩
    obtain ⟨s, hs, hl⟩ := List.mem_flatMap.mp hl
    obtain ⟨o, ho, rfl⟩ := List.mem_map.mp hl
    rw [above_lub ((h1 s hs).trans (h2 o ho).symm) (hx.trans (h1 s hs).symm), Bool.and_eq_true] at a
    exact ⟨⟨s, hs, a.1⟩, ⟨o, ho, a.2⟩⟩
  · rintro ⟨⟨s, hs, a⟩, ⟨o, ho, b⟩⟩
    refine ⟨lub s o, List.mem_flatMap.mpr ⟨s, hs, List.mem_map.mpr ⟨o, ho, rfl⟩⟩, ?_⟩
    rw [above_lub ((h1 s hs).trans (h2 o ho).symm) (hx.trans (h1 s hs).symm), a, b]
    rfl
theorem minL_minL (S : List Mk) : minL (minL S) = minL S := by
  refine (srt_of (srt_pw _) fun x => ?_).symm
  rw [List.mem_filter]
  refine ⟨fun h => ⟨h, ?_⟩, fun h => h.1⟩
  have hx := mem_minL.mp h
  unfold isMin at hx ⊢
  rw [List.all_eq_true] at *
  intro y hy
  exact hx.2 y (mem_minL.mp hy).1
theorem mem_allM : ∀ {n k : Nat} {xs : Mk}, xs ∈ allM n k ↔ xs.length = n ∧ ∀ x ∈ xs, 0 ≤ x ∧ x ≤ k
  | 0, k, xs => by
    unfold allM
    constructor
    · intro h
      have e : xs = [] := by simpa using h
      subst e
      simp
    · rintro ⟨h, _⟩
      rw [List.length_eq_zero_iff] at h
      simp [h]
  | n + 1, k, xs => by
    unfold allM
    rw [List.mem_flatMap]
    constructor
    · rintro ⟨one, ho, hx⟩
      obtain ⟨i, hi, rfl⟩ := List.mem_map.mp hx
      have hi' := List.mem_range.mp hi
      obtain ⟨h1, h2⟩ := mem_allM.mp ho
      refine ⟨by simp [h1], fun x hx => ?_⟩
      rcases List.mem_append.mp hx with h | h
      · exact h2 x h
      · have e : x = Int.ofNat i := by simpa using h
        subst e
        constructor
        · exact Int.natCast_nonneg i
        · show (i : Int) ≤ k
          omega
    · rintro ⟨h1, h2⟩
      have hne : xs ≠ [] := fun e => by subst e; simp at h1
      refine ⟨xs.dropLast, mem_allM.mpr ⟨by rw [List.length_dropLast, h1]; rfl, fun x hx => h2 x (List.dropLast_subset _ hx)⟩, ?_⟩
      have hl := h2 (xs.getLast hne) (List.getLast_mem hne)
      refine List.mem_map.mpr ⟨(xs.getLast hne).toNat, List.mem_range.mpr (by omega), ?_⟩
      have e : Int.ofNat (xs.getLast hne).toNat = xs.getLast hne := by
        show (((xs.getLast hne).toNat : Nat) : Int) = _
        omega
      rw [e]
      exact List.dropLast_concat_getLast hne
theorem within_law {n : Nat} {S O E : List Mk} (h1 : Len n S) (h2 : Len n O) (hS : ∀ x ∈ S, x ∈ E) (hE : Len n E) :
    ((E.filter fun x => aboveSome x S).filter fun x => !decide (x ∈ E.filter fun x => aboveSome x O)).isEmpty = S.all fun m => aboveSome m O := by
  rw [Bool.eq_iff_iff, List.isEmpty_iff, List.filter_eq_nil_iff, List.all_eq_true]
  constructor
  · intro h m hm
    have hmE : m ∈ E.filter fun x => aboveSome x S := List.mem_filter.mpr ⟨hS m hm, by unfold aboveSome; exact List.any_eq_true.mpr ⟨m, hm, above_refl m⟩⟩
    have := h m hmE
    simp only [Bool.not_eq_true, Bool.not_eq_false', decide_eq_true_eq] at this
    exact (List.mem_filter.mp this).2
  · intro h x hx
    have hx' := List.mem_filter.mp hx
    simp only [Bool.not_eq_true, Bool.not_eq_false', decide_eq_true_eq]
    refine List.mem_filter.mpr ⟨hx'.1, ?_⟩
    obtain ⟨m, hm, a⟩ := List.any_eq_true.mp hx'.2
    obtain ⟨o, ho, b⟩ := List.any_eq_true.mp (h m hm)
    exact List.any_eq_true.mpr ⟨o, ho, above_tra ((hE x hx'.1).trans (h1 m hm).symm) ((h1 m hm).trans (h2 o ho).symm) a b⟩
theorem anti {n : Nat} {x y : Mk} (hx : x.length = n) (hy : y.length = n) (a : above x y = true) (b : above y x = true) : x = y := by
  rcases above_le (hx.trans hy.symm) a with e | h
  · exact e.symm
  · rcases above_le (hy.trans hx.symm) b with e | h'
    · exact e
    · exact absurd h' (stoM.asy _ _ h)
theorem same_law {n : Nat} {S O E : List Mk} (h1 : Len n S) (h2 : Len n O) (hS : ∀ x ∈ S, x ∈ E) (hO : ∀ x ∈ O, x ∈ E) (hE : Len n E) :
    decide ((E.filter fun x => aboveSome x S) = E.filter fun x => aboveSome x O) = decide (minL S = minL O) := by
  rw [Bool.eq_iff_iff, decide_eq_true_eq, decide_eq_true_eq]
  have half : ∀ {S O : List Mk}, Len n S → Len n O → (∀ x ∈ S, x ∈ E) → (∀ x ∈ O, x ∈ E) → (∀ x ∈ E, aboveSome x S = aboveSome x O) → ∀ x, x ∈ minL S → x ∈ minL O := by
    intro S O h1 h2 hS hO heq x hx
    obtain ⟨hxS, hmin⟩ := mem_minL.mp hx
    have toO : ∀ z ∈ S, ∃ y ∈ O, above z y = true := fun z hz => by
      have : aboveSome z O = true := by rw [← heq z (hS z hz)]; exact List.any_eq_true.mpr ⟨z, hz, above_refl z⟩
      exact List.any_eq_true.mp this
    have toS : ∀ z ∈ O, ∃ y ∈ S, above z y = true := fun z hz => by
      have : aboveSome z S = true := by rw [heq z (hO z hz)]; exact List.any_eq_true.mpr ⟨z, hz, above_refl z⟩
      exact List.any_eq_true.mp this
    have low : ∀ y ∈ O, above x y = true → y = x := fun y hy a => by
      obtain ⟨z, hz, b⟩ := toS y hy
      have c := above_tra ((h1 x hxS).trans (h2 y hy).symm) ((h2 y hy).trans (h1 z hz).symm) a b
      have ez : z = x := by
        unfold isMin at hmin
        rw [List.all_eq_true] at hmin
        have := hmin z hz
        rw [c] at this
        simpa using this
      subst ez
      exact anti (h2 y hy) (h1 z hz) b a
    obtain ⟨y, hy, a⟩ := toO x hxS
    have e := low y hy a
    subst e
    refine mem_minL.mpr ⟨hy, ?_⟩
    unfold isMin
    rw [List.all_eq_true]
    intro w hw
    cases c : above y w with
    | false => simp
    | true => simp [low w hw c]
  constructor
  · intro h
    have heq : ∀ x ∈ E, aboveSome x S = aboveSome x O := fun x hx => by
      have m1 : x ∈ (E.filter fun x => aboveSome x S) ↔ x ∈ E.filter fun x => aboveSome x O := by rw [h]
      rw [List.mem_filter, List.mem_filter] at m1
      rw [Bool.eq_iff_iff]
      exact ⟨fun a => (m1.mp ⟨hx, a⟩).2, fun a => (m1.mpr ⟨hx, a⟩).2⟩
    exact sorted_uniq stoM.asy (srt_pw _) (srt_pw _) fun x => ⟨half h1 h2 hS hO heq x, half h2 h1 hO hS (fun x hx => (heq x hx).symm) x⟩
  · intro h
    refine List.filter_congr fun x hx => ?_
    rw [← some_minL h1 (hE x hx), ← some_minL h2 (hE x hx), h]
/-! ### sizes -/
theorem nodes_ints : ∀ xs : List Int, nodesAll (xs.map .int) = xs.length
  | [] => rfl
  | x :: xs => by
    show nodes (.int x) + nodesAll (xs.map .int) = _
    rw [nodes_ints xs, List.length_cons]
    show 1 + _ = _
    omega
theorem nodes_mk (x : Mk) : nodes (mk x) = x.length + 1 := by
  show nodesAll (x.map .int) + 1 = _
  rw [nodes_ints]
theorem num_ints : ∀ xs : List Int, numDs (xs.map .int) = true
  | [] => rfl
  | x :: xs => by
    show (true && numDs (xs.map .int)) = true
    rw [num_ints xs]
    rfl
theorem num_mk (x : Mk) : numD (mk x) = true := num_ints x
theorem num_all {α : Type} {f : α → PyData} (h : ∀ x, numD (f x) = true) : ∀ xs : List α, numDs (xs.map f) = true
  | [] => rfl
  | x :: xs => by
    show (numD (f x) && numDs (xs.map f)) = true
    rw [h x, num_all h xs]
    rfl
theorem nodes_all_le {α : Type} {f : α → PyData} {c : Nat} : ∀ (xs : List α), (∀ x ∈ xs, nodes (f x) ≤ c) → nodesAll (xs.map f) ≤ xs.length * c
  | [], _ => Nat.zero_le _
  | x :: xs, h => by
    show nodes (f x) + nodesAll (xs.map f) ≤ _
    have h1 := h x (by simp)
    have h2 := nodes_all_le xs fun y hy => h y (by simp [hy])
    rw [List.length_cons, Nat.succ_mul]
    omega
end K60

set_option Elab.async false
set_option linter.all false
set_option maxRecDepth 100000
set_option maxHeartbeats 4000000
/-! The law's reading, from its end. -/
namespace K60
open PySem PySem.Spec PyProof.Rows L2 Ab
abbrev Env (ρ : AEnv) (F : List (Nat × AV)) : Prop := ρ.length = 36 ∧ ∀ p ∈ F, ρ[p.1]? = some (some p.2)
section
variable {ρ : AEnv} {F G : List (Nat × AV)}
theorem Env.nth (h : Env ρ F) (i : Nat) {j : Nat} {v : AV} (hi : F[i]? = some (j, v)) : ρ[j]? = some (some v) := h.2 _ (List.mem_of_getElem? hi)
theorem Env.keep (h : Env ρ F) {i : Nat} (x : Option AV) (hi : decide (i ∈ F.map (·.1)) = false := by rfl) : Env (ρ.set i x) F := ⟨by rw [List.length_set]; exact h.1, fun p hp => by
  have ne : i ≠ p.1 := fun e => of_decide_eq_false hi (e ▸ List.mem_map.mpr ⟨p, hp, rfl⟩)
  rw [List.getElem?_set_ne ne]
  exact h.2 p hp⟩
theorem Env.add (h : Env ρ F) {i : Nat} (x : AV) (hi : decide (i ∈ F.map (·.1)) = false := by rfl) (hb : i < 36 := by decide) : Env (ρ.set i (some x)) ((i, x) :: F) := ⟨by rw [List.length_set]; exact h.1, fun p hp => by
  rcases List.mem_cons.mp hp with e | hp
  · subst e
    exact List.getElem?_set_self (by rw [h.1]; exact hb)
  · exact (h.keep (some x) hi).2 p hp⟩
theorem Env.tail {p : Nat × AV} (h : Env ρ (p :: F)) : Env ρ F := ⟨h.1, fun q hq => h.2 q (List.mem_cons_of_mem _ hq)⟩
theorem Env.wipe0 (h : Env ρ F) : ∀ {vs : List Nat}, (∀ i ∈ vs, decide (i ∈ F.map (·.1)) = false) → Env (awipe ρ vs) F
  | [], _ => h
  | v :: vs, hv => (h.wipe0 fun i hi => hv i (List.mem_cons_of_mem _ hi)).keep none (hv v List.mem_cons_self)
theorem Env.wipe (h : Env ρ F) (vs : List Nat) (hv : (vs.all fun i => !decide (i ∈ F.map (·.1))) = true := by rfl) : Env (awipe ρ vs) F :=
  h.wipe0 fun i hi => by simpa using List.all_eq_true.mp hv i hi
end
theorem var {j : Nat} {ρ : AEnv} {μ : Mu} {x : AV} {Q : AV → Mu → Prop} (h : ρ[j]? = some (some x)) (q : Q x μ) : aVar j ρ μ Q := by
  unfold aVar
  rw [h]
  exact q
theorem notTrue {A B : Prop} (h : B) : (if (!true) = true then A else B) := h
theorem seqV {i : Nat} {t : Bool} {ds : List PyData} {ρ : AEnv} {μ : Mu} {R : List AV → Mu → Prop} (hi : ρ[i]? = some (some (.d (seqD t ds)))) (h : R (ds.map AV.d) μ) : aiSeq (aVar i) ρ μ R := seq_var hi h
abbrev EndB (D : AEnds) (b : Addr) : Prop := ∀ ρ μ β, Env ρ [(1, .v (.ref b))] → μ b = some (BagM β) → β.Ok → D.nx ρ μ
abbrev B0 (b : Addr) (n : Nat) (S O : List Mk) (one other : Mk) : List (Nat × AV) := [(1, .v (.ref b)), (3, I n), (4, .d (.list (S.map mk))), (5, .d (.list (O.map mk))), (6, .d (.list ((allM n 4).map mk))), (7, M one), (8, M other)]
structure Dat (n : Nat) (S O : List Mk) (one other : Mk) : Prop where
  n1 : 1 ≤ n
  n3 : n ≤ 3
  lS : Len n S
  lO : Len n O
  zS : S.length ≤ 4
  zO : O.length ≤ 4
  eS : ∀ x ∈ S, x ∈ allM n 4
  eO : ∀ x ∈ O, x ∈ allM n 4
  l1 : one.length = n
  l2 : other.length = n
  p1 : Nn one
theorem EndB.of {D : AEnds} {b : Addr} {n : Nat} {S O : List Mk} {one other : Mk} (hD : EndB D b) {ρ : AEnv} {μ : Mu} {β : Bag} (he : Env ρ (B0 b n S O one other)) (hb : μ b = some (BagM β)) (ok : β.Ok) : D.nx ρ μ :=
  hD ρ μ β ⟨he.1, fun p hp => he.2 p (by
    rw [List.mem_singleton.mp hp]
    exact List.mem_cons_self)⟩ hb ok
section
variable {KK : Kw} {D : AEnds} {b : Addr} {n : Nat} {S O : List Mk} {one other : Mk} {ρ : AEnv} {μ : Mu} {β : Bag}
theorem lw47 (hD : EndB D b) (dt : Dat n S O one other) {p : Pl} {ps : List Pl} (hp : p.2 = one) (he : Env ρ ((27, Bo (aboveSome one ((ps.filter fun q => decide (q.1 = p.1)).map (·.2)))) :: (26, .d (plD p)) :: (25, .d (.tuple (ps.map plD))) :: B0 b n S O one other)) (hb : μ b = some (BagM β)) (ok : β.Ok) : A_law_47 KK D ρ μ := by
  unfold A_law_47 aIfS aNot aB aCall aCons aNil
  refine var (he.nth 1 rfl) (var (he.nth 2 rfl) ?_)
  refine ⟨p, ps, rfl, ?_⟩
  refine var (he.nth 0 rfl) ?_
  refine ⟨.bool (aboveSome one ((ps.filter fun q => decide (q.1 = p.1)).map (·.2))), by rw [hp], rfl, by show 1 ≤ 1000000; decide, ?_⟩
  exact notTrue (hD.of he.tail.tail.tail hb ok)
theorem isEmpty_some {α : Type} {l : List α} {p : α → Bool} : (!(l.filter p).isEmpty) = l.any p := by
  rw [Bool.eq_iff_iff, List.any_eq_true]
  cases hf : l.filter p with
  | nil =>
    have := List.filter_eq_nil_iff.mp hf
    simpa using this
  | cons y r =>
    have : y ∈ l.filter p := by rw [hf]; simp
    have := List.mem_filter.mp this
    simp only [List.isEmpty_cons, Bool.not_false, true_iff]
    exact ⟨y, this.1, this.2⟩
theorem ones_nil {α : Type} {l : List α} {p : α → Bool} : (l.filterMap fun a => if p a = true then some (PyData.int 1) else none) = ((l.filter p).map fun _ => (1 : Int)).map .int := by
  rw [List.map_map, map_filter_fm]
  rfl
theorem lw46 (hD : EndB D b) (dt : Dat n S O one other) {p : Pl} {ps : List Pl} (hp : p.2 = one) (he : Env ρ ((26, .d (plD p)) :: (25, .d (.tuple (ps.map plD))) :: B0 b n S O one other)) (hb : μ b = some (BagM β)) (ok : β.Ok) : A_law_46 KK D ρ μ := by
  unfold A_law_46 aSeq aAsg aOp
  have hw := he.wipe [33, 15]
  refine aLc_if (fun r : Pl => AV.d (plD r)) (fun r => if (decide (r.1 = p.1) && above one r.2) = true then some (.int 1) else none) ps ?_ ?_ ?_
  · exact fun R h => seqV (t := true) (ds := ps.map plD) (he.nth 1 rfl) (by rw [← mapP]; exact h)
  · intro r _ k hk
    have h1 := (hw.add (i := 33) (.d (.int r.1))).add (i := 15) (.d (mk r.2))
    refine ⟨rfl, rfl, ?_⟩
    show aAnd _ _ ((awipe ρ [33, 15]).set 33 (some (.d (.int r.1))) |>.set 15 (some (.d (mk r.2)))) μ _
    generalize ((awipe ρ [33, 15]).set 33 (some (.d (.int r.1)))).set 15 (some (.d (mk r.2))) = ρ1 at h1 ⊢
    unfold aAnd aB
    refine var (h1.nth 1 rfl) (var (h1.nth 2 rfl) ?_)
    refine ⟨.int p.1, ix0, rfl, rfl, ?_⟩
    show if PyData.eqv (.int r.1) (.int p.1) = true then _ else _
    rw [eqv_int]
    by_cases h2 : r.1 = p.1
    · simp only [h2, decide_true, Bool.true_and, if_true] at hk ⊢
      unfold aCall aCons aNil
      refine var (h1.nth 9 rfl) (var (h1.nth 0 rfl) ?_)
      refine ⟨one, r.2, rfl, ?_⟩
      show if above one r.2 = true then k (some (I 1)) μ else k none μ
      by_cases h3 : above one r.2 = true
      · rw [if_pos h3] at hk ⊢
        exact hk
      · rw [if_neg h3] at hk ⊢
        exact hk
    · simp only [h2, decide_false, Bool.false_and, Bool.false_eq_true, if_false] at hk ⊢
      exact hk
  · rw [ones_nil]
    refine ⟨[], rfl, Nat.zero_le _, sh_ints _, sh_nil, ?_⟩
    rw [eqv_nil, List.isEmpty_map, List.isEmpty_map, isEmpty_some]
    have e : (ps.any fun r => decide (r.1 = p.1) && above one r.2) = aboveSome one ((ps.filter fun q => decide (q.1 = p.1)).map (·.2)) := by
      unfold aboveSome
      rw [List.any_map, List.any_filter]
      rfl
    rw [e]
    exact lw47 (KK := KK) hD dt hp (he.add (i := 27) _) hb ok
theorem lw45 (hD : EndB D b) (dt : Dat n S O one other) {ps : List Pl} (he : Env ρ ((25, .d (.tuple (ps.map plD))) :: B0 b n S O one other)) (hb : μ b = some (BagM β)) (ok : β.Ok) : A_law_45 KK D ρ μ := by
  unfold A_law_45 aSeq aAsg aTup aCall aCons aC aNil
  refine var (he.nth 1 rfl) ?_
  refine ⟨b, 2, β, rfl, hb, ok, by omega, by omega, fun β' r ok' r0 r1 => ?_⟩
  refine var (he.nth 6 rfl) ?_
  refine ⟨[.int r, mk one], rfl, by show 2 ≤ sizeLine; decide, ?_⟩
  exact lw46 (KK := KK) (p := (r, one)) hD dt rfl (he.add (i := 26) (.d (plD (r, one)))) mset_same ok'
theorem nodes_pl (p : Pl) : nodes (plD p) = p.2.length + 3 := by
  show nodesAll [.int p.1, mk p.2] + 1 = _
  show nodes (.int p.1) + (nodes (mk p.2) + 0) + 1 = _
  rw [nodes_mk]
  show 1 + _ + 1 = _
  omega
theorem num_pl (p : Pl) : numD (plD p) = true := by
  show (true && (numD (mk p.2) && true)) = true
  rw [num_mk]
  rfl
theorem len_leastPl (ps : List Pl) : (leastPl ps).length ≤ ps.length := by
  unfold leastPl
  rw [List.length_mergeSort]
  exact Nat.le_trans len_uniq (List.length_filter_le _ _)
theorem lw43 (hD : EndB D b) (dt : Dat n S O one other) {ps : List Pl} (hl : Len n (ps.map (·.2))) (hz : ps.length ≤ 4) (he : Env ρ ((25, .d (.tuple (ps.map plD))) :: B0 b n S O one other)) (hb : μ b = some (BagM β)) (ok : β.Ok) : A_law_43 KK D ρ μ := by
  unfold A_law_43 aSeq aIfS aNot aB aCall aCons aNil
  refine var (he.nth 0 rfl) ?_
  refine ⟨n, ps, rfl, dt.n1, hl, by omega, ?_⟩
  refine var (he.nth 0 rfl) ?_
  refine ⟨n, ps, rfl, dt.n1, hl, by omega, ?_⟩
  refine ⟨.tuple ((leastPl ps).map plD), rfl, num_all num_pl _, ?_, ?_⟩
  · show nodesAll ((leastPl ps).map plD) + 1 ≤ _
    have h1 := nodes_all_le (f := plD) (c := n + 3) (leastPl ps) fun p hp => by
      rw [nodes_pl, hl p.2 (List.mem_map.mpr ⟨p, (mem_leastPl.mp hp).1, rfl⟩)]
      exact Nat.le_refl _
    have h2 := len_leastPl ps
    have h3 := dt.n3
    have h4 : (leastPl ps).length * (n + 3) ≤ 4 * 6 := Nat.mul_le_mul (by omega) (by omega)
    omega
  · exact notTrue (lw45 (KK := KK) hD dt he hb ok)
end
end K60

set_option Elab.async false
set_option linter.all false
set_option maxRecDepth 100000
set_option maxHeartbeats 4000000
/-! The law's reading, on. -/
namespace K60
open PySem PySem.Spec PyProof.Rows L2 Ab
section
variable {KK : Kw} {D : AEnds} {b : Addr} {n : Nat} {S O : List Mk} {one other : Mk} {ρ : AEnv} {μ : Mu} {β : Bag}
theorem lw42 (hD : EndB D b) (dt : Dat n S O one other) (he : Env ρ (B0 b n S O one other)) (hb : μ b = some (BagM β)) (ok : β.Ok) : A_law_42 KK D ρ μ := by
  unfold A_law_42 aSeq aAsg aCall aCons aNil aLc
  refine seqV (t := false) (ds := S.map mk) (he.nth 2 rfl) ?_
  rw [← mapM]
  have hw := he.wipe [15]
  have key : ∀ (xs : List Mk) (acc : List Pl) (β : Bag) (μ1 : Mu) (R : List AV → Mu → Prop), μ1 b = some (BagM β) → β.Ok → (∀ β' (ps : List Pl), β'.Ok → ps.map (·.2) = acc.map (·.2) ++ xs → R (ps.map fun p => AV.d (plD p)) (mset μ1 b (BagM β'))) →
      lcGo (agN 15) aYes (aTup (aCons (aCall sp__law_take (aCons (aVar 1) (aCons (aC (.d (.int 2))) aNil))) (aCons (aVar 15) aNil))) (awipe ρ [15]) (xs.map fun xs => M xs) (acc.map fun p => AV.d (plD p)) μ1 R := by
    intro xs
    induction xs with
    | nil =>
      intro acc β μ1 R hb ok k
      have := k β acc ok (by simp)
      rw [mset_self hb] at this
      simpa [lcGo] using this
    | cons x xs ih =>
      intro acc β μ1 R hb ok k
      rw [List.map_cons]
      unfold lcGo agN aYes
      simp only [if_true]
      have h1 := hw.add (i := 15) (.d (mk x))
      generalize (awipe ρ [15]).set 15 (some (.d (mk x))) = ρ1 at h1 ⊢
      unfold aTup aCons aCall aC aNil
      refine var (h1.nth 1 rfl) ?_
      refine ⟨b, 2, β, rfl, hb, ok, by omega, by omega, fun β' r ok' r0 r1 => ?_⟩
      refine var (h1.nth 0 rfl) ?_
      refine ⟨[.int r, mk x], rfl, by show 2 ≤ sizeLine; decide, ?_⟩
      have := ih (acc ++ [(r, x)]) β' (mset μ1 b (BagM β')) R mset_same ok' fun β'' ps ok'' hp => by
        rw [mset_mset]
        exact k β'' ps ok'' (by rw [hp]; simp)
      rw [List.map_append] at this
      exact this
  refine key S [] β μ _ hb ok fun β' ps ok' hp => ⟨_, by rw [mapP, datas_map], ?_⟩
  rw [List.map_nil, List.nil_append] at hp
  refine lw43 (KK := KK) hD dt (by rw [hp]; exact dt.lS) ?_ (he.add (i := 25) (.d (.tuple (ps.map plD)))) mset_same ok'
  have := congrArg List.length hp
  rw [List.length_map] at this
  have := dt.zS
  omega
def rD (p : Nat × Nat) : PyData := .tuple [.int p.1, .int p.2]
theorem rD_can (p : Nat × Nat) : (rD p).canLay0 = true := rfl
theorem rD_depth (p : Nat × Nat) : (rD p).depth ≤ 1 := by
  show PyData.depth (.tuple [.int p.1, .int p.2]) ≤ 1
  simp [PyData.depth, PyData.depthAll]
theorem lw40 (hD : EndB D b) (dt : Dat n S O one other) {line : List Mk} (hz : line.length ≤ 1000) (he : Env ρ ((23, .d (.list ((rises line).map rD))) :: (22, .d (.list (line.map mk))) :: B0 b n S O one other)) (hb : μ b = some (BagM β)) (ok : β.Ok) : A_law_40 KK D ρ μ := by
  unfold A_law_40 aSeq aIfS aNot aB aCall aCons aNil
  refine var (he.nth 1 rfl) ?_
  refine ⟨line, rfl, hz, ?_⟩
  unfold aIf aOp
  refine var (he.nth 0 rfl) ?_
  refine ⟨[], rfl, Nat.zero_le _, sh_list rD_can rD_depth (by decide) _, sh_nil, ?_⟩
  show if (!PyData.eqv (.list ((rises line).map rD)) (.list [])) = true then _ else _
  rw [eqv_nil, List.isEmpty_map]
  have nxt := lw42 (KK := KK) hD dt he.tail.tail hb ok
  cases hr : rises line with
  | nil =>
    show if (!true) = true then _ else _
    refine notTrue ?_
    refine ⟨.none, rfl, rfl, by show 1 ≤ 1000000; decide, ?_⟩
    exact notTrue nxt
  | cons p r =>
    show if (!false) = true then _ else _
    rw [if_pos (by decide)]
    refine var (he.nth 0 rfl) ?_
    rw [hr]
    refine ⟨rD p, ix0, ?_⟩
    refine ⟨rD p, rfl, rfl, by show 3 ≤ 1000000; decide, ?_⟩
    exact notTrue nxt
theorem lw39 {D : AEnds} {line : List Mk} {later : Nat} {acc : List (Nat × Nat)} (hz : line.length ≤ 1000) (hl : later < line.length) (ha : acc.length ≤ 1000000) (he : Env ρ ((24, I later) :: (22, .d (.list (line.map mk))) :: B0 b n S O one other)) (h23 : ρ[23]? = some (some (.d (.list (acc.map rD)))))
    (q : ∀ ρ', Env ρ' ((23, .d (.list ((acc ++ ((List.range later).filter fun i => above (line.getD later []) (line.getD i [])).map fun i => (i, later)).map rD))) :: (22, .d (.list (line.map mk))) :: B0 b n S O one other) → D.nx ρ' μ) : A_law_39 KK D ρ μ := by
  unfold A_law_39 aAsg aOp
  refine var h23 ?_
  have hw := he.wipe [32]
  refine aLc_if (fun i : Nat => I (0 + (i : Nat))) (fun i => if above (line.getD later []) (line.getD i []) = true then some (rD (i, later)) else none) (List.range later) ?_ ?_ ?_
  · intro R h
    unfold aiR1 aCons aNil
    refine var (he.nth 0 rfl) ?_
    refine ⟨by omega, by omega, ?_⟩
    rw [rangeI_eq]
    have e : ((later : Int)).toNat = later := by omega
    rw [e]
    exact h
  · intro i hi k hk
    have hil := List.mem_range.mp hi
    have h1 := hw.add (i := 32) (I (0 + (i : Nat)))
    show aB _ ((awipe ρ [32]).set 32 (some (I (0 + (i : Nat))))) μ _
    generalize (awipe ρ [32]).set 32 (some (I (0 + (i : Nat)))) = ρ1 at h1 ⊢
    unfold aB aCall aCons aNil
    have gl : ∀ j : Nat, j < line.length → atI (line.map mk) (j : Int) = some (mk (line.getD j [])) := fun j hj => atI_nat (by
      rw [List.getElem?_map, List.getElem?_eq_getElem hj]
      simp [List.getD_eq_getElem?_getD, List.getElem?_eq_getElem hj])
    refine var (h1.nth 2 rfl) (var (h1.nth 1 rfl) ?_)
    refine ⟨mk (line.getD later []), gl later hl, ?_⟩
    refine var (h1.nth 2 rfl) (var (h1.nth 0 rfl) ?_)
    refine ⟨mk (line.getD i []), by rw [Int.zero_add]; exact gl i (by omega), ?_⟩
    refine ⟨line.getD later [], line.getD i [], rfl, ?_⟩
    show if above (line.getD later []) (line.getD i []) = true then _ else _
    by_cases h : above (line.getD later []) (line.getD i []) = true
    · rw [if_pos h] at hk ⊢
      unfold aTup
      refine var (h1.nth 0 rfl) (var (h1.nth 1 rfl) ?_)
      refine ⟨[.int (0 + (i : Nat)), .int later], rfl, by show 2 ≤ sizeLine; decide, ?_⟩
      rw [Int.zero_add]
      exact hk
    · rw [if_neg h] at hk ⊢
      exact hk
  · have e : (List.range later).filterMap (fun i => if above (line.getD later []) (line.getD i []) = true then some (rD (i, later)) else none) = (((List.range later).filter fun i => above (line.getD later []) (line.getD i [])).map fun i => (i, later)).map rD := by
      rw [List.map_map, map_filter_fm]
      rfl
    rw [e]
    refine ⟨?_, ?_⟩
    · rw [List.length_map, List.length_map, List.length_map, sizeLine_eq]
      have := List.length_filter_le (fun i => above (line.getD later []) (line.getD i [])) (List.range later)
      rw [List.length_range] at this
      omega
    · rw [← List.map_append]
      refine q _ ?_
      have h0 : Env (ρ.set 23 (some (.d (.list ((acc ++ ((List.range later).filter fun i => above (line.getD later []) (line.getD i [])).map fun i => (i, later)).map rD))))) _ := he.tail.add (i := 23) (.d (.list ((acc ++ ((List.range later).filter fun i => above (line.getD later []) (line.getD i [])).map fun i => (i, later)).map rD)))
      exact h0
theorem rise_loop {D : AEnds} {line : List Mk} (hz : line.length ≤ 100) : ∀ (ls : List Nat) (acc : List (Nat × Nat)) (ρ : AEnv), (∀ i ∈ ls, i < line.length) → acc.length + ls.length * 100 ≤ 100000 → Env ρ ((23, .d (.list (acc.map rD))) :: (22, .d (.list (line.map mk))) :: B0 b n S O one other) →
    (∀ ρ', Env ρ' ((23, .d (.list ((acc ++ ls.flatMap fun later => ((List.range later).filter fun i => above (line.getD later []) (line.getD i [])).map fun i => (i, later)).map rD))) :: (22, .d (.list (line.map mk))) :: B0 b n S O one other) → D.nx ρ' μ) →
    forGo (agN 24) (A_law_39 KK) D (ls.map fun (i : Nat) => I (0 + i)) ρ μ
  | [], acc, ρ, _, _, he, q => q ρ (by rw [List.flatMap_nil, List.append_nil]; exact he)
  | l :: ls, acc, ρ, hi, ha, he, q => by
    have hl := hi l (by simp)
    rw [List.map_cons]
    unfold forGo
    rw [Int.zero_add]
    show A_law_39 KK _ (ρ.set 24 (some (I l))) μ
    rw [List.length_cons, Nat.succ_mul] at ha
    refine lw39 (KK := KK) (acc := acc) (by omega) hl (by omega) (he.tail.add (i := 24) (I l)) ((he.keep (i := 24) _).nth 0 rfl) fun ρ' he' => ?_
    refine rise_loop hz ls _ ρ' (fun i h => hi i (by simp [h])) ?_ he' fun ρ'' he'' => q ρ'' ?_
    · have := List.length_filter_le (fun i => above (line.getD l []) (line.getD i [])) (List.range l)
      rw [List.length_range] at this
      rw [List.length_append, List.length_map]
      omega
    · rw [List.flatMap_cons, ← List.append_assoc]
      exact he''
theorem lw37 (hD : EndB D b) (dt : Dat n S O one other) {line : List Mk} (hz : line.length ≤ 10) (he : Env ρ ((22, .d (.list (line.map mk))) :: B0 b n S O one other)) (hb : μ b = some (BagM β)) (ok : β.Ok) : A_law_37 KK D ρ μ := by
  unfold A_law_37 aSeq
  refine ⟨[], rfl, Nat.zero_le _, ?_⟩
  have h1 := he.add (i := 23) (.d (.list []))
  show A_law_38 KK D (ρ.set 23 (some (.d (.list [])))) μ
  generalize ρ.set 23 (some (.d (.list []))) = ρ1 at h1 ⊢
  unfold A_law_38 aSeq aFor aiR1 aCons aCall aNil
  refine var (h1.nth 1 rfl) ?_
  refine ⟨by omega, ?_, ?_⟩
  · rw [List.length_map]; omega
  · rw [rangeI_eq]
    have e : (((line.map mk).length : Int)).toNat = line.length := by rw [List.length_map]; omega
    rw [e]
    refine rise_loop (KK := KK) (by omega) _ [] ρ1 (fun i hi => List.mem_range.mp hi) (by rw [List.length_range]; simp; omega) h1 fun ρ' he' => ?_
    rw [List.nil_append] at he'
    exact lw40 (KK := KK) (line := line) hD dt (by omega) he' hb ok
theorem marks_gen {i : Nat} (hi : decide (i ∈ (B0 b n S O one other).map (·.1)) = false) : True := trivial
end
end K60

set_option Elab.async false
set_option linter.all false
set_option maxRecDepth 100000
set_option maxHeartbeats 4000000
/-! The law's reading, parts 25 to 36. -/
namespace K60
open PySem PySem.Spec PyProof.Rows L2 Ab
def Good (n : Nat) (x : Mk) : Prop := x.length = n ∧ ∀ i ∈ x, 0 ≤ i ∧ i < 4
theorem Good.mem {n : Nat} {x : Mk} (h : Good n x) : x ∈ allM n 4 := mem_allM.mpr ⟨h.1, fun i hi => by have := h.2 i hi; omega⟩
section
variable {KK : Kw} {D : AEnds} {b : Addr} {n : Nat} {S O : List Mk} {one other : Mk} {ρ : AEnv} {μ : Mu} {β : Bag}
theorem drawn {v : Nat} {ρ1 : AEnv} (hn : n ≤ 3) (h1 : ρ1[1]? = some (some (.v (.ref b)))) (h3 : ρ1[3]? = some (some (I n))) (v1 : v ≠ 1) (v3 : v ≠ 3) : ∀ (is : List Nat) (acc : List Mk) (β : Bag) (μ1 : Mu) (R : List AV → Mu → Prop), μ1 b = some (BagM β) → β.Ok →
    (∀ β' (L : List Mk), β'.Ok → L.length = acc.length + is.length → (∀ x ∈ L, x ∈ acc ∨ Good n x) → R (L.map fun xs => M xs) (mset μ1 b (BagM β'))) →
    lcGo (agN v) aYes (aCall sp__law_marks (aCons (aVar 1) (aCons (aVar 3) aNil))) ρ1 (is.map fun (i : Nat) => I (0 + i)) (acc.map fun xs => M xs) μ1 R
  | [], acc, β, μ1, R, hb, ok, k => by
    have := k β acc ok (by simp) fun x hx => .inl hx
    rw [mset_self hb] at this
    simpa [lcGo] using this
  | i :: is, acc, β, μ1, R, hb, ok, k => by
    rw [List.map_cons]
    unfold lcGo
    show aCall sp__law_marks (aCons (aVar 1) (aCons (aVar 3) aNil)) (ρ1.set v (some (I (0 + i)))) μ1 fun y μ4 => lcGo (agN v) aYes (aCall sp__law_marks (aCons (aVar 1) (aCons (aVar 3) aNil))) ρ1 (is.map fun (i : Nat) => I (0 + i)) ((acc.map fun xs => M xs) ++ [y]) μ4 R
    unfold aCall aCons aNil
    refine var (by rw [List.getElem?_set_ne v1]; exact h1) (var (by rw [List.getElem?_set_ne v3]; exact h3) ?_)
    refine ⟨b, n, β, rfl, hb, ok, by omega, by omega, fun β' xs ok' hl hx => ?_⟩
    have := drawn hn h1 h3 v1 v3 is (acc ++ [xs]) β' (mset μ1 b (BagM β')) R mset_same ok' fun β'' L ok'' hL hg => by
      rw [mset_mset]
      refine k β'' L ok'' (by simp at hL ⊢; omega) fun x hx' => ?_
      rcases hg x hx' with h | h
      · rcases List.mem_append.mp h with h | h
        · exact .inl h
        · rw [List.mem_singleton.mp h]
          exact .inr ⟨by omega, hx⟩
      · exact .inr h
    rw [List.map_append] at this
    exact this
theorem drawn_all {v : Nat} {k : Int} {R : AV → Mu → Prop} {F : List (Nat × AV)} (hn : n ≤ 3) (hk : 0 < k) (hk2 : k < 100) (he : Env ρ F) (g1 : ρ[1]? = some (some (.v (.ref b)))) (g3 : ρ[3]? = some (some (I n))) (v1 : v ≠ 1) (v3 : v ≠ 3) (hb : μ b = some (BagM β)) (ok : β.Ok)
    (q : ∀ β' (L : List Mk), β'.Ok → (L.length : Int) < k → (∀ x ∈ L, Good n x) → R (.d (.list (L.map mk))) (mset μ b (BagM β'))) :
    aLc (aiR1 (aCons (aCall sp__law_take (aCons (aVar 1) (aCons (aC (.d (.int k))) aNil))) aNil)) (agN v) aYes (aCall sp__law_marks (aCons (aVar 1) (aCons (aVar 3) aNil))) [v] ρ μ R := by
  have hw : ∀ j, j ≠ v → (awipe ρ [v])[j]? = ρ[j]? := fun j hj => List.getElem?_set_ne (Ne.symm hj)
  unfold aLc aiR1
  show aVar 1 ρ μ _
  refine var g1 ?_
  refine ⟨b, k, β, rfl, hb, ok, hk, by omega, fun β' r ok' r0 r1 => ?_⟩
  refine ⟨by omega, by omega, ?_⟩
  rw [rangeI_eq]
  refine drawn hn (by rw [hw 1 (Ne.symm v1)]; exact g1) (by rw [hw 3 (Ne.symm v3)]; exact g3) v1 v3 (List.range r.toNat) [] β' _ _ mset_same ok' fun β'' L ok'' hL hg => ⟨_, datasM L, ?_⟩
  rw [mset_mset]
  refine q β'' L ok'' ?_ fun x hx => (hg x hx).resolve_left (by simp)
  rw [List.length_range] at hL
  simp at hL
  omega
theorem lw36 (hD : EndB D b) (dt : Dat n S O one other) (he : Env ρ (B0 b n S O one other)) (hb : μ b = some (BagM β)) (ok : β.Ok) : A_law_36 KK D ρ μ := by
  unfold A_law_36 aSeq aAsg
  refine drawn_all (n := n) dt.n3 (by omega) (by omega) he (he.nth 0 rfl) (he.nth 1 rfl) (by decide) (by decide) hb ok fun β' L ok' hL hg => ?_
  exact lw37 (KK := KK) (line := L) hD dt (by omega) (he.add (i := 22) (.d (.list (L.map mk)))) mset_same ok'
abbrev Em (n : Nat) (S : List Mk) : List Mk := (allM n 4).filter fun x => aboveSome x S
theorem lenE : Len n (allM n 4) := (allM_len n 4).1
theorem lw34 (hD : EndB D b) (dt : Dat n S O one other) (he : Env ρ ((21, Bo (S.all fun m => aboveSome m O)) :: (20, .d (.list ((Em n O).map mk))) :: (19, .d (.list ((Em n S).map mk))) :: B0 b n S O one other)) (hb : μ b = some (BagM β)) (ok : β.Ok) : A_law_34 KK D ρ μ := by
  unfold A_law_34 aSeq aIfS aNot aB aCall aLst aCons aNil aOp
  refine var (he.nth 5 rfl) (var (he.nth 6 rfl) ?_)
  refine ⟨S, O, rfl, ?_⟩
  refine var (he.nth 5 rfl) (var (he.nth 6 rfl) ?_)
  refine ⟨n, S, O, rfl, dt.n1, dt.lS, dt.lO, by have := dt.zS; omega, by have := dt.zO; omega, ?_⟩
  refine ⟨[.bool (S.all fun m => aboveSome m O), .bool (decide (minL S = minL O))], rfl, by show 2 ≤ sizeLine; decide, ?_⟩
  refine var (he.nth 0 rfl) (var (he.nth 2 rfl) (var (he.nth 1 rfl) ?_))
  refine ⟨sh_marks _, sh_marks _, ?_⟩
  rw [eqv_marks, same_law dt.lS dt.lO dt.eS dt.eO lenE]
  refine ⟨[.bool (S.all fun m => aboveSome m O), .bool (decide (minL S = minL O))], rfl, by show 2 ≤ sizeLine; decide, ?_⟩
  refine ⟨_, rfl, rfl, by show 3 ≤ 1000000; decide, ?_⟩
  exact notTrue (lw36 (KK := KK) hD dt he.tail.tail.tail hb ok)
theorem lw33 (hD : EndB D b) (dt : Dat n S O one other) (he : Env ρ ((20, .d (.list ((Em n O).map mk))) :: (19, .d (.list ((Em n S).map mk))) :: B0 b n S O one other)) (hb : μ b = some (BagM β)) (ok : β.Ok) : A_law_33 KK D ρ μ := by
  unfold A_law_33 aSeq aAsg aOp
  have hw := he.wipe [15]
  refine aLc_if (fun x : Mk => M x) (fun x => if (!decide (x ∈ Em n O)) = true then some (mk x) else none) (Em n S) ?_ ?_ ?_
  · exact fun R h => seqV (t := false) (ds := (Em n S).map mk) (he.nth 1 rfl) (by rw [← mapM]; exact h)
  · intro x _ k hk
    have h1 := hw.add (i := 15) (M x)
    unfold agN
    generalize (awipe ρ [15]).set 15 (some (M x)) = ρ1 at h1 ⊢
    unfold aB
    refine var (h1.nth 0 rfl) (var (h1.nth 1 rfl) ?_)
    refine ⟨sh_mk x, sh_marks _, ?_⟩
    have e : (((Em n O).map mk).any fun z => PyData.eqv z (mk x)) = decide (x ∈ Em n O) := by
      rw [List.any_map, Bool.eq_iff_iff, List.any_eq_true, decide_eq_true_eq]
      constructor
      · rintro ⟨z, hz, e⟩
        have : z = x := by
          have e' : PyData.eqv (mk z) (mk x) = true := e
          rw [eqv_mk] at e'
          simpa using e'
        rw [← this]; exact hz
      · exact fun h => ⟨x, h, by show PyData.eqv (mk x) (mk x) = true; rw [eqv_mk]; simp⟩
    show if (!((Em n O).map mk).any fun z => PyData.eqv z (mk x)) = true then _ else _
    rw [e]
    by_cases h : (!decide (x ∈ Em n O)) = true
    · rw [if_pos h] at hk ⊢
      exact var (h1.nth 0 rfl) hk
    · rw [if_neg h] at hk ⊢
      exact hk
  · have e : (Em n S).filterMap (fun x => if (!decide (x ∈ Em n O)) = true then some (mk x) else none) = ((Em n S).filter fun x => !decide (x ∈ Em n O)).map mk := by
      rw [map_filter_fm]
    rw [e]
    refine ⟨[], rfl, Nat.zero_le _, sh_marks _, sh_nil, ?_⟩
    rw [eqv_nil, List.isEmpty_map, within_law dt.lS dt.lO dt.eS lenE]
    exact lw34 (KK := KK) hD dt (he.add (i := 21) _) hb ok
theorem in_comp {i : Nat} {T : List Mk} {F : List (Nat × AV)} {R : AV → Mu → Prop} (he : Env ρ F) (g6 : ρ[6]? = some (some (.d (.list ((allM n 4).map mk))))) (gi : ρ[i]? = some (some (.d (.list (T.map mk))))) (hi : i ≠ 15) (h36 : ρ.length = 36) (q : R (.d (.list (((allM n 4).filter fun x => aboveSome x T).map mk))) μ) :
    aLc (aiSeq (aVar 6)) (agN 15) (aB (aCall sp__law_in (aCons (aVar i) (aCons (aVar 15) aNil)))) (aVar 15) [15] ρ μ R := by
  refine aLc_if (fun x : Mk => M x) (fun x => if aboveSome x T = true then some (mk x) else none) (allM n 4) ?_ ?_ ?_
  · exact fun R h => seqV (t := false) (ds := (allM n 4).map mk) g6 (by rw [← mapM]; exact h)
  · intro x _ k hk
    have gg : ((awipe ρ [15]).set 15 (some (M x)))[i]? = some (some (.d (.list (T.map mk)))) := by
      rw [List.getElem?_set_ne (Ne.symm hi)]
      show (ρ.set 15 none)[i]? = _
      rw [List.getElem?_set_ne (Ne.symm hi)]
      exact gi
    have g15 : ((awipe ρ [15]).set 15 (some (M x)))[15]? = some (some (M x)) := List.getElem?_set_self (by show 15 < (ρ.set 15 none).length; rw [List.length_set, h36]; decide)
    show aB _ ((awipe ρ [15]).set 15 (some (M x))) μ _
    generalize (awipe ρ [15]).set 15 (some (M x)) = ρ1 at gg g15 ⊢
    unfold aB aCall aCons aNil
    refine var gg (var g15 ?_)
    refine ⟨false, T, x, rfl, ?_⟩
    show if aboveSome x T = true then _ else _
    by_cases h : aboveSome x T = true
    · rw [if_pos h] at hk ⊢
      exact var g15 hk
    · rw [if_neg h] at hk ⊢
      exact hk
  · have e : (allM n 4).filterMap (fun x => if aboveSome x T = true then some (mk x) else none) = ((allM n 4).filter fun x => aboveSome x T).map mk := by
      rw [map_filter_fm]
    rw [e]
    exact q
theorem lw32 (hD : EndB D b) (dt : Dat n S O one other) (he : Env ρ ((19, .d (.list ((Em n S).map mk))) :: B0 b n S O one other)) (hb : μ b = some (BagM β)) (ok : β.Ok) : A_law_32 KK D ρ μ := by
  unfold A_law_32 aSeq aAsg
  refine in_comp (n := n) (T := O) he (he.nth 5 rfl) (he.nth 4 rfl) (by decide) he.1 ?_
  exact lw33 (KK := KK) hD dt (he.add (i := 20) _) hb ok
theorem lw31 (hD : EndB D b) (dt : Dat n S O one other) (he : Env ρ (B0 b n S O one other)) (hb : μ b = some (BagM β)) (ok : β.Ok) : A_law_31 KK D ρ μ := by
  unfold A_law_31 aSeq aAsg
  refine in_comp (n := n) (T := S) he (he.nth 4 rfl) (he.nth 2 rfl) (by decide) he.1 ?_
  exact lw32 (KK := KK) hD dt (he.add (i := 19) _) hb ok
theorem len_minL (S : List Mk) : (minL S).length ≤ S.length := Nat.le_trans len_srt (List.length_filter_le _ _)
theorem len_maxL (S : List Mk) : (maxL S).length ≤ S.length := Nat.le_trans len_srt (List.length_filter_le _ _)
theorem latt_len (S O : List Mk) : (latt S O).length = S.length * O.length := by
  unfold latt
  induction S with
  | nil => simp
  | cons a s ih => rw [List.flatMap_cons, List.length_append, ih, List.length_map, List.length_cons, Nat.succ_mul]; omega
theorem lw29 (hD : EndB D b) (dt : Dat n S O one other) (he : Env ρ ((18, .d (.tuple ((minL (latt S O)).map mk))) :: B0 b n S O one other)) (hb : μ b = some (BagM β)) (ok : β.Ok) : A_law_29 KK D ρ μ := by
  unfold A_law_29 aSeq aIfS aB aOp aCall aCons aNil
  refine var (he.nth 0 rfl) (var (he.nth 0 rfl) ?_)
  have h1 := len_minL (latt S O)
  have h2 : (latt S O).length ≤ 4 * 4 := by rw [latt_len]; exact Nat.mul_le_mul dt.zS dt.zO
  refine ⟨n, true, minL (latt S O), rfl, dt.n1, fun x hx => len_latt dt.lS dt.lO x (mem_minL.mp hx).1, by omega, sh_marksT _, sh_marksT _, ?_⟩
  rw [minL_minL, eqv_marksT]
  show if (!decide (minL (latt S O) = minL (latt S O))) = true then _ else _
  rw [decide_eq_true rfl]
  exact notTrue (lw31 (KK := KK) hD dt he.tail hb ok)
theorem lw27 {D : AEnds} (dt : Dat n S O one other) {x : Mk} (hx : x.length = n) (he : Env ρ ((15, M x) :: (18, .d (.tuple ((minL (latt S O)).map mk))) :: B0 b n S O one other)) (q : D.nx ρ μ) : A_law_27 KK D ρ μ := by
  unfold A_law_27 aIfS aB aOp aCall aAndV aCons aNil
  refine var (he.nth 1 rfl) (var (he.nth 0 rfl) ?_)
  refine ⟨true, minL (latt S O), x, rfl, ?_⟩
  refine var (he.nth 4 rfl) (var (he.nth 0 rfl) ?_)
  refine ⟨false, S, x, rfl, ?_⟩
  rw [both_law dt.lS dt.lO hx]
  have fin : ∀ c : Bool, (aboveSome x S && aboveSome x O) = c → SeqAt.shaped (.bool (aboveSome x S && aboveSome x O)) = true ∧ SeqAt.shaped (.bool c) = true ∧ (if (!PyData.eqv (.bool (aboveSome x S && aboveSome x O)) (.bool c)) = true then aRet (aC (.d (.bool false))) D ρ μ else aNext D ρ μ) := fun c e => by
    rw [e]
    refine ⟨rfl, rfl, ?_⟩
    rw [if_neg (by unfold PyData.eqv; cases c <;> decide)]
    exact q
  show if aboveSome x S = true then _ else _
  cases h : aboveSome x S with
  | true =>
    rw [if_pos rfl]
    refine var (he.nth 5 rfl) (var (he.nth 0 rfl) ?_)
    refine ⟨false, O, x, rfl, ?_⟩
    have := fin (aboveSome x O) (by rw [h]; rfl)
    rw [h] at this
    exact this
  | false =>
    rw [if_neg (by decide)]
    have := fin false (by rw [h]; rfl)
    rw [h] at this
    exact this
theorem lw26 (hD : EndB D b) (dt : Dat n S O one other) (he : Env ρ ((18, .d (.tuple ((minL (latt S O)).map mk))) :: B0 b n S O one other)) (hb : μ b = some (BagM β)) (ok : β.Ok) : A_law_26 KK D ρ μ := by
  unfold A_law_26 aSeq aFor
  refine seqV (t := false) (ds := (allM n 4).map mk) (he.nth 5 rfl) ?_
  rw [← mapM]
  have loop : ∀ (xs : List Mk) (ρ : AEnv), (∀ x ∈ xs, x.length = n) → Env ρ ((18, .d (.tuple ((minL (latt S O)).map mk))) :: B0 b n S O one other) → forGo (agN 15) (A_law_27 KK) { D with nx := A_law_29 KK D } (xs.map fun xs => M xs) ρ μ := by
    intro xs
    induction xs with
    | nil => intro ρ _ he; exact lw29 (KK := KK) hD dt he hb ok
    | cons x xs ih =>
      intro ρ hx he
      rw [List.map_cons]
      unfold forGo
      show A_law_27 KK _ (ρ.set 15 (some (M x))) μ
      exact lw27 (KK := KK) dt (hx x (by simp)) (he.add (i := 15) (M x)) (ih _ (fun y hy => hx y (by simp [hy])) (he.keep (i := 15) _))
  exact loop _ ρ lenE he
theorem lw25 (hD : EndB D b) (dt : Dat n S O one other) (he : Env ρ (B0 b n S O one other)) (hb : μ b = some (BagM β)) (ok : β.Ok) : A_law_25 KK D ρ μ := by
  unfold A_law_25 aSeq aAsg aCall aCons aNil
  refine var (he.nth 2 rfl) (var (he.nth 3 rfl) ?_)
  refine ⟨n, S, O, rfl, dt.n1, dt.lS, dt.lO, by have := dt.zS; omega, by have := dt.zO; omega, ?_⟩
  exact lw26 (KK := KK) hD dt (he.add (i := 18) _) hb ok
end
end K60

set_option Elab.async false
set_option linter.all false
set_option maxRecDepth 100000
set_option maxHeartbeats 4000000
/-! The law's reading, parts 3 to 23, and the whole. -/
namespace K60
open PySem PySem.Spec PyProof.Rows L2 Ab
section
variable {KK : Kw} {D : AEnds} {b : Addr} {n : Nat} {S O : List Mk} {one other : Mk} {ρ : AEnv} {μ : Mu} {β : Bag}
theorem len_zipIdx_le {α : Type} (l : List α) (p : α × Nat → Bool) : (l.zipIdx.filter p).length ≤ l.length := by
  have := List.length_filter_le p l.zipIdx
  rw [List.length_zipIdx] at this
  exact this
theorem lw23 (hD : EndB D b) (dt : Dat n S O one other) (he : Env ρ ((17, M (grownM one other)) :: (16, M (lub one other)) :: B0 b n S O one other)) (hb : μ b = some (BagM β)) (ok : β.Ok) : A_law_23 KK D ρ μ := by
  unfold A_law_23 aSeq aIfS aNot aB aCall aLst aCons aNil
  refine var (he.nth 7 rfl) (var (he.nth 8 rfl) ?_)
  refine ⟨one, other, rfl, ?_⟩
  refine var (he.nth 7 rfl) (var (he.nth 8 rfl) ?_)
  refine ⟨one, other, rfl, ?_⟩
  refine ⟨[mk (lub one other), mk (grownM one other)], rfl, by show 2 ≤ sizeLine; decide, ?_⟩
  refine var (he.nth 1 rfl) (var (he.nth 0 rfl) ?_)
  refine ⟨[mk (lub one other), mk (grownM one other)], rfl, by show 2 ≤ sizeLine; decide, ?_⟩
  refine ⟨_, rfl, ?_, ?_, notTrue (lw25 (KK := KK) hD dt he.tail.tail hb ok)⟩
  · show (numD (mk (lub one other)) && (numD (mk (grownM one other)) && true)) = true
    rw [num_mk, num_mk]
    rfl
  · show nodes (mk (lub one other)) + (nodes (mk (grownM one other)) + 0) + 1 ≤ 1000000
    rw [nodes_mk, nodes_mk, len_lub dt.l1 dt.l2]
    have h1 : (grownM one other).length ≤ n := by
      unfold grownM
      rw [List.length_map]
      refine Nat.le_trans (len_zipIdx_le _ _) ?_
      rw [List.length_zip, dt.l1, dt.l2, Nat.min_self]
      exact Nat.le_refl _
    have := dt.n3
    omega
theorem lw22 (hD : EndB D b) (dt : Dat n S O one other) (he : Env ρ ((16, M (lub one other)) :: B0 b n S O one other)) (hb : μ b = some (BagM β)) (ok : β.Ok) : A_law_22 KK D ρ μ := by
  unfold A_law_22 aSeq aAsg aCall aCons aNil
  have hz : enumZipD (one.map .int) (other.map .int) = ((one.zip other).zipIdx).map fun p : (Int × Int) × Nat => AV.d (.tuple [.int (p.2 : Int), .tuple [.int p.1.1, .int p.1.2]]) := by
    unfold enumZipD
    rw [List.zip_map, List.zipIdx_map, List.map_map]
    rfl
  have hw := he.wipe [32, 19, 20]
  refine aLc_if (fun p : (Int × Int) × Nat => AV.d (.tuple [.int (p.2 : Int), .tuple [.int p.1.1, .int p.1.2]])) (fun p => if p.1.1 < p.1.2 then some (.int (p.2 : Int)) else none) ((one.zip other).zipIdx) ?_ ?_ ?_
  · intro R h
    unfold aiEnumZip
    refine var (he.nth 6 rfl) (var (he.nth 7 rfl) ?_)
    show R (enumZipD (one.map .int) (other.map .int)) μ
    rw [hz]
    exact h
  · intro p _ k hk
    have h1 := ((hw.add (i := 32) (I (p.2 : Int))).add (i := 19) (I p.1.1)).add (i := 20) (I p.1.2)
    refine ⟨rfl, rfl, rfl, rfl, ?_⟩
    show aB (aOp fGt (aVar 20) (aVar 19)) ((((awipe ρ [32, 19, 20]).set 32 (some (I (p.2 : Int)))).set 19 (some (I p.1.1))).set 20 (some (I p.1.2))) μ fun b μ3 => if b = true then aVar 32 ((((awipe ρ [32, 19, 20]).set 32 (some (I (p.2 : Int)))).set 19 (some (I p.1.1))).set 20 (some (I p.1.2))) μ3 fun y μ4 => k (some y) μ4 else k none μ3
    generalize (((awipe ρ [32, 19, 20]).set 32 (some (I (p.2 : Int)))).set 19 (some (I p.1.1))).set 20 (some (I p.1.2)) = ρ1 at h1 ⊢
    unfold aB aOp
    refine var (h1.nth 0 rfl) (var (h1.nth 1 rfl) ?_)
    show if decide (p.1.1 < p.1.2) = true then _ else _
    by_cases h : p.1.1 < p.1.2
    · rw [if_pos h] at hk
      rw [if_pos (decide_eq_true h)]
      exact var (h1.nth 2 rfl) hk
    · rw [if_neg h] at hk
      rw [if_neg (by simpa using h)]
      exact hk
  · have e : (grownM one other).map PyData.int = ((one.zip other).zipIdx).filterMap fun p => if p.1.1 < p.1.2 then some (PyData.int (p.2 : Int)) else none := by
      unfold grownM
      rw [List.map_map, map_filter_fm]
      refine fm_congr fun p _ => ?_
      by_cases h : p.1.1 < p.1.2
      · rw [if_pos h, if_pos (decide_eq_true h)]; rfl
      · rw [if_neg h, if_neg (by simpa using h)]
    rw [← e]
    exact lw23 (KK := KK) hD dt (he.add (i := 17) (M (grownM one other))) hb ok
theorem lw21 (hD : EndB D b) (dt : Dat n S O one other) (he : Env ρ (B0 b n S O one other)) (hb : μ b = some (BagM β)) (ok : β.Ok) : A_law_21 KK D ρ μ := by
  unfold A_law_21 aSeq aAsg aCall aCons aNil
  have hw := he.wipe [31]
  refine aLc_map (fun p : Int × Int => AV.d (.tuple [.int p.1, .int p.2])) (fun p => .int (max p.1 p.2)) (one.zip other) ?_ ?_ ?_
  · intro R h
    unfold aiZipN
    refine var (he.nth 5 rfl) (var (he.nth 6 rfl) ?_)
    exact zip_it h
  · intro p _
    refine turn_one fun k hk => ?_
    have h1 := hw.add (i := 31) (.d (.tuple [.int p.1, .int p.2]))
    unfold agN
    generalize (awipe ρ [31]).set 31 (some (.d (.tuple [.int p.1, .int p.2]))) = ρ1 at h1 ⊢
    refine var (h1.nth 0 rfl) ?_
    exact ⟨p.1, [p.2], rfl, hk⟩
  · have e : (lub one other).map PyData.int = (one.zip other).map fun p => PyData.int (max p.1 p.2) := by
      unfold lub
      rw [List.map_map]
      rfl
    rw [← e]
    exact lw22 (KK := KK) hD dt (he.add (i := 16) (M (lub one other))) hb ok
theorem lw18 {D : AEnds} (dt : Dat n S O one other) {x cs : Mk} (hx : x.length = n) (px : Nn x) (hc : cs.length = n) (he : Env ρ ((15, M x) :: (14, M (back one cs)) :: (13, M cs) :: B0 b n S O one other)) (q : ∀ y, D.nx (ρ.set 28 y) μ) : A_law_18 KK D ρ μ := by
  unfold A_law_18 aSeq aAsg aCall aCons aNil
  refine var (he.nth 0 rfl) (var (he.nth 2 rfl) ?_)
  refine ⟨x, cs, rfl, ?_⟩
  have law := back_law (ms := x) (cs := cs) (one := one) (hx.trans hc.symm) (dt.l1.trans hc.symm) px dt.p1
  have fin : ∀ c : Bool, c = above x (back one cs) → ∀ ρ, D.nx ρ μ → SeqAt.shaped (.bool c) = true ∧ SeqAt.shaped (.bool (above x (back one cs))) = true ∧ (if (!PyData.eqv (.bool c) (.bool (above x (back one cs)))) = true then aRet (aC (.d (.bool false))) D ρ μ else aNext D ρ μ) := fun c e ρ hq => by
    subst e
    refine ⟨rfl, rfl, ?_⟩
    rw [if_neg (by unfold PyData.eqv; cases above x (back one cs) <;> decide)]
    exact hq
  cases h : (moved x cs).all fun x => decide (0 ≤ x) with
  | true =>
    show agN 28 (M (moved x cs)) ρ μ _
    have h1 := he.add (i := 28) (M (moved x cs))
    have hq := q (some (M (moved x cs)))
    show A_law_19 KK D (ρ.set 28 (some (M (moved x cs)))) μ
    generalize ρ.set 28 (some (M (moved x cs))) = ρ1 at h1 hq ⊢
    unfold A_law_19 aIfS aB aOp aAndV aCall aCons aNil
    refine var (h1.nth 0 rfl) ?_
    have en : isNoneA (M (moved x cs)) = false := rfl
    simp only [aC, fNotN, en, Bool.not_false, if_true]
    refine var (h1.nth 0 rfl) (var (h1.nth 9 rfl) ?_)
    refine ⟨moved x cs, one, rfl, ?_⟩
    refine var (h1.nth 1 rfl) (var (h1.nth 2 rfl) ?_)
    refine ⟨x, back one cs, rfl, ?_⟩
    rw [h, Bool.true_and] at law
    exact fin _ law ρ1 hq
  | false =>
    show agN 28 (.d .none) ρ μ _
    have h1 := he.add (i := 28) (.d .none)
    have hq := q (some (.d .none))
    show A_law_19 KK D (ρ.set 28 (some (.d .none))) μ
    generalize ρ.set 28 (some (.d .none)) = ρ1 at h1 hq ⊢
    unfold A_law_19 aIfS aB aOp aAndV aCall aCons aNil
    refine var (h1.nth 0 rfl) ?_
    have en : isNoneA (.d .none) = true := rfl
    simp only [aC, fNotN, en, Bool.not_true, Bool.false_eq_true, if_false]
    refine var (h1.nth 1 rfl) (var (h1.nth 2 rfl) ?_)
    refine ⟨x, back one cs, rfl, ?_⟩
    rw [h, Bool.false_and] at law
    exact fin _ law ρ1 hq
theorem lw17 (hD : EndB D b) (dt : Dat n S O one other) {cs : Mk} (hc : cs.length = n) (he : Env ρ ((14, M (back one cs)) :: (13, M cs) :: B0 b n S O one other)) (hb : μ b = some (BagM β)) (ok : β.Ok) : A_law_17 KK D ρ μ := by
  unfold A_law_17 aSeq aFor aiSeq aCall aCons aNil
  refine var (he.nth 3 rfl) ?_
  refine ⟨n, 7, rfl, dt.n3, by decide, ?_⟩
  show forGo _ _ _ (((allM n 7).map mk).map AV.d) ρ μ
  rw [← mapM]
  have loop : ∀ (xs : List Mk) (ρ : AEnv), (∀ x ∈ xs, x ∈ allM n 7) → Env ρ ((14, M (back one cs)) :: (13, M cs) :: B0 b n S O one other) → forGo (agN 15) (A_law_18 KK) { D with nx := A_law_21 KK D } (xs.map fun xs => M xs) ρ μ := by
    intro xs
    induction xs with
    | nil => intro ρ _ he; exact lw21 (KK := KK) hD dt he.tail.tail hb ok
    | cons x xs ih =>
      intro ρ hx he
      rw [List.map_cons]
      unfold forGo
      have hm := mem_allM.mp (hx x (by simp))
      show A_law_18 KK _ (ρ.set 15 (some (M x))) μ
      refine lw18 (KK := KK) dt hm.1 (fun i hi => (hm.2 i hi).1) hc (he.add (i := 15) (M x)) fun y => ?_
      exact ih _ (fun z hz => hx z (by simp [hz])) ((he.keep (i := 15) _).keep (i := 28) y)
  exact loop _ ρ (fun x hx => hx) he
theorem lw16 (hD : EndB D b) (dt : Dat n S O one other) {cs : Mk} (hc : cs.length = n) (he : Env ρ ((13, M cs) :: B0 b n S O one other)) (hb : μ b = some (BagM β)) (ok : β.Ok) : A_law_16 KK D ρ μ := by
  unfold A_law_16 aSeq aAsg aCall aCons aNil
  refine var (he.nth 6 rfl) (var (he.nth 0 rfl) ?_)
  refine ⟨one, cs, rfl, ?_⟩
  exact lw17 (KK := KK) hD dt hc (he.add (i := 14) (M (back one cs))) hb ok
theorem lw15 (hD : EndB D b) (dt : Dat n S O one other) (he : Env ρ (B0 b n S O one other)) (hb : μ b = some (BagM β)) (ok : β.Ok) : A_law_15 KK D ρ μ := by
  unfold A_law_15 aSeq aAsg aLc aiR1
  have n3 := dt.n3
  have hw := he.wipe [30]
  have key : ∀ (is : List Nat) (acc : List Int) (β : Bag) (μ1 : Mu) (R : List AV → Mu → Prop), μ1 b = some (BagM β) → β.Ok → (∀ β' (cs : List Int), β'.Ok → cs.length = acc.length + is.length → R (cs.map fun x => I x) (mset μ1 b (BagM β'))) →
      lcGo (agN 30) aYes (aOp fSub (aCall sp__law_take (aCons (aVar 1) (aCons (aC (.d (.int 7))) aNil))) (aC (.d (.int 3)))) (awipe ρ [30]) (is.map fun (i : Nat) => I (0 + i)) (acc.map fun x => I x) μ1 R := by
    intro is
    induction is with
    | nil =>
      intro acc β μ1 R hb ok k
      have := k β acc ok (by simp)
      rw [mset_self hb] at this
      simpa [lcGo] using this
    | cons i is ih =>
      intro acc β μ1 R hb ok k
      rw [List.map_cons]
      unfold lcGo agN aYes
      simp only [if_true]
      have h1 := hw.add (i := 30) (I (0 + i))
      generalize (awipe ρ [30]).set 30 (some (I (0 + i))) = ρ1 at h1 ⊢
      unfold aOp aCall aCons aC aNil
      refine var (h1.nth 1 rfl) ?_
      refine ⟨b, 7, β, rfl, hb, ok, by omega, by omega, fun β' r ok' r0 r1 => ?_⟩
      have := ih (acc ++ [r - 3]) β' (mset μ1 b (BagM β')) R mset_same ok' fun β'' cs ok'' hp => by
        rw [mset_mset]
        exact k β'' cs ok'' (by rw [hp]; simp; omega)
      rw [List.map_append] at this
      exact this
  show aVar 3 ρ μ _
  refine var (he.nth 1 rfl) ?_
  refine ⟨by omega, by omega, ?_⟩
  rw [rangeI_eq]
  refine key _ [] β μ _ hb ok fun β' cs ok' hl => ⟨cs.map .int, ?_, ?_⟩
  · have : cs.map (fun x => I x) = (cs.map PyData.int).map AV.d := by rw [List.map_map]; rfl
    rw [this, datas_map]
  · exact lw16 (KK := KK) hD dt (by rw [hl]; simp) (he.add (i := 13) (M cs)) mset_same ok'
theorem nodes_marks {L : List Mk} (hl : Len n L) : nodes (.tuple (L.map mk)) ≤ L.length * (n + 1) + 1 := by
  show nodesAll (L.map mk) + 1 ≤ _
  have := nodes_all_le (f := mk) (c := n + 1) L fun x hx => by rw [nodes_mk, hl x hx]; exact Nat.le_refl _
  omega
theorem lw13 (hD : EndB D b) (dt : Dat n S O one other) (he : Env ρ ((12, .d (.list ((maxL S).map mk))) :: (11, .d (.list ((minL S).map mk))) :: B0 b n S O one other)) (hb : μ b = some (BagM β)) (ok : β.Ok) : A_law_13 KK D ρ μ := by
  unfold A_law_13 aSeq aIfS aNot aB aCall aLst aCons aNil
  have zS := dt.zS
  refine var (he.nth 4 rfl) ?_
  refine ⟨n, false, S, rfl, dt.n1, dt.lS, by omega, ?_⟩
  refine var (he.nth 4 rfl) ?_
  refine ⟨n, true, S, rfl, dt.n1, dt.lS, by omega, ?_⟩
  refine ⟨[.tuple ((minL S).map mk), .tuple ((maxL S).map mk)], rfl, by show 2 ≤ sizeLine; decide, ?_⟩
  refine var (he.nth 1 rfl) (var (he.nth 0 rfl) ?_)
  refine ⟨[.tuple ((minL S).map mk), .tuple ((maxL S).map mk)], rfl, by show 2 ≤ sizeLine; decide, ?_⟩
  refine ⟨_, rfl, ?_, ?_, notTrue (lw15 (KK := KK) hD dt he.tail.tail hb ok)⟩
  · show (numDs ((minL S).map mk) && (numDs ((maxL S).map mk) && true)) = true
    rw [num_all num_mk, num_all num_mk]
    rfl
  · show nodes (.tuple ((minL S).map mk)) + (nodes (.tuple ((maxL S).map mk)) + 0) + 1 ≤ 1000000
    have h1 := nodes_marks (n := n) (L := minL S) fun x hx => dt.lS x (mem_minL.mp hx).1
    have h2 := nodes_marks (n := n) (L := maxL S) fun x hx => dt.lS x (mem_maxL.mp hx).1
    have h3 := len_minL S
    have h4 := len_maxL S
    have n3 := dt.n3
    have h5 : (minL S).length * (n + 1) ≤ 4 * 4 := Nat.mul_le_mul (by omega) (by omega)
    have h6 : (maxL S).length * (n + 1) ≤ 4 * 4 := Nat.mul_le_mul (by omega) (by omega)
    omega
theorem call1 {f : ACall} {a : AT} {Q : AV → Mu → Prop} (h : a ρ μ fun x μ1 => f [x] μ1 Q) : aCall f (aCons a aNil) ρ μ Q := h
theorem keys_mk : ∀ {js : List NestedKey} {T : List Mk}, (∀ k ∈ js, k ∈ T.map nk) → ∃ L : List Mk, js = L.map nk
  | [], _, _ => ⟨[], rfl⟩
  | k :: js, T, h => by
    obtain ⟨p, _, e⟩ := List.mem_map.mp (h k (by simp))
    obtain ⟨L, e2⟩ := keys_mk (js := js) (T := T) fun j hj => h j (by simp [hj])
    exact ⟨p :: L, by rw [e2, ← e]; rfl⟩
theorem sort_set (hn : 1 ≤ n) {T : List Mk} (hl : Len n T) (hz : T.length < 64) {Q : AV → Mu → Prop} (q : Q (.d (.list ((srt T).map mk))) μ) : fSortSet [.d (.list (T.map mk))] μ Q := by
  refine ⟨T.map nk, ?_, fun k hk => ?_, by rw [List.length_map]; exact hz, fun js nd hm => ?_⟩
  · rw [List.map_map]
    exact List.map_congr_left fun p _ => (nk_data p).symm
  · obtain ⟨p, _, rfl⟩ := List.mem_map.mp hk
    exact ⟨rfl, nk_depth p⟩
  · obtain ⟨L, rfl⟩ := keys_mk fun k hk => (hm k).mp hk
    have ndL : L.Nodup := List.Pairwise.of_map nk (fun a b hne e => hne (congrArg nk e)) nd
    have hmL : ∀ p, p ∈ L ↔ p ∈ T := fun p => by
      have := hm (nk p)
      rw [List.mem_map, List.mem_map] at this
      refine ⟨fun hp => ?_, fun hp => ?_⟩
      · obtain ⟨r, hr, e⟩ := this.mp ⟨p, hp, rfl⟩
        rw [← nk_inj e]; exact hr
      · obtain ⟨r, hr, e⟩ := this.mpr ⟨p, hp, rfl⟩
        rw [← nk_inj e]; exact hr
    have hd : (L.map nk).map NestedKey.data = L.map mk := by
      rw [List.map_map]
      exact List.map_congr_left fun p _ => nk_data p
    rw [hd]
    refine ⟨sortOkM hn fun x hx => hl x ((hmL x).mp hx), ?_⟩
    rw [stoM.sort_eq]
    have e : L.mergeSort (leB fun a b : Mk => a < b) = srt T := srt_of (stoM.sorted ndL) fun x => by rw [(List.mergeSort_perm _ _).mem_iff, hmL]
    rw [e]
    exact q
/-- [z for z in some if [y for y in some if y != z and P z y] == []] -/
theorem least_comp {P : Mk → Mk → Bool} {c1 c2 : AT} {F : List (Nat × AV)} {R : AV → Mu → Prop} (h36 : ρ.length = 36) (g4 : ρ[4]? = some (some (.d (.list (S.map mk))))) (hc : ∀ (z y : Mk) (ρ' : AEnv) (k : AV → Mu → Prop), ρ'[34]? = some (some (M z)) → ρ'[35]? = some (some (M y)) → k (Bo (P z y)) μ → aCall sp__law_is_above (aCons c1 (aCons c2 aNil)) ρ' μ k)
    (q : R (.d (.list ((S.filter fun z => S.all fun y => decide (y = z) || !P z y).map mk))) μ) :
    aLc (aiSeq (aVar 4)) (agN 34) (aB (aOp fEq (aLc (aiSeq (aVar 4)) (agN 35) (aAnd (aB (aOp fNe (aVar 35) (aVar 34))) (aB (aCall sp__law_is_above (aCons c1 (aCons c2 aNil))))) (aVar 35) [35]) (aLst aNil))) (aVar 34) [34] ρ μ R := by
  refine aLc_if (fun x : Mk => M x) (fun z => if (S.all fun y => decide (y = z) || !P z y) = true then some (mk z) else none) S ?_ ?_ ?_
  · exact fun R h => seqV (t := false) (ds := S.map mk) g4 (by rw [← mapM]; exact h)
  · intro z _ k hk
    have l1 : ((awipe ρ [34]).set 34 (some (M z))).length = 36 := by
      show ((ρ.set 34 none).set 34 (some (M z))).length = 36
      rw [List.length_set, List.length_set, h36]
    have f4 : ((awipe ρ [34]).set 34 (some (M z)))[4]? = some (some (.d (.list (S.map mk)))) := by
      show ((ρ.set 34 none).set 34 (some (M z)))[4]? = _
      rw [List.getElem?_set_ne (by decide), List.getElem?_set_ne (by decide)]
      exact g4
    have f34 : ((awipe ρ [34]).set 34 (some (M z)))[34]? = some (some (M z)) := List.getElem?_set_self (by show 34 < (ρ.set 34 none).length; rw [List.length_set, h36]; decide)
    unfold agN
    generalize (awipe ρ [34]).set 34 (some (M z)) = ρ1 at l1 f4 f34 ⊢
    unfold aB aOp
    refine aLc_if (fun x : Mk => M x) (fun y => if (!decide (y = z) && P z y) = true then some (mk y) else none) S ?_ ?_ ?_
    · exact fun R h => seqV (t := false) (ds := S.map mk) f4 (by rw [← mapM]; exact h)
    · intro y _ k' hk'
      have e34 : ((awipe ρ1 [35]).set 35 (some (M y)))[34]? = some (some (M z)) := by
        show ((ρ1.set 35 none).set 35 (some (M y)))[34]? = _
        rw [List.getElem?_set_ne (by decide), List.getElem?_set_ne (by decide)]
        exact f34
      have e35 : ((awipe ρ1 [35]).set 35 (some (M y)))[35]? = some (some (M y)) := List.getElem?_set_self (by show 35 < (ρ1.set 35 none).length; rw [List.length_set, l1]; decide)
      generalize (awipe ρ1 [35]).set 35 (some (M y)) = ρ2 at e34 e35 ⊢
      unfold aAnd
      refine var e35 (var e34 ?_)
      refine ⟨sh_mk y, sh_mk z, ?_⟩
      show if (!PyData.eqv (mk y) (mk z)) = true then _ else _
      rw [eqv_mk]
      by_cases h1 : y = z
      · simp only [h1, decide_true, Bool.not_true, Bool.false_and, Bool.false_eq_true, if_false] at hk' ⊢
        exact hk'
      · simp only [h1, decide_false, Bool.not_false, Bool.true_and, if_true] at hk' ⊢
        refine hc z y ρ2 _ e34 e35 ?_
        show if P z y = true then _ else _
        by_cases h2 : P z y = true
        · rw [if_pos h2] at hk' ⊢
          exact var e35 hk'
        · rw [if_neg h2] at hk' ⊢
          exact hk'
    · have e : S.filterMap (fun y => if (!decide (y = z) && P z y) = true then some (mk y) else none) = (S.filter fun y => !decide (y = z) && P z y).map mk := by
        rw [map_filter_fm]
      rw [e]
      refine ⟨[], rfl, Nat.zero_le _, sh_marks _, sh_nil, ?_⟩
      rw [eqv_nil, List.isEmpty_map]
      have e2 : (S.filter fun y => !decide (y = z) && P z y).isEmpty = S.all fun y => decide (y = z) || !P z y := by
        rw [Bool.eq_iff_iff, List.isEmpty_iff, List.filter_eq_nil_iff, List.all_eq_true]
        refine forall_congr' fun y => forall_congr' fun _ => ?_
        by_cases h1 : y = z <;> cases h2 : P z y <;> simp [h1]
      rw [e2]
      show if (S.all fun y => decide (y = z) || !P z y) = true then _ else _
      by_cases h : (S.all fun y => decide (y = z) || !P z y) = true
      · rw [if_pos h] at hk ⊢
        exact var f34 hk
      · rw [if_neg h] at hk ⊢
        exact hk
  · have e : S.filterMap (fun z => if (S.all fun y => decide (y = z) || !P z y) = true then some (mk z) else none) = (S.filter fun z => S.all fun y => decide (y = z) || !P z y).map mk := by
      rw [map_filter_fm]
    rw [e]
    exact q
theorem lw12 (hD : EndB D b) (dt : Dat n S O one other) (he : Env ρ ((11, .d (.list ((minL S).map mk))) :: B0 b n S O one other)) (hb : μ b = some (BagM β)) (ok : β.Ok) : A_law_12 KK D ρ μ := by
  unfold A_law_12 aSeq aAsg
  refine call1 ?_
  refine least_comp (μ := μ) (S := S) (c1 := aVar 35) (c2 := aVar 34) (P := fun z y => above y z) (F := []) he.1 (he.nth 3 rfl) (fun z y ρ' k h1 h2 hk => by unfold aCall aCons aNil; exact var h2 (var h1 ⟨y, z, rfl, hk⟩)) ?_
  have zS := dt.zS
  refine sort_set dt.n1 (T := S.filter (isMax S)) (fun x hx => dt.lS x (List.mem_filter.mp hx).1) (by have := List.length_filter_le (isMax S) S; omega) ?_
  exact lw13 (KK := KK) hD dt (he.add (i := 12) (.d (.list ((maxL S).map mk)))) hb ok
theorem lw11 (hD : EndB D b) (dt : Dat n S O one other) (he : Env ρ (B0 b n S O one other)) (hb : μ b = some (BagM β)) (ok : β.Ok) : A_law_11 KK D ρ μ := by
  unfold A_law_11 aSeq aAsg
  refine call1 ?_
  refine least_comp (μ := μ) (S := S) (c1 := aVar 34) (c2 := aVar 35) (P := fun z y => above z y) (F := []) he.1 (he.nth 2 rfl) (fun z y ρ' k h1 h2 hk => by unfold aCall aCons aNil; exact var h1 (var h2 ⟨z, y, rfl, hk⟩)) ?_
  have zS := dt.zS
  refine sort_set dt.n1 (T := S.filter (isMin S)) (fun x hx => dt.lS x (List.mem_filter.mp hx).1) (by have := List.length_filter_le (isMin S) S; omega) ?_
  exact lw12 (KK := KK) hD dt (he.add (i := 11) (.d (.list ((minL S).map mk)))) hb ok
end
end K60

set_option Elab.async false
set_option linter.all false
set_option maxRecDepth 100000
set_option maxHeartbeats 4000000
/-! The law's reading, parts 3 to 9, and the whole. -/
namespace K60
open PySem PySem.Spec PyProof.Rows L2 Ab
section
variable {KK : Kw} {D : AEnds} {b : Addr} {n : Nat} {S O : List Mk} {one other : Mk} {ρ : AEnv} {μ : Mu} {β : Bag}
abbrev toldD (S : List Mk) (one other : Mk) : PyData := .list [.bool (above one other), .bool (aboveSome one S), .bool (!above one other && !above other one)]
theorem lw9 (hD : EndB D b) (dt : Dat n S O one other) (he : Env ρ ((10, .d (toldD S one other)) :: (9, Bo (above one other)) :: B0 b n S O one other)) (hb : μ b = some (BagM β)) (ok : β.Ok) : A_law_9 KK D ρ μ := by
  unfold A_law_9 aSeq aIfS aNot aB aCall aLst aAndV aNotV aCons aNil
  refine var (he.nth 0 rfl) (var (he.nth 1 rfl) (var (he.nth 4 rfl) (var (he.nth 7 rfl) ?_)))
  refine ⟨false, S, one, rfl, ?_⟩
  refine var (he.nth 1 rfl) ?_
  have nxt := lw11 (KK := KK) hD dt he.tail.tail hb ok
  have fin : ∀ c : Bool, (!above one other && !above other one) = c → ∃ ds, datas [Bo (above one other), Bo (aboveSome one S), Bo c] = some ds ∧ ds.length ≤ sizeLine ∧ sp__law_alike [.d (toldD S one other), .d (.list ds)] μ fun x μ1 => match x with
      | .d (.bool c) => if (!c) = true then aRet (aC (.d (.bool false))) { D with nx := A_law_11 KK D } ρ μ1 else aNext { D with nx := A_law_11 KK D } ρ μ1
      | _ => False := fun c e => by
    subst e
    refine ⟨_, rfl, by show 3 ≤ sizeLine; decide, _, rfl, rfl, by show 4 ≤ 1000000; decide, ?_⟩
    exact notTrue nxt
  cases h : above one other with
  | true =>
    have := fin false (by rw [h]; rfl)
    rw [h] at this
    exact this
  | false =>
    simp only [Bool.not_false, if_true]
    refine var (he.nth 8 rfl) ?_
    refine var (he.nth 7 rfl) ?_
    refine ⟨other, one, rfl, ?_⟩
    have := fin (!above other one) (by rw [h]; rfl)
    rw [h] at this
    exact this
theorem lw8 (hD : EndB D b) (dt : Dat n S O one other) (he : Env ρ ((9, Bo (above one other)) :: B0 b n S O one other)) (hb : μ b = some (BagM β)) (ok : β.Ok) : A_law_8 KK D ρ μ := by
  unfold A_law_8 aSeq aAsg aLst aCall aCons aNil
  refine var (he.nth 6 rfl) (var (he.nth 7 rfl) ?_)
  refine ⟨one, other, rfl, ?_⟩
  refine var (he.nth 6 rfl) (var (he.nth 3 rfl) ?_)
  refine ⟨one, false, S, rfl, ?_⟩
  refine var (he.nth 6 rfl) (var (he.nth 7 rfl) ?_)
  refine ⟨one, other, rfl, ?_⟩
  refine ⟨_, rfl, by show 3 ≤ sizeLine; decide, ?_⟩
  exact lw9 (KK := KK) hD dt (he.add (i := 10) (.d (toldD S one other))) hb ok
theorem lw7 (hD : EndB D b) (dt : Dat n S O one other) (he : Env ρ (B0 b n S O one other)) (hb : μ b = some (BagM β)) (ok : β.Ok) : A_law_7 KK D ρ μ := by
  unfold A_law_7 aSeq aAsg aCall aCons aNil
  refine var (he.nth 5 rfl) (var (he.nth 6 rfl) ?_)
  refine ⟨one, other, rfl, ?_⟩
  exact lw8 (KK := KK) hD dt (he.add (i := 9) (Bo (above one other))) hb ok
theorem lw6 (hD : EndB D b) (n1 : 1 ≤ n) (n3 : n ≤ 3) (gS : ∀ x ∈ S, Good n x) (gO : ∀ x ∈ O, Good n x) (zS : S.length ≤ 4) (zO : O.length ≤ 4) (he : Env ρ [(5, .d (.list (O.map mk))), (4, .d (.list (S.map mk))), (3, I n), (1, .v (.ref b))]) (hb : μ b = some (BagM β)) (ok : β.Ok) : A_law_6 KK D ρ μ := by
  unfold A_law_6 aSeq aAsg aTup aCall aCons aC aNil
  refine var (he.nth 2 rfl) ?_
  refine ⟨n, 4, rfl, n3, by decide, ?_⟩
  refine var (he.nth 3 rfl) (var (he.nth 2 rfl) ?_)
  refine ⟨b, n, β, rfl, hb, ok, by omega, by omega, fun β' one ok' l1 p1 => ?_⟩
  refine var (he.nth 3 rfl) (var (he.nth 2 rfl) ?_)
  refine ⟨b, n, β', rfl, mset_same, ok', by omega, by omega, fun β'' other ok'' l2 p2 => ?_⟩
  refine ⟨_, rfl, by show 3 ≤ sizeLine; decide, rfl, rfl, ?_⟩
  have h1 := ((he.add (i := 6) (.d (.list ((allM n 4).map mk)))).add (i := 7) (M one)).add (i := 8) (M other)
  have dt : Dat n S O one other := ⟨n1, n3, fun x hx => (gS x hx).1, fun x hx => (gO x hx).1, zS, zO, fun x hx => (gS x hx).mem, fun x hx => (gO x hx).mem, by omega, by omega, fun i hi => (p1 i hi).1⟩
  refine lw7 (KK := KK) (b := b) (β := β'') hD dt ⟨h1.1, fun p hp => h1.2 p ?_⟩ mset_same ok''
  simp only [B0, List.mem_cons, List.not_mem_nil, or_false] at hp ⊢
  rcases hp with h | h | h | h | h | h | h <;> simp [h]
theorem lw5 (hD : EndB D b) (n1 : 1 ≤ n) (n3 : n ≤ 3) (gS : ∀ x ∈ S, Good n x) (zS : S.length ≤ 4) (he : Env ρ [(4, .d (.list (S.map mk))), (3, I n), (1, .v (.ref b))]) (hb : μ b = some (BagM β)) (ok : β.Ok) : A_law_5 KK D ρ μ := by
  unfold A_law_5 aSeq aAsg
  refine drawn_all (n := n) n3 (by omega) (by omega) he (he.nth 2 rfl) (he.nth 1 rfl) (by decide) (by decide) hb ok fun β' L ok' hL hg => ?_
  exact lw6 (KK := KK) (b := b) hD n1 n3 gS hg zS (by omega) (he.add (i := 5) (.d (.list (L.map mk)))) mset_same ok'
theorem lw4 (hD : EndB D b) (n1 : 1 ≤ n) (n3 : n ≤ 3) (he : Env ρ [(3, I n), (1, .v (.ref b))]) (hb : μ b = some (BagM β)) (ok : β.Ok) : A_law_4 KK D ρ μ := by
  unfold A_law_4 aSeq aAsg
  refine drawn_all (n := n) n3 (by omega) (by omega) he (he.nth 1 rfl) (he.nth 0 rfl) (by decide) (by decide) hb ok fun β' L ok' hL hg => ?_
  exact lw5 (KK := KK) (b := b) hD n1 n3 hg (by omega) (he.add (i := 4) (.d (.list (L.map mk)))) mset_same ok'
theorem lw3 (hD : EndB D b) (he : Env ρ [(1, .v (.ref b))]) (hb : μ b = some (BagM β)) (ok : β.Ok) : A_law_3 KK D ρ μ := by
  unfold A_law_3 aSeq aAsg aOp aCall aCons aC aNil
  refine var (he.nth 0 rfl) ?_
  refine ⟨b, 3, β, rfl, hb, ok, by omega, by omega, fun β' r ok' r0 r1 => ?_⟩
  have h1 := he.add (i := 3) (I ((1 + r.toNat : Nat) : Int))
  have e : (((1 + r.toNat : Nat)) : Int) = 1 + r := by omega
  refine lw4 (KK := KK) (b := b) (n := 1 + r.toNat) (β := β') hD (by omega) (by omega) ?_ mset_same ok'
  rw [e] at h1 ⊢
  exact h1
end
theorem rd_law (KK : Kw) : RdF (A_law KK) N_law (sp_law KK) := by
  rintro as μ Q ⟨a, ns, rfl, hs, hl, q⟩
  unfold A_law aSeq aAsg aCall aCons aNil
  refine ⟨a, ns, rfl, hs, hl, fun b hbn => ?_⟩
  have h0 : Env ((astart N_law [.v (.ref a)]).set 1 (some (.v (.ref b)))) [(1, .v (.ref b))] := ⟨rfl, fun p hp => by rw [List.mem_singleton.mp hp]; rfl⟩
  show A_law_2 KK _ ((astart N_law [.v (.ref a)]).set 1 (some (.v (.ref b)))) (mset μ b (BagM (bag0 ns)))
  generalize (astart N_law [.v (.ref a)]).set 1 (some (.v (.ref b))) = ρ at h0 ⊢
  have ok : (bag0 ns).Ok := ⟨by show (0 : Int) ≤ 0; omega, by show (0 : Int) ≤ 1234567891; omega, by show (1234567891 : Int) < 4294967296; omega, fun c hc => by
    obtain ⟨m, _, rfl⟩ := List.mem_map.mp hc
    exact Int.natCast_nonneg _, by show (ns.map _).length ≤ 63; rw [List.length_map]; exact hl⟩
  have hb : mset μ b (BagM (bag0 ns)) b = some (BagM (bag0 ns)) := mset_same
  generalize mset μ b (BagM (bag0 ns)) = μ1 at hb
  unfold A_law_2 aSeq aFor
  refine ⟨by omega, by omega, ?_⟩
  have loop : ∀ (xs : List AV) (ρ : AEnv) (μ1 : Mu) (β : Bag), Env ρ [(1, .v (.ref b))] → μ1 b = some (BagM β) → β.Ok → forGo (agN 2) (A_law_3 KK) { nx := aRet (aC (.d (.bool true))) { nx := fun _ μ' => ∃ μ2, Ab.Sub μ2 μ' ∧ Q (.d .none) μ2, rt := fun v μ' => ∃ μ2, Ab.Sub μ2 μ' ∧ Q v μ2 }, rt := fun v μ' => ∃ μ2, Ab.Sub μ2 μ' ∧ Q v μ2 } xs ρ μ1 := by
    intro xs
    induction xs with
    | nil => intro ρ μ1 β _ _ _; exact ⟨μ1, sub_refl μ1, q μ1⟩
    | cons x xs ih =>
      intro ρ μ1 β he hb ok
      unfold forGo
      show A_law_3 KK _ (ρ.set 2 (some x)) μ1
      exact lw3 (KK := KK) (b := b) (β := β) (fun ρ' μ' β' he' hb' ok' => ih ρ' μ' β' he' hb' ok') (he.keep (i := 2) (some x)) hb ok
  exact loop _ ρ μ1 _ h0 hb ok
end K60

set_option Elab.async false
set_option linter.all false
set_option maxRecDepth 100000
set_option maxHeartbeats 4000000
namespace K60
open PySem PySem.Spec PyProof.Rows L2 Ab
theorem all_mk {l : PySem.W.OpenLaw} {w : World} {K : PySem.W.Frag} {h : Heap} {mg : Str → Option Value} {fa f0 f1 f2 f3 f4 f5 f6 f7 f8 f9 f10 f11 f12 f13 f14 f15 f16 f17 f18 f19 f20 f21 f22 f23 : Addr} (X : K.In h) (G : h.Ns mainGlobals mg) (hfa : mg "law" = some (.ref fa))
    {od0 an0 od1 an1 od2 an2 od3 an3 od4 an4 od5 an5 od6 an6 od7 an7 od8 an8 od9 an9 od10 an10 od11 an11 od12 an12 od13 an13 od14 an14 od15 an15 od16 an16 od17 an17 od18 an18 od19 an19 od20 an20 od21 an21 od22 an22 od23 an23 : Option Addr} {sl0 sl1 sl2 sl3 sl4 sl5 sl6 sl7 sl8 sl9 sl10 sl11 sl12 sl13 sl14 sl15 sl16 sl17 sl18 sl19 sl20 sl21 sl22 sl23 : Array (Option Value)} {oc0 kV0 dc0 pm0 cd0 ct0 oc1 kV1 dc1 pm1 cd1 ct1 oc2 kV2 dc2 pm2 cd2 ct2 oc3 kV3 dc3 pm3 cd3 ct3 oc4 kV4 dc4 pm4 cd4 ct4 oc5 kV5 dc5 pm5 cd5 ct5 oc6 kV6 dc6 pm6 cd6 ct6 oc7 kV7 dc7 pm7 cd7 ct7 oc8 kV8 dc8 pm8 cd8 ct8 oc9 kV9 dc9 pm9 cd9 ct9 oc10 kV10 dc10 pm10 cd10 ct10 oc11 kV11 dc11 pm11 cd11 ct11 oc12 kV12 dc12 pm12 cd12 ct12 oc13 kV13 dc13 pm13 cd13 ct13 oc14 kV14 dc14 pm14 cd14 ct14 oc15 kV15 dc15 pm15 cd15 ct15 oc16 kV16 dc16 pm16 cd16 ct16 oc17 kV17 dc17 pm17 cd17 ct17 oc18 kV18 dc18 pm18 cd18 ct18 oc19 kV19 dc19 pm19 cd19 ct19 oc20 kV20 dc20 pm20 cd20 ct20 oc21 kV21 dc21 pm21 cd21 ct21 oc22 kV22 dc22 pm22 cd22 ct22 oc23 kV23 dc23 pm23 cd23 ct23 : Value}
    (a0 : PySem.W.nsIn K mainGlobals "is_above" = some (some (.ref f0))) (l0 : K.lookup f0 = some ⟨oc0, od0, .func (PySem.W.fnOf "is_above" "is_above" (defArgs s_is_above) (defBody s_is_above) (defScope s_is_above) .none kV0 dc0 pm0 an0 cd0 ct0), sl0⟩) (c0 : PySem.W.codeIn K cd0 "is_above" = true) (k0 : PySem.W.keepIn K (.ref f0) = true)
    (a1 : PySem.W.nsIn K mainGlobals "is_above_some" = some (some (.ref f1))) (l1 : K.lookup f1 = some ⟨oc1, od1, .func (PySem.W.fnOf "is_above_some" "is_above_some" (defArgs s_is_above_some) (defBody s_is_above_some) (defScope s_is_above_some) .none kV1 dc1 pm1 an1 cd1 ct1), sl1⟩) (c1 : PySem.W.codeIn K cd1 "is_above_some" = true) (k1 : PySem.W.keepIn K (.ref f1) = true)
    (a2 : PySem.W.nsIn K mainGlobals "least_marks" = some (some (.ref f2))) (l2 : K.lookup f2 = some ⟨oc2, od2, .func (PySem.W.fnOf "least_marks" "least_marks" (defArgs s_least_marks) (defBody s_least_marks) (defScope s_least_marks) .none kV2 dc2 pm2 an2 cd2 ct2), sl2⟩) (c2 : PySem.W.codeIn K cd2 "least_marks" = true) (k2 : PySem.W.keepIn K (.ref f2) = true)
    (a3 : PySem.W.nsIn K mainGlobals "greatest_marks" = some (some (.ref f3))) (l3 : K.lookup f3 = some ⟨oc3, od3, .func (PySem.W.fnOf "greatest_marks" "greatest_marks" (defArgs s_greatest_marks) (defBody s_greatest_marks) (defScope s_greatest_marks) .none kV3 dc3 pm3 an3 cd3 ct3), sl3⟩) (c3 : PySem.W.codeIn K cd3 "greatest_marks" = true) (k3 : PySem.W.keepIn K (.ref f3) = true)
    (a4 : PySem.W.nsIn K mainGlobals "back_marks" = some (some (.ref f4))) (l4 : K.lookup f4 = some ⟨oc4, od4, .func (PySem.W.fnOf "back_marks" "back_marks" (defArgs s_back_marks) (defBody s_back_marks) (defScope s_back_marks) .none kV4 dc4 pm4 an4 cd4 ct4), sl4⟩) (c4 : PySem.W.codeIn K cd4 "back_marks" = true) (k4 : PySem.W.keepIn K (.ref f4) = true)
    (a5 : PySem.W.nsIn K mainGlobals "least_above" = some (some (.ref f5))) (l5 : K.lookup f5 = some ⟨oc5, od5, .func (PySem.W.fnOf "least_above" "least_above" (defArgs s_least_above) (defBody s_least_above) (defScope s_least_above) .none kV5 dc5 pm5 an5 cd5 ct5), sl5⟩) (c5 : PySem.W.codeIn K cd5 "least_above" = true) (k5 : PySem.W.keepIn K (.ref f5) = true)
    (a6 : PySem.W.nsIn K mainGlobals "are_apart" = some (some (.ref f6))) (l6 : K.lookup f6 = some ⟨oc6, od6, .func (PySem.W.fnOf "are_apart" "are_apart" (defArgs s_are_apart) (defBody s_are_apart) (defScope s_are_apart) .none kV6 dc6 pm6 an6 cd6 ct6), sl6⟩) (c6 : PySem.W.codeIn K cd6 "are_apart" = true) (k6 : PySem.W.keepIn K (.ref f6) = true)
    (a7 : PySem.W.nsIn K mainGlobals "first_rise" = some (some (.ref f7))) (l7 : K.lookup f7 = some ⟨oc7, od7, .func (PySem.W.fnOf "first_rise" "first_rise" (defArgs s_first_rise) (defBody s_first_rise) (defScope s_first_rise) .none kV7 dc7 pm7 an7 cd7 ct7), sl7⟩) (c7 : PySem.W.codeIn K cd7 "first_rise" = true) (k7 : PySem.W.keepIn K (.ref f7) = true)
    (a8 : PySem.W.nsIn K mainGlobals "grown" = some (some (.ref f8))) (l8 : K.lookup f8 = some ⟨oc8, od8, .func (PySem.W.fnOf "grown" "grown" (defArgs s_grown) (defBody s_grown) (defScope s_grown) .none kV8 dc8 pm8 an8 cd8 ct8), sl8⟩) (c8 : PySem.W.codeIn K cd8 "grown" = true) (k8 : PySem.W.keepIn K (.ref f8) = true)
    (a9 : PySem.W.nsIn K mainGlobals "in_both" = some (some (.ref f9))) (l9 : K.lookup f9 = some ⟨oc9, od9, .func (PySem.W.fnOf "in_both" "in_both" (defArgs s_in_both) (defBody s_in_both) (defScope s_in_both) .none kV9 dc9 pm9 an9 cd9 ct9), sl9⟩) (c9 : PySem.W.codeIn K cd9 "in_both" = true) (k9 : PySem.W.keepIn K (.ref f9) = true)
    (a10 : PySem.W.nsIn K mainGlobals "are_within" = some (some (.ref f10))) (l10 : K.lookup f10 = some ⟨oc10, od10, .func (PySem.W.fnOf "are_within" "are_within" (defArgs s_are_within) (defBody s_are_within) (defScope s_are_within) .none kV10 dc10 pm10 an10 cd10 ct10), sl10⟩) (c10 : PySem.W.codeIn K cd10 "are_within" = true) (k10 : PySem.W.keepIn K (.ref f10) = true)
    (a11 : PySem.W.nsIn K mainGlobals "are_same_above" = some (some (.ref f11))) (l11 : K.lookup f11 = some ⟨oc11, od11, .func (PySem.W.fnOf "are_same_above" "are_same_above" (defArgs s_are_same_above) (defBody s_are_same_above) (defScope s_are_same_above) .none kV11 dc11 pm11 an11 cd11 ct11), sl11⟩) (c11 : PySem.W.codeIn K cd11 "are_same_above" = true) (k11 : PySem.W.keepIn K (.ref f11) = true)
    (a12 : PySem.W.nsIn K mainGlobals "least_places" = some (some (.ref f12))) (l12 : K.lookup f12 = some ⟨oc12, od12, .func (PySem.W.fnOf "least_places" "least_places" (defArgs s_least_places) (defBody s_least_places) (defScope s_least_places) .none kV12 dc12 pm12 an12 cd12 ct12), sl12⟩) (c12 : PySem.W.codeIn K cd12 "least_places" = true) (k12 : PySem.W.keepIn K (.ref f12) = true)
    (a13 : PySem.W.nsIn K mainGlobals "is_place_above" = some (some (.ref f13))) (l13 : K.lookup f13 = some ⟨oc13, od13, .func (PySem.W.fnOf "is_place_above" "is_place_above" (defArgs s_is_place_above) (defBody s_is_place_above) (defScope s_is_place_above) .none kV13 dc13 pm13 an13 cd13 ct13), sl13⟩) (c13 : PySem.W.codeIn K cd13 "is_place_above" = true) (k13 : PySem.W.keepIn K (.ref f13) = true)
    (a14 : PySem.W.nsIn K mainGlobals "_law_take" = some (some (.ref f14))) (l14 : K.lookup f14 = some ⟨oc14, od14, .func (PySem.W.fnOf "_law_take" "_law_take" (defArgs s__law_take) (defBody s__law_take) (defScope s__law_take) .none kV14 dc14 pm14 an14 cd14 ct14), sl14⟩) (c14 : PySem.W.codeIn K cd14 "_law_take" = true) (k14 : PySem.W.keepIn K (.ref f14) = true)
    (a15 : PySem.W.nsIn K mainGlobals "_law_is_above" = some (some (.ref f15))) (l15 : K.lookup f15 = some ⟨oc15, od15, .func (PySem.W.fnOf "_law_is_above" "_law_is_above" (defArgs s__law_is_above) (defBody s__law_is_above) (defScope s__law_is_above) .none kV15 dc15 pm15 an15 cd15 ct15), sl15⟩) (c15 : PySem.W.codeIn K cd15 "_law_is_above" = true) (k15 : PySem.W.keepIn K (.ref f15) = true)
    (a16 : PySem.W.nsIn K mainGlobals "_law_bag" = some (some (.ref f16))) (l16 : K.lookup f16 = some ⟨oc16, od16, .func (PySem.W.fnOf "_law_bag" "_law_bag" (defArgs s__law_bag) (defBody s__law_bag) (defScope s__law_bag) .none kV16 dc16 pm16 an16 cd16 ct16), sl16⟩) (c16 : PySem.W.codeIn K cd16 "_law_bag" = true) (k16 : PySem.W.keepIn K (.ref f16) = true)
    (a17 : PySem.W.nsIn K mainGlobals "_law_alike" = some (some (.ref f17))) (l17 : K.lookup f17 = some ⟨oc17, od17, .func (PySem.W.fnOf "_law_alike" "_law_alike" (defArgs s__law_alike) (defBody s__law_alike) (defScope s__law_alike) .none kV17 dc17 pm17 an17 cd17 ct17), sl17⟩) (c17 : PySem.W.codeIn K cd17 "_law_alike" = true) (k17 : PySem.W.keepIn K (.ref f17) = true)
    (a18 : PySem.W.nsIn K mainGlobals "_law_moved" = some (some (.ref f18))) (l18 : K.lookup f18 = some ⟨oc18, od18, .func (PySem.W.fnOf "_law_moved" "_law_moved" (defArgs s__law_moved) (defBody s__law_moved) (defScope s__law_moved) .none kV18 dc18 pm18 an18 cd18 ct18), sl18⟩) (c18 : PySem.W.codeIn K cd18 "_law_moved" = true) (k18 : PySem.W.keepIn K (.ref f18) = true)
    (a19 : PySem.W.nsIn K mainGlobals "_law_least" = some (some (.ref f19))) (l19 : K.lookup f19 = some ⟨oc19, od19, .func (PySem.W.fnOf "_law_least" "_law_least" (defArgs s__law_least) (defBody s__law_least) (defScope s__law_least) .none kV19 dc19 pm19 an19 cd19 ct19), sl19⟩) (c19 : PySem.W.codeIn K cd19 "_law_least" = true) (k19 : PySem.W.keepIn K (.ref f19) = true)
    (a20 : PySem.W.nsIn K mainGlobals "_law_marks" = some (some (.ref f20))) (l20 : K.lookup f20 = some ⟨oc20, od20, .func (PySem.W.fnOf "_law_marks" "_law_marks" (defArgs s__law_marks) (defBody s__law_marks) (defScope s__law_marks) .none kV20 dc20 pm20 an20 cd20 ct20), sl20⟩) (c20 : PySem.W.codeIn K cd20 "_law_marks" = true) (k20 : PySem.W.keepIn K (.ref f20) = true)
    (a21 : PySem.W.nsIn K mainGlobals "_law_all_marks" = some (some (.ref f21))) (l21 : K.lookup f21 = some ⟨oc21, od21, .func (PySem.W.fnOf "_law_all_marks" "_law_all_marks" (defArgs s__law_all_marks) (defBody s__law_all_marks) (defScope s__law_all_marks) .none kV21 dc21 pm21 an21 cd21 ct21), sl21⟩) (c21 : PySem.W.codeIn K cd21 "_law_all_marks" = true) (k21 : PySem.W.keepIn K (.ref f21) = true)
    (a22 : PySem.W.nsIn K mainGlobals "_law_in" = some (some (.ref f22))) (l22 : K.lookup f22 = some ⟨oc22, od22, .func (PySem.W.fnOf "_law_in" "_law_in" (defArgs s__law_in) (defBody s__law_in) (defScope s__law_in) .none kV22 dc22 pm22 an22 cd22 ct22), sl22⟩) (c22 : PySem.W.codeIn K cd22 "_law_in" = true) (k22 : PySem.W.keepIn K (.ref f22) = true)
    (a23 : PySem.W.nsIn K mainGlobals "law" = some (some (.ref f23))) (l23 : K.lookup f23 = some ⟨oc23, od23, .func (PySem.W.fnOf "law" "law" (defArgs s_law) (defBody s_law) (defScope s_law) .none kV23 dc23 pm23 an23 cd23 ct23), sl23⟩) (c23 : PySem.W.codeIn K cd23 "law" = true) (k23 : PySem.W.keepIn K (.ref f23) = true)
    (z_abs : PySem.W.nsIn K mainGlobals "abs" = some none)
    (z_all : PySem.W.nsIn K mainGlobals "all" = some none)
    (z_any : PySem.W.nsIn K mainGlobals "any" = some none)
    (z_bool : PySem.W.nsIn K mainGlobals "bool" = some none)
    (z_enumerate : PySem.W.nsIn K mainGlobals "enumerate" = some none)
    (z_int : PySem.W.nsIn K mainGlobals "int" = some none)
    (z_isinstance : PySem.W.nsIn K mainGlobals "isinstance" = some none)
    (z_len : PySem.W.nsIn K mainGlobals "len" = some none)
    (z_list : PySem.W.nsIn K mainGlobals "list" = some none)
    (z_max : PySem.W.nsIn K mainGlobals "max" = some none)
    (z_range : PySem.W.nsIn K mainGlobals "range" = some none)
    (z_set : PySem.W.nsIn K mainGlobals "set" = some none)
    (z_sorted : PySem.W.nsIn K mainGlobals "sorted" = some none)
    (z_str : PySem.W.nsIn K mainGlobals "str" = some none)
    (z_tuple : PySem.W.nsIn K mainGlobals "tuple" = some none)
    (z_zip : PySem.W.nsIn K mainGlobals "zip" = some none)
    : ∃ fd : FuncData, (∀ (s : Shared) (v : Value), BindsTo s fd ⟨[v], []⟩ [("script", v)]) ∧ ∀ base : Heap, K.In base → base.Ns mainGlobals mg → FnOk l.prog w K mg base CX0 5 fa fd ["script"] (cSp ⟨K, l.prog, w⟩ (sp_law ⟨K, l.prog, w⟩)) := by
  have e := hfa.symm.trans (PySem.W.mg_of X G a23)
  cases e
  have T : Txt mg := ⟨PySem.W.mg_none_of X G z_abs, PySem.W.mg_none_of X G z_all, PySem.W.mg_none_of X G z_any, PySem.W.mg_none_of X G z_bool, PySem.W.mg_none_of X G z_enumerate, PySem.W.mg_none_of X G z_int, PySem.W.mg_none_of X G z_isinstance, PySem.W.mg_none_of X G z_len, PySem.W.mg_none_of X G z_list, PySem.W.mg_none_of X G z_max, PySem.W.mg_none_of X G z_range, PySem.W.mg_none_of X G z_set, PySem.W.mg_none_of X G z_sorted, PySem.W.mg_none_of X G z_str, PySem.W.mg_none_of X G z_tuple, PySem.W.mg_none_of X G z_zip⟩
  refine ⟨PySem.W.fnOf "law" "law" (defArgs s_law) (defBody s_law) (defScope s_law) .none kV23 dc23 pm23 an23 cd23 ct23, fun s v => .of_eq rfl, fun base _ _ => ?_⟩
  have H_is_above : Has l.prog w K mg base 1 "is_above" ["marks", "other"] sp_is_above := has_is_above T  (fun_mk (st := s_is_above) l0 c0 k0) (PySem.W.mg_of X G a0) ((fun_mk (st := s_is_above) l0 c0 k0).binds (ps := ["marks", "other"]) fun _ _ _ _ _ _ us hl => match us, hl with | [_, _], _ => rfl) (fun as μ Q ⟨_, _, e, _⟩ => by rw [e]; rfl) rd_is_above
  have H_is_above_some : Has l.prog w K mg base 2 "is_above_some" ["marks", "some"] sp_is_above_some := has_is_above_some T H_is_above (fun_mk (st := s_is_above_some) l1 c1 k1) (PySem.W.mg_of X G a1) ((fun_mk (st := s_is_above_some) l1 c1 k1).binds (ps := ["marks", "some"]) fun _ _ _ _ _ _ us hl => match us, hl with | [_, _], _ => rfl) (fun as μ Q ⟨_, _, _, e, _⟩ => by rw [e]; rfl) rd_is_above_some
  have H_least_marks : Has l.prog w K mg base 3 "least_marks" ["some"] sp_least_marks := has_least_marks T H_is_above_some (fun_mk (st := s_least_marks) l2 c2 k2) (PySem.W.mg_of X G a2) ((fun_mk (st := s_least_marks) l2 c2 k2).binds (ps := ["some"]) fun _ _ _ _ _ _ us hl => match us, hl with | [_], _ => rfl) (fun as μ Q ⟨_, _, _, e, _⟩ => by rw [e]; rfl) rd_least_marks
  have H_greatest_marks : Has l.prog w K mg base 2 "greatest_marks" ["some"] sp_greatest_marks := has_greatest_marks T H_is_above (fun_mk (st := s_greatest_marks) l3 c3 k3) (PySem.W.mg_of X G a3) ((fun_mk (st := s_greatest_marks) l3 c3 k3).binds (ps := ["some"]) fun _ _ _ _ _ _ us hl => match us, hl with | [_], _ => rfl) (fun as μ Q ⟨_, _, _, e, _⟩ => by rw [e]; rfl) rd_greatest_marks
  have H_back_marks : Has l.prog w K mg base 1 "back_marks" ["marks", "change"] sp_back_marks := has_back_marks T  (fun_mk (st := s_back_marks) l4 c4 k4) (PySem.W.mg_of X G a4) ((fun_mk (st := s_back_marks) l4 c4 k4).binds (ps := ["marks", "change"]) fun _ _ _ _ _ _ us hl => match us, hl with | [_, _], _ => rfl) (fun as μ Q ⟨_, _, e, _⟩ => by rw [e]; rfl) rd_back_marks
  have H_least_above : Has l.prog w K mg base 1 "least_above" ["one", "other"] sp_least_above := has_least_above T  (fun_mk (st := s_least_above) l5 c5 k5) (PySem.W.mg_of X G a5) ((fun_mk (st := s_least_above) l5 c5 k5).binds (ps := ["one", "other"]) fun _ _ _ _ _ _ us hl => match us, hl with | [_, _], _ => rfl) (fun as μ Q ⟨_, _, e, _⟩ => by rw [e]; rfl) rd_least_above
  have H_are_apart : Has l.prog w K mg base 2 "are_apart" ["one", "other"] sp_are_apart := has_are_apart T H_is_above (fun_mk (st := s_are_apart) l6 c6 k6) (PySem.W.mg_of X G a6) ((fun_mk (st := s_are_apart) l6 c6 k6).binds (ps := ["one", "other"]) fun _ _ _ _ _ _ us hl => match us, hl with | [_, _], _ => rfl) (fun as μ Q ⟨_, _, e, _⟩ => by rw [e]; rfl) rd_are_apart
  have H_first_rise : Has l.prog w K mg base 2 "first_rise" ["line"] sp_first_rise := has_first_rise T H_is_above (fun_mk (st := s_first_rise) l7 c7 k7) (PySem.W.mg_of X G a7) ((fun_mk (st := s_first_rise) l7 c7 k7).binds (ps := ["line"]) fun _ _ _ _ _ _ us hl => match us, hl with | [_], _ => rfl) (fun as μ Q ⟨_, e, _⟩ => by rw [e]; rfl) rd_first_rise
  have H_grown : Has l.prog w K mg base 1 "grown" ["one", "other"] sp_grown := has_grown T  (fun_mk (st := s_grown) l8 c8 k8) (PySem.W.mg_of X G a8) ((fun_mk (st := s_grown) l8 c8 k8).binds (ps := ["one", "other"]) fun _ _ _ _ _ _ us hl => match us, hl with | [_, _], _ => rfl) (fun as μ Q ⟨_, _, e, _⟩ => by rw [e]; rfl) rd_grown
  have H_in_both : Has l.prog w K mg base 4 "in_both" ["some", "others"] sp_in_both := has_in_both T H_least_marks H_least_above (fun_mk (st := s_in_both) l9 c9 k9) (PySem.W.mg_of X G a9) ((fun_mk (st := s_in_both) l9 c9 k9).binds (ps := ["some", "others"]) fun _ _ _ _ _ _ us hl => match us, hl with | [_, _], _ => rfl) (fun as μ Q ⟨_, _, _, e, _⟩ => by rw [e]; rfl) rd_in_both
  have H_are_within : Has l.prog w K mg base 3 "are_within" ["some", "others"] sp_are_within := has_are_within T H_is_above_some (fun_mk (st := s_are_within) l10 c10 k10) (PySem.W.mg_of X G a10) ((fun_mk (st := s_are_within) l10 c10 k10).binds (ps := ["some", "others"]) fun _ _ _ _ _ _ us hl => match us, hl with | [_, _], _ => rfl) (fun as μ Q ⟨_, _, e, _⟩ => by rw [e]; rfl) rd_are_within
  have H_are_same_above : Has l.prog w K mg base 4 "are_same_above" ["some", "others"] sp_are_same_above := has_are_same_above T H_least_marks (fun_mk (st := s_are_same_above) l11 c11 k11) (PySem.W.mg_of X G a11) ((fun_mk (st := s_are_same_above) l11 c11 k11).binds (ps := ["some", "others"]) fun _ _ _ _ _ _ us hl => match us, hl with | [_, _], _ => rfl) (fun as μ Q ⟨_, _, _, e, _⟩ => by rw [e]; rfl) rd_are_same_above
  have H_least_places : Has l.prog w K mg base 4 "least_places" ["places"] sp_least_places := has_least_places T H_least_marks (fun_mk (st := s_least_places) l12 c12 k12) (PySem.W.mg_of X G a12) ((fun_mk (st := s_least_places) l12 c12 k12).binds (ps := ["places"]) fun _ _ _ _ _ _ us hl => match us, hl with | [_], _ => rfl) (fun as μ Q ⟨_, _, e, _⟩ => by rw [e]; rfl) rd_least_places
  have H_is_place_above : Has l.prog w K mg base 3 "is_place_above" ["place", "places"] sp_is_place_above := has_is_place_above T H_is_above_some (fun_mk (st := s_is_place_above) l13 c13 k13) (PySem.W.mg_of X G a13) ((fun_mk (st := s_is_place_above) l13 c13 k13).binds (ps := ["place", "places"]) fun _ _ _ _ _ _ us hl => match us, hl with | [_, _], _ => rfl) (fun as μ Q ⟨_, _, e, _⟩ => by rw [e]; rfl) rd_is_place_above
  have H__law_take : Has l.prog w K mg base 1 "_law_take" ["bag", "many"] sp__law_take := has__law_take T  (fun_mk (st := s__law_take) l14 c14 k14) (PySem.W.mg_of X G a14) ((fun_mk (st := s__law_take) l14 c14 k14).binds (ps := ["bag", "many"]) fun _ _ _ _ _ _ us hl => match us, hl with | [_, _], _ => rfl) (fun as μ Q ⟨_, _, _, e, _⟩ => by rw [e]; rfl) rd__law_take
  have H__law_is_above : Has l.prog w K mg base 1 "_law_is_above" ["marks", "other"] sp__law_is_above := has__law_is_above T  (fun_mk (st := s__law_is_above) l15 c15 k15) (PySem.W.mg_of X G a15) ((fun_mk (st := s__law_is_above) l15 c15 k15).binds (ps := ["marks", "other"]) fun _ _ _ _ _ _ us hl => match us, hl with | [_, _], _ => rfl) (fun as μ Q ⟨_, _, e, _⟩ => by rw [e]; rfl) rd__law_is_above
  have H__law_bag : Has l.prog w K mg base 1 "_law_bag" ["script"] (sp__law_bag ⟨K, l.prog, w⟩) := has__law_bag T  (fun_mk (st := s__law_bag) l16 c16 k16) (PySem.W.mg_of X G a16) ((fun_mk (st := s__law_bag) l16 c16 k16).binds (ps := ["script"]) fun _ _ _ _ _ _ us hl => match us, hl with | [_], _ => rfl) (fun as μ Q ⟨_, _, e, _⟩ => by rw [e]; rfl) (rd__law_bag ⟨K, l.prog, w⟩)
  have H__law_alike : Has l.prog w K mg base 1 "_law_alike" ["found", "due"] sp__law_alike := has__law_alike T  (fun_mk (st := s__law_alike) l17 c17 k17) (PySem.W.mg_of X G a17) ((fun_mk (st := s__law_alike) l17 c17 k17).binds (ps := ["found", "due"]) fun _ _ _ _ _ _ us hl => match us, hl with | [_, _], _ => rfl) (fun as μ Q ⟨_, e, _⟩ => by rw [e]; rfl) rd__law_alike
  have H__law_moved : Has l.prog w K mg base 1 "_law_moved" ["marks", "change"] sp__law_moved := has__law_moved T  (fun_mk (st := s__law_moved) l18 c18 k18) (PySem.W.mg_of X G a18) ((fun_mk (st := s__law_moved) l18 c18 k18).binds (ps := ["marks", "change"]) fun _ _ _ _ _ _ us hl => match us, hl with | [_, _], _ => rfl) (fun as μ Q ⟨_, _, e, _⟩ => by rw [e]; rfl) rd__law_moved
  have H__law_least : Has l.prog w K mg base 2 "_law_least" ["some"] sp__law_least := has__law_least T H__law_is_above (fun_mk (st := s__law_least) l19 c19 k19) (PySem.W.mg_of X G a19) ((fun_mk (st := s__law_least) l19 c19 k19).binds (ps := ["some"]) fun _ _ _ _ _ _ us hl => match us, hl with | [_], _ => rfl) (fun as μ Q ⟨_, _, e, _⟩ => by rw [e]; rfl) rd__law_least
  have H__law_marks : Has l.prog w K mg base 2 "_law_marks" ["bag", "many"] sp__law_marks := has__law_marks T H__law_take (fun_mk (st := s__law_marks) l20 c20 k20) (PySem.W.mg_of X G a20) ((fun_mk (st := s__law_marks) l20 c20 k20).binds (ps := ["bag", "many"]) fun _ _ _ _ _ _ us hl => match us, hl with | [_, _], _ => rfl) (fun as μ Q ⟨_, _, _, e, _⟩ => by rw [e]; rfl) rd__law_marks
  have H__law_all_marks : Has l.prog w K mg base 1 "_law_all_marks" ["many", "most"] sp__law_all_marks := has__law_all_marks T  (fun_mk (st := s__law_all_marks) l21 c21 k21) (PySem.W.mg_of X G a21) ((fun_mk (st := s__law_all_marks) l21 c21 k21).binds (ps := ["many", "most"]) fun _ _ _ _ _ _ us hl => match us, hl with | [_, _], _ => rfl) (fun as μ Q ⟨_, _, e, _⟩ => by rw [e]; rfl) rd__law_all_marks
  have H__law_in : Has l.prog w K mg base 2 "_law_in" ["some", "marks"] sp__law_in := has__law_in T H__law_is_above (fun_mk (st := s__law_in) l22 c22 k22) (PySem.W.mg_of X G a22) ((fun_mk (st := s__law_in) l22 c22 k22).binds (ps := ["some", "marks"]) fun _ _ _ _ _ _ us hl => match us, hl with | [_, _], _ => rfl) (fun as μ Q ⟨_, _, _, e, _⟩ => by rw [e]; rfl) rd__law_in
  exact okF (fun_mk (st := s_law) l23 c23 k23) sc_law (fun as μ Q ⟨_, _, e, _⟩ => by rw [e]; rfl) fun cdv A outer s H E hr => ⟨_, der_law T H_is_above H_is_above_some H_least_marks H_greatest_marks H_back_marks H_least_above H_are_apart H_first_rise H_grown H_in_both H_are_within H_are_same_above H_least_places H_is_place_above H__law_take H__law_is_above H__law_bag H__law_alike H__law_moved H__law_least H__law_marks H__law_all_marks H__law_in hr, (rd_law ⟨K, l.prog, w⟩)⟩
theorem law_sp : LawSp sp_law := fun K μ a ns Q h1 h2 h3 => ⟨a, ns, rfl, h1, h2, h3⟩
theorem walk {l : PySem.W.OpenLaw} {q : Program} {loose : List Str} {XP : (Str → Option Value) → Heap → Prop} {YP : World → Heap → Prop} {d : DefRec} {K : Params → PySem.W.Frag} (hn : l.most = some 63) (hdf : d.params.defaults = [])
    (hY : ∀ (w : World) (h : Heap), YP w h → (K w.params).In h)
    (F : ∀ (w : World) (mg : Str → Option Value) (fa : Addr) (h : Heap), (K w.params).In h → h.Ns mainGlobals mg → mg d.name = some (.ref fa) →
      ∃ fd : FuncData, (∀ (s : Shared) (u : Value), BindsTo s fd ⟨[u], []⟩ [("script", u)]) ∧ ∀ base : Heap, (K w.params).In base → base.Ns mainGlobals mg → FnOk l.prog w (K w.params) mg base CX0 5 fa fd ["script"] (cSp ⟨K w.params, l.prog, w⟩ (sp_law ⟨K w.params, l.prog, w⟩))) :
    PySem.W.WalkO q loose XP YP l.row.toRowW d [] (fun f vs => PySem.call f vs) :=
  L2.walk_of (n := 63) (k := 5) (x := "script") (CX := fun _ => CX0) (sp := fun w => cSp ⟨K w.params, l.prog, w⟩ (sp_law ⟨K w.params, l.prog, w⟩)) hn (by decide) hdf ⟨rfl, by decide, by decide⟩ hY F (fun w _ a ns hl ho hS => law_end law_sp hl ho hS) fun _ _ _ _ _ z => z
end K60
open PySem PySem.W PyProof.Rows in
set_option maxRecDepth 100000 in
set_option maxHeartbeats 0 in
theorem PySem.Challenge.cw_counterkeep_k60_marks_above_one_another_holds : PySem.Challenge.rw_counterkeep_k60_marks_above_one_another.Holds := by
  w_on; o_law; k_head; (case hw => w_witness2)
  k_fill
  refine K60.walk (l := PySem.Challenge.rw_counterkeep_k60_marks_above_one_another) rfl rfl (fun w h Y => PySem.W.kIn_of Y) ?F
  case F =>
    intro w mg fa h KX G hmg
    refine' K60.all_mk KX G hmg ?a0 ?l0 ?c0 ?k0 ?a1 ?l1 ?c1 ?k1 ?a2 ?l2 ?c2 ?k2 ?a3 ?l3 ?c3 ?k3 ?a4 ?l4 ?c4 ?k4 ?a5 ?l5 ?c5 ?k5 ?a6 ?l6 ?c6 ?k6 ?a7 ?l7 ?c7 ?k7 ?a8 ?l8 ?c8 ?k8 ?a9 ?l9 ?c9 ?k9 ?a10 ?l10 ?c10 ?k10 ?a11 ?l11 ?c11 ?k11 ?a12 ?l12 ?c12 ?k12 ?a13 ?l13 ?c13 ?k13 ?a14 ?l14 ?c14 ?k14 ?a15 ?l15 ?c15 ?k15 ?a16 ?l16 ?c16 ?k16 ?a17 ?l17 ?c17 ?k17 ?a18 ?l18 ?c18 ?k18 ?a19 ?l19 ?c19 ?k19 ?a20 ?l20 ?c20 ?k20 ?a21 ?l21 ?c21 ?k21 ?a22 ?l22 ?c22 ?k22 ?a23 ?l23 ?c23 ?k23 ?z_abs ?z_all ?z_any ?z_bool ?z_enumerate ?z_int ?z_isinstance ?z_len ?z_list ?z_max ?z_range ?z_set ?z_sorted ?z_str ?z_tuple ?z_zip
    (case a0 => k_is)
    (case l0 => k_is)
    (case c0 => k_is)
    (case k0 => k_is)
    (case a1 => k_is)
    (case l1 => k_is)
    (case c1 => k_is)
    (case k1 => k_is)
    (case a2 => k_is)
    (case l2 => k_is)
    (case c2 => k_is)
    (case k2 => k_is)
    (case a3 => k_is)
    (case l3 => k_is)
    (case c3 => k_is)
    (case k3 => k_is)
    (case a4 => k_is)
    (case l4 => k_is)
    (case c4 => k_is)
    (case k4 => k_is)
    (case a5 => k_is)
    (case l5 => k_is)
    (case c5 => k_is)
    (case k5 => k_is)
    (case a6 => k_is)
    (case l6 => k_is)
    (case c6 => k_is)
    (case k6 => k_is)
    (case a7 => k_is)
    (case l7 => k_is)
    (case c7 => k_is)
    (case k7 => k_is)
    (case a8 => k_is)
    (case l8 => k_is)
    (case c8 => k_is)
    (case k8 => k_is)
    (case a9 => k_is)
    (case l9 => k_is)
    (case c9 => k_is)
    (case k9 => k_is)
    (case a10 => k_is)
    (case l10 => k_is)
    (case c10 => k_is)
    (case k10 => k_is)
    (case a11 => k_is)
    (case l11 => k_is)
    (case c11 => k_is)
    (case k11 => k_is)
    (case a12 => k_is)
    (case l12 => k_is)
    (case c12 => k_is)
    (case k12 => k_is)
    (case a13 => k_is)
    (case l13 => k_is)
    (case c13 => k_is)
    (case k13 => k_is)
    (case a14 => k_is)
    (case l14 => k_is)
    (case c14 => k_is)
    (case k14 => k_is)
    (case a15 => k_is)
    (case l15 => k_is)
    (case c15 => k_is)
    (case k15 => k_is)
    (case a16 => k_is)
    (case l16 => k_is)
    (case c16 => k_is)
    (case k16 => k_is)
    (case a17 => k_is)
    (case l17 => k_is)
    (case c17 => k_is)
    (case k17 => k_is)
    (case a18 => k_is)
    (case l18 => k_is)
    (case c18 => k_is)
    (case k18 => k_is)
    (case a19 => k_is)
    (case l19 => k_is)
    (case c19 => k_is)
    (case k19 => k_is)
    (case a20 => k_is)
    (case l20 => k_is)
    (case c20 => k_is)
    (case k20 => k_is)
    (case a21 => k_is)
    (case l21 => k_is)
    (case c21 => k_is)
    (case k21 => k_is)
    (case a22 => k_is)
    (case l22 => k_is)
    (case c22 => k_is)
    (case k22 => k_is)
    (case a23 => k_is)
    (case l23 => k_is)
    (case c23 => k_is)
    (case k23 => k_is)
    (case z_abs => k_is)
    (case z_all => k_is)
    (case z_any => k_is)
    (case z_bool => k_is)
    (case z_enumerate => k_is)
    (case z_int => k_is)
    (case z_isinstance => k_is)
    (case z_len => k_is)
    (case z_list => k_is)
    (case z_max => k_is)
    (case z_range => k_is)
    (case z_set => k_is)
    (case z_sorted => k_is)
    (case z_str => k_is)
    (case z_tuple => k_is)
    (case z_zip => k_is)

