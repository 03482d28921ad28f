import PyProof.Rows.All
import Wide.All
import OpenK.AllK
import Wide.FinOn
import HandS.ForMost
import HandS.Evl
import HandS.Deep
import HandS.Defaults
import HandS.Wide
import HandS.Flow
import HandS.TupAny
import HandS.IsInst
import HandS.SortInts
import HandS.TupSets
import HandS.Strs
import HandS.SetFor
import HandS.SortKw
import HandS.TupLe
import KE.SortData
import KE.DataMinMax
import KE.DatumOrd
import HandS.Conv
import HandS.Small
import HandS.Iter
import HandS.DictEq
import KE.KDictSum
import KE.KDictKeyed
import PyProof.Laws
import HandS.TryOnly
import PySem.Challenge.RW_worldwright_k36_whole_worlds_that_are_fo
set_option Elab.async false
set_option linter.all false
set_option maxRecDepth 100000
set_option maxHeartbeats 4000000
/-! Data layer: values as data (D), what owns a changing object, judgements without heaps. -/
namespace DL
open PySem PySem.Spec PyProof.Rows L2 Evl

/-! ### data -/
inductive D where
  | non | bl (b : Bool) | int (i : Int) | str (s : Str) | lst (l : List D) | tup (l : List D)
  | ins (C : Addr) (ns : List Str) (l : List D)
  | dic (ks : List (List Key)) (l : List D)
  | sc (ns : List Int)

def D.isN : D → Bool
  | .non => true
  | _ => false

section
variable (K : PySem.W.Frag) (H : Hp)
mutual
inductive DR : V → D → Prop
  | non : DR .non .non
  | bl (b : Bool) : DR (.bl b) (.bl b)
  | int (i : Int) : DR (.int i) (.int i)
  | str (s : Str) : DR (.str s) (.str s)
  | lst {a : Addr} {vs : List V} {ds : List D} : H a = some (.lst vs) → DRs vs ds → DR (.ref a) (.lst ds)
  | tup {a : Addr} {vs : List V} {ds : List D} : H a = some (.tup vs) → DRs vs ds → DR (.ref a) (.tup ds)
  | ins {a C dx : Addr} {fs : List (Str × V)} {vs : List V} {ns : List Str} {ds : List D} : H a = some (.ins C dx fs) → fs.map (·.1) = ns → fs.map (·.2) = vs → DRs vs ds → DR (.ref a) (.ins C ns ds)
  | dic {a : Addr} {ob : Obj} {kvs : List (List Key × V)} {vs : List V} {ks : List (List Key)} {ds : List D} : H a = some (.frz ob (.dT kvs)) → kvs.map (·.1) = ks → kvs.map (·.2) = vs → DRs vs ds → DR (.ref a) (.dic ks ds)
  | sc {a : Addr} {ns : List Int} : SqL K H a (ns.map V.int) → DR (.ref a) (.sc ns)
inductive DRs : List V → List D → Prop
  | nil : DRs [] []
  | cons {v : V} {d : D} {vs : List V} {ds : List D} : DR v d → DRs vs ds → DRs (v :: vs) (d :: ds)
end
end

section
variable {K : PySem.W.Frag} {H H' : Hp}
mutual
theorem DR.mono (e : Ex H H') : ∀ {v : V} {d : D}, DR K H v d → DR K H' v d
  | _, _, .non => .non
  | _, _, .bl b => .bl b
  | _, _, .int i => .int i
  | _, _, .str s => .str s
  | _, _, .lst h r => .lst (e _ _ h) (DRs.mono e r)
  | _, _, .tup h r => .tup (e _ _ h) (DRs.mono e r)
  | _, _, .ins h p q r => .ins (e _ _ h) p q (DRs.mono e r)
  | _, _, .dic h p q r => .dic (e _ _ h) p q (DRs.mono e r)
  | _, _, .sc h => .sc (ex_l e h)
theorem DRs.mono (e : Ex H H') : ∀ {vs : List V} {ds : List D}, DRs K H vs ds → DRs K H' vs ds
  | _, _, .nil => .nil
  | _, _, .cons h t => .cons (DR.mono e h) (DRs.mono e t)
end
theorem DRs.len : ∀ {vs : List V} {ds : List D}, DRs K H vs ds → vs.length = ds.length
  | _, _, .nil => rfl
  | _, _, .cons _ t => by rw [List.length_cons, List.length_cons, DRs.len t]
theorem DRs.get : ∀ {vs : List V} {ds : List D} {i : Nat} {d : D}, DRs K H vs ds → ds[i]? = some d → ∃ v, vs[i]? = some v ∧ DR K H v d
  | _, _, _, _, .nil, e => by simp at e
  | _, _, 0, _, .cons r _, e => by simp at e; subst e; exact ⟨_, rfl, r⟩
  | _, _, i + 1, d, .cons _ t, e => by
    obtain ⟨u, h1, h2⟩ := DRs.get (i := i) (d := d) t (by simpa using e)
    exact ⟨u, by simpa using h1, h2⟩
theorem DRs.get' : ∀ {vs : List V} {ds : List D} {i : Nat} {v : V}, DRs K H vs ds → vs[i]? = some v → ∃ d, ds[i]? = some d ∧ DR K H v d
  | _, _, _, _, .nil, e => by simp at e
  | _, _, 0, _, .cons r _, e => by simp at e; subst e; exact ⟨_, rfl, r⟩
  | _, _, i + 1, v, .cons _ t, e => by
    obtain ⟨u, h1, h2⟩ := DRs.get' (i := i) (v := v) t (by simpa using e)
    exact ⟨u, by simpa using h1, h2⟩
theorem DRs.app : ∀ {vs ws : List V} {ds es : List D}, DRs K H vs ds → DRs K H ws es → DRs K H (vs ++ ws) (ds ++ es)
  | _, _, _, _, .nil, s => s
  | _, _, _, _, .cons r t, s => .cons r (DRs.app t s)
theorem DRs.one {v : V} {d : D} (h : DR K H v d) : DRs K H [v] [d] := .cons h .nil
theorem DRs.drop : ∀ {vs : List V} {ds : List D} (n : Nat), DRs K H vs ds → DRs K H (vs.drop n) (ds.drop n)
  | _, _, 0, r => r
  | _, _, _ + 1, .nil => .nil
  | _, _, n + 1, .cons _ t => DRs.drop n t
theorem DRs.take : ∀ {vs : List V} {ds : List D} (n : Nat), DRs K H vs ds → DRs K H (vs.take n) (ds.take n)
  | _, _, 0, _ => .nil
  | _, _, _ + 1, .nil => .nil
  | _, _, n + 1, .cons r t => .cons r (DRs.take n t)
theorem DRs.set {v : V} {d : D} (h : DR K H v d) : ∀ {vs : List V} {ds : List D} (n : Nat), DRs K H vs ds → DRs K H (vs.set n v) (ds.set n d)
  | _, _, _, .nil => .nil
  | _, _, 0, .cons _ t => .cons h t
  | _, _, n + 1, .cons r t => .cons r (DRs.set h n t)
theorem DRs.split : ∀ {vs : List V} {ds es : List D}, DRs K H vs (ds ++ es) → ∃ us ws, vs = us ++ ws ∧ DRs K H us ds ∧ DRs K H ws es
  | vs, [], es, h => ⟨[], vs, rfl, .nil, h⟩
  | _, d :: ds, es, .cons r t => by
    obtain ⟨us, ws, e, h1, h2⟩ := DRs.split (ds := ds) t
    subst e
    exact ⟨_ :: us, ws, rfl, .cons r h1, h2⟩
theorem dr_non {v : V} {d : D} (h : DR K H v d) : decide (v = .non) = d.isN := by
  cases h with
  | non => rfl
  | bl b => rfl
  | int i => rfl
  | str s => rfl
  | lst _ _ => rfl
  | tup _ _ => rfl
  | ins _ _ _ _ => rfl
  | dic _ _ _ _ => rfl
  | sc _ => rfl
end

/-! ### the steps of a heap: Hb, what stands for data; H, all that is tracked; W, what may be changed -/
structure Gr (W : Addr → Prop) (Hb H Hb' H' : Hp) : Prop where
  b : Ex Hb Hb'
  h : ∀ a o, H a = some o → ¬ W a → H' a = some o
  al : ∀ a, H a ≠ none → H' a ≠ none
  s : Ex Hb' H'
  f : ∀ a, H a ≠ none → (∀ xs, H a ≠ some (.tup xs)) → ¬ W a → Hb' a = Hb a
abbrev New (Hb H Hb' H' : Hp) : Prop := Gr (fun _ => False) Hb H Hb' H'
section
variable {W W' : Addr → Prop} {Hb H Hb' H' Hb2 H2 : Hp}
theorem Gr.refl (e : Ex Hb H) : Gr W Hb H Hb H := ⟨Ex.refl _, fun _ _ h _ => h, fun _ h => h, e, fun _ _ _ _ => rfl⟩
theorem Gr.trans (x : Gr W Hb H Hb' H') (y : Gr W' Hb' H' Hb2 H2) (k : ∀ a, W' a → W a ∨ H a = none) : Gr W Hb H Hb2 H2 where
  b := x.b.trans y.b
  h := fun a o e n => y.h a o (x.h a o e n) fun w => (k a w).elim n fun z => by rw [z] at e; cases e
  al := fun a e => y.al a (x.al a e)
  s := y.s
  f := fun a e t n => (y.f a (x.al a e) (fun xs q => by
    cases z : H a with
    | none => exact e z
    | some u =>
      have := x.h a u z n
      rw [this] at q
      exact t xs (z.trans q)) fun w => (k a w).elim n e).trans (x.f a e t n)
theorem Gr.wk (x : Gr W Hb H Hb' H') (k : ∀ a, W a → W' a) : Gr W' Hb H Hb' H' := ⟨x.b, fun a o e n => x.h a o e fun w => n (k a w), x.al, x.s, fun a e t n => x.f a e t fun w => n (k a w)⟩
theorem New.gr (x : New Hb H Hb' H') : Gr W Hb H Hb' H' := x.wk fun _ z => z.elim
theorem New.ex (x : New Hb H Hb' H') : Ex H H' := fun a o e => x.h a o e fun z => z
theorem New.then (x : New Hb H Hb' H') (y : New Hb' H' Hb2 H2) : New Hb H Hb2 H2 := Gr.trans x y fun _ z => z.elim
/-- a new object, data -/
theorem New.mk {p : Addr} {o : HO} (e : Ex Hb H) (h : H p = none) : New Hb H (upd Hb p o) (upd H p o) where
  b := Ex.new (fresh_back e h)
  h := fun a u q _ => by rw [upd_ne (ne_of_none q h)]; exact q
  al := fun a q => by
    by_cases z : a = p
    · subst z; exact absurd h q
    · rw [upd_ne z]; exact q
  s := fun a u q => by
    by_cases z : a = p
    · subst z; rw [upd_same] at q ⊢; exact q
    · rw [upd_ne z] at q ⊢; exact e a u q
  f := fun a q _ _ => upd_ne fun z => by subst z; exact q h
/-- a new object, not data -/
theorem New.side {p : Addr} {o : HO} (e : Ex Hb H) (h : H p = none) : New Hb H Hb (upd H p o) where
  b := Ex.refl _
  h := fun a u q _ => by rw [upd_ne (ne_of_none q h)]; exact q
  al := fun a q => by
    by_cases z : a = p
    · subst z; exact absurd h q
    · rw [upd_ne z]; exact q
  s := fun a u q => by
    have hn := fresh_back e h
    rw [upd_ne (ne_of_none q hn)]
    exact e a u q
  f := fun _ _ _ _ => rfl
/-- an object that isn't data may change -/
theorem Gr.put {p : Addr} {o : HO} (e : Ex Hb H) (h : Hb p = none) (k : H p ≠ none) (w : W p) : Gr W Hb H Hb (upd H p o) where
  b := Ex.refl _
  h := fun a u q n => by rw [upd_ne fun z => n (by subst z; exact w)]; exact q
  al := fun a q => by
    by_cases z : a = p
    · subst z; rw [upd_same]; simp
    · rw [upd_ne z]; exact q
  s := fun a u q => by
    rw [upd_ne (ne_of_none q h)]
    exact e a u q
  f := fun _ _ _ _ => rfl
end

/-! ### slots -/
/-- what an owned object is -/
inductive MO where
  | ml (ds : List D)
  | dT (ks : List (List Key)) (ds : List D)
  | dK (ks : List Key) (ds : List D)
  | inv (φ : PySem.W.Frag → Hp → HO → Prop)
def MR (K : PySem.W.Frag) (Hb : Hp) (o : HO) : MO → Prop
  | .ml ds => ∃ vs, o = .lst vs ∧ DRs K Hb vs ds
  | .dT ks ds => ∃ kv : List (List Key × V), o = .dT kv ∧ kv.map (·.1) = ks ∧ DRs K Hb (kv.map (·.2)) ds
  | .dK ks ds => ∃ kv : List (Key × V), o = .dK kv ∧ kv.map (·.1) = ks ∧ DRs K Hb (kv.map (·.2)) ds
  | .inv φ => (∀ xs, o ≠ .tup xs) ∧ ∀ Hb', Ex Hb Hb' → φ K Hb' o
theorem MR.mono {K : PySem.W.Frag} {Hb Hb' : Hp} (e : Ex Hb Hb') {o : HO} : ∀ {m : MO}, MR K Hb o m → MR K Hb' o m
  | .ml _, ⟨vs, h, r⟩ => ⟨vs, h, r.mono e⟩
  | .dT _ _, ⟨vs, h, p, r⟩ => ⟨vs, h, p, r.mono e⟩
  | .dK _ _, ⟨vs, h, p, r⟩ => ⟨vs, h, p, r.mono e⟩
  | .inv _, h => ⟨h.1, fun H1 e1 => h.2 H1 (e.trans e1)⟩
theorem MR.nt {K : PySem.W.Frag} {Hb : Hp} {o : HO} : ∀ {m : MO}, MR K Hb o m → ∀ xs, some o ≠ some (HO.tup xs)
  | .ml _, ⟨vs, h, r⟩, xs => by rw [h]; simp
  | .dT _ _, ⟨vs, h, p, r⟩, xs => by rw [h]; simp
  | .dK _ _, ⟨vs, h, p, r⟩, xs => by rw [h]; simp
  | .inv _, h, xs => fun e => h.1 xs (Option.some.inj e)
theorem xt {K : PySem.W.Frag} {H H' : Hp} {a : Addr} {vs : List V} (e : Ex H H') (h : H a = some (.tup vs)) : SqT K H' a vs := SqT.of (e _ _ h)
/-- a slot: nothing known, data, an owned object -/
inductive Sl where
  | un | pd (d : D) | ow (o : MO)

structure En (K : PySem.W.Frag) (Hb H : Hp) (σ : L2.St) (Γ : List Sl) : Prop where
  ex : Ex Hb H
  val : ∀ (i : Nat) (d : D), Γ[i]? = some (.pd d) → ∃ v, σ[i]? = some (some v) ∧ DR K Hb v d
  own : ∀ (i : Nat) (m : MO), Γ[i]? = some (.ow m) → ∃ a u, σ[i]? = some (some (.ref a)) ∧ Hb a = none ∧ H a = some u ∧ MR K Hb u m
  sep : ∀ (i j : Nat) (a : Addr) (m m' : MO), Γ[i]? = some (.ow m) → Γ[j]? = some (.ow m') → σ[i]? = some (some (.ref a)) → σ[j]? = some (some (.ref a)) → i = j
  len : σ.length = Γ.length
def Own (σ : L2.St) (Γ : List Sl) (a : Addr) : Prop := ∃ (i : Nat) (m : MO), Γ[i]? = some (.ow m) ∧ σ[i]? = some (some (.ref a))
section
variable {K : PySem.W.Frag} {Hb H Hb' H' : Hp} {σ : L2.St} {Γ : List Sl}
theorem En.new (E : En K Hb H σ Γ) (x : New Hb H Hb' H') : En K Hb' H' σ Γ where
  ex := x.s
  val := fun i d h => by obtain ⟨v, h1, h2⟩ := E.val i d h; exact ⟨v, h1, h2.mono x.b⟩
  own := fun i m h => by
    obtain ⟨a, u, h1, h2, h3, h4⟩ := E.own i m h
    exact ⟨a, u, h1, (x.f a (by rw [h3]; simp) (by rw [h3]; exact h4.nt) fun z => z).trans h2, x.ex a u h3, h4.mono x.b⟩
  sep := E.sep
  len := E.len
theorem En.some_of (E : En K Hb H σ Γ) {i : Nat} {s : Sl} (h : Γ[i]? = some s) : i < σ.length := by
  rw [E.len]
  exact (List.getElem?_eq_some_iff.mp h).1
theorem set_at {α : Type} {l : List α} {i j : Nat} {x y : α} (h : (l.set i x)[j]? = some y) : (i = j ∧ x = y ∧ i < l.length) ∨ (i ≠ j ∧ l[j]? = some y) := by
  by_cases e : i = j
  · subst e
    by_cases hi : i < l.length
    · rw [List.getElem?_set_self hi] at h
      exact .inl ⟨rfl, Option.some.inj h, hi⟩
    · rw [List.getElem?_eq_none (by simpa using hi)] at h
      cases h
  · rw [List.getElem?_set_ne e] at h
    exact .inr ⟨e, h⟩
/-- a slot gets data -/
theorem En.set (E : En K Hb H σ Γ) {v : V} {d : D} (r : DR K Hb v d) (i : Nat) : En K Hb H (σ.set i (some v)) (Γ.set i (.pd d)) where
  ex := E.ex
  val := fun j e h => by
    rcases set_at h with ⟨rfl, h2, h3⟩ | ⟨h1, h2⟩
    · cases h2
      exact ⟨v, List.getElem?_set_self (by rw [E.len]; exact h3), r⟩
    · rw [List.getElem?_set_ne h1]
      exact E.val j e h2
  own := fun j m h => by
    rcases set_at h with ⟨rfl, h2, h3⟩ | ⟨h1, h2⟩
    · cases h2
    · rw [List.getElem?_set_ne h1]
      exact E.own j m h2
  sep := fun j k a m m' h h' e e' => by
    rcases set_at h with ⟨rfl, h2, h3⟩ | ⟨h1, h2⟩
    · cases h2
    · rcases set_at h' with ⟨rfl, h4, h5⟩ | ⟨h3, h4⟩
      · cases h4
      · rw [List.getElem?_set_ne h1] at e
        rw [List.getElem?_set_ne h3] at e'
        exact E.sep j k a m m' h2 h4 e e'
  len := by rw [List.length_set, List.length_set, E.len]
/-- a slot is forgotten -/
theorem En.un (E : En K Hb H σ Γ) (i : Nat) (o : Option V) : En K Hb H (σ.set i o) (Γ.set i .un) where
  ex := E.ex
  val := fun j e h => by
    rcases set_at h with ⟨rfl, h2, h3⟩ | ⟨h1, h2⟩
    · cases h2
    · rw [List.getElem?_set_ne h1]
      exact E.val j e h2
  own := fun j m h => by
    rcases set_at h with ⟨rfl, h2, h3⟩ | ⟨h1, h2⟩
    · cases h2
    · rw [List.getElem?_set_ne h1]
      exact E.own j m h2
  sep := fun j k a m m' h h' e e' => by
    rcases set_at h with ⟨rfl, h2, h3⟩ | ⟨h1, h2⟩
    · cases h2
    · rcases set_at h' with ⟨rfl, h4, h5⟩ | ⟨h3, h4⟩
      · cases h4
      · rw [List.getElem?_set_ne h1] at e
        rw [List.getElem?_set_ne h3] at e'
        exact E.sep j k a m m' h2 h4 e e'
  len := by rw [List.length_set, List.length_set, E.len]
theorem En.forget (E : En K Hb H σ Γ) (i : Nat) : En K Hb H σ (Γ.set i .un) where
  ex := E.ex
  val := fun j e h => by
    rcases set_at h with ⟨rfl, h2, h3⟩ | ⟨h1, h2⟩
    · cases h2
    · exact E.val j e h2
  own := fun j m h => by
    rcases set_at h with ⟨rfl, h2, h3⟩ | ⟨h1, h2⟩
    · cases h2
    · exact E.own j m h2
  sep := fun j k a m m' h h' e e' => by
    rcases set_at h with ⟨rfl, h2, h3⟩ | ⟨h1, h2⟩
    · cases h2
    · rcases set_at h' with ⟨rfl, h4, h5⟩ | ⟨h3, h4⟩
      · cases h4
      · exact E.sep j k a m m' h2 h4 e e'
  len := by rw [List.length_set, E.len]
/-- Γ' says less than Γ -/
def Le (Γ Γ' : List Sl) : Prop := Γ.length = Γ'.length ∧ ∀ (i : Nat) (s : Sl), Γ'[i]? = some s → s = .un ∨ Γ[i]? = some s
theorem En.le (E : En K Hb H σ Γ) {Γ' : List Sl} (l : Le Γ Γ') : En K Hb H σ Γ' where
  ex := E.ex
  val := fun i d h => E.val i d ((l.2 i _ h).elim (fun z => by cases z) id)
  own := fun i m h => E.own i m ((l.2 i _ h).elim (fun z => by cases z) id)
  sep := fun i j a m m' h h' e e' => E.sep i j a m m' ((l.2 i _ h).elim (fun z => by cases z) id) ((l.2 j _ h').elim (fun z => by cases z) id) e e'
  len := E.len.trans l.1
theorem Own.le {Γ' : List Sl} (l : Le Γ Γ') {a : Addr} (h : Own σ Γ' a) : Own σ Γ a := by
  obtain ⟨i, m, h1, h2⟩ := h
  exact ⟨i, m, (l.2 i _ h1).elim (fun z => by cases z) id, h2⟩
/-- an owned object changes -/
theorem En.put (E : En K Hb H σ Γ) {i : Nat} {m m' : MO} {a : Addr} {u : HO} (h : Γ[i]? = some (.ow m)) (ha : σ[i]? = some (some (.ref a))) (r : MR K Hb u m') : En K Hb (upd H a u) σ (Γ.set i (.ow m')) where
  ex := fun b o e => by
    obtain ⟨a', u', h1, h2, h3, h4⟩ := E.own i m h
    rw [ha] at h1
    cases h1
    rw [upd_ne (ne_of_none e h2)]
    exact E.ex b o e
  val := fun j e h' => by
    rcases set_at h' with ⟨rfl, h2, h3⟩ | ⟨h1, h2⟩
    · cases h2
    · exact E.val j e h2
  own := fun j n h' => by
    obtain ⟨a', u', h1', h2', h3', h4'⟩ := E.own i m h
    rw [ha] at h1'
    cases h1'
    rcases set_at h' with ⟨rfl, h2, h3⟩ | ⟨h1, h2⟩
    · cases h2
      exact ⟨a, u, ha, h2', upd_same, r⟩
    · obtain ⟨b, w, e1, e2, e3, e4⟩ := E.own j n h2
      refine ⟨b, w, e1, e2, ?_, e4⟩
      rw [upd_ne fun z => h1 ?_]
      · exact e3
      · subst z
        exact E.sep i j _ m n h h2 ha e1
  sep := fun j k b n n' h1 h2 e1 e2 => by
    have g : ∀ (j : Nat) (n : MO), (Γ.set i (.ow m'))[j]? = some (.ow n) → ∃ n2, Γ[j]? = some (.ow n2) := fun j n z => by
      rcases set_at z with ⟨rfl, z2, z3⟩ | ⟨z1, z2⟩
      · exact ⟨m, h⟩
      · exact ⟨n, z2⟩
    obtain ⟨n1, g1⟩ := g j n h1
    obtain ⟨n2, g2⟩ := g k n' h2
    exact E.sep j k b n1 n2 g1 g2 e1 e2
  len := by rw [List.length_set, E.len]
/-- a new owned object is bound -/
theorem En.take (E : En K Hb H σ Γ) {i : Nat} {m : MO} {a : Addr} {u : HO} (hn : Hb a = none) (hu : H a = some u) (r : MR K Hb u m) (no : ¬ Own σ Γ a) : En K Hb H (σ.set i (some (.ref a))) (Γ.set i (.ow m)) where
  ex := E.ex
  val := fun j e h' => by
    rcases set_at h' with ⟨rfl, h2, h3⟩ | ⟨h1, h2⟩
    · cases h2
    · rw [List.getElem?_set_ne h1]
      exact E.val j e h2
  own := fun j n h' => by
    rcases set_at h' with ⟨rfl, h2, h3⟩ | ⟨h1, h2⟩
    · cases h2
      exact ⟨a, u, List.getElem?_set_self (by rw [E.len]; exact h3), hn, hu, r⟩
    · rw [List.getElem?_set_ne h1]
      exact E.own j n h2
  sep := fun j k b n n' h1 h2 e1 e2 => by
    rcases set_at h1 with ⟨rfl, z2, z3⟩ | ⟨z1, z2⟩
    · rcases set_at h2 with ⟨y1, y2, y3⟩ | ⟨y1, y2⟩
      · exact y1
      · rw [List.getElem?_set_self (by rw [E.len]; exact z3)] at e1
        cases e1
        rw [List.getElem?_set_ne y1] at e2
        exact absurd ⟨k, n', y2, e2⟩ no
    · rcases set_at h2 with ⟨rfl, y2, y3⟩ | ⟨y1, y2⟩
      · rw [List.getElem?_set_self (by rw [E.len]; exact y3)] at e2
        cases e2
        rw [List.getElem?_set_ne z1] at e1
        exact absurd ⟨j, n, z2, e1⟩ no
      · rw [List.getElem?_set_ne z1] at e1
        rw [List.getElem?_set_ne y1] at e2
        exact E.sep j k b n n' z2 y2 e1 e2
  len := by rw [List.length_set, List.length_set, E.len]
/-- an owned list becomes data -/
theorem En.freeze (E : En K Hb H σ Γ) {i : Nat} {ds : List D} (h : Γ[i]? = some (.ow (.ml ds))) : ∃ a vs, σ[i]? = some (some (.ref a)) ∧ H a = some (.lst vs) ∧ DRs K Hb vs ds ∧ Hb a = none ∧ Own σ Γ a ∧ En K (upd Hb a (.lst vs)) H σ (Γ.set i (.pd (.lst ds))) := by
  obtain ⟨a, u, h1, h2, h3, vs, rfl, h5⟩ := E.own i _ h
  have eb : Ex Hb (upd Hb a (.lst vs)) := Ex.new h2
  refine ⟨a, vs, h1, h3, h5, h2, ⟨i, _, h, h1⟩, ?_⟩
  exact {
    ex := fun b o e => by
      by_cases z : b = a
      · subst z; rw [upd_same] at e; cases e; exact h3
      · rw [upd_ne z] at e; exact E.ex b o e
    val := fun j e h' => by
      rcases set_at h' with ⟨rfl, z2, z3⟩ | ⟨z1, z2⟩
      · cases z2
        exact ⟨_, h1, .lst upd_same (h5.mono eb)⟩
      · obtain ⟨v, e1, e2⟩ := E.val j e z2
        exact ⟨v, e1, e2.mono eb⟩
    own := fun j n h' => by
      rcases set_at h' with ⟨rfl, z2, z3⟩ | ⟨z1, z2⟩
      · cases z2
      · obtain ⟨b, w, e1, e2, e3, e4⟩ := E.own j n z2
        refine ⟨b, w, e1, ?_, e3, e4.mono eb⟩
        rw [upd_ne fun z => z1 ?_]
        · exact e2
        · subst z
          exact E.sep i j _ _ n h z2 h1 e1
    sep := fun j k b n n' y1 y2 e1 e2 => by
      rcases set_at y1 with ⟨rfl, z2, z3⟩ | ⟨z1, z2⟩
      · cases z2
      · rcases set_at y2 with ⟨rfl, z4, z5⟩ | ⟨z3, z4⟩
        · cases z4
        · exact E.sep j k b n n' z2 z4 e1 e2
    len := by rw [List.length_set, E.len] }
/-- .. and the way of the heap -/
theorem Gr.freeze {W : Addr → Prop} {a : Addr} {vs : List V} (x : Gr W Hb H Hb' H') (w : H a = none) (h : H' a = some (.lst vs)) (hb : Hb' a = none) : Gr W Hb H (upd Hb' a (.lst vs)) H' where
  b := x.b.trans (Ex.new hb)
  h := x.h
  al := x.al
  s := fun b o e => by
    by_cases z : b = a
    · subst z; rw [upd_same] at e; cases e; exact h
    · rw [upd_ne z] at e; exact x.s b o e
  f := fun b e t n => by rw [upd_ne fun z => by subst z; exact e w]; exact x.f b e t n
end
end DL

namespace DL
open PySem PySem.Spec PyProof.Rows L2 Evl

/-! ### what an expression's own run asks -/
def wpE (X : Cx) (e : Expr) : TE := fun σ H Q => ∀ (pins : List (Addr × Obj)) (s : Shared), Inv X pins σ H s → wpAny (model X.prog X.w) X.A (eval e X.env) (EP X pins σ Q) X.xe s
def wpT (X : Cx) (e : Expr) : TT := fun σ H Q => ∀ (pins : List (Addr × Obj)) (s : Shared), Inv X pins σ H s → wpAny (model X.prog X.w) X.A (isTrue e X.env (eval e X.env)) (TP X pins σ Q) X.xe s
def wpA (X : Cx) (es : List Expr) : TA := fun σ H Q => ∀ (pos : Pos) (pins : List (Addr × Obj)) (s : Shared), Inv X pins σ H s → wpAny (model X.prog X.w) X.A (spliced (backTo pos (starEach es X.env))) (AP X pins σ Q) X.xe s
def wpI (X : Cx) (tg iter : Expr) : TI := fun σ H R => ∀ (pins : List (Addr × Obj)) (s : Shared), Inv X pins σ H s → wpAny (model X.prog X.w) X.A (eval iter X.env) (fun v s1 => wpAny (model X.prog X.w) X.A (pyIter v) (PIE X pins σ tg R) X.xe s1) X.xe s
theorem pe_wp {X : Cx} {e : Expr} : PE X e (wpE X e) := ⟨fun pins s _ _ _ I h => h pins s I⟩
theorem pt_wp {X : Cx} {e : Expr} : PT X e (wpT X e) := ⟨fun pins s _ _ _ I h => h pins s I⟩
theorem pa_wp {X : Cx} {es : List Expr} : PA X es (wpA X es) := ⟨fun pos pins s _ _ _ I h => h pos pins s I⟩
theorem pi_wp {X : Cx} {tg iter : Expr} : PI X tg iter (wpI X tg iter) := ⟨fun pins s _ _ _ I h => h pins s I⟩

/-! ### judgements over readings; m: true where owned objects may be changed -/
abbrev WW (m : Bool) (σ : L2.St) (Γ : List Sl) : Addr → Prop := fun a => m = true ∧ Own σ Γ a
def JR (K : PySem.W.Frag) (m : Bool) (te : TE) (Γ : List Sl) (Φ : D → Prop) : Prop := ∀ (σ : L2.St) (Hb H : Hp), En K Hb H σ Γ → ∀ Q : VK,
  (∀ v d Hb' H', Φ d → Gr (WW m σ Γ) Hb H Hb' H' → En K Hb' H' σ Γ → DR K Hb' v d → Q v H') → te σ H Q
def JT (K : PySem.W.Frag) (m : Bool) (tt : TT) (Γ : List Sl) (Φ : Bool → Prop) : Prop := ∀ (σ : L2.St) (Hb H : Hp), En K Hb H σ Γ → ∀ Q : Bool → Hp → Prop,
  (∀ b Hb' H', Φ b → Gr (WW m σ Γ) Hb H Hb' H' → En K Hb' H' σ Γ → Q b H') → tt σ H Q
def JA (K : PySem.W.Frag) (m : Bool) (ta : TA) (Γ : List Sl) (Φ : List D → Prop) : Prop := ∀ (σ : L2.St) (Hb H : Hp), En K Hb H σ Γ → ∀ Q : List V → Hp → Prop,
  (∀ vs ds Hb' H', Φ ds → Gr (WW m σ Γ) Hb H Hb' H' → En K Hb' H' σ Γ → DRs K Hb' vs ds → Q vs H') → ta σ H Q
/-- a new object of its own -/
def JN (K : PySem.W.Frag) (m : Bool) (te : TE) (Γ : List Sl) (Φ : MO → Prop) : Prop := ∀ (σ : L2.St) (Hb H : Hp), En K Hb H σ Γ → ∀ Q : VK,
  (∀ p u o Hb' H', Φ o → H p = none → Gr (WW m σ Γ) Hb H Hb' H' → En K Hb' H' σ Γ → Hb' p = none → H' p = some u → MR K Hb' u o → Q (.ref p) H') → te σ H Q
def ItD (K : PySem.W.Frag) (J : It) (Hb : Hp) (ds : List D) : Prop := ∀ (Hb1 H1 : Hp), Ex Hb Hb1 → Ex Hb1 H1 → ∀ i : Nat,
  (i < ds.length → J.go i H1 ∧ ∀ x H2, J.yld i H1 x H2 → ∃ d Hb2, ds[i]? = some d ∧ New Hb1 H1 Hb2 H2 ∧ DR K Hb2 x d) ∧ (ds.length ≤ i → J.stop i H1)
def JI (K : PySem.W.Frag) (m : Bool) (wi : TI) (Γ : List Sl) (Φ : List D → Prop) : Prop := ∀ (σ : L2.St) (Hb H : Hp), En K Hb H σ Γ → ∀ R : It → Hp → Prop,
  (∀ J ds Hb' H', Φ ds → Gr (WW m σ Γ) Hb H Hb' H' → En K Hb' H' σ Γ → ItD K J Hb' ds → R J H') → wi σ H R

def XE (X : Cx) (m : Bool) (e : Expr) (Γ : List Sl) (Φ : D → Prop) : Prop := JR X.K m (wpE X e) Γ Φ
def XT (X : Cx) (m : Bool) (e : Expr) (Γ : List Sl) (Φ : Bool → Prop) : Prop := JT X.K m (wpT X e) Γ Φ
def XA (X : Cx) (m : Bool) (es : List Expr) (Γ : List Sl) (Φ : List D → Prop) : Prop := JA X.K m (wpA X es) Γ Φ
def XN (X : Cx) (m : Bool) (e : Expr) (Γ : List Sl) (Φ : MO → Prop) : Prop := JN X.K m (wpE X e) Γ Φ
def XI (X : Cx) (m : Bool) (tg e : Expr) (Γ : List Sl) (Φ : List D → Prop) : Prop := JI X.K m (wpI X tg e) Γ Φ
/-- pure, known -/
abbrev XV (X : Cx) (e : Expr) (Γ : List Sl) (d : D) : Prop := XE X false e Γ fun z => z = d
abbrev XB (X : Cx) (e : Expr) (Γ : List Sl) (b : Bool) : Prop := XT X false e Γ fun z => z = b
abbrev XL (X : Cx) (es : List Expr) (Γ : List Sl) (ds : List D) : Prop := XA X false es Γ fun z => z = ds
abbrev XO (X : Cx) (e : Expr) (Γ : List Sl) (o : MO) : Prop := XN X false e Γ fun z => z = o
abbrev XW (X : Cx) (tg e : Expr) (Γ : List Sl) (ds : List D) : Prop := XI X false tg e Γ fun z => z = ds

section
variable {X : Cx} {m : Bool} {e a b c : Expr} {es : List Expr} {Γ : List Sl} {te ta tb : TE} {tt tu : TT} {tl : TA} {Φ Ψ : D → Prop} {pos : Pos}
theorem xe_of (h : PE X e te) (r : JR X.K m te Γ Φ) : XE X m e Γ Φ := fun σ Hb H E Q q pins s I => h.run pins s σ H Q I (r σ Hb H E Q q)
theorem xt_of {Φ : Bool → Prop} (h : PT X e tt) (r : JT X.K m tt Γ Φ) : XT X m e Γ Φ := fun σ Hb H E Q q pins s I => h.run pins s σ H Q I (r σ Hb H E Q q)
theorem xn_of {Φ : MO → Prop} (h : PE X e te) (r : JN X.K m te Γ Φ) : XN X m e Γ Φ := fun σ Hb H E Q q pins s I => h.run pins s σ H Q I (r σ Hb H E Q q)
theorem xa_of {Φ : List D → Prop} (h : PA X es tl) (r : JA X.K m tl Γ Φ) : XA X m es Γ Φ := fun σ Hb H E Q q pos pins s I => h.run pos pins s σ H Q I (r σ Hb H E Q q)
theorem xi_of {tg : Expr} {wi : TI} {Φ : List D → Prop} (h : PI X tg e wi) (r : JI X.K m wi Γ Φ) : XI X m tg e Γ Φ := fun σ Hb H E Q q pins s I => h.run pins s σ H Q I (r σ Hb H E Q q)
theorem XE.imp (h : XE X m e Γ Φ) (k : ∀ d, Φ d → Ψ d) : XE X m e Γ Ψ := fun σ Hb H E Q q => h σ Hb H E Q fun v d Hb' H' p => q v d Hb' H' (k d p)
theorem XT.imp {Φ Ψ : Bool → Prop} (h : XT X m e Γ Φ) (k : ∀ d, Φ d → Ψ d) : XT X m e Γ Ψ := fun σ Hb H E Q q => h σ Hb H E Q fun v Hb' H' p => q v Hb' H' (k v p)
theorem XA.imp {Φ Ψ : List D → Prop} (h : XA X m es Γ Φ) (k : ∀ d, Φ d → Ψ d) : XA X m es Γ Ψ := fun σ Hb H E Q q => h σ Hb H E Q fun v d Hb' H' p => q v d Hb' H' (k d p)
theorem XN.imp {Φ Ψ : MO → Prop} (h : XN X m e Γ Φ) (k : ∀ d, Φ d → Ψ d) : XN X m e Γ Ψ := fun σ Hb H E Q q => h σ Hb H E Q fun p u o Hb' H' z => q p u o Hb' H' (k o z)
theorem ww_lift {σ : L2.St} {Hb H Hb' H' : Hp} (g : Gr (WW false σ Γ) Hb H Hb' H') : Gr (WW m σ Γ) Hb H Hb' H' := g.wk fun _ z => by cases z.1
theorem ww_new {σ : L2.St} {Hb H Hb' H' : Hp} (g : Gr (WW false σ Γ) Hb H Hb' H') : New Hb H Hb' H' := g.wk fun _ z => by cases z.1
/-- pure is also changing -/
theorem XE.up (h : XE X false e Γ Φ) : XE X m e Γ Φ := fun σ Hb H E Q q => h σ Hb H E Q fun v d Hb' H' p g => q v d Hb' H' p (ww_lift g)
theorem XT.up {Φ : Bool → Prop} (h : XT X false e Γ Φ) : XT X m e Γ Φ := fun σ Hb H E Q q => h σ Hb H E Q fun v Hb' H' p g => q v Hb' H' p (ww_lift g)
theorem XA.up {Φ : List D → Prop} (h : XA X false es Γ Φ) : XA X m es Γ Φ := fun σ Hb H E Q q => h σ Hb H E Q fun v d Hb' H' p g => q v d Hb' H' p (ww_lift g)
theorem XN.up {Φ : MO → Prop} (h : XN X false e Γ Φ) : XN X m e Γ Φ := fun σ Hb H E Q q => h σ Hb H E Q fun p u o Hb' H' z z2 g => q p u o Hb' H' z z2 (ww_lift g)
theorem XI.up {tg : Expr} {Φ : List D → Prop} (h : XI X false tg e Γ Φ) : XI X m tg e Γ Φ := fun σ Hb H E Q q => h σ Hb H E Q fun J ds Hb' H' z g => q J ds Hb' H' z (ww_lift g)
theorem XV.is {d d' : D} (h : XV X e Γ d) (k : d = d') : XV X e Γ d' := by rw [← k]; exact h
theorem XB.is {d d' : Bool} (h : XB X e Γ d) (k : d = d') : XB X e Γ d' := by rw [← k]; exact h
theorem gww {σ : L2.St} {Hb H Hb' H' Hb2 H2 : Hp} (x : Gr (WW m σ Γ) Hb H Hb' H') (y : Gr (WW m σ Γ) Hb' H' Hb2 H2) : Gr (WW m σ Γ) Hb H Hb2 H2 := x.trans y fun _ w => .inl w
theorem gwn {σ : L2.St} {Hb H Hb' H' Hb2 H2 : Hp} (x : Gr (WW m σ Γ) Hb H Hb' H') (y : New Hb' H' Hb2 H2) : Gr (WW m σ Γ) Hb H Hb2 H2 := x.trans y fun _ w => w.elim

/-! ### names, constants -/
theorem jr_val {K : PySem.W.Frag} {d : D} {f : L2.St → Hp → VK → Prop} (h : ∀ σ Hb H, En K Hb H σ Γ → ∃ v, DR K Hb v d ∧ ∀ Q : VK, Q v H → f σ H Q) : JR K m f Γ fun z => z = d := fun σ Hb H E Q q => by
  obtain ⟨v, r, k⟩ := h σ Hb H E
  exact k Q (q v d Hb H rfl (Gr.refl E.ex) E r)
theorem xv_var (i : Nat) {x : Str} {d : D} (h : Γ[i]? = some (.pd d) := by rfl) (hN : X.N[i]? = some x := by rfl) (hv : Vis X.env.scope x := by first | exact Or.inl rfl | exact Or.inr (Or.inl rfl) | exact Or.inr (Or.inr rfl)) (hd : (x == ("__debug__" : Str)) = false := by decide)
    (hcd : (x == ("__classdict__" : Str)) = false := by decide) : XV X (.Name x pos) Γ d := xe_of (pe_var hN hv hd hcd) (jr_val fun σ Hb H E => by
  obtain ⟨v, h1, h2⟩ := E.val i d h
  exact ⟨v, h2, fun Q q => ⟨v, h1, q⟩⟩)
theorem xv_int {i : Int} {j : Nat} : XV X (.Constant (.int i) j pos) Γ (.int i) := xe_of pe_int (jr_val fun _ _ _ _ => ⟨.int i, .int i, fun _ q => q⟩)
theorem xv_bl {i : Bool} {j : Nat} : XV X (.Constant (.bool i) j pos) Γ (.bl i) := xe_of pe_bl (jr_val fun _ _ _ _ => ⟨.bl i, .bl i, fun _ q => q⟩)
theorem xv_non {j : Nat} : XV X (.Constant .none j pos) Γ .non := xe_of pe_non (jr_val fun _ _ _ _ => ⟨.non, .non, fun _ q => q⟩)
theorem xv_str {x : Str} {j : Nat} : XV X (.Constant (.str x) j pos) Γ (.str x) := xe_of pe_str (jr_val fun _ _ _ _ => ⟨.str x, .str x, fun _ q => q⟩)

/-! ### operators by what they give of data -/
def RR (K : PySem.W.Frag) (r : R2) (d e : D) (Φ : D → Prop) : Prop := ∀ x y Hb H, Ex Hb H → DR K Hb x d → DR K Hb y e → ∀ Q : VK, (∀ z d' Hb' H', Φ d' → New Hb H Hb' H' → DR K Hb' z d' → Q z H') → r x y H Q
abbrev RV2 (K : PySem.W.Frag) (r : R2) (d e f : D) : Prop := RR K r d e fun z => z = f
def RL (K : PySem.W.Frag) (r : List V → Hp → VK → Prop) (ds : List D) (Φ : D → Prop) : Prop := ∀ xs Hb H, Ex Hb H → DRs K Hb xs ds → ∀ Q : VK, (∀ z d' Hb' H', Φ d' → New Hb H Hb' H' → DR K Hb' z d' → Q z H') → r xs H Q
/-- .. to a new object -/
def RLN (K : PySem.W.Frag) (r : List V → Hp → VK → Prop) (ds : List D) (Φ : MO → Prop) : Prop := ∀ xs Hb H, Ex Hb H → DRs K Hb xs ds → ∀ Q : VK, (∀ p u o Hb' H', Φ o → H p = none → New Hb H Hb' H' → Hb' p = none → H' p = some u → MR K Hb' u o → Q (.ref p) H') → r xs H Q
def RRN (K : PySem.W.Frag) (r : R2) (d e : D) (Φ : MO → Prop) : Prop := ∀ x y Hb H, Ex Hb H → DR K Hb x d → DR K Hb y e → ∀ Q : VK, (∀ p u o Hb' H', Φ o → H p = none → New Hb H Hb' H' → Hb' p = none → H' p = some u → MR K Hb' u o → Q (.ref p) H') → r x y H Q
theorem jr_bin {K : PySem.W.Frag} {r : R2} {Φa : D → Prop} {Φb : D → D → Prop} (ha : JR K m ta Γ Φa) (hb : ∀ d, Φa d → JR K m tb Γ (Φb d)) (hr : ∀ d e, Φa d → Φb d e → RR K r d e Φ) : JR K m (tOp r ta tb) Γ Φ := fun σ Hb H E Q q =>
  ha σ Hb H E _ fun x d Hb1 H1 p1 g1 E1 r1 => hb d p1 σ Hb1 H1 E1 _ fun y e Hb2 H2 p2 g2 E2 r2 => hr d e p1 p2 x y Hb2 H2 E2.ex (r1.mono g2.b) r2 Q fun z d' Hb3 H3 p3 g3 r3 => q z d' Hb3 H3 p3 (gwn (gww g1 g2) g3) (E2.new g3) r3
theorem jn_bin {K : PySem.W.Frag} {r : R2} {Φa : D → Prop} {Φb : D → D → Prop} {Φ : MO → Prop} (ha : JR K m ta Γ Φa) (hb : ∀ d, Φa d → JR K m tb Γ (Φb d)) (hr : ∀ d e, Φa d → Φb d e → RRN K r d e Φ) : JN K m (tOp r ta tb) Γ Φ := fun σ Hb H E Q q =>
  ha σ Hb H E _ fun x d Hb1 H1 p1 g1 E1 r1 => hb d p1 σ Hb1 H1 E1 _ fun y e Hb2 H2 p2 g2 E2 r2 => hr d e p1 p2 x y Hb2 H2 E2.ex (r1.mono g2.b) r2 Q fun p u o Hb3 H3 p3 z0 g3 n3 h3 r3 => q p u o Hb3 H3 p3 (by
    cases z : H p with
    | none => rfl
    | some w => exact absurd z0 ((gww g1 g2).al p (by rw [z]; simp))) (gwn (gww g1 g2) g3) (E2.new g3) n3 h3 r3
theorem jr_l {K : PySem.W.Frag} {r : List V → Hp → VK → Prop} {Φa : List D → Prop} (ha : JA K m tl Γ Φa) (hr : ∀ ds, Φa ds → RL K r ds Φ) : JR K m (tCB r tl) Γ Φ := fun σ Hb H E Q q =>
  ha σ Hb H E _ fun xs ds Hb1 H1 p1 g1 E1 r1 => hr ds p1 xs Hb1 H1 E1.ex r1 Q fun z d' Hb3 H3 p3 g3 r3 => q z d' Hb3 H3 p3 (gwn g1 g3) (E1.new g3) r3
theorem jn_l {K : PySem.W.Frag} {r : List V → Hp → VK → Prop} {Φa : List D → Prop} {Φ : MO → Prop} (ha : JA K m tl Γ Φa) (hr : ∀ ds, Φa ds → RLN K r ds Φ) : JN K m (tCB r tl) Γ Φ := fun σ Hb H E Q q =>
  ha σ Hb H E _ fun xs ds Hb1 H1 p1 g1 E1 r1 => hr ds p1 xs Hb1 H1 E1.ex r1 Q fun p u o Hb3 H3 p3 z0 g3 n3 h3 r3 => q p u o Hb3 H3 p3 (by
    cases z : H p with
    | none => rfl
    | some w => exact absurd z0 (g1.al p (by rw [z]; simp))) (gwn g1 g3) (E1.new g3) n3 h3 r3
/-- a new list as data -/
theorem jr_frz {K : PySem.W.Frag} {Φ : D → Prop} (h : JN K m te Γ fun o => ∃ ds, o = .ml ds ∧ Φ (.lst ds)) : JR K m te Γ Φ := fun σ Hb H E Q q => h σ Hb H E Q fun p u o Hb' H' z n g E' nb hp r => by
  obtain ⟨ds, rfl, f⟩ := z
  obtain ⟨vs, rfl, r⟩ := r
  have E2 : En K (upd Hb' p (.lst vs)) H' σ Γ := {
    ex := (g.freeze n hp nb).s
    val := fun i d k => by obtain ⟨v, h1, h2⟩ := E'.val i d k; exact ⟨v, h1, h2.mono (Ex.new nb)⟩
    own := fun i m k => by
      obtain ⟨a, u, h1, h2, h3, h4⟩ := E'.own i m k
      obtain ⟨a', u', k1, k2, k3, k4⟩ := E.own i m k
      rw [h1] at k1
      cases k1
      refine ⟨a, u, h1, ?_, h3, h4.mono (Ex.new nb)⟩
      rw [upd_ne fun z => by subst z; rw [n] at k3; cases k3]
      exact h2
    sep := E'.sep
    len := E'.len }
  exact q (.ref p) (.lst ds) _ H' f (g.freeze n hp nb) E2 (.lst upd_same (r.mono (Ex.new nb)))
theorem XN.frz {ds : List D} (h : XN X m e Γ fun z => z = .ml ds) : XE X m e Γ fun z => z = .lst ds := jr_frz fun σ Hb H E Q q => h σ Hb H E Q fun p u o Hb' H' z => q p u o Hb' H' ⟨ds, z, rfl⟩
theorem XN.frzP {Φ : List D → Prop} (h : XN X m e Γ fun z => ∃ ds, z = .ml ds ∧ Φ ds) : XE X m e Γ fun z => ∃ ds, z = .lst ds ∧ Φ ds := jr_frz fun σ Hb H E Q q => h σ Hb H E Q fun p u o Hb' H' z => q p u o Hb' H' (by
  obtain ⟨ds, rfl, f⟩ := z
  exact ⟨ds, rfl, ds, rfl, f⟩)

theorem xe_bin {op : Operator} {r : R2} {Φa : D → Prop} {Φb : D → D → Prop} (ho : OpR X (binaryOp op) r) (ha : XE X m a Γ Φa) (hb : ∀ d, Φa d → XE X m b Γ (Φb d)) (hr : ∀ d e, Φa d → Φb d e → RR X.K r d e Φ) : XE X m (.BinOp a op b pos) Γ Φ := xe_of (pe_op ho pe_wp pe_wp) (jr_bin ha hb hr)
theorem xv_bin {op : Operator} {r : R2} {d d' f : D} (ho : OpR X (binaryOp op) r) (hr : RV2 X.K r d d' f) (ha : XV X a Γ d) (hb : XV X b Γ d') : XV X (.BinOp a op b pos) Γ f := xe_bin ho ha (fun _ _ => hb) fun _ _ p q => by subst p q; exact hr
theorem xe_cmp {op : CmpOp} {r : R2} {Φa : D → Prop} {Φb : D → D → Prop} (ho : OpR X (compareOp op) r) (hm : behindInMarks op b = false) (ha : XE X m a Γ Φa) (hb : ∀ d, Φa d → XE X m b Γ (Φb d)) (hr : ∀ d e, Φa d → Φb d e → RR X.K r d e Φ) : XE X m (.Compare a [op] [b] pos) Γ Φ := xe_of (pe_cmpR ho pe_wp pe_wp hm) (jr_bin ha hb hr)
theorem xv_cmp {op : CmpOp} {r : R2} {d d' f : D} (ho : OpR X (compareOp op) r) (hr : RV2 X.K r d d' f) (ha : XV X a Γ d) (hb : XV X b Γ d') (hm : behindInMarks op b = false := by first | exact nobehind _ (by decide) (by decide) | rfl) : XV X (.Compare a [op] [b] pos) Γ f := xe_cmp ho hm ha (fun _ _ => hb) fun _ _ p q => by subst p q; exact hr
theorem jt_test {K : PySem.W.Frag} {Φ : Bool → Prop} (h : JR K m te Γ fun z => ∃ b, z = .bl b ∧ Φ b) : JT K m (tTest te) Γ Φ := fun σ Hb H E Q q => h σ Hb H E _ fun v d Hb' H' z g E' r => by
  obtain ⟨b, rfl, f⟩ := z
  cases r
  exact ⟨b, rfl, q b Hb' H' f g E'⟩
theorem jt_B {K : PySem.W.Frag} {Φ : Bool → Prop} (h : JR K m te Γ fun z => ∃ b, z = .bl b ∧ Φ b) : JT K m (tB te) Γ Φ := jt_test h
theorem xt_cmp {op : CmpOp} {r : R2} {Φa : D → Prop} {Φb : D → D → Prop} {Φ : Bool → Prop} (ho : OpR X (compareOp op) r) (hm : behindInMarks op b = false) (ha : XE X m a Γ Φa) (hb : ∀ d, Φa d → XE X m b Γ (Φb d)) (hr : ∀ d e, Φa d → Φb d e → RR X.K r d e fun z => ∃ k, z = .bl k ∧ Φ k) : XT X m (.Compare a [op] [b] pos) Γ Φ := xt_of (pt_cmpR ho pe_wp pe_wp hm) (jt_test (jr_bin ha hb hr))
theorem xb_cmp {op : CmpOp} {r : R2} {d d' : D} {k : Bool} (ho : OpR X (compareOp op) r) (hr : RV2 X.K r d d' (.bl k)) (ha : XV X a Γ d) (hb : XV X b Γ d') (hm : behindInMarks op b = false := by first | exact nobehind _ (by decide) (by decide) | rfl) : XB X (.Compare a [op] [b] pos) Γ k := xt_cmp ho hm ha (fun _ _ => hb) fun _ _ p q x y Hb H e r1 r2 Q w => by
  subst p q
  exact hr x y Hb H e r1 r2 Q fun z d' Hb' H' f => w z d' Hb' H' ⟨k, f, rfl⟩
/-- a test by an expression's value -/
theorem xt_val {Φ : Bool → Prop} (h : XE X m e Γ fun z => ∃ b, z = .bl b ∧ Φ b) (he : ∀ whole, isTrue e X.env whole = (do let v ← whole; standAt e.pos; holding [v] (truthy v)) := by intro _; rfl) : XT X m e Γ Φ := xt_of (pt_val pe_wp he) (jt_B h)
theorem xb_val {k : Bool} (h : XV X e Γ (.bl k)) (he : ∀ whole, isTrue e X.env whole = (do let v ← whole; standAt e.pos; holding [v] (truthy v)) := by intro _; rfl) : XB X e Γ k := xt_val (h.imp fun _ z => ⟨k, z, rfl⟩) he
/-! ### and, or, not of tests -/
def XWt (X : Cx) (m : Bool) (e : Expr) (Γ : List Sl) (Φ : Bool → Prop) : Prop := ∃ tt, PW X e tt ∧ JT X.K m tt Γ Φ
theorem xt_w {Φ : Bool → Prop} (h : XWt X m e Γ Φ) : XT X m e Γ Φ := by obtain ⟨tt, h1, h2⟩ := h; exact xt_of h1.pt h2
theorem xw_and1 {Φ : Bool → Prop} (h : XT X m a Γ Φ) : XWt X m (.BoolOp .And [a] pos) Γ Φ := ⟨_, pw_and1 pt_wp, h⟩
theorem xw_or1 {Φ : Bool → Prop} (h : XT X m a Γ Φ) : XWt X m (.BoolOp .Or [a] pos) Γ Φ := ⟨_, pw_or1 pt_wp, h⟩
theorem xw_and {Φ : Bool → Prop} {Φa : Bool → Prop} (h : XT X m a Γ Φa) (k : Φa true → XWt X m (.BoolOp .And (b :: es) pos) Γ Φ) (f : Φa false → Φ false) : XWt X m (.BoolOp .And (a :: b :: es) pos) Γ Φ := by
  by_cases z : Φa true
  · obtain ⟨tt, h1, h2⟩ := k z
    refine ⟨_, pw_and pt_wp h1, fun σ Hb H E Q q => h σ Hb H E _ fun c Hb1 H1 p1 g1 E1 => ?_⟩
    cases c with
    | true => exact iteT (h2 σ Hb1 H1 E1 Q fun c2 Hb2 H2 p2 g2 E2 => q c2 Hb2 H2 p2 (gww g1 g2) E2)
    | false => exact iteF (q false Hb1 H1 (f p1) g1 E1)
  · refine ⟨_, pw_and (tB' := fun _ _ _ => False) pt_wp ⟨fun whole pins s σ H Q I hh => (show False from hh).elim⟩, fun σ Hb H E Q q => h σ Hb H E _ fun c Hb1 H1 p1 g1 E1 => ?_⟩
    cases c with
    | true => exact absurd p1 z
    | false => exact iteF (q false Hb1 H1 (f p1) g1 E1)
theorem xw_or {Φ : Bool → Prop} {Φa : Bool → Prop} (h : XT X m a Γ Φa) (k : Φa false → XWt X m (.BoolOp .Or (b :: es) pos) Γ Φ) (f : Φa true → Φ true) : XWt X m (.BoolOp .Or (a :: b :: es) pos) Γ Φ := by
  by_cases z : Φa false
  · obtain ⟨tt, h1, h2⟩ := k z
    refine ⟨_, pw_or pt_wp h1, fun σ Hb H E Q q => h σ Hb H E _ fun c Hb1 H1 p1 g1 E1 => ?_⟩
    cases c with
    | false => exact iteF (h2 σ Hb1 H1 E1 Q fun c2 Hb2 H2 p2 g2 E2 => q c2 Hb2 H2 p2 (gww g1 g2) E2)
    | true => exact iteT (q true Hb1 H1 (f p1) g1 E1)
  · refine ⟨_, pw_or (tB' := fun _ _ _ => False) pt_wp ⟨fun whole pins s σ H Q I hh => (show False from hh).elim⟩, fun σ Hb H E Q q => h σ Hb H E _ fun c Hb1 H1 p1 g1 E1 => ?_⟩
    cases c with
    | false => exact absurd p1 z
    | true => exact iteT (q true Hb1 H1 (f p1) g1 E1)
abbrev XBw (X : Cx) (e : Expr) (Γ : List Sl) (b : Bool) : Prop := XWt X false e Γ fun z => z = b
theorem xb_and {k l : Bool} (h : XB X a Γ k) (h2 : k = true → XBw X (.BoolOp .And (b :: es) pos) Γ l) : XBw X (.BoolOp .And (a :: b :: es) pos) Γ (k && l) := xw_and h (fun z => by
  subst z
  exact h2 rfl) fun z => by subst z; rfl
theorem xb_or {k l : Bool} (h : XB X a Γ k) (h2 : k = false → XBw X (.BoolOp .Or (b :: es) pos) Γ l) : XBw X (.BoolOp .Or (a :: b :: es) pos) Γ (k || l) := xw_or h (fun z => by
  subst z
  exact h2 rfl) fun z => by subst z; rfl
theorem xt_not {Φ : Bool → Prop} (h : XT X m a Γ fun z => Φ (!z)) : XT X m (.UnaryOp .Not a pos) Γ Φ := xt_of (pt_not pt_wp) fun σ Hb H E Q q => h σ Hb H E _ fun c Hb1 H1 p1 g1 E1 => q (!c) Hb1 H1 p1 g1 E1
theorem xb_not {k : Bool} (h : XB X a Γ k) : XB X (.UnaryOp .Not a pos) Γ (!k) := xt_not (h.imp fun _ z => by rw [z])
/-! .. of values -/
theorem xv_one {op : BoolOp} {d : D} (h : XV X a Γ d) : XV X (.BoolOp op [a] pos) Γ d := xe_of (pe_one pe_wp) h
theorem xv_and {k l : Bool} (h : XV X a Γ (.bl k)) (h2 : k = true → XV X (.BoolOp .And (b :: es) pos) Γ (.bl l)) : XV X (.BoolOp .And (a :: b :: es) pos) Γ (.bl (k && l)) := by
  cases k with
  | true =>
    exact xe_of (pe_and pe_wp pe_wp) fun σ Hb H E Q q => h σ Hb H E _ fun v d Hb1 H1 p1 g1 E1 r1 => by
      subst p1
      cases r1
      exact ⟨true, rfl, iteT (h2 rfl σ Hb1 H1 E1 Q fun v2 d2 Hb2 H2 p2 g2 E2 r2 => q v2 d2 Hb2 H2 p2 (gww g1 g2) E2 r2)⟩
  | false =>
    exact xe_of (pe_and pe_wp pe_wp) fun σ Hb H E Q q => h σ Hb H E _ fun v d Hb1 H1 p1 g1 E1 r1 => by
      subst p1
      cases r1
      exact ⟨false, rfl, iteF (q _ _ Hb1 H1 rfl g1 E1 (.bl false))⟩
theorem xv_or {k l : Bool} (h : XV X a Γ (.bl k)) (h2 : k = false → XV X (.BoolOp .Or (b :: es) pos) Γ (.bl l)) : XV X (.BoolOp .Or (a :: b :: es) pos) Γ (.bl (k || l)) := by
  cases k with
  | false =>
    exact xe_of (pe_or pe_wp pe_wp) fun σ Hb H E Q q => h σ Hb H E _ fun v d Hb1 H1 p1 g1 E1 r1 => by
      subst p1
      cases r1
      exact ⟨false, rfl, iteF (h2 rfl σ Hb1 H1 E1 Q fun v2 d2 Hb2 H2 p2 g2 E2 r2 => q v2 d2 Hb2 H2 p2 (gww g1 g2) E2 r2)⟩
  | true =>
    exact xe_of (pe_or pe_wp pe_wp) fun σ Hb H E Q q => h σ Hb H E _ fun v d Hb1 H1 p1 g1 E1 r1 => by
      subst p1
      cases r1
      exact ⟨true, rfl, iteT (q _ _ Hb1 H1 rfl g1 E1 (.bl true))⟩
theorem xv_not {k : Bool} (h : XV X a Γ (.bl k)) : XV X (.UnaryOp .Not a pos) Γ (.bl (!k)) := xe_of (pe_not pe_wp) fun σ Hb H E Q q => h σ Hb H E _ fun v d Hb1 H1 p1 g1 E1 r1 => by
  subst p1
  cases r1
  exact ⟨k, rfl, q _ _ Hb1 H1 rfl g1 E1 (.bl (!k))⟩
theorem xe_if {Φt : Bool → Prop} (ht : XT X m c Γ Φt) (ha : Φt true → XE X m a Γ Φ) (hb : Φt false → XE X m b Γ Φ) : XE X m (.IfExp c a b pos) Γ Φ := xe_of (pe_ifExp pt_wp pe_wp pe_wp) fun σ Hb H E Q q => ht σ Hb H E _ fun k Hb1 H1 p1 g1 E1 => by
  cases k with
  | true => exact iteT (ha p1 σ Hb1 H1 E1 Q fun v d Hb2 H2 p2 g2 E2 r2 => q v d Hb2 H2 p2 (gww g1 g2) E2 r2)
  | false => exact iteF (hb p1 σ Hb1 H1 E1 Q fun v d Hb2 H2 p2 g2 E2 r2 => q v d Hb2 H2 p2 (gww g1 g2) E2 r2)
theorem xv_if {k : Bool} {d d' : D} (ht : XB X c Γ k) (ha : k = true → XV X a Γ d) (hb : k = false → XV X b Γ d') : XV X (.IfExp c a b pos) Γ (if k = true then d else d') := xe_if ht (fun z => by
  rw [if_pos z.symm]
  exact ha z.symm) fun z => by
  rw [if_neg (by rw [← z]; exact Bool.false_ne_true)]
  exact hb z.symm

/-! ### arguments, tuples, lists -/
theorem xa_nil : XL X [] Γ [] := xa_of pa_nil fun σ Hb H E Q q => q [] [] Hb H rfl (Gr.refl E.ex) E .nil
theorem xa_cons {Φa : D → Prop} {Φb : D → List D → Prop} {Φ : List D → Prop} (ha : XE X m e Γ Φa) (hb : ∀ d, Φa d → XA X m es Γ (Φb d)) (k : ∀ d ds, Φa d → Φb d ds → Φ (d :: ds)) (hs : starEach (e :: es) X.env = (false, eval e X.env) :: starEach es X.env := by rfl) : XA X m (e :: es) Γ Φ := xa_of (pa_cons pe_wp pa_wp hs) fun σ Hb H E Q q =>
  ha σ Hb H E _ fun x d Hb1 H1 p1 g1 E1 r1 => hb d p1 σ Hb1 H1 E1 _ fun ys ds Hb2 H2 p2 g2 E2 r2 => q _ _ Hb2 H2 (k d ds p1 p2) (gww g1 g2) E2 (.cons (r1.mono g2.b) r2)
theorem xl_cons {d : D} {ds : List D} (ha : XV X e Γ d) (hb : XL X es Γ ds) (hs : starEach (e :: es) X.env = (false, eval e X.env) :: starEach es X.env := by rfl) : XL X (e :: es) Γ (d :: ds) := xa_cons ha (fun _ _ => hb) (fun _ _ p q => by rw [p, q]) hs
theorem xe_tup {j : Nat} {Φ : List D → Prop} {Ψ : D → Prop} (h : XA X m es Γ Φ) (k : ∀ ds, Φ ds → Ψ (.tup ds)) (hl : es.length ≤ 100000 := by decide) (hz : ∀ ds, Φ ds → ds.length ≤ 100000) : XE X m (.Tuple es j pos) Γ Ψ := xe_of (pe_tup pa_wp) fun σ Hb H E Q q => h σ Hb H E _ fun vs ds Hb1 H1 p1 g1 E1 r1 =>
  ⟨sz_of (by rw [r1.len]; exact hz ds p1), fun p hp => q (.ref p) (.tup ds) _ _ (k ds p1) (gwn g1 (New.mk E1.ex hp)) (E1.new (New.mk E1.ex hp)) (.tup upd_same (r1.mono (Ex.new (fresh_back E1.ex hp))))⟩
theorem xv_tup {j : Nat} {ds : List D} (h : XL X es Γ ds) (hl : ds.length ≤ 100000 := by decide) : XV X (.Tuple es j pos) Γ (.tup ds) := xe_of (pe_tup pa_wp) fun σ Hb H E Q q => h σ Hb H E _ fun vs ds' Hb1 H1 p1 g1 E1 r1 => by
  subst p1
  exact ⟨sz_of (by rw [r1.len]; exact hl), fun p hp => q (.ref p) (.tup ds') _ _ rfl (gwn g1 (New.mk E1.ex hp)) (E1.new (New.mk E1.ex hp)) (.tup upd_same (r1.mono (Ex.new (fresh_back E1.ex hp))))⟩
theorem new_none {W : Addr → Prop} {Hb H Hb' H' : Hp} {p : Addr} (g : Gr W Hb H Hb' H') (h : H' p = none) : H p = none := by
  cases z : H p with
  | none => rfl
  | some w => exact absurd h (g.al p (by rw [z]; simp))
theorem xo_lst {ds : List D} (h : XL X es Γ ds) (hl : ds.length ≤ 100000 := by decide) : XO X (.List es pos) Γ (.ml ds) := xn_of (pe_lst pa_wp) fun σ Hb H E Q q => h σ Hb H E _ fun vs ds' Hb1 H1 p1 g1 E1 r1 => by
  subst p1
  exact ⟨sz_of (by rw [r1.len]; exact hl), fun p hp => q p (.lst vs) (.ml ds') Hb1 _ rfl (new_none g1 hp) (gwn g1 (New.side E1.ex hp)) (E1.new (New.side E1.ex hp)) (fresh_back E1.ex hp) upd_same ⟨vs, rfl, r1⟩⟩
theorem xv_lst {ds : List D} (h : XL X es Γ ds) (hl : ds.length ≤ 100000 := by decide) : XV X (.List es pos) Γ (.lst ds) := (xo_lst h hl).frz
theorem xv_ix {r : R2} {d d' f : D} (ho : IxR X r) (hr : RV2 X.K r d d' f) (ha : XV X a Γ d) (hb : XV X b Γ d') (hs : PlainIx b := by exact fun _ _ => rfl) : XV X (.Subscript a b pos) Γ f := xe_of (pe_ix ho pe_wp pe_wp hs) (jr_bin ha (fun _ _ => hb) fun _ _ p q => by subst p q; exact hr)
theorem xe_ix {r : R2} {Φa : D → Prop} {Φb : D → D → Prop} (ho : IxR X r) (ha : XE X m a Γ Φa) (hb : ∀ d, Φa d → XE X m b Γ (Φb d)) (hr : ∀ d e, Φa d → Φb d e → RR X.K r d e Φ) (hs : PlainIx b := by exact fun _ _ => rfl) : XE X m (.Subscript a b pos) Γ Φ := xe_of (pe_ix ho pe_wp pe_wp hs) (jr_bin ha hb hr)
/-! ### calls of built-ins -/
variable {x : Str} {p : Pos} {r : List V → Hp → VK → Prop} {id T : String}
theorem xe_callB {Φa : List D → Prop} (hc : CallR X (.builtin id) r) (hm : X.mg x = none) (hv : bootBuiltins x = some (.builtin id)) (ha : XA X m (e :: es) Γ Φa) (hr : ∀ ds, Φa ds → RL X.K r ds Φ) (hg : Gl X x := by rfl) (hn : x ≠ "__name__" := by decide) (hdb : (x == ("__debug__" : Str)) = false := by decide)
    (hs : starEach (e :: es) X.env = (false, eval e X.env) :: starEach es X.env := by rfl) (hpl : (backTo pos (starEach es X.env)).any (·.1) = false := by rfl) : XE X m (.Call (.Name x p) (e :: es) [] pos) Γ Φ := xe_of (pe_callB hc hg hm hv pa_wp hn hdb hs hpl) (jr_l ha hr)
theorem xn_callB {Φa : List D → Prop} {Φ : MO → Prop} (hc : CallR X (.builtin id) r) (hm : X.mg x = none) (hv : bootBuiltins x = some (.builtin id)) (ha : XA X m (e :: es) Γ Φa) (hr : ∀ ds, Φa ds → RLN X.K r ds Φ) (hg : Gl X x := by rfl) (hn : x ≠ "__name__" := by decide) (hdb : (x == ("__debug__" : Str)) = false := by decide)
    (hs : starEach (e :: es) X.env = (false, eval e X.env) :: starEach es X.env := by rfl) (hpl : (backTo pos (starEach es X.env)).any (·.1) = false := by rfl) : XN X m (.Call (.Name x p) (e :: es) [] pos) Γ Φ := xn_of (pe_callB hc hg hm hv pa_wp hn hdb hs hpl) (jn_l ha hr)
theorem xe_callT {Φa : List D → Prop} (hc : CallR X (.type T) r) (hm : X.mg x = none) (hv : bootBuiltins x = some (.type T)) (ha : XA X m (e :: es) Γ Φa) (hr : ∀ ds, Φa ds → RL X.K r ds Φ) (hg : Gl X x := by rfl) (hn : x ≠ "__name__" := by decide) (hdb : (x == ("__debug__" : Str)) = false := by decide)
    (hs : starEach (e :: es) X.env = (false, eval e X.env) :: starEach es X.env := by rfl) (hpl : (backTo pos (starEach es X.env)).any (·.1) = false := by rfl) : XE X m (.Call (.Name x p) (e :: es) [] pos) Γ Φ := xe_of (pe_callTy hc hg hm hv pa_wp hn hdb hs hpl) (jr_l ha hr)
theorem xn_callT {Φa : List D → Prop} {Φ : MO → Prop} (hc : CallR X (.type T) r) (hm : X.mg x = none) (hv : bootBuiltins x = some (.type T)) (ha : XA X m (e :: es) Γ Φa) (hr : ∀ ds, Φa ds → RLN X.K r ds Φ) (hg : Gl X x := by rfl) (hn : x ≠ "__name__" := by decide) (hdb : (x == ("__debug__" : Str)) = false := by decide)
    (hs : starEach (e :: es) X.env = (false, eval e X.env) :: starEach es X.env := by rfl) (hpl : (backTo pos (starEach es X.env)).any (·.1) = false := by rfl) : XN X m (.Call (.Name x p) (e :: es) [] pos) Γ Φ := xn_of (pe_callTy hc hg hm hv pa_wp hn hdb hs hpl) (jn_l ha hr)
end
end DL

namespace DL
open PySem PySem.Spec PyProof.Rows L2 Evl

/-! ### data as the library's data, for == and in -/
mutual
def D.py : D → PyData
  | .non => .none | .bl b => .bool b | .int i => .int i | .str s => .str s
  | .lst l => .list (pyL l) | .tup l => .tuple (pyL l)
  | .ins _ _ _ => .dict [] | .dic _ _ => .dict [] | .sc _ => .dict []
def pyL : List D → List PyData
  | [] => []
  | d :: r => d.py :: pyL r
end
theorem pyL_map : ∀ l : List D, pyL l = l.map D.py
  | [] => rfl
  | d :: r => by rw [pyL, pyL_map r]; rfl
mutual
/-- plain data not deeper than n -/
def D.ok : D → Nat → Bool
  | .non, _ => true | .bl _, _ => true | .int _, _ => true
  | .str s, _ => PyData.strOk s
  | .lst l, n + 1 => okL l n
  | .tup l, n + 1 => okL l n
  | .lst _, 0 => false | .tup _, 0 => false
  | .ins _ _ _, _ => false | .dic _ _, _ => false | .sc _, _ => false
def okL : List D → Nat → Bool
  | [], _ => true
  | d :: r, n => d.ok n && okL r n
end
theorem okL_iff : ∀ {l : List D} {n : Nat}, okL l n = true ↔ ∀ d ∈ l, d.ok n = true
  | [], n => ⟨fun _ _ h => (List.not_mem_nil h).elim, fun _ => rfl⟩
  | d :: r, n => by
    rw [okL, Bool.and_eq_true, okL_iff (l := r)]
    exact ⟨fun h x hx => (List.mem_cons.mp hx).elim (fun e => e ▸ h.1) (h.2 x), fun h => ⟨h d (List.mem_cons_self ..), fun x hx => h x (List.mem_cons_of_mem _ hx)⟩⟩
section
variable {K : PySem.W.Frag} {H : Hp}
mutual
theorem DR.dp : ∀ {v : V} {d : D} {n : Nat}, DR K H v d → d.ok n = true → Dp K H v d.py
  | _, _, _, .non, _ => .non
  | _, _, _, .bl b, _ => .bl b
  | _, _, _, .int i, _ => .int i
  | _, _, _, .str s, _ => .str s
  | _, _, n + 1, .lst h r, k => .lst (SqL.of h) (DRs.dp r k)
  | _, _, n + 1, .tup h r, k => .tup (SqT.of h) (DRs.dp r k)
  | _, _, 0, .lst h r, k => by cases k
  | _, _, 0, .tup h r, k => by cases k
  | _, _, n, .ins _ _ _ _, k => by cases n <;> cases k
  | _, _, n, .dic _ _ _ _, k => by cases n <;> cases k
  | _, _, n, .sc _, k => by cases n <;> cases k
theorem DRs.dp : ∀ {vs : List V} {ds : List D} {n : Nat}, DRs K H vs ds → okL ds n = true → DpAll K H vs (pyL ds)
  | _, _, _, .nil, _ => .nil
  | _, _, n, .cons h t, k => by
    rw [okL, Bool.and_eq_true] at k
    exact .cons (DR.dp h k.1) (DRs.dp t k.2)
end
end
mutual
theorem ok_depth : ∀ {d : D} {n : Nat}, d.ok n = true → d.py.canLay0 = true ∧ d.py.depth ≤ n
  | .non, n, _ => ⟨rfl, Nat.zero_le _⟩
  | .bl b, n, _ => ⟨rfl, Nat.zero_le _⟩
  | .int i, n, _ => ⟨rfl, Nat.zero_le _⟩
  | .str s, n, h => ⟨h, Nat.zero_le _⟩
  | .lst l, n + 1, h => ⟨(okL_depth h).1, Nat.succ_le_succ (okL_depth h).2⟩
  | .tup l, n + 1, h => ⟨(okL_depth h).1, Nat.succ_le_succ (okL_depth h).2⟩
  | .lst l, 0, h => by cases h
  | .tup l, 0, h => by cases h
  | .ins _ _ _, n, h => by cases n <;> cases h
  | .dic _ _, n, h => by cases n <;> cases h
  | .sc _, n, h => by cases n <;> cases h
theorem okL_depth : ∀ {l : List D} {n : Nat}, okL l n = true → PyData.canLayAll0 (pyL l) = true ∧ PyData.depthAll (pyL l) ≤ n
  | [], n, _ => ⟨rfl, Nat.zero_le _⟩
  | d :: r, n, h => by
    rw [okL, Bool.and_eq_true] at h
    have h1 := ok_depth h.1
    have h2 := okL_depth h.2
    refine ⟨?_, ?_⟩
    · show (d.py.canLay0 && PyData.canLayAll0 (pyL r)) = true
      rw [h1.1, h2.1]; rfl
    · exact Nat.max_le.mpr ⟨h1.2, h2.2⟩
end
theorem ok_shaped {d : D} {n : Nat} (h : d.ok n = true) (k : n ≤ 64 := by decide) : SeqAt.shaped d.py = true := by
  have h1 := ok_depth h
  show (d.py.canLay0 && decide (d.py.depth ≤ 64)) = true
  rw [h1.1, decide_eq_true (by omega)]
  rfl

/-! ### how typed values stand as data -/
class Enc {α : Type} [DecidableEq α] (f : α → D) (n : outParam Nat) : Prop where
  ok : ∀ x, (f x).ok n = true
  eq : ∀ x y, PyData.eqv (f x).py (f y).py = decide (x = y)
def tT {α : Type} (f : α → D) (l : List α) : D := .tup (l.map f)
def lT {α : Type} (f : α → D) (l : List α) : D := .lst (l.map f)
def pT {α β : Type} (f : α → D) (g : β → D) (p : α × β) : D := .tup [f p.1, g p.2]
def oT {α : Type} (f : α → D) : Option α → D
  | none => .non
  | some x => f x
theorem eqvAll_map {α : Type} [DecidableEq α] {f : α → D} (h : ∀ x y, PyData.eqv (f x).py (f y).py = decide (x = y)) : ∀ l m : List α, PyData.eqvAll (pyL (l.map f)) (pyL (m.map f)) = decide (l = m)
  | [], [] => rfl
  | [], y :: m => rfl
  | x :: l, [] => rfl
  | x :: l, y :: m => by
    show (PyData.eqv (f x).py (f y).py && PyData.eqvAll (pyL (l.map f)) (pyL (m.map f))) = _
    rw [h x y, eqvAll_map h l m]
    by_cases e : x = y
    · by_cases e2 : l = m
      · rw [decide_eq_true e, decide_eq_true e2, decide_eq_true (by rw [e, e2])]; rfl
      · rw [decide_eq_false e2, Bool.and_false, decide_eq_false fun z => e2 (List.cons.inj z).2]
    · rw [decide_eq_false e, Bool.false_and, decide_eq_false fun z => e (List.cons.inj z).1]
theorem okL_map {α : Type} {f : α → D} {n : Nat} (h : ∀ x, (f x).ok n = true) (l : List α) : okL (l.map f) n = true := okL_iff.mpr fun d hd => by
  obtain ⟨x, _, rfl⟩ := List.mem_map.mp hd
  exact h x
mutual
theorem ok_up : ∀ {d : D} {n k : Nat}, d.ok n = true → n ≤ k → d.ok k = true
  | .non, _, k, _, _ => by cases k <;> rfl
  | .bl _, _, k, _, _ => by cases k <;> rfl
  | .int _, _, k, _, _ => by cases k <;> rfl
  | .str _, n, k, h, _ => by cases n <;> cases k <;> exact h
  | .lst l, n + 1, k + 1, h, e => okL_up (l := l) (n := n) (k := k) h (Nat.le_of_succ_le_succ e)
  | .tup l, n + 1, k + 1, h, e => okL_up (l := l) (n := n) (k := k) h (Nat.le_of_succ_le_succ e)
  | .lst _, 0, _, h, _ => by cases h
  | .tup _, 0, _, h, _ => by cases h
  | .lst _, n + 1, 0, _, e => by omega
  | .tup _, n + 1, 0, _, e => by omega
  | .ins _ _ _, n, _, h, _ => by cases n <;> cases h
  | .dic _ _, n, _, h, _ => by cases n <;> cases h
  | .sc _, n, _, h, _ => by cases n <;> cases h
theorem okL_up : ∀ {l : List D} {n k : Nat}, okL l n = true → n ≤ k → okL l k = true
  | [], _, _, _, _ => rfl
  | d :: r, n, k, h, e => by
    rw [okL, Bool.and_eq_true] at h ⊢
    exact ⟨ok_up h.1 e, okL_up h.2 e⟩
end
instance encI : Enc D.int 0 := ⟨fun _ => rfl, fun x y => by
  show (x == y) = decide (x = y)
  exact Bool.beq_eq_decide_eq x y⟩
instance encB : Enc D.bl 0 := ⟨fun _ => rfl, fun x y => by cases x <;> cases y <;> rfl⟩
instance encT {α : Type} [DecidableEq α] {f : α → D} {n : Nat} [h : Enc f n] : Enc (tT f) (n + 1) := ⟨fun l => okL_map h.ok l, fun l m => eqvAll_map h.eq l m⟩
instance encL {α : Type} [DecidableEq α] {f : α → D} {n : Nat} [h : Enc f n] : Enc (lT f) (n + 1) := ⟨fun l => okL_map h.ok l, fun l m => eqvAll_map h.eq l m⟩
instance encP {α β : Type} [DecidableEq α] [DecidableEq β] {f : α → D} {g : β → D} {n k : Nat} [h : Enc f n] [h2 : Enc g k] : Enc (pT f g) (max n k + 1) := ⟨fun p => by
  show ((f p.1).ok (max n k) && ((g p.2).ok (max n k) && true)) = true
  rw [ok_up (h.ok p.1) (Nat.le_max_left ..), ok_up (h2.ok p.2) (Nat.le_max_right ..)]
  rfl, fun p q => by
  show (PyData.eqv (f p.1).py (f q.1).py && (PyData.eqv (g p.2).py (g q.2).py && true)) = _
  rw [h.eq, h2.eq, Bool.and_true]
  by_cases e : p.1 = q.1
  · by_cases e2 : p.2 = q.2
    · rw [decide_eq_true e, decide_eq_true e2, decide_eq_true (Prod.ext e e2)]; rfl
    · rw [decide_eq_false e2, Bool.and_false, decide_eq_false fun z => e2 (by rw [z])]
  · rw [decide_eq_false e, Bool.false_and, decide_eq_false fun z => e (by rw [z])]⟩

/-! ### what operators give -/
section
variable {K : PySem.W.Frag}
theorem rv_scal {r : R2} {d e f : D} (h : ∀ x y Hb H, Ex Hb H → DR K Hb x d → DR K Hb y e → ∃ z, DR K Hb z f ∧ ∀ Q : VK, Q z H → r x y H Q) : RV2 K r d e f := fun x y Hb H ex h1 h2 Q q => by
  obtain ⟨z, r1, k⟩ := h x y Hb H ex h1 h2
  exact k Q (q z f Hb H rfl (Gr.refl ex) r1)
theorem rv_I0' {g : Int → Int → V} {i j : Int} {f : D} (h : ∀ Hb, DR K Hb (g i j) f) : RV2 K (rI0 g) (.int i) (.int j) f := rv_scal fun x y Hb H ex h1 h2 => by
  cases h1
  cases h2
  exact ⟨g i j, h Hb, fun Q q => ⟨i, j, rfl, rfl, q⟩⟩
theorem rv_I' {C : Int → Int → Prop} {g : Int → Int → V} {i j : Int} {f : D} (h : ∀ Hb, DR K Hb (g i j) f) (c : C i j) : RV2 K (rI C g) (.int i) (.int j) f := rv_scal fun x y Hb H ex h1 h2 => by
  cases h1
  cases h2
  exact ⟨g i j, h Hb, fun Q q => ⟨i, j, rfl, rfl, c, q⟩⟩
variable {i j : Int}
theorem v_add : RV2 K (rI0 fun i j => .int (i + j)) (.int i) (.int j) (.int (i + j)) := rv_I0' fun _ => .int _
theorem v_sub : RV2 K (rI0 fun i j => .int (i - j)) (.int i) (.int j) (.int (i - j)) := rv_I0' fun _ => .int _
theorem v_and : RV2 K (rI0 fun i j => .int (Builtin.bitAnd i j)) (.int i) (.int j) (.int (Builtin.bitAnd i j)) := rv_I0' fun _ => .int _
theorem v_mul (c : CMul i j) : RV2 K (rI CMul fun i j => .int (i * j)) (.int i) (.int j) (.int (i * j)) := rv_I' (fun _ => .int _) c
theorem v_fdiv (c : CDiv i j) : RV2 K (rI CDiv fun i j => .int (i / j)) (.int i) (.int j) (.int (i / j)) := rv_I' (fun _ => .int _) c
theorem v_mod (c : 0 < j) : RV2 K (rI (fun _ j => 0 < j) fun i j => .int (i % j)) (.int i) (.int j) (.int (i % j)) := rv_I' (fun _ => .int _) c
theorem v_pow (c : CPow i j) : RV2 K (rI CPow fun i j => .int (i ^ j.toNat)) (.int i) (.int j) (.int (i ^ j.toNat)) := rv_I' (fun _ => .int _) c
theorem v_shl (c : CPow i j) : RV2 K (rI CPow fun i j => .int (i * 2 ^ j.toNat)) (.int i) (.int j) (.int (i * 2 ^ j.toNat)) := rv_I' (fun _ => .int _) c
theorem v_shr (c : 0 ≤ j) : RV2 K (rI (fun _ j => 0 ≤ j) fun i j => .int (i / 2 ^ j.toNat)) (.int i) (.int j) (.int (i / 2 ^ j.toNat)) := rv_I' (fun _ => .int _) c
theorem v_lt : RV2 K (rI0 fun i j => .bl (decide (i < j))) (.int i) (.int j) (.bl (decide (i < j))) := rv_I0' fun _ => .bl _
theorem v_le : RV2 K (rI0 fun i j => .bl (decide (i ≤ j))) (.int i) (.int j) (.bl (decide (i ≤ j))) := rv_I0' fun _ => .bl _
theorem v_gt : RV2 K (rI0 fun i j => .bl (decide (j < i))) (.int i) (.int j) (.bl (decide (j < i))) := rv_I0' fun _ => .bl _
theorem v_ge : RV2 K (rI0 fun i j => .bl (decide (j ≤ i))) (.int i) (.int j) (.bl (decide (j ≤ i))) := rv_I0' fun _ => .bl _
/-- == of data -/
theorem v_eqD {d e : D} {n k : Nat} (hd : d.ok n = true) (he : e.ok k = true) (hn : n ≤ 64 := by decide) (hk : k ≤ 64 := by decide) : RV2 K (rEqD K) d e (.bl (PyData.eqv d.py e.py)) := rv_scal fun x y Hb H ex h1 h2 =>
  ⟨.bl _, .bl _, fun Q q => ⟨d.py, e.py, (h1.mono ex).dp hd, (h2.mono ex).dp he, ok_shaped hd hn, ok_shaped he hk, q⟩⟩
theorem v_neD {d e : D} {n k : Nat} (hd : d.ok n = true) (he : e.ok k = true) (hn : n ≤ 64 := by decide) (hk : k ≤ 64 := by decide) : RV2 K (rNeD K) d e (.bl (!PyData.eqv d.py e.py)) := rv_scal fun x y Hb H ex h1 h2 =>
  ⟨.bl _, .bl _, fun Q q => ⟨d.py, e.py, (h1.mono ex).dp hd, (h2.mono ex).dp he, ok_shaped hd hn, ok_shaped he hk, q⟩⟩
theorem v_eq {α : Type} [DecidableEq α] {f : α → D} {n : Nat} [h : Enc f n] {x y : α} (hn : n ≤ 64 := by decide) : RV2 K (rEqD K) (f x) (f y) (.bl (decide (x = y))) := by
  rw [← h.eq x y]
  exact v_eqD (h.ok x) (h.ok y) hn hn
theorem v_ne {α : Type} [DecidableEq α] {f : α → D} {n : Nat} [h : Enc f n] {x y : α} (hn : n ≤ 64 := by decide) : RV2 K (rNeD K) (f x) (f y) (.bl (!decide (x = y))) := by
  rw [← h.eq x y]
  exact v_neD (h.ok x) (h.ok y) hn hn
/-- == of scalars -/
def D.scal : D → D → Bool
  | .int _, .int _ => true
  | .str _, .str _ => true
  | .bl _, .bl _ => true
  | _, _ => false
theorem v_eqS {x y : Str} : RV2 K rEq (.str x) (.str y) (.bl (decide (x = y))) := rv_scal fun u w Hb H ex h1 h2 => by
  cases h1
  cases h2
  refine ⟨.bl (decide (V.str x = V.str y)), ?_, fun Q q => ⟨rfl, q⟩⟩
  have e : decide (V.str x = V.str y) = decide (x = y) := by
    by_cases z : x = y
    · rw [decide_eq_true z, decide_eq_true (by rw [z])]
    · rw [decide_eq_false z, decide_eq_false fun q => z (V.str.inj q)]
  rw [e]
  exact .bl _
theorem v_neS {x y : Str} : RV2 K rNe (.str x) (.str y) (.bl (!decide (x = y))) := rv_scal fun u w Hb H ex h1 h2 => by
  cases h1
  cases h2
  refine ⟨.bl (!decide (V.str x = V.str y)), ?_, fun Q q => ⟨rfl, q⟩⟩
  have e : decide (V.str x = V.str y) = decide (x = y) := by
    by_cases z : x = y
    · rw [decide_eq_true z, decide_eq_true (by rw [z])]
    · rw [decide_eq_false z, decide_eq_false fun q => z (V.str.inj q)]
  rw [e]
  exact .bl _
theorem v_eqI : RV2 K rEq (.int i) (.int j) (.bl (decide (i = j))) := rv_scal fun u w Hb H ex h1 h2 => by
  cases h1
  cases h2
  refine ⟨.bl (decide (V.int i = V.int j)), ?_, fun Q q => ⟨rfl, q⟩⟩
  have e : decide (V.int i = V.int j) = decide (i = j) := by
    by_cases z : i = j
    · rw [decide_eq_true z, decide_eq_true (by rw [z])]
    · rw [decide_eq_false z, decide_eq_false fun q => z (V.int.inj q)]
  rw [e]
  exact .bl _
theorem v_neI : RV2 K rNe (.int i) (.int j) (.bl (!decide (i = j))) := rv_scal fun u w Hb H ex h1 h2 => by
  cases h1
  cases h2
  refine ⟨.bl (!decide (V.int i = V.int j)), ?_, fun Q q => ⟨rfl, q⟩⟩
  have e : decide (V.int i = V.int j) = decide (i = j) := by
    by_cases z : i = j
    · rw [decide_eq_true z, decide_eq_true (by rw [z])]
    · rw [decide_eq_false z, decide_eq_false fun q => z (V.int.inj q)]
  rw [e]
  exact .bl _
theorem v_eqB {x y : Bool} : RV2 K rEq (.bl x) (.bl y) (.bl (x == y)) := rv_scal fun u w Hb H ex h1 h2 => by
  cases h1
  cases h2
  refine ⟨.bl (decide (V.bl x = V.bl y)), ?_, fun Q q => ⟨rfl, q⟩⟩
  have e : decide (V.bl x = V.bl y) = (x == y) := by cases x <;> cases y <;> rfl
  rw [e]
  exact .bl _
theorem v_neB {x y : Bool} : RV2 K rNe (.bl x) (.bl y) (.bl (x != y)) := rv_scal fun u w Hb H ex h1 h2 => by
  cases h1
  cases h2
  refine ⟨.bl (!decide (V.bl x = V.bl y)), ?_, fun Q q => ⟨rfl, q⟩⟩
  have e : (!decide (V.bl x = V.bl y)) = (x != y) := by cases x <;> cases y <;> rfl
  rw [e]
  exact .bl _
theorem v_isN {d : D} : RV2 K (fun x y H Q => y = .non ∧ Q (.bl (decide (x = .non))) H) d .non (.bl d.isN) := rv_scal fun x y Hb H ex h1 h2 => by
  cases h2
  refine ⟨.bl (decide (x = .non)), ?_, fun Q q => ⟨rfl, q⟩⟩
  rw [dr_non h1]
  exact .bl _
theorem v_notN {d : D} : RV2 K (fun x y H Q => y = .non ∧ Q (.bl (!decide (x = .non))) H) d .non (.bl (!d.isN)) := rv_scal fun x y Hb H ex h1 h2 => by
  cases h2
  refine ⟨.bl (!decide (x = .non)), ?_, fun Q q => ⟨rfl, q⟩⟩
  rw [dr_non h1]
  exact .bl _
/-! sequences -/
theorem atI_map {α : Type} {f : α → D} {l : List α} {i : Int} {x : α} (h : atI l i = some x) : atI (l.map f) i = some (f x) := by
  unfold atI at h ⊢
  rw [List.length_map]
  cases e : ixN l.length i with
  | none => rw [e] at h; cases h
  | some k =>
    rw [e] at h
    show (l.map f)[k]? = some (f x)
    rw [List.getElem?_map, show l[k]? = some x from h]
    rfl
theorem DRs.atI {Hb : Hp} {vs : List V} {ds : List D} {i : Int} {d : D} (r : DRs K Hb vs ds) (h : L2.atI ds i = some d) : ∃ v, L2.atI vs i = some v ∧ DR K Hb v d := by
  unfold L2.atI at h ⊢
  rw [r.len]
  cases e : ixN ds.length i with
  | none => rw [e] at h; cases h
  | some k =>
    rw [e] at h
    exact r.get (i := k) h
theorem v_ixL {ds : List D} {f : D} (h : atI ds i = some f) : RV2 K (rIxL K) (.lst ds) (.int i) f := rv_scal fun x y Hb H ex h1 h2 => by
  cases h1 with
  | lst ha r =>
    cases h2
    obtain ⟨v, e1, e2⟩ := r.atI h
    exact ⟨v, e2, fun Q q => ⟨_, _, i, v, rfl, rfl, SqL.of (ex _ _ ha), e1, q⟩⟩
theorem v_ixT {ds : List D} {f : D} (h : atI ds i = some f) : RV2 K (rIxT K) (.tup ds) (.int i) f := rv_scal fun x y Hb H ex h1 h2 => by
  cases h1 with
  | tup ha r =>
    cases h2
    obtain ⟨v, e1, e2⟩ := r.atI h
    exact ⟨v, e2, fun Q q => ⟨_, _, i, v, rfl, rfl, xt ex ha, e1, q⟩⟩
theorem v_ixLT {α : Type} {f : α → D} {l : List α} {x : α} (h : atI l i = some x) : RV2 K (rIxL K) (lT f l) (.int i) (f x) := v_ixL (atI_map h)
theorem v_ixTT {α : Type} {f : α → D} {l : List α} {x : α} (h : atI l i = some x) : RV2 K (rIxT K) (tT f l) (.int i) (f x) := v_ixT (atI_map h)
theorem v_catL {ds es : List D} (hz : ds.length + es.length ≤ 100000) : RRN K rCat (.lst ds) (.lst es) fun z => z = .ml (ds ++ es) := fun x y Hb H ex h1 h2 Q q => by
  cases h1 with
  | lst ha r1 =>
    cases h2 with
    | lst hb r2 =>
      exact ⟨_, _, _, _, rfl, rfl, ex _ _ ha, ex _ _ hb, sz_of (by rw [r1.len, r2.len]; exact hz), fun p hp => q p _ _ Hb _ rfl hp (New.side ex hp) (fresh_back ex hp) upd_same ⟨_, rfl, r1.app r2⟩⟩
theorem v_catT {ds es : List D} (hz : ds.length + es.length ≤ 100000) : RV2 K (rCatA K) (.tup ds) (.tup es) (.tup (ds ++ es)) := fun x y Hb H ex h1 h2 Q q => by
  cases h1 with
  | @tup a vs _ ha r1 =>
    cases h2 with
    | @tup b ws _ hb r2 =>
      refine ⟨a, b, vs, ws, rfl, rfl, xt ex ha, xt ex hb, sz_of (by rw [r1.len, r2.len]; exact hz), fun e => ?_, fun _ e => ?_, fun _ _ p hp => ?_⟩
      · subst e
        cases r1
        exact q _ _ Hb H rfl (Gr.refl ex) (.tup hb r2)
      · subst e
        cases r2
        rw [List.append_nil] at q
        exact q _ _ Hb H rfl (Gr.refl ex) (.tup ha r1)
      · exact q _ _ _ _ rfl (New.mk ex hp) (.tup upd_same ((r1.app r2).mono (Ex.new (fresh_back ex hp))))
theorem any_map {α : Type} [DecidableEq α] {f : α → D} {n : Nat} [h : Enc f n] {x : α} : ∀ l : List α, ((pyL (l.map f)).any fun z => PyData.eqv z (f x).py) = decide (x ∈ l)
  | [] => by
    rw [decide_eq_false (by simp)]
    rfl
  | y :: l => by
    show (PyData.eqv (f y).py (f x).py || (pyL (l.map f)).any fun z => PyData.eqv z (f x).py) = _
    rw [any_map l, h.eq]
    by_cases e : y = x
    · subst e
      rw [decide_eq_true rfl, decide_eq_true (List.mem_cons_self ..)]; rfl
    · by_cases e2 : x ∈ l
      · rw [decide_eq_true e2, Bool.or_true, decide_eq_true (List.mem_cons_of_mem _ e2)]
      · rw [decide_eq_false e, decide_eq_false e2, decide_eq_false fun z => (List.mem_cons.mp z).elim (fun q => e q.symm) e2]; rfl
theorem v_inL {α : Type} [DecidableEq α] {f : α → D} {n : Nat} [h : Enc f n] {x : α} {l : List α} (hn : n ≤ 63 := by decide) : RV2 K (rInD K) (f x) (lT f l) (.bl (decide (x ∈ l))) := by
  rw [← any_map (f := f) l]
  exact rv_scal fun u w Hb H ex h1 h2 => ⟨.bl _, .bl _, fun Q q => ⟨(f x).py, pyL (l.map f), (h1.mono ex).dp (h.ok x), (h2.mono ex).dp (n := n + 1) (okL_map h.ok l), ok_shaped (h.ok x) (by omega), ok_shaped (d := lT f l) (n := n + 1) (okL_map h.ok l) (by omega), q⟩⟩
theorem v_niL {α : Type} [DecidableEq α] {f : α → D} {n : Nat} [h : Enc f n] {x : α} {l : List α} (hn : n ≤ 63 := by decide) : RV2 K (rNotInD K) (f x) (lT f l) (.bl (!decide (x ∈ l))) := by
  rw [← any_map (f := f) l]
  exact rv_scal fun u w Hb H ex h1 h2 => ⟨.bl _, .bl _, fun Q q => ⟨(f x).py, pyL (l.map f), (h1.mono ex).dp (h.ok x), (h2.mono ex).dp (n := n + 1) (okL_map h.ok l), ok_shaped (h.ok x) (by omega), ok_shaped (d := lT f l) (n := n + 1) (okL_map h.ok l) (by omega), q⟩⟩
/-- ints in a tuple (or list) of ints -/
theorem DRs.ints {Hb : Hp} : ∀ {vs : List V} {ns : List Int}, DRs K Hb vs (ns.map D.int) → vs = ns.map V.int
  | _, [], h => by cases h; rfl
  | _, n :: ns, h => by
    cases h with
    | cons a b =>
      cases a
      rw [DRs.ints b]
      rfl
theorem DRs.bools {Hb : Hp} : ∀ {vs : List V} {ns : List Bool}, DRs K Hb vs (ns.map D.bl) → vs = ns.map V.bl
  | _, [], h => by cases h; rfl
  | _, n :: ns, h => by
    cases h with
    | cons a b =>
      cases a
      rw [DRs.bools b]
      rfl
theorem drs_ints {Hb : Hp} : ∀ ns : List Int, DRs K Hb (ns.map V.int) (ns.map D.int)
  | [] => .nil
  | n :: ns => .cons (.int n) (drs_ints ns)
theorem all_flat (ns : List Int) : (ns.map V.int).all flatV = true := List.all_eq_true.mpr fun x hx => by
  obtain ⟨n, _, rfl⟩ := List.mem_map.mp hx
  rfl
theorem inV_int {x : Int} : ∀ ns : List Int, inV (.int x) (ns.map V.int) = decide (x ∈ ns)
  | [] => by
    rw [decide_eq_false (by simp)]
    rfl
  | n :: ns => by
    show ((n == x) || inV (.int x) (ns.map V.int)) = _
    rw [inV_int ns]
    by_cases e : n = x
    · subst e; simp
    · have e' : ¬ x = n := fun z => e z.symm
      simp [e, e']
theorem v_inT {x : Int} {l : List Int} : RV2 K (rIn K false) (.int x) (tT D.int l) (.bl (decide (x ∈ l))) := rv_scal fun u w Hb H ex h1 h2 => by
  cases h1
  cases h2 with
  | @tup a vs _ ha r =>
    have e := r.ints
    subst e
    refine ⟨.bl (inV (.int x) (l.map V.int)), by rw [inV_int]; exact .bl _, fun Q q => ⟨a, _, rfl, .inr (xt ex ha), rfl, all_flat l, q⟩⟩
theorem v_niT {x : Int} {l : List Int} : RV2 K (rIn K true) (.int x) (tT D.int l) (.bl (!decide (x ∈ l))) := rv_scal fun u w Hb H ex h1 h2 => by
  cases h1
  cases h2 with
  | @tup a vs _ ha r =>
    have e := r.ints
    subst e
    refine ⟨.bl (!inV (.int x) (l.map V.int)), by rw [inV_int]; exact .bl _, fun Q q => ⟨a, _, rfl, .inr (xt ex ha), rfl, all_flat l, q⟩⟩
theorem v_inLI {x : Int} {l : List Int} : RV2 K (rIn K false) (.int x) (lT D.int l) (.bl (decide (x ∈ l))) := rv_scal fun u w Hb H ex h1 h2 => by
  cases h1
  cases h2 with
  | @lst a vs _ ha r =>
    have e := r.ints
    subst e
    refine ⟨.bl (inV (.int x) (l.map V.int)), by rw [inV_int]; exact .bl _, fun Q q => ⟨a, _, rfl, .inl (SqL.of (ex _ _ ha)), rfl, all_flat l, q⟩⟩
theorem v_niLI {x : Int} {l : List Int} : RV2 K (rIn K true) (.int x) (lT D.int l) (.bl (!decide (x ∈ l))) := rv_scal fun u w Hb H ex h1 h2 => by
  cases h1
  cases h2 with
  | @lst a vs _ ha r =>
    have e := r.ints
    subst e
    refine ⟨.bl (!inV (.int x) (l.map V.int)), by rw [inV_int]; exact .bl _, fun Q q => ⟨a, _, rfl, .inl (SqL.of (ex _ _ ha)), rfl, all_flat l, q⟩⟩

/-! ### what built-ins give -/
theorem rl_scal {r : List V → Hp → VK → Prop} {ds : List D} {f : D} (h : ∀ xs Hb H, Ex Hb H → DRs K Hb xs ds → ∃ z, DR K Hb z f ∧ ∀ Q : VK, Q z H → r xs H Q) : RL K r ds fun z => z = f := fun xs Hb H ex h1 Q q => by
  obtain ⟨z, r1, k⟩ := h xs Hb H ex h1
  exact k Q (q z f Hb H rfl (Gr.refl ex) r1)
theorem DRs.one_inv {Hb : Hp} {vs : List V} {d : D} (h : DRs K Hb vs [d]) : ∃ v, vs = [v] ∧ DR K Hb v d := by
  cases h with
  | cons a b => cases b; exact ⟨_, rfl, a⟩
theorem DRs.two_inv {Hb : Hp} {vs : List V} {d e : D} (h : DRs K Hb vs [d, e]) : ∃ v w, vs = [v, w] ∧ DR K Hb v d ∧ DR K Hb w e := by
  cases h with
  | cons a b =>
    cases b with
    | cons b c => cases c; exact ⟨_, _, rfl, a, b⟩
theorem l_len {d : D} {n : Nat} (h : d = .lst l ∧ l.length = n ∨ d = .tup l ∧ l.length = n) : RL K (fun xs H Q => ∃ p ys, xs = [.ref p] ∧ (SqL K H p ys ∨ SqT K H p ys) ∧ Q (.int ys.length) H) [d] fun z => z = .int n := rl_scal fun xs Hb H ex h1 => by
  obtain ⟨v, rfl, r⟩ := h1.one_inv
  rcases h with ⟨rfl, rfl⟩ | ⟨rfl, rfl⟩
  · cases r with
    | lst ha q => exact ⟨_, by rw [← q.len]; exact .int _, fun Q k => ⟨_, _, rfl, .inl (SqL.of (ex _ _ ha)), k⟩⟩
  · cases r with
    | tup ha q => exact ⟨_, by rw [← q.len]; exact .int _, fun Q k => ⟨_, _, rfl, .inr (xt ex ha), k⟩⟩
theorem l_lenL {l : List D} : RL K (fun xs H Q => ∃ p ys, xs = [.ref p] ∧ (SqL K H p ys ∨ SqT K H p ys) ∧ Q (.int ys.length) H) [.lst l] fun z => z = .int l.length := l_len (.inl ⟨rfl, rfl⟩)
theorem l_lenT {l : List D} : RL K (fun xs H Q => ∃ p ys, xs = [.ref p] ∧ (SqL K H p ys ∨ SqT K H p ys) ∧ Q (.int ys.length) H) [.tup l] fun z => z = .int l.length := l_len (.inr ⟨rfl, rfl⟩)
theorem l_tupleL {l : List D} : RL K (fun xs H Q => ∃ p ys, xs = [.ref p] ∧ ((SqL K H p ys ∧ ∀ l, H l = none → Q (.ref l) (upd H l (.tup ys))) ∨ (SqT K H p ys ∧ Q (.ref p) H))) [.lst l] fun z => z = .tup l := fun xs Hb H ex h1 Q q => by
  obtain ⟨v, rfl, r⟩ := h1.one_inv
  cases r with
  | lst ha k => exact ⟨_, _, rfl, .inl ⟨SqL.of (ex _ _ ha), fun p hp => q _ _ _ _ rfl (New.mk ex hp) (.tup upd_same (k.mono (Ex.new (fresh_back ex hp))))⟩⟩
theorem l_tupleT {l : List D} : RL K (fun xs H Q => ∃ p ys, xs = [.ref p] ∧ ((SqL K H p ys ∧ ∀ l, H l = none → Q (.ref l) (upd H l (.tup ys))) ∨ (SqT K H p ys ∧ Q (.ref p) H))) [.tup l] fun z => z = .tup l := fun xs Hb H ex h1 Q q => by
  obtain ⟨v, rfl, r⟩ := h1.one_inv
  cases r with
  | tup ha k => exact ⟨_, _, rfl, .inr ⟨xt ex ha, q _ _ Hb H rfl (Gr.refl ex) (.tup ha k)⟩⟩
theorem l_listL {l : List D} : RLN K (fun xs H Q => ∃ p ys, xs = [.ref p] ∧ (SqL K H p ys ∨ SqT K H p ys) ∧ ∀ l, H l = none → Q (.ref l) (upd H l (.lst ys))) [.lst l] fun z => z = .ml l := fun xs Hb H ex h1 Q q => by
  obtain ⟨v, rfl, r⟩ := h1.one_inv
  cases r with
  | lst ha k => exact ⟨_, _, rfl, .inl (SqL.of (ex _ _ ha)), fun p hp => q p _ _ Hb _ rfl hp (New.side ex hp) (fresh_back ex hp) upd_same ⟨_, rfl, k⟩⟩
theorem l_listT {l : List D} : RLN K (fun xs H Q => ∃ p ys, xs = [.ref p] ∧ (SqL K H p ys ∨ SqT K H p ys) ∧ ∀ l, H l = none → Q (.ref l) (upd H l (.lst ys))) [.tup l] fun z => z = .ml l := fun xs Hb H ex h1 Q q => by
  obtain ⟨v, rfl, r⟩ := h1.one_inv
  cases r with
  | tup ha k => exact ⟨_, _, rfl, .inr (xt ex ha), fun p hp => q p _ _ Hb _ rfl hp (New.side ex hp) (fresh_back ex hp) upd_same ⟨_, rfl, k⟩⟩
theorem l_all {bs : List Bool} : RL K (rAll K) [lT D.bl bs] fun z => z = .bl (bs.all id) := rl_scal fun xs Hb H ex h1 => by
  obtain ⟨v, rfl, r⟩ := h1.one_inv
  cases r with
  | @lst a vs _ ha k =>
    have e := k.bools
    subst e
    exact ⟨.bl _, .bl _, fun Q q => ⟨a, bs, rfl, SqL.of (ex _ _ ha), q⟩⟩
theorem l_any {bs : List Bool} : RL K (rAny K) [lT D.bl bs] fun z => z = .bl (bs.any id) := rl_scal fun xs Hb H ex h1 => by
  obtain ⟨v, rfl, r⟩ := h1.one_inv
  cases r with
  | @lst a vs _ ha k =>
    have e := k.bools
    subst e
    exact ⟨.bl _, .bl _, fun Q q => ⟨a, bs, rfl, SqL.of (ex _ _ ha), q⟩⟩
theorem l_abs {i : Int} : RL K (fun xs H Q => ∃ i, xs = [.int i] ∧ Q (.int (if i < 0 then -i else i)) H) [.int i] fun z => z = .int (if i < 0 then -i else i) := rl_scal fun xs Hb H ex h1 => by
  obtain ⟨v, rfl, r⟩ := h1.one_inv
  cases r
  exact ⟨.int _, .int _, fun Q q => ⟨i, rfl, q⟩⟩
theorem l_int {i : Int} : RL K (fun xs H Q => (∃ i, xs = [.int i] ∧ Q (.int i) H) ∨ ∃ k, xs = [.bl k] ∧ Q (.int (if k then 1 else 0)) H) [.int i] fun z => z = .int i := rl_scal fun xs Hb H ex h1 => by
  obtain ⟨v, rfl, r⟩ := h1.one_inv
  cases r
  exact ⟨.int _, .int _, fun Q q => .inl ⟨i, rfl, q⟩⟩
theorem l_intB {k : Bool} : RL K (fun xs H Q => (∃ i, xs = [.int i] ∧ Q (.int i) H) ∨ ∃ k, xs = [.bl k] ∧ Q (.int (if k then 1 else 0)) H) [.bl k] fun z => z = .int (if k then 1 else 0) := rl_scal fun xs Hb H ex h1 => by
  obtain ⟨v, rfl, r⟩ := h1.one_inv
  cases r
  exact ⟨.int _, .int _, fun Q q => .inr ⟨k, rfl, q⟩⟩
theorem l_min {ns : List Int} (h0 : 0 < ns.length) : RL K (rMin K) [lT D.int ns] fun z => ∃ m, z = .int m ∧ m ∈ ns ∧ ∀ y ∈ ns, m ≤ y := fun xs Hb H ex h1 Q q => by
  obtain ⟨v, rfl, r⟩ := h1.one_inv
  cases r with
  | @lst a vs _ ha k =>
    have e := k.ints
    subst e
    exact ⟨a, ns, rfl, SqL.of (ex _ _ ha), h0, fun m h2 h3 => q _ _ Hb H ⟨m, rfl, h2, h3⟩ (Gr.refl ex) (.int m)⟩
theorem l_max {ns : List Int} (h0 : 0 < ns.length) : RL K (rMax K) [lT D.int ns] fun z => ∃ m, z = .int m ∧ m ∈ ns ∧ ∀ y ∈ ns, y ≤ m := fun xs Hb H ex h1 Q q => by
  obtain ⟨v, rfl, r⟩ := h1.one_inv
  cases r with
  | @lst a vs _ ha k =>
    have e := k.ints
    subst e
    exact ⟨a, ns, rfl, SqL.of (ex _ _ ha), h0, fun m h2 h3 => q _ _ Hb H ⟨m, rfl, h2, h3⟩ (Gr.refl ex) (.int m)⟩
end
end DL

namespace DL
open PySem PySem.Spec PyProof.Rows L2 Evl

/-! ### several slots at once -/
def setL (σ : L2.St) : List Nat → List V → L2.St
  | j :: js, v :: vs => setL (σ.set j (some v)) js vs
  | _, _ => σ
def setG (Γ : List Sl) : List Nat → List D → List Sl
  | j :: js, d :: ds => setG (Γ.set j (.pd d)) js ds
  | _, _ => Γ
def wipeG (Γ : List Sl) : List Nat → List Sl
  | [] => Γ
  | v :: vs => (wipeG Γ vs).set v .un
section
variable {K : PySem.W.Frag} {Hb H Hb' H' : Hp} {σ : L2.St} {Γ : List Sl}
theorem En.setL : ∀ {js : List Nat} {vs : List V} {ds : List D} {σ : L2.St} {Γ : List Sl}, En K Hb H σ Γ → DRs K Hb vs ds → En K Hb H (DL.setL σ js vs) (setG Γ js ds)
  | [], _, _, _, _, E, _ => E
  | j :: js, _, _, _, _, E, .nil => E
  | j :: js, _, _, _, _, E, .cons h t => by
    have z := En.setL (js := js) (E.set h j) t
    exact z
theorem En.wipe (E : En K Hb H σ Γ) : ∀ vs : List Nat, En K Hb H (L2.wipe σ vs) (wipeG Γ vs)
  | [] => E
  | v :: vs => (En.wipe E vs).un v none
theorem Own.set {v : V} {d : D} {i : Nat} {a : Addr} (h : Own (σ.set i (some v)) (Γ.set i (.pd d)) a) : Own σ Γ a := by
  obtain ⟨j, m, h1, h2⟩ := h
  rcases set_at h1 with ⟨rfl, z2, z3⟩ | ⟨z1, z2⟩
  · cases z2
  · rw [List.getElem?_set_ne z1] at h2
    exact ⟨j, m, z2, h2⟩
theorem Own.unset {o : Option V} {i : Nat} {a : Addr} (h : Own (σ.set i o) (Γ.set i .un) a) : Own σ Γ a := by
  obtain ⟨j, m, h1, h2⟩ := h
  rcases set_at h1 with ⟨rfl, z2, z3⟩ | ⟨z1, z2⟩
  · cases z2
  · rw [List.getElem?_set_ne z1] at h2
    exact ⟨j, m, z2, h2⟩
theorem Own.setL : ∀ {js : List Nat} {vs : List V} {ds : List D} {σ : L2.St} {Γ : List Sl} {a : Addr}, vs.length = ds.length → Own (DL.setL σ js vs) (setG Γ js ds) a → Own σ Γ a
  | [], _, _, _, _, _, _, h => h
  | j :: js, [], [], _, _, _, _, h => h
  | j :: js, v :: vs, d :: ds, _, _, _, e, h => Own.set (Own.setL (Nat.succ.inj e) h)
theorem Own.wipe {a : Addr} : ∀ {vs : List Nat}, Own (L2.wipe σ vs) (wipeG Γ vs) a → Own σ Γ a
  | [], h => h
  | v :: vs, h => Own.wipe (Own.unset h)
theorem wipe_get : ∀ (vs : List Nat) (i : Nat), (L2.wipe σ vs)[i]? = if i ∈ vs ∧ i < σ.length then some none else σ[i]?
  | [], i => by rw [if_neg (by simp)]; rfl
  | v :: vs, i => by
    show ((L2.wipe σ vs).set v none)[i]? = _
    by_cases e : v = i
    · subst e
      by_cases h : v < σ.length
      · rw [List.getElem?_set_self (by rw [wipe_length]; exact h), if_pos ⟨List.mem_cons_self .., h⟩]
      · rw [if_neg fun z => h z.2, List.getElem?_eq_none (by rw [List.length_set, wipe_length]; omega), List.getElem?_eq_none (by omega)]
    · rw [List.getElem?_set_ne e, wipe_get vs i]
      have e' : ¬ i = v := fun z => e z.symm
      simp [e']
theorem wipe_set {vs : List Nat} {j : Nat} {x : Option V} (h : j ∈ vs) : L2.wipe (σ.set j x) vs = L2.wipe σ vs := by
  apply List.ext_getElem?
  intro i
  rw [wipe_get, wipe_get, List.length_set]
  by_cases z : i ∈ vs ∧ i < σ.length
  · rw [if_pos z, if_pos z]
  · rw [if_neg z, if_neg z]
    by_cases e : j = i
    · subst e
      have : ¬ j < σ.length := fun q => z ⟨h, q⟩
      rw [List.getElem?_eq_none (by rw [List.length_set]; omega), List.getElem?_eq_none (by omega)]
    · rw [List.getElem?_set_ne e]
theorem wipe_wipe {vs : List Nat} : L2.wipe (L2.wipe σ vs) vs = L2.wipe σ vs := by
  apply List.ext_getElem?
  intro i
  rw [wipe_get, wipe_length]
  by_cases z : i ∈ vs ∧ i < σ.length
  · rw [if_pos z, wipe_get, if_pos z]
  · rw [if_neg z]
theorem wipe_setL {vs : List Nat} : ∀ {js : List Nat} {ws : List V} {σ : L2.St}, (∀ j ∈ js, j ∈ vs) → L2.wipe (DL.setL σ js ws) vs = L2.wipe σ vs
  | [], _, _, _ => rfl
  | j :: js, [], _, _ => rfl
  | j :: js, w :: ws, _, h => (wipe_setL (js := js) fun i hi => h i (List.mem_cons_of_mem _ hi)).trans (wipe_set (h j (List.mem_cons_self ..)))
/-- nothing is known of the slots vs -/
theorem wipeG_un : ∀ {vs : List Nat} {i : Nat} {s : Sl}, i ∈ vs → (wipeG Γ vs)[i]? = some s → s = .un
  | v :: vs, i, s, hi, h => by
    rcases set_at (l := wipeG Γ vs) h with ⟨rfl, z2, z3⟩ | ⟨z1, z2⟩
    · exact z2.symm
    · exact wipeG_un ((List.mem_cons.mp hi).elim (fun q => absurd q.symm z1) id) z2
theorem setL_ne : ∀ {js : List Nat} {ws : List V} {σ : L2.St} {i : Nat}, i ∉ js → (DL.setL σ js ws)[i]? = σ[i]?
  | [], _, _, _, _ => rfl
  | j :: js, [], _, _, _ => rfl
  | j :: js, w :: ws, σ, i, h => (setL_ne (js := js) fun z => h (List.mem_cons_of_mem _ z)).trans (List.getElem?_set_ne fun z => h (by rw [z]; exact List.mem_cons_self ..))
theorem setG_ne : ∀ {js : List Nat} {ws : List D} {Γ : List Sl} {i : Nat}, i ∉ js → (setG Γ js ws)[i]? = Γ[i]?
  | [], _, _, _, _ => rfl
  | j :: js, [], _, _, _ => rfl
  | j :: js, w :: ws, σ, i, h => (setG_ne (js := js) fun z => h (List.mem_cons_of_mem _ z)).trans (List.getElem?_set_ne fun z => h (by rw [z]; exact List.mem_cons_self ..))
/-- behind a turn of a block: the def's own slots -/
theorem En.back {σ' : L2.St} {Γ' : List Sl} {W : Addr → Prop} (E : En K Hb H σ Γ) (g : Gr W Hb H Hb' H') (E' : En K Hb' H' σ' Γ') (k : ∀ (i : Nat) (m : MO), Γ[i]? = some (.ow m) → Γ'[i]? = some (.ow m) ∧ σ'[i]? = σ[i]?) : En K Hb' H' σ Γ where
  ex := E'.ex
  val := fun i d h => by obtain ⟨v, h1, h2⟩ := E.val i d h; exact ⟨v, h1, h2.mono g.b⟩
  own := fun i m h => by
    obtain ⟨a, u, h1, h2, h3, h4⟩ := E'.own i m (k i m h).1
    rw [(k i m h).2] at h1
    exact ⟨a, u, h1, h2, h3, h4⟩
  sep := E.sep
  len := E.len
theorem En.side (E : En K Hb H σ Γ) {p : Addr} {o : HO} (h : Hb p = none) (n : ¬ Own σ Γ p) : En K Hb (upd H p o) σ Γ where
  ex := fun a u e => by rw [upd_ne (ne_of_none e h)]; exact E.ex a u e
  val := E.val
  own := fun i m k => by
    obtain ⟨a, u, h1, h2, h3, h4⟩ := E.own i m k
    refine ⟨a, u, h1, h2, ?_, h4⟩
    rw [upd_ne fun z => n (by subst z; exact ⟨i, m, k, h1⟩)]
    exact h3
  sep := E.sep
  len := E.len
theorem En.own_some (E : En K Hb H σ Γ) {a : Addr} (h : Own σ Γ a) : H a ≠ none ∧ Hb a = none := by
  obtain ⟨i, m, h1, h2⟩ := h
  obtain ⟨b, u, k1, k2, k3, k4⟩ := E.own i m h1
  rw [h2] at k1
  cases k1
  exact ⟨by rw [k3]; simp, k2⟩
end

/-! ### targets -/
def XGt (K : PySem.W.Frag) (g : TG) (d : D) (js : List Nat) (es : List D) : Prop := ∀ (v : V) (Hb H : Hp) (σ : L2.St) (Q : L2.St → Hp → Prop), Ex Hb H → DR K Hb v d → (∀ vs, DRs K Hb vs es → Q (setL σ js vs) H) → g v σ H Q
section
variable {K : PySem.W.Frag}
theorem gt_name {j : Nat} {d : D} : XGt K (gName j) d [j] [d] := fun v Hb H σ Q _ r q => q [v] (.cons r .nil)
theorem gt_pair {i j : Nat} {d e : D} : XGt K (gTup K 2 (gCons (gName i) (gCons (gName j) gNil))) (.tup [d, e]) [i, j] [d, e] := fun v Hb H σ Q ex r q => by
  cases r with
  | @tup a vs _ h k =>
    obtain ⟨x, y, rfl, r1, r2⟩ := k.two_inv
    exact ⟨a, [x, y], rfl, xt ex h, rfl, x, [y], rfl, y, [], rfl, rfl, q [x, y] (.cons r1 (.cons r2 .nil))⟩
end

/-! ### what is walked -/
section
variable {X : Cx} {m : Bool} {e a b c tg : Expr} {es : List Expr} {Γ : List Sl} {pos p : Pos}
theorem itd_list {K : PySem.W.Frag} {Hb : Hp} {l : Addr} {vs : List V} {ds : List D} (h : SqL K Hb l vs) (r : DRs K Hb vs ds) : ItD K (Itl K l) Hb ds := fun Hb1 H1 e1 e2 i => by
  have h1 : SqL K H1 l vs := ex_l (e1.trans e2) h
  refine ⟨fun hi => ?_, fun hi => ⟨vs, h1, by rw [r.len]; exact hi⟩⟩
  obtain ⟨v, k1, k2⟩ := r.get (List.getElem?_eq_getElem hi)
  refine ⟨⟨vs, v, h1, k1⟩, fun x H2 y => ?_⟩
  obtain ⟨rfl, y⟩ := y
  have k3 := y vs h1
  rw [k1] at k3
  cases k3
  exact ⟨_, Hb1, List.getElem?_eq_getElem hi, Gr.refl e2, k2.mono e1⟩
theorem itd_tup {K : PySem.W.Frag} {Hb : Hp} {l : Addr} {vs : List V} {ds : List D} (h : Hb l = some (.tup vs)) (r : DRs K Hb vs ds) : ItD K (Itt K l) Hb ds := fun Hb1 H1 e1 e2 i => by
  have h1 : SqT K H1 l vs := xt (e1.trans e2) h
  refine ⟨fun hi => ?_, fun hi => ⟨vs, h1, by rw [r.len]; exact hi⟩⟩
  obtain ⟨v, k1, k2⟩ := r.get (List.getElem?_eq_getElem hi)
  refine ⟨⟨vs, v, h1, k1⟩, fun x H2 y => ?_⟩
  obtain ⟨rfl, y⟩ := y
  have k3 := y vs h1
  rw [k1] at k3
  cases k3
  exact ⟨_, Hb1, List.getElem?_eq_getElem hi, Gr.refl e2, k2.mono e1⟩
theorem xi_list {Φ : List D → Prop} (h : XE X m e Γ fun z => ∃ ds, z = .lst ds ∧ Φ ds) : XI X m tg e Γ Φ := xi_of (pi_list pe_wp) fun σ Hb H E R q => h σ Hb H E _ fun v d Hb1 H1 p1 g1 E1 r1 => by
  obtain ⟨ds, rfl, f⟩ := p1
  cases r1 with
  | lst ha r => exact ⟨_, rfl, ⟨_, SqL.of (E1.ex _ _ ha)⟩, q _ ds Hb1 H1 f g1 E1 (itd_list (SqL.of ha) r)⟩
theorem xi_tup {Φ : List D → Prop} (h : XE X m e Γ fun z => ∃ ds, z = .tup ds ∧ Φ ds) : XI X m tg e Γ Φ := xi_of (pi_tup pe_wp) fun σ Hb H E R q => h σ Hb H E _ fun v d Hb1 H1 p1 g1 E1 r1 => by
  obtain ⟨ds, rfl, f⟩ := p1
  cases r1 with
  | tup ha r => exact ⟨_, rfl, ⟨_, xt E1.ex ha⟩, q _ ds Hb1 H1 f g1 E1 (itd_tup ha r)⟩
theorem xw_list {ds : List D} (h : XV X e Γ (.lst ds)) : XW X tg e Γ ds := xi_list (h.imp fun _ z => ⟨ds, z, rfl⟩)
theorem xw_tup {ds : List D} (h : XV X e Γ (.tup ds)) : XW X tg e Γ ds := xi_tup (h.imp fun _ z => ⟨ds, z, rfl⟩)
/-- lo, lo + 1, .. below hi -/
def rng (lo hi : Int) : List Int := (List.range (hi - lo).toNat).map fun (k : Nat) => lo + (k : Int)
theorem mem_rng {lo hi x : Int} : x ∈ rng lo hi ↔ lo ≤ x ∧ x < hi := by
  unfold rng
  rw [List.mem_map]
  constructor
  · rintro ⟨k, h, rfl⟩
    have := List.mem_range.mp h
    omega
  · intro h
    exact ⟨(x - lo).toNat, List.mem_range.mpr (by omega), by omega⟩
theorem rng_len {lo hi : Int} : (rng lo hi).length = (hi - lo).toNat := by
  unfold rng
  rw [List.length_map, List.length_range]
theorem rng_get {lo hi : Int} {i : Nat} (h : i < (hi - lo).toNat) : (rng lo hi)[i]? = some (lo + (i : Int)) := by
  unfold rng
  rw [List.getElem?_map, List.getElem?_range h]
  rfl
theorem itd_rng {K : PySem.W.Frag} {Hb : Hp} {lo hi : Int} : ItD K (Itr lo (hi - lo).toNat) Hb ((rng lo hi).map D.int) := fun Hb1 H1 e1 e2 i => by
  rw [List.length_map, rng_len]
  refine ⟨fun hi' => ⟨hi', fun x H2 y => ?_⟩, fun hi' => hi'⟩
  obtain ⟨rfl, rfl⟩ := y
  exact ⟨.int (lo + (i : Int)), Hb1, by rw [List.getElem?_map, rng_get hi']; rfl, Gr.refl e2, .int _⟩
theorem xw_range1 {n : Int} (h : XL X [e] Γ [.int n]) (hn : n ≤ 100000) (hm : X.mg "range" = none) (hn0 : -100000 ≤ n) (hg : Gl X "range" := by rfl) (hs : starEach [e] X.env = [(false, eval e X.env)] := by rfl) : XW X tg (.Call (.Name "range" p) [e] [] pos) Γ ((rng 0 n).map D.int) := xi_of (pi_range1 hg hm pa_wp hs) fun σ Hb H E R q => h σ Hb H E _ fun vs ds Hb1 H1 p1 g1 E1 r1 => by
  subst p1
  obtain ⟨v, rfl, r⟩ := r1.one_inv
  cases r
  refine ⟨n, rfl, by omega, by omega, ?_⟩
  have z := q (Itr 0 (n - 0).toNat) _ Hb1 H1 rfl g1 E1 itd_rng
  rw [Int.sub_zero] at z
  exact z
theorem xw_range2 {lo n : Int} (h : XL X [a, b] Γ [.int lo, .int n]) (hn : n ≤ 100000) (hl : -100000 ≤ lo ∧ lo ≤ 100000) (hm : X.mg "range" = none) (hn0 : -100000 ≤ n) (hg : Gl X "range" := by rfl) (hs : starEach [a, b] X.env = [(false, eval a X.env), (false, eval b X.env)] := by rfl) (hs2 : starEach [b] X.env = [(false, eval b X.env)] := by rfl) : XW X tg (.Call (.Name "range" p) [a, b] [] pos) Γ ((rng lo n).map D.int) := xi_of (pi_range2 hg hm pa_wp hs hs2) fun σ Hb H E R q => h σ Hb H E _ fun vs ds Hb1 H1 p1 g1 E1 r1 => by
  subst p1
  obtain ⟨v, w, rfl, r, r'⟩ := r1.two_inv
  cases r
  cases r'
  exact ⟨lo, n, rfl, ⟨by omega, by omega, by omega, by omega⟩, q _ _ Hb1 H1 rfl g1 E1 itd_rng⟩
end

/-! ### comprehensions -/
section
variable {K : PySem.W.Frag} {m : Bool} {Γ : List Sl} {wi : TI} {g : TG} {tt : TT} {te : TE}
theorem jn_lc {vs js : List Nat} {Φ : List D → Prop} (es : List D → Nat → List D) (P : List D → Nat → List D → Prop) (hw : wipeG Γ vs = Γ) (hi : JI K m wi Γ Φ) (hv : ∀ j ∈ js, j ∈ vs) (hl : ∀ ds, Φ ds → ds.length ≤ 100000) (h0 : ∀ ds, Φ ds → P ds 0 [])
    (hg : ∀ ds, Φ ds → ∀ (i : Nat) d, ds[i]? = some d → XGt K g d js (es ds i))
    (hs : ∀ ds, Φ ds → ∀ (i : Nat) d acc, ds[i]? = some d → P ds i acc → JT K m tt (setG Γ js (es ds i)) fun b => (b = true → JR K m te (setG Γ js (es ds i)) fun e => P ds (i + 1) (acc ++ [e])) ∧ (b = false → P ds (i + 1) acc)) :
    JN K m (tLc wi g tt te vs) Γ fun o => ∃ ds acc, Φ ds ∧ o = .ml acc ∧ P ds ds.length acc := fun σ Hb H E Q q => by
  refine hi σ Hb H E _ fun J ds Hb1 H1 p1 g1 E1 it => fun Dl nD => ?_
  have nb : Hb1 Dl = none := fresh_back E1.ex nD
  have noD : ¬ Own σ Γ Dl := fun z => (E1.own_some z).1 nD
  have hlen := hl ds p1
  let St : Nat → Hp → Prop := fun i H2 => ∃ Hb2 ws acc, Gr (fun a => WW m σ Γ a ∨ a = Dl) Hb1 (upd H1 Dl (.lst [])) Hb2 H2 ∧ En K Hb2 H2 σ Γ ∧ Hb2 Dl = none ∧ H2 Dl = some (.lst ws) ∧ DRs K Hb2 ws acc ∧ acc.length ≤ i ∧ P ds i acc
  refine ⟨fun i mm H2 => mm = ds.length - i ∧ i ≤ ds.length ∧ St i H2, ⟨ds.length, by simp, Nat.zero_le _, Hb1, [], [], Gr.refl (New.side E1.ex nD).s, E1.new (New.side E1.ex nD), nb, upd_same, .nil, Nat.le_refl _, h0 ds p1⟩, ?_⟩
  rintro i mm H2 ⟨rfl, hi', Hb2, ws, acc, g2, E2, n2, h2, r2, la, pp⟩
  by_cases hlt : i < ds.length
  · obtain ⟨go, yl⟩ := (it Hb2 H2 g2.b E2.ex i).1 hlt
    refine .inr ⟨go, St (i + 1), fun H' hN => ⟨ds.length - (i + 1), by omega, rfl, hlt, hN⟩, fun x H3 y => ?_⟩
    obtain ⟨d, Hb3, e, g3, rx⟩ := yl x H3 y
    have E3 := E2.new g3
    have n3 : Hb3 Dl = none := (g3.f Dl (by rw [h2]; simp) (by rw [h2]; simp) fun z => z).trans n2
    have h3 := g3.ex Dl _ h2
    refine hg ds p1 i d e x Hb3 H3 (wipe σ vs) _ E3.ex rx fun vals rv => ⟨(wipe_setL hv).trans wipe_wipe, ?_⟩
    have E4 : En K Hb3 H3 (DL.setL (wipe σ vs) js vals) (setG Γ js (es ds i)) := by
      have z := (E3.wipe vs).setL (js := js) rv
      rw [hw] at z
      exact z
    have ow : ∀ a, Own (DL.setL (wipe σ vs) js vals) (setG Γ js (es ds i)) a → Own σ Γ a := fun a z => by
      have z2 := Own.setL rv.len z
      rw [← hw] at z2
      exact Own.wipe z2
    have kk : ∀ (k : Nat) (m : MO), Γ[k]? = some (.ow m) → (setG Γ js (es ds i))[k]? = some (.ow m) ∧ (DL.setL (wipe σ vs) js vals)[k]? = σ[k]? := fun k m z => by
      have ni : k ∉ vs := fun y => by
        rw [← hw] at z
        cases wipeG_un y z
      have nj : k ∉ js := fun y => ni (hv k y)
      refine ⟨(setG_ne nj).trans z, (setL_ne nj).trans ?_⟩
      rw [wipe_get, if_neg fun y => ni y.1]
    have noW : ¬ WW m (DL.setL (wipe σ vs) js vals) (setG Γ js (es ds i)) Dl := fun z => noD (ow _ z.2)
    refine hs ds p1 i d acc e pp _ Hb3 H3 E4 _ fun b Hb5 H5 fb g5 E5 => ?_
    have h5 := g5.h Dl _ h3 noW
    have n5 : Hb5 Dl = none := (g5.f Dl (by rw [h3]; simp) (by rw [h3]; simp) noW).trans n3
    have G5 : Gr (fun a => WW m σ Γ a ∨ a = Dl) Hb1 (upd H1 Dl (.lst [])) Hb5 H5 := (g2.trans g3 fun _ z => z.elim).trans g5 fun a z => .inl (.inl ⟨z.1, ow a z.2⟩)
    cases b with
    | true =>
      refine iteT ((fb.1 rfl) _ Hb5 H5 E5 _ fun y e5 Hb6 H6 f6 g6 E6 r6 => ?_)
      have h6 := g6.h Dl _ h5 noW
      have n6 : Hb6 Dl = none := (g6.f Dl (by rw [h5]; simp) (by rw [h5]; simp) noW).trans n5
      have G6 := G5.trans g6 fun a z => .inl (.inl ⟨z.1, ow a z.2⟩)
      have E7 : En K Hb6 H6 σ Γ := E3.back (g5.trans g6 fun _ z => .inl z) E6 kk
      refine ⟨ws, h6, sz_lt (by rw [r2.len]; omega), Hb6, ws ++ [y], acc ++ [e5], G6.trans (Gr.put (W := fun a => a = Dl) E7.ex n6 (by rw [h6]; simp) rfl) (fun a z => .inl (.inr z)), E7.side n6 noD, n6, upd_same, (r2.mono (g3.b.trans (g5.b.trans g6.b))).app (.one r6), ?_, f6⟩
      rw [List.length_append]
      show acc.length + 1 ≤ i + 1
      omega
    | false =>
      exact iteF ⟨Hb5, ws, acc, G5, E3.back g5 E5 kk, n5, h5, r2.mono (g3.b.trans g5.b), by omega, fb.2 rfl⟩
  · have e : i = ds.length := by omega
    refine .inl ⟨(it Hb2 H2 g2.b E2.ex i).2 (by omega), q Dl (.lst ws) (.ml acc) Hb2 H2 ⟨ds, acc, p1, rfl, by rw [← e]; exact pp⟩ (new_none g1 nD) ?_ E2 n2 h2 ⟨ws, rfl, r2⟩⟩
    refine g1.trans ((New.side (o := .lst []) E1.ex nD).gr (W := WW m σ Γ) |>.trans g2 fun a z => ?_) fun a z => .inl z
    rcases z with z | z
    · exact .inl z
    · subst z
      exact .inr nD
end
section
variable {X : Cx} {m : Bool} {elt tg iter c : Expr} {ifs : List Expr} {scope : Scope} {Γ : List Sl} {pos : Pos} {own : List (Str × Nat)} {g : TG}
abbrev Bk (X : Cx) (scope : Scope) (f : Cx → Prop) : Prop := ∀ (s : Shared) (H : Hp) (C : Addr) (cl : List (Str × Addr)) (fp : List Addr), f (X.blk s H scope (compEnvC scope cl C X.env) fp)
abbrev wbE (X : Cx) (scope : Scope) (e : Expr) : TE := fun σ H Q => ∀ (s : Shared) (H0 : Hp) (C : Addr) (cl : List (Str × Addr)) (fp : List Addr), wpE (X.blk s H0 scope (compEnvC scope cl C X.env) fp) e σ H Q
abbrev wbT (X : Cx) (scope : Scope) (e : Expr) : TT := fun σ H Q => ∀ (s : Shared) (H0 : Hp) (C : Addr) (cl : List (Str × Addr)) (fp : List Addr), wpT (X.blk s H0 scope (compEnvC scope cl C X.env) fp) e σ H Q
abbrev wbI (X : Cx) (scope : Scope) (tg e : Expr) : TI := fun σ H Q => ∀ (s : Shared) (H0 : Hp) (C : Addr) (cl : List (Str × Addr)) (fp : List Addr), wpI (X.blk s H0 scope (compEnvC scope cl C X.env) fp) tg e σ H Q
theorem pe_wb {e : Expr} (s : Shared) (H0 : Hp) (C : Addr) (cl : List (Str × Addr)) (fp : List Addr) : PE (X.blk s H0 scope (compEnvC scope cl C X.env) fp) e (wbE X scope e) := ⟨fun pins s' σ H Q I h => h s H0 C cl fp pins s' I⟩
theorem pt_wb {e : Expr} (s : Shared) (H0 : Hp) (C : Addr) (cl : List (Str × Addr)) (fp : List Addr) : PT (X.blk s H0 scope (compEnvC scope cl C X.env) fp) e (wbT X scope e) := ⟨fun pins s' σ H Q I h => h s H0 C cl fp pins s' I⟩
theorem pi_wb {tg e : Expr} (s : Shared) (H0 : Hp) (C : Addr) (cl : List (Str × Addr)) (fp : List Addr) : PI (X.blk s H0 scope (compEnvC scope cl C X.env) fp) tg e (wbI X scope tg e) := ⟨fun pins s' σ H Q I h => h s H0 C cl fp pins s' I⟩
theorem jr_wb {e : Expr} {Γ : List Sl} {Φ : D → Prop} (h : Bk X scope fun Y => XE Y m e Γ Φ) : JR X.K m (wbE X scope e) Γ Φ := fun σ Hb H E Q q s H0 C cl fp => h s H0 C cl fp σ Hb H E Q q
theorem jt_wb {e : Expr} {Γ : List Sl} {Φ : Bool → Prop} (h : Bk X scope fun Y => XT Y m e Γ Φ) : JT X.K m (wbT X scope e) Γ Φ := fun σ Hb H E Q q s H0 C cl fp => h s H0 C cl fp σ Hb H E Q q
theorem ji_wb {tg e : Expr} {Γ : List Sl} {Φ : List D → Prop} (h : Bk X scope fun Y => XI Y m tg e Γ Φ) : JI X.K m (wbI X scope tg e) Γ Φ := fun σ Hb H E Q q s H0 C cl fp => h s H0 C cl fp σ Hb H E Q q
theorem jt_yes {K : PySem.W.Frag} {Φ : Bool → Prop} (h : Φ true) : JT K m tYes Γ Φ := fun σ Hb H E Q q => q true Hb H h (Gr.refl E.ex) E

/-- what a clause reads of its tests -/
inductive Ifs (X : Cx) (scope : Scope) : List Expr → TT → Prop
  | no : Ifs X scope [] tYes
  | one {c : Expr} : Ifs X scope [c] (wbT X scope c)
theorem Ifs.ok {tt : TT} (h : Ifs X scope ifs tt) (s : Shared) (H0 : Hp) (C : Addr) (cl : List (Str × Addr)) (fp : List Addr) : PTs (X.blk s H0 scope (compEnvC scope cl C X.env) fp) ifs tt := by
  cases h with
  | no => exact pts_nil
  | one => exact pts_one (pt_wb s H0 C cl fp)

/-- the pure comprehension over typed items, read -/
theorem jn_lcP {α β : Type} {K : PySem.W.Frag} {wi : TI} {tt : TT} {te : TE} {vs js : List Nat} {f : α → D} {xs : List α} {es : α → List D} {p : α → Bool} {f' : β → D} {h : α → β} (hw : wipeG Γ vs = Γ) (hi : JI K false wi Γ fun z => z = xs.map f) (hv : ∀ j ∈ js, j ∈ vs) (hl : xs.length ≤ 100000)
    (hg : ∀ x ∈ xs, XGt K g (f x) js (es x)) (ht : ∀ x ∈ xs, JT K false tt (setG Γ js (es x)) fun z => z = p x) (he : ∀ x ∈ xs, p x = true → JR K false te (setG Γ js (es x)) fun z => z = f' (h x)) :
    JN K false (tLc wi g tt te vs) Γ fun o => o = .ml (((xs.filter p).map h).map f') := by
  have key := jn_lc (K := K) (m := false) (Γ := Γ) (wi := wi) (g := g) (tt := tt) (te := te) (vs := vs) (js := js) (Φ := fun z => z = xs.map f) (fun _ i => (xs[i]?.map es).getD []) (fun _ i acc => acc = (((xs.take i).filter p).map h).map f') hw hi hv
    (fun ds e => by rw [e, List.length_map]; exact hl) (fun ds e => by simp) (fun ds e i d hd => ?_) (fun ds e i d acc hd hp => ?_)
  · exact fun σ Hb H E Q q => key σ Hb H E Q fun a u o Hb' H' z => q a u o Hb' H' (by
      obtain ⟨ds, acc, e1, e2, e3⟩ := z
      rw [e2, e3, e1, List.length_map, List.take_length])
  · subst e
    rw [List.getElem?_map] at hd
    cases hx : xs[i]? with
    | none => rw [hx] at hd; cases hd
    | some x =>
      rw [hx] at hd
      cases hd
      exact hg x (List.mem_of_getElem? hx)
  · subst e
    rw [List.getElem?_map] at hd
    cases hx : xs[i]? with
    | none => rw [hx] at hd; cases hd
    | some x =>
      rw [hx] at hd
      cases hd
      have mx := List.mem_of_getElem? hx
      have et : xs.take (i + 1) = xs.take i ++ [x] := by rw [List.take_add_one, hx]; rfl
      intro σ Hb H E Q q
      refine ht x mx σ Hb H E Q fun b Hb' H' z g' E' => q b Hb' H' ⟨fun hb => ?_, fun hb => ?_⟩ g' E'
      · subst hb
        intro σ2 Hb2 H2 E2 Q2 q2
        refine he x mx z.symm σ2 Hb2 H2 E2 Q2 fun v d Hb3 H3 w g3 E3 r3 => q2 v d Hb3 H3 ?_ g3 E3 r3
        rw [hp, et, List.filter_append, List.map_append, List.map_append, w]
        simp [List.filter_cons, ← z]
      · subst hb
        rw [hp, et, List.filter_append]
        simp [List.filter_cons, ← z]
end
end DL

namespace DL
open PySem PySem.Spec PyProof.Rows L2 Evl

/-! ### comprehensions as expressions -/
section
variable {X : Cx} {m : Bool} {elt tg iter c : Expr} {ifs : List Expr} {scope : Scope} {Γ : List Sl} {pos : Pos} {own : List (Str × Nat)} {g : TG} {tt : TT}
/-- pure, over typed items; f': how the new items stand, h: what they are, p: the test -/
theorem xo_lc {α β : Type} {f : α → D} {xs : List α} (js : List Nat) (es : α → List D) (p : α → Bool) (f' : β → D) (h : α → β) (own : List (Str × Nat)) (hi : XW X tg iter Γ (xs.map f)) (hg : Bk X scope fun Y => PG Y tg g) (gt : ∀ x ∈ xs, XGt X.K g (f x) js (es x)) (hf : Ifs X scope ifs tt)
    (ht : ∀ x ∈ xs, JT X.K false tt (setG Γ js (es x)) fun z => z = p x) (he : ∀ x ∈ xs, p x = true → Bk X scope fun Y => XV Y elt (setG Γ js (es x)) (f' (h x))) (hl : xs.length ≤ 100000) (ok : BlkOk X.N X.env.scope scope own) (hN : X.N.Nodup) (hw : wipeG Γ (own.map (·.2)) = Γ := by rfl) (hv : ∀ j ∈ js, j ∈ own.map (·.2) := by decide)
    (hc : X.calm = true := by rfl) (hs : ∀ x, foldedSetIterable iter X.env x = pure x := by intro _; rfl) : XO X (.ListComp elt [⟨tg, iter, ifs, 0⟩] scope pos) Γ (.ml (((xs.filter p).map h).map f')) :=
  xn_of (pe_lc hc hN pi_wp ok hg hf.ok pe_wb hs) (jn_lcP hw hi hv hl gt ht fun x hx hp => jr_wb (he x hx hp))
/-- one that may change owned objects: P, what holds of the turns -/
theorem xn_lc {Φ : List D → Prop} (js : List Nat) (es : List D → Nat → List D) (P : List D → Nat → List D → Prop) (own : List (Str × Nat)) (hi : XI X m tg iter Γ Φ) (hg : Bk X scope fun Y => PG Y tg g) (gt : ∀ ds, Φ ds → ∀ (i : Nat) d, ds[i]? = some d → XGt X.K g d js (es ds i)) (hf : Ifs X scope ifs tt) (h0 : ∀ ds, Φ ds → P ds 0 [])
    (hs : ∀ ds, Φ ds → ∀ (i : Nat) d acc, ds[i]? = some d → P ds i acc → JT X.K m tt (setG Γ js (es ds i)) fun b => (b = true → Bk X scope fun Y => XE Y m elt (setG Γ js (es ds i)) fun e => P ds (i + 1) (acc ++ [e])) ∧ (b = false → P ds (i + 1) acc)) (hl : ∀ ds, Φ ds → ds.length ≤ 100000) (ok : BlkOk X.N X.env.scope scope own) (hN : X.N.Nodup) (hw : wipeG Γ (own.map (·.2)) = Γ := by rfl) (hv : ∀ j ∈ js, j ∈ own.map (·.2) := by decide)
    (hc : X.calm = true := by rfl) (hss : ∀ x, foldedSetIterable iter X.env x = pure x := by intro _; rfl) : XN X m (.ListComp elt [⟨tg, iter, ifs, 0⟩] scope pos) Γ fun o => ∃ ds acc, Φ ds ∧ o = .ml acc ∧ P ds ds.length acc :=
  xn_of (pe_lc hc hN pi_wp ok hg hf.ok pe_wb hss) (jn_lc es P hw hi hv hl h0 gt fun ds e i d acc hd hp => fun σ Hb H E Q q => hs ds e i d acc hd hp σ Hb H E Q fun b Hb' H' z => q b Hb' H' ⟨fun hb => jr_wb (z.1 hb), z.2⟩)
end

/-! ### statements -/
structure Dn where
  nx : List Sl → Prop
  rt : D → List Sl → Prop
  bk : List Sl → Prop := fun _ => False
  ct : List Sl → Prop := fun _ => False
structure GS (K : PySem.W.Frag) (kp : Nat) (σ : L2.St) (Γ : List Sl) (Hb H : Hp) (σ' : L2.St) (Γ' : List Sl) (Hb' H' : Hp) : Prop where
  gr : Gr (Own σ Γ) Hb H Hb' H'
  en : En K Hb' H' σ' Γ'
  own : ∀ a, Own σ' Γ' a → Own σ Γ a ∨ H a = none
  kp : ∀ i, i < kp → σ'[i]? = σ[i]?
section
variable {K : PySem.W.Frag} {kp : Nat} {σ σ' σ2 : L2.St} {Γ Γ' Γ2 : List Sl} {Hb H Hb' H' Hb2 H2 : Hp} {m : Bool}
theorem GS.trans (x : GS K kp σ Γ Hb H σ' Γ' Hb' H') (y : GS K kp σ' Γ' Hb' H' σ2 Γ2 Hb2 H2) : GS K kp σ Γ Hb H σ2 Γ2 Hb2 H2 where
  gr := x.gr.trans y.gr x.own
  en := y.en
  own := fun a h => (y.own a h).elim (x.own a) fun z => .inr (new_none x.gr z)
  kp := fun i h => (y.kp i h).trans (x.kp i h)
theorem GS.refl (E : En K Hb H σ Γ) : GS K kp σ Γ Hb H σ Γ Hb H := ⟨Gr.refl E.ex, E, fun _ h => .inl h, fun _ _ => rfl⟩
theorem GS.of (g : Gr (WW m σ Γ) Hb H Hb' H') (E : En K Hb' H' σ Γ) : GS K kp σ Γ Hb H σ Γ Hb' H' := ⟨g.wk fun _ z => z.2, E, fun _ h => .inl h, fun _ _ => rfl⟩
end
def JS (K : PySem.W.Frag) (kp : Nat) (ts : TS) (Γ : List Sl) (G : Dn) : Prop := ∀ (σ : L2.St) (Hb H : Hp), En K Hb H σ Γ → ∀ E : Ends,
  (∀ Γ' σ' Hb' H', G.nx Γ' → GS K kp σ Γ Hb H σ' Γ' Hb' H' → E.nx σ' H') → (∀ Γ' σ' Hb' H', G.bk Γ' → GS K kp σ Γ Hb H σ' Γ' Hb' H' → E.bk σ' H') → (∀ Γ' σ' Hb' H', G.ct Γ' → GS K kp σ Γ Hb H σ' Γ' Hb' H' → E.ct σ' H') →
  (∀ d v Γ' σ' Hb' H', G.rt d Γ' → GS K kp σ Γ Hb H σ' Γ' Hb' H' → DR K Hb' v d → E.rt v H') → ts E σ H
def wpS (X : Cx) (st : Stmt) : TS := fun E σ H => ∀ (pins : List (Addr × Obj)) (s : Shared), Inv X pins σ H s → wpAny (model X.prog X.w) X.A (exec st X.env) (SP X pins E) X.xe s
def wpSs (X : Cx) (st : List Stmt) : TS := fun E σ H => ∀ (pins : List (Addr × Obj)) (s : Shared), Inv X pins σ H s → wpAny (model X.prog X.w) X.A (execs st X.env) (SP X pins E) X.xe s
theorem ps_wp {X : Cx} {e : Stmt} : PS X e (wpS X e) := ⟨fun pins s _ _ _ I h => h pins s I⟩
theorem pss_wp {X : Cx} {e : List Stmt} : PSs X e (wpSs X e) := ⟨fun pins s _ _ _ I h => h pins s I⟩
def XS (X : Cx) (kp : Nat) (st : Stmt) (Γ : List Sl) (G : Dn) : Prop := JS X.K kp (wpS X st) Γ G
def XSs (X : Cx) (kp : Nat) (st : List Stmt) (Γ : List Sl) (G : Dn) : Prop := JS X.K kp (wpSs X st) Γ G
section
variable {X : Cx} {kp : Nat} {st : Stmt} {sts rest : List Stmt} {Γ : List Sl} {G : Dn} {ts : TS} {m : Bool} {e c : Expr} {pos : Pos} {Φ : D → Prop}
theorem xs_of (h : PS X st ts) (r : JS X.K kp ts Γ G) : XS X kp st Γ G := fun σ Hb H E F a b c d pins s I => h.run pins s σ H F I (r σ Hb H E F a b c d)
theorem xss_of (h : PSs X sts ts) (r : JS X.K kp ts Γ G) : XSs X kp sts Γ G := fun σ Hb H E F a b c d pins s I => h.run pins s σ H F I (r σ Hb H E F a b c d)
theorem js_seq {K : PySem.W.Frag} {t u : TS} (h : JS K kp t Γ { G with nx := fun Γ' => JS K kp u Γ' G }) : JS K kp (tSeq t u) Γ G := fun σ Hb H E F a b c d =>
  h σ Hb H E { F with nx := u F } (fun Γ1 σ1 Hb1 H1 z g => z σ1 Hb1 H1 g.en F (fun Γ2 σ2 Hb2 H2 y k => a Γ2 σ2 Hb2 H2 y (g.trans k)) (fun Γ2 σ2 Hb2 H2 y k => b Γ2 σ2 Hb2 H2 y (g.trans k)) (fun Γ2 σ2 Hb2 H2 y k => c Γ2 σ2 Hb2 H2 y (g.trans k)) fun d2 v Γ2 σ2 Hb2 H2 y k => d d2 v Γ2 σ2 Hb2 H2 y (g.trans k)) b c d
theorem xs_cons (h : XS X kp st Γ { G with nx := fun Γ' => XSs X kp rest Γ' G }) : XSs X kp (st :: rest) Γ G := xss_of (pss_cons ps_wp pss_wp) (js_seq h)
theorem xs_nil (h : G.nx Γ) : XSs X kp [] Γ G := xss_of pss_nil fun σ Hb H E F a b c d => a Γ σ Hb H h (GS.refl E)
theorem xs_pass (h : G.nx Γ) : XS X kp (.Pass pos) Γ G := xs_of ps_pass fun σ Hb H E F a b c d => a Γ σ Hb H h (GS.refl E)
theorem xs_break (h : G.bk Γ) : XS X kp (.Break pos) Γ G := xs_of ps_break fun σ Hb H E F a b c d => b Γ σ Hb H h (GS.refl E)
theorem xs_continue (h : G.ct Γ) : XS X kp (.Continue pos) Γ G := xs_of ps_continue fun σ Hb H E F a b c d => c Γ σ Hb H h (GS.refl E)
/-- what is asked may be less -/
theorem XSs.le {Γ' : List Sl} (h : XSs X kp sts Γ' G) (l : Le Γ Γ') : XSs X kp sts Γ G := fun σ Hb H E F a b c d => by
  have kk : ∀ Γ2 σ2 Hb2 H2, GS X.K kp σ Γ' Hb H σ2 Γ2 Hb2 H2 → GS X.K kp σ Γ Hb H σ2 Γ2 Hb2 H2 := fun Γ2 σ2 Hb2 H2 g => ⟨g.gr.wk fun _ z => z.le l, g.en, fun a z => (g.own a z).imp (fun y => y.le l) id, g.kp⟩
  exact h σ Hb H (E.le l) F (fun Γ2 σ2 Hb2 H2 y k => a Γ2 σ2 Hb2 H2 y (kk _ _ _ _ k)) (fun Γ2 σ2 Hb2 H2 y k => b Γ2 σ2 Hb2 H2 y (kk _ _ _ _ k)) (fun Γ2 σ2 Hb2 H2 y k => c Γ2 σ2 Hb2 H2 y (kk _ _ _ _ k)) fun d2 v Γ2 σ2 Hb2 H2 y k => d d2 v Γ2 σ2 Hb2 H2 y (kk _ _ _ _ k)
/-- an owned list is data from here on -/
theorem xs_freeze (i : Nat) {ds : List D} (h : XSs X kp sts (Γ.set i (.pd (.lst ds))) G) (hi : Γ[i]? = some (.ow (.ml ds)) := by rfl) (hk : kp ≤ i := by decide) : XSs X kp sts Γ G := fun σ Hb H E F a b c d => by
  obtain ⟨p, vs, h1, h2, h3, h4, h5, E2⟩ := E.freeze hi
  have ow : ∀ q, Own σ (Γ.set i (.pd (.lst ds))) q → Own σ Γ q := fun q ⟨j, m, z1, z2⟩ => by
    rcases set_at z1 with ⟨rfl, y2, y3⟩ | ⟨y1, y2⟩
    · cases y2
    · exact ⟨j, m, y2, z2⟩
  have kk : ∀ Γ2 σ2 Hb2 H2, GS X.K kp σ (Γ.set i (.pd (.lst ds))) (upd Hb p (.lst vs)) H σ2 Γ2 Hb2 H2 → GS X.K kp σ Γ Hb H σ2 Γ2 Hb2 H2 := fun Γ2 σ2 Hb2 H2 g => by
    refine ⟨⟨(Ex.new h4).trans g.gr.b, fun q o y n => g.gr.h q o y fun z => n (ow q z), g.gr.al, g.gr.s, fun q y t n => ?_⟩, g.en, fun q z => (g.own q z).imp (ow q) id, g.kp⟩
    rw [g.gr.f q y t fun z => n (ow q z), upd_ne fun z => n (by rw [z]; exact h5)]
  exact h σ _ H E2 F (fun Γ2 σ2 Hb2 H2 y k => a Γ2 σ2 Hb2 H2 y (kk _ _ _ _ k)) (fun Γ2 σ2 Hb2 H2 y k => b Γ2 σ2 Hb2 H2 y (kk _ _ _ _ k)) (fun Γ2 σ2 Hb2 H2 y k => c Γ2 σ2 Hb2 H2 y (kk _ _ _ _ k)) fun d2 v Γ2 σ2 Hb2 H2 y k => d d2 v Γ2 σ2 Hb2 H2 y (kk _ _ _ _ k)
end
end DL

namespace DL
open PySem PySem.Spec PyProof.Rows L2 Evl

section
variable {K : PySem.W.Frag} {kp : Nat} {Γ : List Sl} {G : Dn} {te : TE} {tt : TT} {t u tb : TS} {m : Bool} {Φ : D → Prop} {g : TG}
theorem js_asgG {js : List Nat} (es : D → List D) (h : JR K m te Γ Φ) (gt : ∀ d, Φ d → XGt K g d js (es d)) (hk : ∀ j ∈ js, kp ≤ j) (k : ∀ d, Φ d → G.nx (setG Γ js (es d))) : JS K kp (tAsg te g) Γ G := fun σ Hb H E F a b c d => h σ Hb H E _ fun v z Hb1 H1 p g1 E1 r =>
  gt z p v Hb1 H1 σ _ E1.ex r fun vs rv => a _ _ Hb1 H1 (k z p) ((GS.of g1 E1).trans ⟨Gr.refl E1.ex, E1.setL rv, fun q y => .inl (Own.setL rv.len y), fun i hi => setL_ne fun y => by have := hk i y; omega⟩)
theorem js_asg {i : Nat} (h : JR K m te Γ Φ) (k : ∀ d, Φ d → G.nx (Γ.set i (.pd d))) (hk : kp ≤ i) : JS K kp (tAsg te (gName i)) Γ G := js_asgG (fun d => [d]) h (fun d _ => gt_name) (fun j hj => by
  rw [List.mem_singleton.mp hj]
  exact hk) k
theorem js_asgN {i : Nat} {Φ : MO → Prop} (h : JN K m te Γ Φ) (k : ∀ o, Φ o → G.nx (Γ.set i (.ow o))) (hk : kp ≤ i) : JS K kp (tAsg te (gName i)) Γ G := fun σ Hb H E F a b c d => h σ Hb H E _ fun p w o Hb1 H1 z n g1 E1 nb hp r => by
  have no : ¬ Own σ Γ p := fun y => (E.own_some y).1 n
  refine a _ _ Hb1 H1 (k o z) ⟨g1.wk fun _ y => y.2, E1.take nb hp r no, fun q y => ?_, fun j hj => List.getElem?_set_ne (by omega)⟩
  obtain ⟨j, m', h1, h2⟩ := y
  rcases set_at h1 with ⟨rfl, z2, z3⟩ | ⟨z1, z2⟩
  · rw [List.getElem?_set_self (by rw [E1.len]; exact z3)] at h2
    cases h2
    exact .inr n
  · rw [List.getElem?_set_ne z1] at h2
    exact .inl ⟨j, m', z2, h2⟩
theorem GS.more {σ : L2.St} {Hb H Hb1 H1 : Hp} (g : Gr (WW m σ Γ) Hb H Hb1 H1) (E : En K Hb1 H1 σ Γ) {Γ2 : List Sl} {σ2 : L2.St} {Hb2 H2 : Hp} (x : GS K kp σ Γ Hb1 H1 σ2 Γ2 Hb2 H2) : GS K kp σ Γ Hb H σ2 Γ2 Hb2 H2 := (GS.of g E).trans x
theorem js_if {Φ : Bool → Prop} (h : JT K m tt Γ Φ) (h1 : Φ true → JS K kp t Γ G) (h2 : Φ false → JS K kp u Γ G) : JS K kp (tIfS tt t u) Γ G := fun σ Hb H E F a b c d => h σ Hb H E _ fun z Hb1 H1 p g1 E1 => by
  cases z with
  | true => exact iteT (h1 p σ Hb1 H1 E1 F (fun _ _ _ _ y x => a _ _ _ _ y (x.more g1 E1)) (fun _ _ _ _ y x => b _ _ _ _ y (x.more g1 E1)) (fun _ _ _ _ y x => c _ _ _ _ y (x.more g1 E1)) fun _ _ _ _ _ _ y x => d _ _ _ _ _ _ y (x.more g1 E1))
  | false => exact iteF (h2 p σ Hb1 H1 E1 F (fun _ _ _ _ y x => a _ _ _ _ y (x.more g1 E1)) (fun _ _ _ _ y x => b _ _ _ _ y (x.more g1 E1)) (fun _ _ _ _ y x => c _ _ _ _ y (x.more g1 E1)) fun _ _ _ _ _ _ y x => d _ _ _ _ _ _ y (x.more g1 E1))
theorem js_ret (h : JR K m te Γ Φ) (k : ∀ d, Φ d → G.rt d Γ) : JS K kp (tRet te) Γ G := fun σ Hb H E F a b c d => h σ Hb H E _ fun v z Hb1 H1 p g1 E1 r => d z v Γ σ Hb1 H1 (k z p) (GS.of g1 E1) r
theorem js_drop (h : JR K m te Γ Φ) (k : (∃ d, Φ d) → G.nx Γ) : JS K kp (tDrop te) Γ G := fun σ Hb H E F a b c d => h σ Hb H E _ fun v z Hb1 H1 p g1 E1 r => a Γ σ Hb1 H1 (k ⟨z, p⟩) (GS.of g1 E1)
theorem En.own_at {Hb H : Hp} {σ : L2.St} (E : En K Hb H σ Γ) {i : Nat} {ds : List D} (h : Γ[i]? = some (.ow (.ml ds))) : ∃ a vs, σ[i]? = some (some (.ref a)) ∧ Hb a = none ∧ H a = some (.lst vs) ∧ DRs K Hb vs ds := by
  obtain ⟨a, w, h1, h2, h3, vs, rfl, h5⟩ := E.own i _ h
  exact ⟨a, vs, h1, h2, h3, h5⟩
theorem own_set {σ : L2.St} {i : Nat} {o o' : MO} (h : Γ[i]? = some (.ow o)) {q : Addr} (y : Own σ (Γ.set i (.ow o')) q) : Own σ Γ q := by
  obtain ⟨j, m', h1, h2⟩ := y
  rcases set_at h1 with ⟨rfl, z2, z3⟩ | ⟨z1, z2⟩
  · exact ⟨i, o, h, h2⟩
  · exact ⟨j, m', z2, h2⟩
theorem GS.put {Hb H : Hp} {σ : L2.St} {i : Nat} {o o' : MO} {a : Addr} {w : HO} (E : En K Hb H σ Γ) (h : Γ[i]? = some (.ow o)) (ha : σ[i]? = some (some (.ref a))) (r : MR K Hb w o') : GS K kp σ Γ Hb H σ (Γ.set i (.ow o')) Hb (upd H a w) := by
  have q : Own σ Γ a := ⟨i, o, h, ha⟩
  exact ⟨Gr.put E.ex (E.own_some q).2 (E.own_some q).1 q, E.put h ha r, fun b y => .inl (own_set h y), fun _ _ => rfl⟩
theorem js_app {i : Nat} {ds : List D} (h : Γ[i]? = some (.ow (.ml ds))) (he : JR K m te Γ Φ) (hz : ds.length < 100000) (k : ∀ d, Φ d → G.nx (Γ.set i (.ow (.ml (ds ++ [d]))))) : JS K kp (tDrop (tBM K "list" rAppend (tVar i) (tCons te tNil))) Γ G := fun σ Hb H E F a b c d => by
  obtain ⟨p, vs, h1, h2, h3, h4⟩ := E.own_at h
  refine ⟨.ref p, h1, .inl ⟨rfl, vs, SqL.of h3⟩, he σ Hb H E _ fun v z Hb1 H1 y g1 E1 r => ?_⟩
  obtain ⟨p', ws, k1, k2, k3, k4⟩ := E1.own_at h
  rw [h1] at k1
  cases k1
  exact ⟨p, ws, v, rfl, rfl, k3, sz_lt (by rw [k4.len]; exact hz), a _ _ _ _ (k z y) ((GS.of g1 E1).trans (GS.put E1 h h1 ⟨_, rfl, k4.app (.one r)⟩))⟩
/-- xs[i] = e -/
theorem js_setL {i j : Nat} {n : Int} {ds : List D} {tj : TE} (h : Γ[i]? = some (.ow (.ml ds))) (he : JR K m te Γ Φ) (hj : JR K false tj Γ fun z => z = .int n) (hn : ixN ds.length n = some j) (k : ∀ d, Φ d → G.nx (Γ.set i (.ow (.ml (ds.set j d))))) : JS K kp (tAsg te (gSub (tVar i) tj rSetL)) Γ G := fun σ Hb H E F a b c d => he σ Hb H E _ fun v z Hb1 H1 y g1 E1 r => by
  obtain ⟨p, vs, h1, h2, h3, h4⟩ := E1.own_at h
  refine ⟨.ref p, h1, hj σ Hb1 H1 E1 _ fun v2 z2 Hb2 H2 y2 g2 E2 r2 => ?_⟩
  subst y2
  cases r2
  obtain ⟨p', ws, k1, k2, k3, k4⟩ := E2.own_at h
  rw [h1] at k1
  cases k1
  exact ⟨p, ws, n, j, rfl, rfl, k3, by rw [k4.len]; exact hn, a _ _ _ _ (k z y) ((GS.of (gww g1 (ww_lift g2)) E2).trans (GS.put E2 h h1 ⟨_, rfl, k4.set (r.mono g2.b) j⟩))⟩
theorem js_aug {i : Nat} {f : Int → Int → Int} {x : Int} (h : Γ[i]? = some (.pd (.int x))) (he : JR K m te Γ fun z => ∃ y, z = .int y ∧ Φ (.int y)) (k : ∀ y, Φ (.int y) → G.nx (Γ.set i (.pd (.int (f x y))))) (hk : kp ≤ i) : JS K kp (tAug i te (ipI f)) Γ G := fun σ Hb H E F a b c d => by
  obtain ⟨v, h1, r1⟩ := E.val i _ h
  cases r1
  refine ⟨.int x, h1, he σ Hb H E _ fun w z Hb1 H1 p g1 E1 r => ?_⟩
  obtain ⟨y, rfl, q⟩ := p
  cases r
  exact ⟨x, y, rfl, rfl, a _ _ _ _ (k y q) ((GS.of g1 E1).trans ⟨Gr.refl E1.ex, E1.set (.int (f x y)) i, fun b z => .inl z.set, fun j hj => List.getElem?_set_ne (by omega)⟩)⟩
/-- loops -/
theorem js_for {wi : TI} {js : List Nat} {Φ : List D → Prop} (es : List D → Nat → List D) (Inv : List D → Nat → List Sl → Prop) (hi : JI K m wi Γ Φ) (h0 : ∀ ds, Φ ds → Inv ds 0 Γ) (hg : ∀ ds, Φ ds → ∀ (i : Nat) d, ds[i]? = some d → XGt K g d js (es ds i)) (hj : ∀ j ∈ js, kp ≤ j)
    (hs : ∀ ds, Φ ds → ∀ (i : Nat) d Γ', ds[i]? = some d → Inv ds i Γ' → JS K kp tb (setG Γ' js (es ds i)) { nx := Inv ds (i + 1), ct := Inv ds (i + 1), bk := G.nx, rt := G.rt }) (hd : ∀ ds Γ', Φ ds → Inv ds ds.length Γ' → G.nx Γ') : JS K kp (tFor wi g tb) Γ G := fun σ Hb H E F a b c d => by
  refine hi σ Hb H E _ fun J ds Hb1 H1 p1 g1 E1 it => ?_
  refine ⟨fun i mm σ' H' => mm = ds.length - i ∧ i ≤ ds.length ∧ ∃ Γ' Hb', Inv ds i Γ' ∧ GS K kp σ Γ Hb1 H1 σ' Γ' Hb' H', ⟨ds.length, by simp, Nat.zero_le _, Γ, Hb1, h0 ds p1, GS.refl E1⟩, ?_⟩
  rintro i mm σ2 H2 ⟨rfl, hi', Γ2, Hb2, v2, G2⟩
  by_cases hlt : i < ds.length
  · obtain ⟨go, yl⟩ := (it Hb2 H2 G2.gr.b G2.en.ex i).1 hlt
    refine .inr ⟨go, fun σ' H' => ∃ Γ' Hb', Inv ds (i + 1) Γ' ∧ GS K kp σ Γ Hb1 H1 σ' Γ' Hb' H', fun σ' H' hN => ⟨ds.length - (i + 1), by omega, rfl, hlt, hN⟩, fun x H3 y => ?_⟩
    obtain ⟨z, Hb3, e, g3, rx⟩ := yl x H3 y
    have E3 := G2.en.new g3
    refine hg ds p1 i z e x Hb3 H3 σ2 _ E3.ex rx fun vals rv => ?_
    have G3 : GS K kp σ Γ Hb1 H1 (DL.setL σ2 js vals) (setG Γ2 js (es ds i)) Hb3 H3 := (G2.trans (GS.of (m := true) g3.gr E3)).trans ⟨Gr.refl E3.ex, E3.setL rv, fun q y => .inl (Own.setL rv.len y), fun j hj' => setL_ne fun y => by have := hj j y; omega⟩
    exact hs ds p1 i z Γ2 e v2 _ Hb3 H3 G3.en _ (fun Γ5 σ5 Hb5 H5 y x => ⟨Γ5, Hb5, y, G3.trans x⟩) (fun Γ5 σ5 Hb5 H5 y x => a _ _ _ _ y ((G3.trans x).more g1 E1)) (fun Γ5 σ5 Hb5 H5 y x => ⟨Γ5, Hb5, y, G3.trans x⟩) fun d5 v5 Γ5 σ5 Hb5 H5 y x => d _ _ _ _ _ _ y ((G3.trans x).more g1 E1)
  · have e : i = ds.length := by omega
    exact .inl ⟨(it Hb2 H2 G2.gr.b G2.en.ex i).2 (by omega), a _ _ _ _ (hd ds Γ2 p1 (by rw [← e]; exact v2)) (G2.more g1 E1)⟩
theorem js_while (Inv : Nat → List Sl → Prop) (n : Nat) (h0 : Inv n Γ) (hs : ∀ (k : Nat) Γ', Inv k Γ' → ∃ Φt : Bool → Prop, JT K m tt Γ' Φt ∧ (Φt true → JS K kp tb Γ' { nx := fun Γ2 => ∃ j, j < k ∧ Inv j Γ2, ct := fun Γ2 => ∃ j, j < k ∧ Inv j Γ2, bk := G.nx, rt := G.rt }) ∧ (Φt false → G.nx Γ')) : JS K kp (tWhile tt tb) Γ G := fun σ Hb H E F a b c d => by
  refine ⟨fun k σ' H' => ∃ Γ' Hb', Inv k Γ' ∧ GS K kp σ Γ Hb H σ' Γ' Hb' H', ⟨n, Γ, Hb, h0, GS.refl E⟩, ?_⟩
  rintro k σ2 H2 ⟨Γ2, Hb2, v2, G2⟩
  obtain ⟨Φt, ht, h1, h2⟩ := hs k Γ2 v2
  refine ht σ2 Hb2 H2 G2.en _ fun z Hb3 H3 p g3 E3 => ?_
  have G3 := G2.trans (GS.of (kp := kp) g3 E3)
  cases z with
  | true =>
    refine iteT ⟨fun σ' H' => ∃ j, j < k ∧ ∃ Γ' Hb', Inv j Γ' ∧ GS K kp σ Γ Hb H σ' Γ' Hb' H', fun σ' H' ⟨j, q, r⟩ => ⟨j, q, r⟩, ?_⟩
    exact h1 p σ2 Hb3 H3 E3 _ (fun Γ5 σ5 Hb5 H5 ⟨j, y, z⟩ x => ⟨j, y, Γ5, Hb5, z, G3.trans x⟩) (fun Γ5 σ5 Hb5 H5 y x => a _ _ _ _ y (G3.trans x)) (fun Γ5 σ5 Hb5 H5 ⟨j, y, z⟩ x => ⟨j, y, Γ5, Hb5, z, G3.trans x⟩) fun d5 v5 Γ5 σ5 Hb5 H5 y x => d _ _ _ _ _ _ y (G3.trans x)
  | false => exact iteF (a _ _ _ _ (h2 p) G3)
end

/-! ### .. of the text -/
section
variable {X : Cx} {kp : Nat} {st : Stmt} {sts rest body A B : List Stmt} {Γ : List Sl} {G : Dn} {m : Bool} {e c tg iter : Expr} {pos pos' : Pos} {Φ : D → Prop} {x : Str} {g : TG}
theorem xs_asg (i : Nat) (h : XE X m e Γ Φ) (k : ∀ d, Φ d → G.nx (Γ.set i (.pd d))) (hN : X.N.Nodup) (hk : kp ≤ i := by decide) (hi : X.N[i]? = some x := by rfl) (hx : Loc X.env.scope x := by first | exact .inl rfl | exact .inr rfl) (hs : swapsWith e (some (.Name x pos')) pos.line X.env = pure false := by rfl) (hf : X.fn x = true ∨ X.env.scope.names.lookup x = some .local := by first | exact .inl rfl | exact .inr rfl) : XS X kp (.Assign [.Name x pos'] e pos) Γ G :=
  xs_of (ps_set hN hi hx pe_wp hs hf) (js_asg h k hk)
theorem xs_asgN {Φ : MO → Prop} (i : Nat) (h : XN X m e Γ Φ) (k : ∀ o, Φ o → G.nx (Γ.set i (.ow o))) (hN : X.N.Nodup) (hk : kp ≤ i := by decide) (hi : X.N[i]? = some x := by rfl) (hx : Loc X.env.scope x := by first | exact .inl rfl | exact .inr rfl) (hs : swapsWith e (some (.Name x pos')) pos.line X.env = pure false := by rfl) (hf : X.fn x = true ∨ X.env.scope.names.lookup x = some .local := by first | exact .inl rfl | exact .inr rfl) : XS X kp (.Assign [.Name x pos'] e pos) Γ G :=
  xs_of (ps_set hN hi hx pe_wp hs hf) (js_asgN h k hk)
theorem xs_asgG {js : List Nat} (es : D → List D) (h : XE X m e Γ Φ) (hg : PG X tg g) (gt : ∀ d, Φ d → XGt X.K g d js (es d)) (k : ∀ d, Φ d → G.nx (setG Γ js (es d))) (hk : ∀ j ∈ js, kp ≤ j := by decide) (hs : swapsWithSole [tg] e pos.line X.env = pure false := by rfl) (hw : swappedStores [tg] e X.env = pure none := by rfl)
    (h1 : (assignEach [tg] X.env).map (·.2) = [assign tg X.env] := by rfl) : XS X kp (.Assign [tg] e pos) Γ G := xs_of (ps_asg pe_wp hg hs hw h1) (js_asgG es h gt hk k)
/-- y = [e for ..], on one line, y a local -/
theorem xs_asgLc {elt tg iter : Expr} {ifs : List Expr} {scope : Scope} {tt : TT} {α β : Type} {f : α → D} {xs : List α} (i : Nat) (js : List Nat) (es : α → List D) (p : α → Bool) (f' : β → D) (h : α → β) (own : List (Str × Nat)) (hi : XW X tg iter Γ (xs.map f)) (hg : Bk X scope fun Y => PG Y tg g) (gt : ∀ x ∈ xs, XGt X.K g (f x) js (es x)) (hf : Ifs X scope ifs tt)
    (ht : ∀ x ∈ xs, JT X.K false tt (setG Γ js (es x)) fun z => z = p x) (he : ∀ x ∈ xs, p x = true → Bk X scope fun Y => XV Y elt (setG Γ js (es x)) (f' (h x))) (hl : xs.length ≤ 100000) (k : G.nx (Γ.set i (.ow (.ml (((xs.filter p).map h).map f'))))) (ok : BlkOk X.N X.env.scope scope own) (hN : X.N.Nodup) (hsw : swapsWith (.ListComp elt [⟨tg, iter, ifs, 0⟩] scope pos) (some (.Name x pos')) st2.line X.env = pure true)
    (hw : wipeG Γ (own.map (·.2)) = Γ := by rfl) (hv : ∀ j ∈ js, j ∈ own.map (·.2) := by decide) (hk : kp ≤ i := by decide) (hy : X.N[i]? = some x := by rfl) (hyl : X.env.scope.names.lookup x = some .local := by rfl)
    (hc : X.calm = true := by rfl) (hs : ∀ x, foldedSetIterable iter X.env x = pure x := by intro _; rfl) : XS X kp (.Assign [.Name x pos'] (.ListComp elt [⟨tg, iter, ifs, 0⟩] scope pos) st2) Γ G :=
  xs_of (ps_setLc hc hN hy hyl hsw pi_wp ok hg hf.ok pe_wb hs) (js_asgN (jn_lcP hw hi hv hl gt ht fun x hx hp => jr_wb (he x hx hp)) (fun o z => by rw [z]; exact k) hk)
theorem xs_asgLcN {elt tg iter : Expr} {ifs : List Expr} {scope : Scope} {tt : TT} {Φ : List D → Prop} (i : Nat) (js : List Nat) (es : List D → Nat → List D) (P : List D → Nat → List D → Prop) (own : List (Str × Nat)) (hi : XI X m tg iter Γ Φ) (hg : Bk X scope fun Y => PG Y tg g) (gt : ∀ ds, Φ ds → ∀ (i : Nat) d, ds[i]? = some d → XGt X.K g d js (es ds i)) (hf : Ifs X scope ifs tt) (h0 : ∀ ds, Φ ds → P ds 0 [])
    (hs : ∀ ds, Φ ds → ∀ (i : Nat) d acc, ds[i]? = some d → P ds i acc → JT X.K m tt (setG Γ js (es ds i)) fun b => (b = true → Bk X scope fun Y => XE Y m elt (setG Γ js (es ds i)) fun e => P ds (i + 1) (acc ++ [e])) ∧ (b = false → P ds (i + 1) acc)) (hl : ∀ ds, Φ ds → ds.length ≤ 100000) (k : ∀ ds acc, Φ ds → P ds ds.length acc → G.nx (Γ.set i (.ow (.ml acc)))) (ok : BlkOk X.N X.env.scope scope own) (hN : X.N.Nodup) (hsw : swapsWith (.ListComp elt [⟨tg, iter, ifs, 0⟩] scope pos) (some (.Name x pos')) st2.line X.env = pure true)
    (hw : wipeG Γ (own.map (·.2)) = Γ := by rfl) (hv : ∀ j ∈ js, j ∈ own.map (·.2) := by decide) (hk : kp ≤ i := by decide) (hy : X.N[i]? = some x := by rfl) (hyl : X.env.scope.names.lookup x = some .local := by rfl)
    (hc : X.calm = true := by rfl) (hss : ∀ x, foldedSetIterable iter X.env x = pure x := by intro _; rfl) : XS X kp (.Assign [.Name x pos'] (.ListComp elt [⟨tg, iter, ifs, 0⟩] scope pos) st2) Γ G :=
  xs_of (ps_setLc hc hN hy hyl hsw pi_wp ok hg hf.ok pe_wb hss) (js_asgN (jn_lc es P hw hi hv hl h0 gt fun ds e i d acc hd hp => fun σ Hb H E Q q => hs ds e i d acc hd hp σ Hb H E Q fun b Hb' H' z => q b Hb' H' ⟨fun hb => jr_wb (z.1 hb), z.2⟩) (fun o z => by
    obtain ⟨ds, acc, e1, rfl, e2⟩ := z
    exact k ds acc e1 e2) hk)
theorem xs_if {Φ : Bool → Prop} (h : XT X m c Γ Φ) (h1 : Φ true → XSs X kp A Γ G) (h2 : Φ false → XSs X kp B Γ G) : XS X kp (.If c A B pos) Γ G := xs_of (ps_if pt_wp pss_wp pss_wp) (js_if h h1 h2)
theorem xs_ret (h : XE X m e Γ Φ) (k : ∀ d, Φ d → G.rt d Γ) : XS X kp (.Return (some e) pos) Γ G := xs_of (ps_ret pe_wp) (js_ret h k)
theorem xs_retV {d : D} (h : XV X e Γ d) (k : G.rt d Γ) : XS X kp (.Return (some e) pos) Γ G := xs_ret h fun _ z => by rw [z]; exact k
theorem xs_asgV (i : Nat) {d : D} (h : XV X e Γ d) (k : G.nx (Γ.set i (.pd d))) (hN : X.N.Nodup) (hk : kp ≤ i := by decide) (hi : X.N[i]? = some x := by rfl) (hx : Loc X.env.scope x := by first | exact .inl rfl | exact .inr rfl) (hs : swapsWith e (some (.Name x pos')) pos.line X.env = pure false := by rfl) (hf : X.fn x = true ∨ X.env.scope.names.lookup x = some .local := by first | exact .inl rfl | exact .inr rfl) : XS X kp (.Assign [.Name x pos'] e pos) Γ G :=
  xs_asg i h (fun _ z => by rw [z]; exact k) hN hk hi hx hs hf
theorem xs_asgO (i : Nat) {o : MO} (h : XO X e Γ o) (k : G.nx (Γ.set i (.ow o))) (hN : X.N.Nodup) (hk : kp ≤ i := by decide) (hi : X.N[i]? = some x := by rfl) (hx : Loc X.env.scope x := by first | exact .inl rfl | exact .inr rfl) (hs : swapsWith e (some (.Name x pos')) pos.line X.env = pure false := by rfl) (hf : X.fn x = true ∨ X.env.scope.names.lookup x = some .local := by first | exact .inl rfl | exact .inr rfl) : XS X kp (.Assign [.Name x pos'] e pos) Γ G :=
  xs_asgN i h (fun _ z => by rw [z]; exact k) hN hk hi hx hs hf
theorem xs_app (i : Nat) {ds : List D} {pos2 pos3 : Pos} (he : XE X m e Γ Φ) (k : ∀ d, Φ d → G.nx (Γ.set i (.ow (.ml (ds ++ [d]))))) (hz : ds.length < 100000) (h : Γ[i]? = some (.ow (.ml ds)) := by rfl) (hN : X.N[i]? = some x := by rfl) (hv : Vis X.env.scope x := by first | exact Or.inl rfl | exact Or.inr (Or.inl rfl) | exact Or.inr (Or.inr rfl)) (hd : (x == ("__debug__" : Str)) = false := by decide)
    (hcd : (x == ("__classdict__" : Str)) = false := by decide) (hs1 : starEach (e :: []) X.env = (false, eval e X.env) :: starEach [] X.env := by rfl) (hs : swapsWith (.Call (.Attribute (.Name x pos') "append" pos2) [e] [] pos3) none pos.line X.env = pure false := by rfl)
    (hbm : PE X (.Call (.Attribute (.Name x pos') "append" pos2) [e] [] pos3) (tBM X.K "list" rAppend (tVar i) (tCons (wpE X e) tNil)) := by exact pe_bm PySem.F.plainAttrs_list PySem.F.slot_list_append PySem.F.type_list_append mt_append (pe_var (by rfl) (by first | exact Or.inl rfl | exact Or.inr (Or.inl rfl) | exact Or.inr (Or.inr rfl))) (pa_cons pe_wp pa_nil)) :
    XS X kp (.Expr (.Call (.Attribute (.Name x pos') "append" pos2) [e] [] pos3) pos) Γ G := xs_of (ps_expr hbm hs) (js_app h he hz k)
theorem xs_setO (i j : Nat) {n : Int} {ds : List D} {a : Expr} {pos2 : Pos} (he : XE X m e Γ Φ) (hj : XV X a Γ (.int n)) (hn : ixN ds.length n = some j) (k : ∀ d, Φ d → G.nx (Γ.set i (.ow (.ml (ds.set j d))))) (h : Γ[i]? = some (.ow (.ml ds)) := by rfl)
    (hps : PS X (.Assign [.Subscript (.Name x pos') a pos2] e pos) (tAsg (wpE X e) (gSub (tVar i) (wpE X a) rSetL)) := by exact ps_asg pe_wp (pg_sub (pe_var (by rfl) (by first | exact Or.inl rfl | exact Or.inr (Or.inl rfl) | exact Or.inr (Or.inr rfl))) pe_wp set_list)) :
    XS X kp (.Assign [.Subscript (.Name x pos') a pos2] e pos) Γ G := xs_of hps (js_setL h he hj hn k)
theorem xs_aug (i : Nat) {op : Operator} {f : Int → Int → Int} {a b : Int} (ho : PIp X op (ipI f)) (he : XV X e Γ (.int b)) (k : G.nx (Γ.set i (.pd (.int (f a b))))) (hN : X.N.Nodup) (h : Γ[i]? = some (.pd (.int a)) := by rfl) (hk : kp ≤ i := by decide) (hi : X.N[i]? = some x := by rfl) (hx : Loc X.env.scope x := by first | exact .inl rfl | exact .inr rfl)
    (hf : X.fn x = true ∨ X.env.scope.names.lookup x = some .local := by first | exact .inl rfl | exact .inr rfl) : XS X kp (.AugAssign (.Name x pos') op e pos) Γ G := xs_of (ps_aug hN hi hx pe_wp ho hf) (js_aug (Φ := fun z => z = .int b) h (he.imp fun d z => ⟨b, z, rfl⟩) (fun y z => by cases z; exact k) hk)
theorem xs_for {js : List Nat} {Φ : List D → Prop} (es : List D → Nat → List D) (Inv : List D → Nat → List Sl → Prop) (hi : XI X m tg iter Γ Φ) (hp : PG X tg g) (h0 : ∀ ds, Φ ds → Inv ds 0 Γ) (hg : ∀ ds, Φ ds → ∀ (i : Nat) d, ds[i]? = some d → XGt X.K g d js (es ds i))
    (hs : ∀ ds, Φ ds → ∀ (i : Nat) d Γ', ds[i]? = some d → Inv ds i Γ' → XSs X kp body (setG Γ' js (es ds i)) { nx := Inv ds (i + 1), ct := Inv ds (i + 1), bk := G.nx, rt := G.rt }) (hd : ∀ ds Γ', Φ ds → Inv ds ds.length Γ' → G.nx Γ') (hps : PassesOwn (model X.prog X.w) X.A X.env X.xe) (hj : ∀ j ∈ js, kp ≤ j := by decide) (hc : X.calm = true := by rfl)
    (hss : ∀ x, foldedSetIterable iter X.env x = pure x := by intro _; rfl) : XS X kp (.For tg iter body [] pos) Γ G := xs_of (ps_for hps hc pi_wp hp pss_wp hss) (js_for es Inv hi h0 hg hj hs hd)
/-- over known, typed items; the slots behind a turn's place -/
theorem xs_forT {α : Type} {f : α → D} {xs : List α} {js : List Nat} (es : α → List D) (Inv : List α → List Sl → Prop) (hi : XW X tg iter Γ (xs.map f)) (hp : PG X tg g) (h0 : Inv [] Γ) (hg : ∀ x ∈ xs, XGt X.K g (f x) js (es x))
    (hs : ∀ pre x post Γ', xs = pre ++ x :: post → Inv pre Γ' → XSs X kp body (setG Γ' js (es x)) { nx := Inv (pre ++ [x]), ct := Inv (pre ++ [x]), bk := G.nx, rt := G.rt }) (hd : ∀ Γ', Inv xs Γ' → G.nx Γ') (hps : PassesOwn (model X.prog X.w) X.A X.env X.xe) (hj : ∀ j ∈ js, kp ≤ j := by decide) (hc : X.calm = true := by rfl)
    (hss : ∀ x, foldedSetIterable iter X.env x = pure x := by intro _; rfl) : XS X kp (.For tg iter body [] pos) Γ G := by
  refine xs_for (fun _ i => (xs[i]?.map es).getD []) (fun _ i => Inv (xs.take i)) hi hp (fun ds e => by rw [List.take_zero]; exact h0) (fun ds e i d hd' => ?_) (fun ds e i d Γ' hd' hv => ?_) (fun ds Γ' e hv => ?_) hps hj hc hss
  · subst e
    rw [List.getElem?_map] at hd'
    cases hx : xs[i]? with
    | none => rw [hx] at hd'; cases hd'
    | some x =>
      rw [hx] at hd'
      cases hd'
      exact hg x (List.mem_of_getElem? hx)
  · subst e
    rw [List.getElem?_map] at hd'
    cases hx : xs[i]? with
    | none => rw [hx] at hd'; cases hd'
    | some x =>
      have et : xs.take (i + 1) = xs.take i ++ [x] := by rw [List.take_add_one, hx]; rfl
      have z := hs (xs.take i) x (xs.drop (i + 1)) Γ' (by
        obtain ⟨h1, h2⟩ := List.getElem?_eq_some_iff.mp hx
        rw [← h2, ← List.drop_eq_getElem_cons h1, List.take_append_drop]) hv
      rw [et]
      exact z
  · subst e
    rw [List.length_map, List.take_length] at hv
    exact hd Γ' hv
theorem xs_while (Inv : Nat → List Sl → Prop) (n : Nat) (h0 : Inv n Γ) (hs : ∀ (k : Nat) Γ', Inv k Γ' → ∃ Φt : Bool → Prop, XT X m c Γ' Φt ∧ (Φt true → XSs X kp body Γ' { nx := fun Γ2 => ∃ j, j < k ∧ Inv j Γ2, ct := fun Γ2 => ∃ j, j < k ∧ Inv j Γ2, bk := G.nx, rt := G.rt }) ∧ (Φt false → G.nx Γ')) (hps : PassesOwn (model X.prog X.w) X.A X.env X.xe) : XS X kp (.While c body [] pos) Γ G := xs_of (ps_while hps pt_wp pss_wp) (js_while Inv n h0 hs)
theorem XS.imp {G' : Dn} (h : XS X kp st Γ G) (k : ∀ Γ', G.nx Γ' → G'.nx Γ') (k1 : ∀ d Γ', G.rt d Γ' → G'.rt d Γ') (k2 : ∀ Γ', G.bk Γ' → G'.bk Γ') (k3 : ∀ Γ', G.ct Γ' → G'.ct Γ') : XS X kp st Γ G' := fun σ Hb H E F a b c d => h σ Hb H E F (fun _ _ _ _ y => a _ _ _ _ (k _ y)) (fun _ _ _ _ y => b _ _ _ _ (k2 _ y)) (fun _ _ _ _ y => c _ _ _ _ (k3 _ y)) fun _ _ _ _ _ _ y => d _ _ _ _ _ _ (k1 _ _ y)
theorem XSs.imp {G' : Dn} (h : XSs X kp sts Γ G) (k : ∀ Γ', G.nx Γ' → G'.nx Γ') (k1 : ∀ d Γ', G.rt d Γ' → G'.rt d Γ') (k2 : ∀ Γ', G.bk Γ' → G'.bk Γ') (k3 : ∀ Γ', G.ct Γ' → G'.ct Γ') : XSs X kp sts Γ G' := fun σ Hb H E F a b c d => h σ Hb H E F (fun _ _ _ _ y => a _ _ _ _ (k _ y)) (fun _ _ _ _ y => b _ _ _ _ (k2 _ y)) (fun _ _ _ _ y => c _ _ _ _ (k3 _ y)) fun _ _ _ _ _ _ y => d _ _ _ _ _ _ (k1 _ _ y)
end
end DL

namespace DL
open PySem PySem.Spec PyProof.Rows L2 Evl

/-! ### an owned list looked at -/
def D.flat : D → Bool
  | .non => true | .bl _ => true | .int _ => true | .str _ => true
  | _ => false
def cutA (H : Hp) (a : Addr) : Hp := fun b => if b = a then none else H b
theorem cutA_same {H : Hp} {a : Addr} : cutA H a a = none := if_pos rfl
theorem cutA_ne {H : Hp} {a b : Addr} (h : b ≠ a) : cutA H a b = H b := if_neg h
section
variable {K : PySem.W.Frag} {Γ : List Sl} {te : TE} {tt : TT} {Φ : D → Prop}
theorem unfreeze {σ : L2.St} {Hb H : Hp} {i : Nat} {ds : List D} (E : En K Hb H σ Γ) (hi : Γ[i]? = some (.ow (.ml ds))) {a : Addr} {vs : List V} (h1 : σ[i]? = some (some (.ref a))) (h2 : Hb a = none) (h3 : H a = some (.lst vs)) {Hb' H' : Hp} (g : Gr (WW false σ (Γ.set i (.pd (.lst ds)))) (upd Hb a (.lst vs)) H Hb' H') (E' : En K Hb' H' σ (Γ.set i (.pd (.lst ds)))) :
    Gr (WW false σ Γ) Hb H (cutA Hb' a) H' ∧ En K (cutA Hb' a) H' σ Γ := by
  have nf : ∀ {q : Addr} {Γ : List Sl}, ¬ WW false σ Γ q := fun z => by cases z.1
  have eb : Ex Hb (cutA Hb' a) := fun b o e => by
    have ne : b ≠ a := ne_of_none e h2
    rw [cutA_ne ne]
    exact g.b b o (by rw [upd_ne ne]; exact e)
  have G : Gr (WW false σ Γ) Hb H (cutA Hb' a) H' := ⟨eb, fun q o e _ => g.h q o e nf, g.al, fun b o e => by
      by_cases z : b = a
      · subst z; rw [cutA_same] at e; cases e
      · rw [cutA_ne z] at e; exact g.s b o e, fun b e t _ => by
      by_cases z : b = a
      · subst z; rw [cutA_same, h2]
      · rw [cutA_ne z, g.f b e t nf, upd_ne z]⟩
  refine ⟨G, ?_⟩
  have N : New Hb H (cutA Hb' a) H' := ww_new (Γ := Γ) (σ := σ) G
  exact E.new N
theorem DR.flat_any {Hb Hb' : Hp} {v : V} {d : D} (r : DR K Hb v d) (h : d.flat = true) : DR K Hb' v d := by
  cases r with
  | non => exact .non
  | bl b => exact .bl b
  | int b => exact .int b
  | str b => exact .str b
  | lst _ _ => cases h
  | tup _ _ => cases h
  | ins _ _ _ _ => cases h
  | dic _ _ _ _ => cases h
  | sc _ => cases h
theorem jr_borrow {i : Nat} {ds : List D} (h : Γ[i]? = some (.ow (.ml ds))) (hx : JR K false te (Γ.set i (.pd (.lst ds))) Φ) (hs : ∀ d, Φ d → d.flat = true) : JR K false te Γ Φ := fun σ Hb H E Q q => by
  obtain ⟨a, vs, h1, h3, h4, h2, h5, E2⟩ := E.freeze h
  refine hx σ _ H E2 Q fun v d Hb' H' p g E' r => ?_
  obtain ⟨G, E3⟩ := unfreeze E h h1 h2 h3 g E'
  exact q v d _ H' p G E3 (r.flat_any (hs d p))
theorem jt_borrow {i : Nat} {ds : List D} {Φ : Bool → Prop} (h : Γ[i]? = some (.ow (.ml ds))) (hx : JT K false tt (Γ.set i (.pd (.lst ds))) Φ) : JT K false tt Γ Φ := fun σ Hb H E Q q => by
  obtain ⟨a, vs, h1, h3, h4, h2, h5, E2⟩ := E.freeze h
  refine hx σ _ H E2 Q fun b Hb' H' p g E' => ?_
  obtain ⟨G, E3⟩ := unfreeze E h h1 h2 h3 g E'
  exact q b _ H' p G E3
end
section
variable {X : Cx} {kp : Nat} {Γ : List Sl} {G : Dn} {m : Bool} {e : Expr} {es : List Expr} {pos p : Pos} {Φ : D → Prop} {x : Str} {sts : List Stmt}
theorem xe_borrow (i : Nat) {ds : List D} (hx : XE X false e (Γ.set i (.pd (.lst ds))) Φ) (hs : ∀ d, Φ d → d.flat = true) (h : Γ[i]? = some (.ow (.ml ds)) := by rfl) : XE X false e Γ Φ := jr_borrow h hx hs
theorem xv_borrow (i : Nat) {ds : List D} {d : D} (hx : XV X e (Γ.set i (.pd (.lst ds))) d) (hs : d.flat = true := by rfl) (h : Γ[i]? = some (.ow (.ml ds)) := by rfl) : XV X e Γ d := jr_borrow h hx fun z q => by rw [q]; exact hs
theorem xt_borrow (i : Nat) {ds : List D} {Φ : Bool → Prop} (hx : XT X false e (Γ.set i (.pd (.lst ds))) Φ) (h : Γ[i]? = some (.ow (.ml ds)) := by rfl) : XT X false e Γ Φ := jt_borrow h hx
/-- an owned object's word: opened, told anew -/
theorem xs_case (i : Nat) {o : MO} {P : MO → Prop} (hP : ∀ (Hb : Hp) (u : HO), MR X.K Hb u o → ∃ o', P o' ∧ MR X.K Hb u o') (h : ∀ o', P o' → XSs X kp sts (Γ.set i (.ow o')) G) (hi : Γ[i]? = some (.ow o) := by rfl) : XSs X kp sts Γ G := fun σ Hb H E F a b c d => by
  obtain ⟨q, u, h1, h2, h3, h4⟩ := E.own i o hi
  obtain ⟨o', p1, p2⟩ := hP Hb u h4
  have E2 : En X.K Hb H σ (Γ.set i (.ow o')) := by
    have z := E.put hi h1 p2
    have e : upd H q u = H := by
      funext b
      by_cases y : b = q
      · subst y; rw [upd_same, h3]
      · rw [upd_ne y]
    rw [e] at z
    exact z
  have ow : ∀ r, Own σ (Γ.set i (.ow o')) r → Own σ Γ r := fun r y => own_set hi y
  have kk : ∀ Γ2 σ2 Hb2 H2, GS X.K kp σ (Γ.set i (.ow o')) Hb H σ2 Γ2 Hb2 H2 → GS X.K kp σ Γ Hb H σ2 Γ2 Hb2 H2 := fun Γ2 σ2 Hb2 H2 g => ⟨g.gr.wk ow, g.en, fun r z => (g.own r z).imp (ow r) id, g.kp⟩
  exact h o' p1 σ Hb H E2 F (fun Γ2 σ2 Hb2 H2 y k => a Γ2 σ2 Hb2 H2 y (kk _ _ _ _ k)) (fun Γ2 σ2 Hb2 H2 y k => b Γ2 σ2 Hb2 H2 y (kk _ _ _ _ k)) (fun Γ2 σ2 Hb2 H2 y k => c Γ2 σ2 Hb2 H2 y (kk _ _ _ _ k)) fun d2 v Γ2 σ2 Hb2 H2 y k => d d2 v Γ2 σ2 Hb2 H2 y (kk _ _ _ _ k)
theorem xs_fold (i : Nat) {o o' : MO} (hP : ∀ (Hb : Hp) (u : HO), MR X.K Hb u o → MR X.K Hb u o') (h : XSs X kp sts (Γ.set i (.ow o')) G) (hi : Γ[i]? = some (.ow o) := by rfl) : XSs X kp sts Γ G := xs_case i (P := fun z => z = o') (fun Hb u r => ⟨o', rfl, hP Hb u r⟩) (fun z e => by rw [e]; exact h) hi
end

/-! ### promises -/
abbrev Con := List D → (D → Prop) → Prop
/-- a pure def -/
def spP (K : PySem.W.Frag) (C : Con) : Sp := fun vs H Q _ => ∃ ds Φ Hb, C ds Φ ∧ Ex Hb H ∧ DRs K Hb vs ds ∧ ∀ v d Hb' H', Φ d → New Hb H Hb' H' → DR K Hb' v d → Q v H'
/-- a pure def that hands back a new object of its own -/
def spN (K : PySem.W.Frag) (C : List D → (MO → Prop) → Prop) : Sp := fun vs H Q _ => ∃ ds Φ Hb, C ds Φ ∧ Ex Hb H ∧ DRs K Hb vs ds ∧ ∀ p u o Hb' H', Φ o → H p = none → New Hb H Hb' H' → Hb' p = none → H' p = some u → MR K Hb' u o → Q (.ref p) H'
/-- a def that changes the object that its first argument is -/
def spE (K : PySem.W.Frag) (o : MO) (C : Con) : Sp := fun vs H Q _ => ∃ (a : Addr) (ws : List V) (ds : List D) (Φ : D → Prop) (Hb : Hp) (u : HO), vs = .ref a :: ws ∧ C ds Φ ∧ Ex Hb H ∧ Hb a = none ∧ H a = some u ∧ MR K Hb u o ∧ DRs K Hb ws ds ∧
  ∀ v d Hb' H' u', Φ d → Gr (fun b => b = a) Hb H Hb' H' → Hb' a = none → H' a = some u' → MR K Hb' u' o → DR K Hb' v d → Q v H'
structure Cal (P : Program) (w : World) (K : PySem.W.Frag) (mg : Str → Option Value) (base : Heap) (k : Nat) (x : Str) (ps : List Str) (sp : Sp) : Prop where
  ex : ∃ (f : Addr) (fd : FuncData), FnOk P w K mg base CX0 k f fd ps sp ∧ mg x = some (.ref f) ∧ PySem.W.keepIn K (.ref f) = true ∧ Binds K fd ps []
section
variable {X : Cx} {Γ : List Sl} {m : Bool} {e : Expr} {es : List Expr} {pos p : Pos} {Φ : D → Prop} {x : Str} {k : Nat} {ps : List Str}
theorem xe_call {C : Con} {Φa : List D → Prop} (c : Cal X.prog X.w X.K X.mg X.base k x ps (spP X.K C)) (hr : Room k X.A) (ha : XA X m (e :: es) Γ Φa) (hc : ∀ ds, Φa ds → C ds Φ) (hg : Gl X x := by rfl) (hdb : (x == ("__debug__" : Str)) = false := by decide) (he : starEach (e :: es) X.env = (false, eval e X.env) :: starEach es X.env := by rfl) (hpl : (backTo pos (starEach es X.env)).any (·.1) = false := by rfl) :
    XE X m (.Call (.Name x p) (e :: es) [] pos) Γ Φ := by
  obtain ⟨f, fd, F, h1, h2, h3⟩ := c.ex
  refine xe_of (pe_call F hr hg h1 h2 h3 .nil pass0 pa_wp hdb he hpl) fun σ Hb H E Q q => ha σ Hb H E _ fun vs ds Hb1 H1 p1 g1 E1 r1 => ?_
  refine ⟨ds, Φ, Hb1, hc ds p1, E1.ex, by rw [List.append_nil]; exact r1, fun v d Hb2 H2 p2 g2 r2 => q v d Hb2 H2 p2 (gwn g1 g2) (E1.new g2) r2⟩
theorem xv_call {C : Con} {ds : List D} {d : D} (c : Cal X.prog X.w X.K X.mg X.base k x ps (spP X.K C)) (hr : Room k X.A) (ha : XL X (e :: es) Γ ds) (hc : C ds fun z => z = d) (hg : Gl X x := by rfl) (hdb : (x == ("__debug__" : Str)) = false := by decide) (he : starEach (e :: es) X.env = (false, eval e X.env) :: starEach es X.env := by rfl) (hpl : (backTo pos (starEach es X.env)).any (·.1) = false := by rfl) :
    XV X (.Call (.Name x p) (e :: es) [] pos) Γ d := xe_call c hr ha (fun z q => by rw [q]; exact hc) hg hdb he hpl
theorem xn_call {C : List D → (MO → Prop) → Prop} {Φa : List D → Prop} {Φ : MO → Prop} (c : Cal X.prog X.w X.K X.mg X.base k x ps (spN X.K C)) (hr : Room k X.A) (ha : XA X m (e :: es) Γ Φa) (hc : ∀ ds, Φa ds → C ds Φ) (hg : Gl X x := by rfl) (hdb : (x == ("__debug__" : Str)) = false := by decide) (he : starEach (e :: es) X.env = (false, eval e X.env) :: starEach es X.env := by rfl) (hpl : (backTo pos (starEach es X.env)).any (·.1) = false := by rfl) :
    XN X m (.Call (.Name x p) (e :: es) [] pos) Γ Φ := by
  obtain ⟨f, fd, F, h1, h2, h3⟩ := c.ex
  refine xn_of (pe_call F hr hg h1 h2 h3 .nil pass0 pa_wp hdb he hpl) fun σ Hb H E Q q => ha σ Hb H E _ fun vs ds Hb1 H1 p1 g1 E1 r1 => ?_
  refine ⟨ds, Φ, Hb1, hc ds p1, E1.ex, by rw [List.append_nil]; exact r1, fun a u o Hb2 H2 p2 n2 g2 nb h2 r2 => q a u o Hb2 H2 p2 (new_none g1 n2) (gwn g1 g2) (E1.new g2) nb h2 r2⟩
/-- f(state, ..): state the owned object in slot i -/
theorem xe_callE (i : Nat) {y : Str} {py : Pos} {o : MO} {C : Con} {Φa : List D → Prop} (c : Cal X.prog X.w X.K X.mg X.base k x ps (spE X.K o C)) (hr : Room k X.A) (ha : XA X true es Γ Φa) (hc : ∀ ds, Φa ds → C ds Φ) (h : Γ[i]? = some (.ow o) := by rfl) (hN : X.N[i]? = some y := by rfl) (hv : Vis X.env.scope y := by first | exact Or.inl rfl | exact Or.inr (Or.inl rfl) | exact Or.inr (Or.inr rfl)) (hd : (y == ("__debug__" : Str)) = false := by decide)
    (hcd : (y == ("__classdict__" : Str)) = false := by decide) (hg : Gl X x := by rfl) (hdb : (x == ("__debug__" : Str)) = false := by decide) (he : starEach (.Name y py :: es) X.env = (false, eval (.Name y py) X.env) :: starEach es X.env := by rfl) (hpl : (backTo pos (starEach es X.env)).any (·.1) = false := by rfl) :
    XE X true (.Call (.Name x p) (.Name y py :: es) [] pos) Γ Φ := by
  obtain ⟨f, fd, F, h1, h2, h3⟩ := c.ex
  refine xe_of (pe_call F hr hg h1 h2 h3 .nil pass0 (pa_cons (pe_var hN hv hd hcd) pa_wp he) hdb he hpl) fun σ Hb H E Q q => ?_
  obtain ⟨a, u, k1, k2, k3, k4⟩ := E.own i o h
  refine ⟨.ref a, k1, ha σ Hb H E _ fun ws ds Hb1 H1 p1 g1 E1 r1 => ?_⟩
  obtain ⟨a', u1, e1, e2, e3, e4⟩ := E1.own i o h
  rw [k1] at e1
  cases e1
  refine ⟨a, ws, ds, Φ, Hb1, u1, by rw [List.append_nil], hc ds p1, E1.ex, e2, e3, e4, r1, fun v d Hb2 H2 u2 p2 g2 n2 h2 r2 rd => ?_⟩
  have g3 : Gr (WW true σ Γ) Hb1 H1 Hb2 H2 := g2.wk fun b z => ⟨rfl, i, o, h, by rw [z]; exact k1⟩
  have E2 : En X.K Hb2 H2 σ Γ := {
    ex := g2.s
    val := fun j z hj => by obtain ⟨v, z1, z2⟩ := E1.val j z hj; exact ⟨v, z1, z2.mono g2.b⟩
    own := fun j m hj => by
      obtain ⟨b, w, z1, z2, z3, z4⟩ := E1.own j m hj
      by_cases e : b = a
      · subst e
        have ij := E1.sep i j b o m h hj k1 z1
        subst ij
        rw [h] at hj
        cases hj
        exact ⟨b, u2, z1, n2, h2, r2⟩
      · exact ⟨b, w, z1, (g2.f b (by rw [z3]; simp) (by rw [z3]; exact z4.nt) e).trans z2, g2.h b w z3 e, z4.mono g2.b⟩
    sep := E1.sep
    len := E1.len }
  exact q v d Hb2 H2 p2 (gww g1 g3) E2 rd
end

/-! ### defs -/
section
variable {P : Program} {w : World} {K : PySem.W.Frag} {mg : Str → Option Value} {base : Heap} {x qual : Str} {st : Stmt} {f : Addr} {fd : FuncData} {N ps : List Str} {k : Nat}
def stG (N : List Str) (gs : List Sl) : List Sl := gs ++ List.replicate (N.length - gs.length) .un
theorem en_start {H Hb : Hp} {vs : List V} {ds : List D} (e : Ex Hb H) (r : DRs K Hb vs ds) : En K Hb H (L2.start N vs) (stG N (ds.map .pd)) where
  ex := e
  val := fun i d h => by
    unfold stG at h
    by_cases hi : i < (ds.map Sl.pd).length
    · rw [List.getElem?_append_left hi, List.getElem?_map] at h
      cases hd : ds[i]? with
      | none => rw [hd] at h; cases h
      | some d' =>
        rw [hd] at h
        cases h
        obtain ⟨v, h1, h2⟩ := r.get hd
        refine ⟨v, ?_, h2⟩
        unfold L2.start
        rw [List.getElem?_append_left (by rw [List.length_map]; exact (List.getElem?_eq_some_iff.mp h1).1), List.getElem?_map, h1]
        rfl
    · rw [List.getElem?_append_right (by omega), List.getElem?_replicate] at h
      split at h <;> cases h
  own := fun i o h => by
    unfold stG at h
    by_cases hi : i < (ds.map Sl.pd).length
    · rw [List.getElem?_append_left hi, List.getElem?_map] at h
      cases hd : ds[i]? with
      | none => rw [hd] at h; cases h
      | some d' => rw [hd] at h; cases h
    · rw [List.getElem?_append_right (by omega), List.getElem?_replicate] at h
      split at h <;> cases h
  sep := fun i j a o o' h => by
    unfold stG at h
    by_cases hi : i < (ds.map Sl.pd).length
    · rw [List.getElem?_append_left hi, List.getElem?_map] at h
      cases hd : ds[i]? with
      | none => rw [hd] at h; cases h
      | some d' => rw [hd] at h; cases h
    · rw [List.getElem?_append_right (by omega), List.getElem?_replicate] at h
      split at h <;> cases h
  len := by
    unfold L2.start stG
    rw [List.length_append, List.length_append, List.length_map, List.length_map, List.length_replicate, List.length_replicate, r.len]
theorem no_own {vs : List V} {ds : List D} {a : Addr} : ¬ Own (L2.start N vs) (stG N (ds.map .pd)) a := fun ⟨i, o, h, _⟩ => by
  unfold stG at h
  by_cases hi : i < (ds.map Sl.pd).length
  · rw [List.getElem?_append_left hi, List.getElem?_map] at h
    cases hd : ds[i]? with
    | none => rw [hd] at h; cases h
    | some d' => rw [hd] at h; cases h
  · rw [List.getElem?_append_right (by omega), List.getElem?_replicate] at h
    split at h <;> cases h
abbrev cxF (P : Program) (w : World) (K : PySem.W.Frag) (mg : Str → Option Value) (base : Heap) (N : List Str) (qual : Str) (st : Stmt) (f : Addr) (cdv : Value) (A : Around) (outer : List Env) (s : Shared) (H : Hp) (E : XK) : Cx := (cxOf CX0 P w K mg base N qual (defScope st) f cdv A outer s H E).nox
/-- a pure def: its body, for arguments by the promise -/
theorem fn_pure {C : Con} (F : Fun K x qual st f fd) (S : FnScope N ps (defScope st)) (len : ∀ ds Φ, C ds Φ → ds.length = ps.length)
    (body : ∀ (cdv : Value) (A : Around) (outer : List Env) (s : Shared) (H : Hp) (E : XK), Room k (A.deeper (envOfC qual (defScope st) s.heap.objs.size f cdv)) → ∀ ds Φ, C ds Φ → XSs (cxF P w K mg base N qual st f cdv A outer s H E) 0 (defBody st) (stG N (ds.map .pd)) { nx := fun _ => Φ .non, rt := fun d _ => Φ d }) :
    FnOk P w K mg base CX0 (k + 1) f fd ps (spP K C) := by
  refine F.ok S (fun vs H Q E h => ?_) (fun cdv A outer s H vs Q E hr h => ?_)
  · obtain ⟨ds, Φ, Hb, h1, h2, h3, _⟩ := h
    rw [h3.len]
    exact len ds Φ h1
  · obtain ⟨ds, Φ, Hb, h1, h2, h3, q⟩ := h
    have nw : ∀ {Hb' H' : Hp}, Gr (Own (L2.start N vs) (stG N (ds.map .pd))) Hb H Hb' H' → New Hb H Hb' H' := fun g => g.wk fun a z => no_own z
    exact ⟨_, pss_wp, body cdv A outer s H E hr ds Φ h1 _ Hb H (en_start h2 h3) _ (fun _ _ Hb' H' z g => q .non .non Hb' H' z (nw g.gr) .non) (fun _ _ _ _ z => z.elim) (fun _ _ _ _ z => z.elim) fun d v _ _ Hb' H' z g r => q v d Hb' H' z (nw g.gr) r⟩
/-- one that hands back a new list of its own (told by the slot that holds it at the return) -/
theorem fn_new {C : List D → (MO → Prop) → Prop} (F : Fun K x qual st f fd) (S : FnScope N ps (defScope st)) (len : ∀ ds Φ, C ds Φ → ds.length = ps.length)
    (body : ∀ (cdv : Value) (A : Around) (outer : List Env) (s : Shared) (H : Hp) (E : XK), Room k (A.deeper (envOfC qual (defScope st) s.heap.objs.size f cdv)) → ∀ ds Φ, C ds Φ → ∃ t, PSs (cxF P w K mg base N qual st f cdv A outer s H E) (defBody st) t ∧ ∀ (σ : L2.St) (Hb H : Hp), En K Hb H σ (stG N (ds.map .pd)) → ∀ Q : VK, (∀ p u o Hb' H', Φ o → H p = none → New Hb H Hb' H' → Hb' p = none → H' p = some u → MR K Hb' u o → Q (.ref p) H') → t { nx := fun _ H' => Q .non H', rt := Q } σ H) :
    FnOk P w K mg base CX0 (k + 1) f fd ps (spN K C) := by
  refine F.ok S (fun vs H Q E h => ?_) (fun cdv A outer s H vs Q E hr h => ?_)
  · obtain ⟨ds, Φ, Hb, h1, h2, h3, _⟩ := h
    rw [h3.len]
    exact len ds Φ h1
  · obtain ⟨ds, Φ, Hb, h1, h2, h3, q⟩ := h
    obtain ⟨t, ht, b⟩ := body cdv A outer s H E hr ds Φ h1
    exact ⟨t, ht, b _ Hb H (en_start h2 h3) Q q⟩
theorem en_startE {H Hb : Hp} {a : Addr} {u : HO} {o : MO} {vs : List V} {ds : List D} (e : Ex Hb H) (h1 : Hb a = none) (h2 : H a = some u) (h3 : MR K Hb u o) (r : DRs K Hb vs ds) : En K Hb H (L2.start N (.ref a :: vs)) (stG N (.ow o :: ds.map .pd)) where
  ex := e
  val := fun i d h => by
    unfold stG at h
    cases i with
    | zero => cases h
    | succ i =>
      have h' : (ds.map Sl.pd ++ List.replicate (N.length - (Sl.ow o :: ds.map Sl.pd).length) Sl.un)[i]? = some (.pd d) := h
      by_cases hi : i < (ds.map Sl.pd).length
      · rw [List.getElem?_append_left hi, List.getElem?_map] at h'
        cases hd : ds[i]? with
        | none => rw [hd] at h'; cases h'
        | some d' =>
          rw [hd] at h'
          cases h'
          obtain ⟨v, k1, k2⟩ := r.get hd
          refine ⟨v, ?_, k2⟩
          show (vs.map some ++ List.replicate (N.length - (V.ref a :: vs).length) none)[i]? = _
          rw [List.getElem?_append_left (by rw [List.length_map]; exact (List.getElem?_eq_some_iff.mp k1).1), List.getElem?_map, k1]
          rfl
      · rw [List.getElem?_append_right (by omega), List.getElem?_replicate] at h'
        split at h' <;> cases h'
  own := fun i o' h => by
    unfold stG at h
    cases i with
    | zero =>
      cases h
      exact ⟨a, u, rfl, h1, h2, h3⟩
    | succ i =>
      have h' : (ds.map Sl.pd ++ List.replicate (N.length - (Sl.ow o :: ds.map Sl.pd).length) Sl.un)[i]? = some (.ow o') := h
      by_cases hi : i < (ds.map Sl.pd).length
      · rw [List.getElem?_append_left hi, List.getElem?_map] at h'
        cases hd : ds[i]? with
        | none => rw [hd] at h'; cases h'
        | some d' => rw [hd] at h'; cases h'
      · rw [List.getElem?_append_right (by omega), List.getElem?_replicate] at h'
        split at h' <;> cases h'
  sep := fun i j b o1 o2 k1 k2 _ _ => by
    have one : ∀ (i : Nat) (o' : MO), (stG N (.ow o :: ds.map .pd))[i]? = some (.ow o') → i = 0 := fun i o' h => by
      unfold stG at h
      cases i with
      | zero => rfl
      | succ i =>
        have h' : (ds.map Sl.pd ++ List.replicate (N.length - (Sl.ow o :: ds.map Sl.pd).length) Sl.un)[i]? = some (.ow o') := h
        by_cases hi : i < (ds.map Sl.pd).length
        · rw [List.getElem?_append_left hi, List.getElem?_map] at h'
          cases hd : ds[i]? with
          | none => rw [hd] at h'; cases h'
          | some d' => rw [hd] at h'; cases h'
        · rw [List.getElem?_append_right (by omega), List.getElem?_replicate] at h'
          split at h' <;> cases h'
    rw [one i o1 k1, one j o2 k2]
  len := by
    unfold L2.start stG
    rw [List.length_append, List.length_append, List.length_map, List.length_cons, List.length_cons, List.length_map, List.length_replicate, List.length_replicate, r.len]
theorem one_own {a b : Addr} {o : MO} {vs : List V} {ds : List D} (h : Own (L2.start N (.ref a :: vs)) (stG N (.ow o :: ds.map .pd)) b) : b = a := by
  obtain ⟨i, o', h1, h2⟩ := h
  unfold stG at h1
  cases i with
  | zero =>
    have z : some (some (V.ref a)) = some (some (V.ref b)) := h2
    injection z with z
    injection z with z
    injection z with z
    exact z.symm
  | succ i =>
    have h' : (ds.map Sl.pd ++ List.replicate (N.length - (Sl.ow o :: ds.map Sl.pd).length) Sl.un)[i]? = some (.ow o') := h1
    by_cases hi : i < (ds.map Sl.pd).length
    · rw [List.getElem?_append_left hi, List.getElem?_map] at h'
      cases hd : ds[i]? with
      | none => rw [hd] at h'; cases h'
      | some d' => rw [hd] at h'; cases h'
    · rw [List.getElem?_append_right (by omega), List.getElem?_replicate] at h'
      split at h' <;> cases h'
/-- a def whose first argument is an object that it changes; R: how the object may stand at the end -/
theorem fn_eff {o : MO} {C : Con} (R : MO → Prop) (hR : ∀ (Hb : Hp) (u : HO) (o' : MO), R o' → MR K Hb u o' → MR K Hb u o) (F : Fun K x qual st f fd) (S : FnScope N ps (defScope st)) (len : ∀ ds Φ, C ds Φ → ds.length + 1 = ps.length)
    (body : ∀ (cdv : Value) (A : Around) (outer : List Env) (s : Shared) (H : Hp) (E : XK), Room k (A.deeper (envOfC qual (defScope st) s.heap.objs.size f cdv)) → ∀ ds Φ, C ds Φ → XSs (cxF P w K mg base N qual st f cdv A outer s H E) 1 (defBody st) (stG N (.ow o :: ds.map .pd)) { nx := fun Γ' => Φ .non ∧ ∃ o', R o' ∧ Γ'[0]? = some (.ow o'), rt := fun d Γ' => Φ d ∧ ∃ o', R o' ∧ Γ'[0]? = some (.ow o') }) :
    FnOk P w K mg base CX0 (k + 1) f fd ps (spE K o C) := by
  refine F.ok S (fun vs H Q E h => ?_) (fun cdv A outer s H vs Q E hr h => ?_)
  · obtain ⟨a, ws, ds, Φ, Hb, u, rfl, h1, _, _, _, _, h3, _⟩ := h
    rw [List.length_cons, h3.len]
    exact len ds Φ h1
  · obtain ⟨a, ws, ds, Φ, Hb, u, rfl, h1, h2, h3, h4, h5, h6, q⟩ := h
    have fin : ∀ {Γ' : List Sl} {σ' : L2.St} {Hb' H' : Hp} {v : V} {d : D}, (Φ d ∧ ∃ o', R o' ∧ Γ'[0]? = some (.ow o')) → GS K 1 (L2.start N (.ref a :: ws)) (stG N (.ow o :: ds.map .pd)) Hb H σ' Γ' Hb' H' → DR K Hb' v d → Q v H' := fun {Γ' σ' Hb' H' v d} z g r => by
      obtain ⟨p1, o', p2, p3⟩ := z
      obtain ⟨b, u', e1, e2, e3, e4⟩ := g.en.own 0 o' p3
      have e0 := g.kp 0 (by decide)
      rw [e1] at e0
      have z : some (some (V.ref b)) = some (some (V.ref a)) := e0
      injection z with z
      injection z with z
      injection z with z
      subst z
      exact q v d Hb' H' u' p1 (g.gr.wk fun c y => one_own y) e2 e3 (hR Hb' u' o' p2 e4) r
    exact ⟨_, pss_wp, body cdv A outer s H E hr ds Φ h1 _ Hb H (en_startE h2 h3 h4 h5 h6) _ (fun _ _ Hb' H' z g => fin z g .non) (fun _ _ _ _ z => z.elim) (fun _ _ _ _ z => z.elim) fun d v _ _ Hb' H' z g r => fin z g r⟩
end
end DL

namespace DL
open PySem PySem.Spec PyProof.Rows L2 Evl

/-! ### in, for tuples of data -/
section
variable {X : Cx}
def rInU (K : PySem.W.Frag) (neg : Bool) : R2 := fun x y H Q => ∃ d ds, Dp K H x d ∧ Dp K H y (.tuple ds) ∧ SeqAt.shaped d = true ∧ SeqAt.shaped (.tuple ds) = true ∧ Q (.bl (if neg then !ds.any (fun z => PyData.eqv z d) else ds.any fun z => PyData.eqv z d)) H
theorem room_inU {A : Around} {ds : List PyData} {d : PyData} (sd : SeqAt.shaped d = true) (hu : A.units + 65 < cLine) : A.units + 1 + min (PyData.depthAll ds) d.depth < cLine := by
  have := SeqAt.depth_of_shaped sd
  omega
theorem op_inU (hu : X.A.units + 65 < cLine) : OpR X (compareOp .In) (rInU X.K false) := by
  intro pins s σ H x y v u Q I rx ry h
  obtain ⟨d, ds, hd, he, sd, se, q⟩ := h
  obtain ⟨as, r1⟩ := Dp.reads I d x v hd rx
  obtain ⟨bs, r2⟩ := Dp.reads I (.tuple ds) y u he ry
  exact SeqAt.in_tuple_reads r2 r1 (SeqAt.canLay_of_shaped se) (SeqAt.canLay_of_shaped sd) (room_inU sd hu) ⟨.bl _, H, I, rfl, q⟩
theorem op_notInU (hu : X.A.units + 65 < cLine) : OpR X (compareOp .NotIn) (rInU X.K true) := by
  intro pins s σ H x y v u Q I rx ry h
  obtain ⟨d, ds, hd, he, sd, se, q⟩ := h
  obtain ⟨as, r1⟩ := Dp.reads I d x v hd rx
  obtain ⟨bs, r2⟩ := Dp.reads I (.tuple ds) y u he ry
  exact SeqAt.notIn_tuple_reads r2 r1 (SeqAt.canLay_of_shaped se) (SeqAt.canLay_of_shaped sd) (room_inU sd hu) ⟨.bl _, H, I, rfl, q⟩
theorem v_inU {K : PySem.W.Frag} {α : Type} [DecidableEq α] {f : α → D} {n : Nat} [h : Enc f n] {x : α} {l : List α} (hn : n ≤ 63 := by decide) : RV2 K (rInU K false) (f x) (tT f l) (.bl (decide (x ∈ l))) := by
  rw [← any_map (f := f) l]
  exact rv_scal fun u w Hb H ex h1 h2 => ⟨.bl _, .bl _, fun Q q => ⟨(f x).py, pyL (l.map f), (h1.mono ex).dp (h.ok x), (h2.mono ex).dp (n := n + 1) (okL_map h.ok l), ok_shaped (h.ok x) (by omega), ok_shaped (d := tT f l) (n := n + 1) (okL_map h.ok l) (by omega), q⟩⟩
theorem v_niU {K : PySem.W.Frag} {α : Type} [DecidableEq α] {f : α → D} {n : Nat} [h : Enc f n] {x : α} {l : List α} (hn : n ≤ 63 := by decide) : RV2 K (rInU K true) (f x) (tT f l) (.bl (!decide (x ∈ l))) := by
  rw [← any_map (f := f) l]
  exact rv_scal fun u w Hb H ex h1 h2 => ⟨.bl _, .bl _, fun Q q => ⟨(f x).py, pyL (l.map f), (h1.mono ex).dp (h.ok x), (h2.mono ex).dp (n := n + 1) (okL_map h.ok l), ok_shaped (h.ok x) (by omega), ok_shaped (d := tT f l) (n := n + 1) (okL_map h.ok l) (by omega), q⟩⟩
end

/-! ### sorted -/
class Alk {α : Type} (f : α → D) : Prop where
  al : ∀ x y, PySem.W.alike (f x).py (f y).py = true
instance alkI : Alk D.int := ⟨fun _ _ => by simp [D.py, PySem.W.alike]⟩
instance alkB : Alk D.bl := ⟨fun _ _ => by simp [D.py, PySem.W.alike]⟩
instance alkS : Alk D.str := ⟨fun _ _ => by simp [D.py, PySem.W.alike]⟩
theorem alk_all {α : Type} {f : α → D} (h : ∀ x y, PySem.W.alike (f x).py (f y).py = true) : ∀ l m : List α, PySem.W.alikeAll (pyL (l.map f)) (pyL (m.map f)) = true
  | [], [] => by simp [pyL, PySem.W.alikeAll]
  | [], _ :: _ => by simp [pyL, PySem.W.alikeAll]
  | _ :: _, [] => by simp [pyL, PySem.W.alikeAll]
  | x :: l, y :: m => by
    show PySem.W.alikeAll ((f x).py :: pyL (l.map f)) ((f y).py :: pyL (m.map f)) = true
    rw [PySem.W.alikeAll, h x y, alk_all h l m]
    rfl
instance alkT {α : Type} {f : α → D} [h : Alk f] : Alk (tT f) := ⟨fun l m => by
  show PySem.W.alike (.tuple (pyL (l.map f))) (.tuple (pyL (m.map f))) = true
  rw [PySem.W.alike]
  exact alk_all h.al l m⟩
instance alkL {α : Type} {f : α → D} [h : Alk f] : Alk (lT f) := ⟨fun l m => by
  show PySem.W.alike (.list (pyL (l.map f))) (.list (pyL (m.map f))) = true
  rw [PySem.W.alike]
  exact alk_all h.al l m⟩
instance alkP {α β : Type} {f : α → D} {g : β → D} [h : Alk f] [h2 : Alk g] : Alk (pT f g) := ⟨fun p q => by
  show PySem.W.alike (.tuple [(f p.1).py, (g p.2).py]) (.tuple [(f q.1).py, (g q.2).py]) = true
  rw [PySem.W.alike, PySem.W.alikeAll, PySem.W.alikeAll, h.al, h2.al]
  simp [PySem.W.alikeAll]⟩
/-- the order of data, as Python has it -/
def leD {α : Type} (f : α → D) : α → α → Bool := PySem.W.dataLe false fun x => (f x).py
def sortD {α : Type} (f : α → D) (xs : List α) : List α := xs.mergeSort (leD f)
theorem leD_int : leD D.int = fun a b => decide (a ≤ b) := PySem.W.dataLe_int id
section
variable {X : Cx}
/-- sorted(xs): the items with their values -/
def rSortD {α : Type} (K : PySem.W.Frag) (f : α → D) : List V → Hp → VK → Prop := fun vs H Q => ∃ (a : Addr) (zs : List (α × V)) (n : Nat), vs = [.ref a] ∧ SqL K H a (zs.map (·.2)) ∧ (∀ z ∈ zs, Dp K H z.2 (f z.1).py ∧ (f z.1).py.depth ≤ n) ∧ n ≤ 60 ∧ PySem.W.AllAlike (zs.map fun z => (f z.1).py) ∧ PySem.W.Sortable (zs.map fun z => (f z.1).py) ∧
  ∀ p, H p = none → Q (.ref p) (upd H p (.lst ((zs.mergeSort (PySem.W.dataLe false fun z => (f z.1).py)).map (·.2))))
theorem each_of {H : Hp} {pins : List (Addr × Obj)} {s : Shared} {σ : L2.St} {α : Type} {f : α → D} (I : Inv X pins σ H s) : ∀ {zs : List (α × V)} {its : List Value}, Vals (zs.map (·.2)) its → (∀ z ∈ zs, Dp X.K H z.2 (f z.1).py) → PySem.W.EachIs (fun u z => RelV z.2 u) its zs ∧ PySem.W.EachIs (fun u z => ∃ as, Reads s.heap u (f z.1).py as) its zs
  | [], _, .nil, _ => ⟨.nil, .nil⟩
  | z :: zs, _, .cons r t, h => by
    obtain ⟨k1, k2⟩ := each_of I (zs := zs) t fun y hy => h y (List.mem_cons_of_mem _ hy)
    exact ⟨.cons r k1, .cons (Dp.reads I _ _ _ (h z (List.mem_cons_self ..)) r) k2⟩
theorem vals_each {α : Type} : ∀ {zs : List (α × V)} {out : List Value}, PySem.W.EachIs (fun u (z : α × V) => RelV z.2 u) out zs → Vals (zs.map (·.2)) out
  | _, _, .nil => .nil
  | _, _, .cons r t => .cons r (vals_each t)
theorem cr_sortD {α : Type} {f : α → D} (hu : X.A.units + 65 < cLine) : CallR X (.builtin "sorted") (rSortD X.K f) := by
  intro pins s σ H vs us Q I r h
  obtain ⟨a, zs, n, rfl, hs, hd, hn, hal, hso, q⟩ := h
  obtain ⟨its, rv, hl, hz⟩ := I.list hs
  rw [Vals.ref1 r]
  obtain ⟨e1, e2⟩ := each_of I rv fun z hz => (hd z hz).1
  refine PySem.W.sorted_data (enc := fun z : α × V => (f z.1).py) hl.isList e1 e2 hal hso (by rw [List.length_map] at hz; exact hz) (fun b hb => ?_) fun out hlen eo => ?_
  · have := (hd b hb).2
    omega
  · obtain ⟨ep, he'⟩ := PyProof.Rows.sortedAll_at s.heap its out.toArray
    have hlen' : ((zs.mergeSort (PySem.W.dataLe false fun z => (f z.1).py)).map (·.2)).length ≤ sizeLine := by
      rw [List.length_map, List.length_mergeSort]
      rw [List.length_map] at hz
      exact hz
    exact ⟨.ref _, upd H (s.heap.objs.size + 1) (.lst ((zs.mergeSort (PySem.W.dataLe false fun z => (f z.1).py)).map (·.2))), I.laid (t' := s.toks) (fun _ _ => PyProof.Rows.sortedAll_old) (Nat.le_succ _) ⟨hlen', out, ep, vals_each eo, he'⟩, rfl, q _ (I.hok.fresh (Nat.le_succ _))⟩
theorem zip_snd {K : PySem.W.Frag} {Hb : Hp} {α : Type} {f : α → D} : ∀ {xs : List α} {vs : List V}, DRs K Hb vs (xs.map f) → (xs.zip vs).map (·.2) = vs ∧ (xs.zip vs).map (·.1) = xs ∧ ∀ z ∈ xs.zip vs, DR K Hb z.2 (f z.1)
  | [], _, h => by cases h; exact ⟨rfl, rfl, fun z hz => (List.not_mem_nil hz).elim⟩
  | x :: xs, _, h => by
    cases h with
    | cons a b =>
      obtain ⟨h1, h2, h3⟩ := zip_snd b
      refine ⟨by simp only [List.zip_cons_cons, List.map_cons]; rw [h1], by simp only [List.zip_cons_cons, List.map_cons]; rw [h2], fun z hz => ?_⟩
      rcases List.mem_cons.mp hz with e | e
      · subst e; exact a
      · exact h3 z e
theorem drs_zip {K : PySem.W.Frag} {Hb : Hp} {α : Type} {f : α → D} : ∀ {zs : List (α × V)}, (∀ z ∈ zs, DR K Hb z.2 (f z.1)) → DRs K Hb (zs.map (·.2)) ((zs.map (·.1)).map f)
  | [], _ => .nil
  | z :: zs, h => .cons (h z (List.mem_cons_self ..)) (drs_zip fun y hy => h y (List.mem_cons_of_mem _ hy))
theorem l_sorted {K : PySem.W.Frag} {α : Type} [DecidableEq α] {f : α → D} {n : Nat} [he : Enc f n] [ha : Alk f] {xs : List α} (hso : PySem.W.Sortable (xs.map fun x => (f x).py)) (hn : n ≤ 60 := by decide) : RLN K (rSortD K f) [lT f xs] fun z => z = .ml ((sortD f xs).map f) := fun vs Hb H ex h1 Q q => by
  obtain ⟨v, rfl, r⟩ := h1.one_inv
  cases r with
  | @lst a ws _ hb k =>
    obtain ⟨e1, e2, e3⟩ := zip_snd k
    have em : (xs.zip ws).map (fun z => (f z.1).py) = xs.map fun x => (f x).py := by
      rw [← e2, List.map_map, e2]
      rfl
    refine ⟨a, xs.zip ws, n, rfl, by rw [e1]; exact SqL.of (ex _ _ hb), fun z hz => ⟨((e3 z hz).mono ex).dp (he.ok z.1), (ok_depth (he.ok z.1)).2⟩, hn, ?_, by rw [em]; exact hso, fun p hp => ?_⟩
    · rw [em]
      exact PySem.W.AllAlike.of ha.al
    · have es : ((xs.zip ws).mergeSort (PySem.W.dataLe false fun z => (f z.1).py)).map (·.1) = sortD f xs := by
        have z := PySem.W.sort_maps (r := PySem.W.dataLe false fun z : α × V => (f z.1).py) (s := leD f) (fun z : α × V => z.1) (l := xs.zip ws) (fun _ _ _ _ => rfl)
        rw [e2] at z
        exact z
      refine q p _ _ Hb _ rfl hp (New.side ex hp) (fresh_back ex hp) upd_same ⟨_, rfl, ?_⟩
      rw [← es]
      exact drs_zip fun z hz => e3 z (List.mem_mergeSort.mp hz)
theorem so_int {xs : List Int} : PySem.W.Sortable (xs.map fun x => (D.int x).py) := PySem.W.Sortable.others (enc := fun x => (D.int x).py) fun b => ⟨fun h => (nomatch h), fun _ h => (nomatch h)⟩
theorem so_tup {α : Type} {f : α → D} {xs : List (List α)} (h : ∀ x ∈ xs, x ≠ []) : PySem.W.Sortable (xs.map fun x => (tT f x).py) := .inl fun d hd => by
  obtain ⟨b, hb, rfl⟩ := List.mem_map.mp hd
  cases b with
  | nil => exact absurd rfl (h _ hb)
  | cons y ys => exact ⟨_, _, rfl⟩
theorem so_pair {α β : Type} {f : α → D} {g : β → D} {xs : List (α × β)} : PySem.W.Sortable (xs.map fun x => (pT f g x).py) := .inl fun d hd => by
  obtain ⟨b, hb, rfl⟩ := List.mem_map.mp hd
  exact ⟨_, _, rfl⟩
/-! ### set(tuple of ints), sorted -/
def rSetTI (w : World) (K : PySem.W.Frag) : List V → Hp → VK → Prop := fun xs H Q => ∃ (a : Addr) (ns : List Int), xs = [.ref a] ∧ SqT K H a (ns.map V.int) ∧ ns.length ≤ 60 ∧ ∀ p c, c ≤ ns.length → H p = none → Q (.ref p) (upd H p (SetO w p (fun j => decide (j ∈ ns)) c))
theorem cr_setTI (hc : X.calm = true) : CallR X (.type "set") (rSetTI X.w X.K) := by
  intro pins s σ H xs us Q I r h
  obtain ⟨a, ns, rfl, hs, h60, q⟩ := h
  obtain ⟨its, rv, ht, hz⟩ := I.tuple hs
  rw [Vals.ref1 r]
  have hi := rv.ints
  refine call_set_tupI ns (I.ok.hd hc) (show s.heap.IsTuple a its.toArray from ht) (by simpa using hi) (by unfold scanBound; omega) fun h' tk c R hcn hk => ?_
  exact ⟨.ref _, upd H s.heap.objs.size (SetO X.w s.heap.objs.size (fun j => decide (j ∈ ns)) c), I.laid (t' := tk) hk (Nat.le_refl _) (setO_new R), rfl, q _ c hcn (I.hok.fresh (Nat.le_refl _))⟩
end
/-- what sorted(set(ns)) is: ascending, each once -/
def insI (x : Int) : List Int → List Int
  | [] => [x]
  | y :: l => if x < y then x :: y :: l else if x = y then y :: l else y :: insI x l
def setI : List Int → List Int
  | [] => []
  | x :: l => insI x (setI l)
theorem mem_insI {x y : Int} : ∀ {l : List Int}, y ∈ insI x l ↔ y = x ∨ y ∈ l
  | [] => by simp [insI]
  | z :: l => by
    unfold insI
    by_cases h : x < z
    · rw [if_pos h]; simp
    · rw [if_neg h]
      by_cases h2 : x = z
      · rw [if_pos h2]; subst h2; simp
      · rw [if_neg h2]
        simp only [List.mem_cons, mem_insI (l := l)]
        constructor
        · rintro (h | h | h) <;> simp [h]
        · rintro (h | h | h) <;> simp [h]
theorem mem_setI {y : Int} : ∀ {l : List Int}, y ∈ setI l ↔ y ∈ l
  | [] => Iff.rfl
  | x :: l => by
    show y ∈ insI x (setI l) ↔ _
    rw [mem_insI, mem_setI, List.mem_cons]
theorem insI_asc {x : Int} : ∀ {l : List Int}, l.Pairwise (· < ·) → (insI x l).Pairwise (· < ·)
  | [], _ => List.pairwise_singleton _ _
  | z :: l, h => by
    have h1 := (List.pairwise_cons.mp h)
    unfold insI
    by_cases e : x < z
    · rw [if_pos e]
      exact List.pairwise_cons.mpr ⟨fun y hy => (List.mem_cons.mp hy).elim (fun q => by omega) fun q => by have := h1.1 y q; omega, h⟩
    · rw [if_neg e]
      by_cases e2 : x = z
      · rw [if_pos e2]; exact h
      · rw [if_neg e2]
        exact List.pairwise_cons.mpr ⟨fun y hy => (mem_insI.mp hy).elim (fun q => by omega) (h1.1 y), insI_asc h1.2⟩
theorem setI_asc : ∀ l : List Int, (setI l).Pairwise (· < ·)
  | [] => List.Pairwise.nil
  | x :: l => insI_asc (setI_asc l)
theorem asc_unique : ∀ {l m : List Int}, l.Pairwise (· < ·) → m.Pairwise (· < ·) → (∀ x, x ∈ l ↔ x ∈ m) → l = m
  | [], [], _, _, _ => rfl
  | [], y :: m, _, _, h => absurd ((h y).mpr (List.mem_cons_self ..)) (List.not_mem_nil)
  | x :: l, [], _, _, h => absurd ((h x).mp (List.mem_cons_self ..)) (List.not_mem_nil)
  | x :: l, y :: m, hl, hm, h => by
    have h1 := List.pairwise_cons.mp hl
    have h2 := List.pairwise_cons.mp hm
    have e : x = y := by
      rcases List.mem_cons.mp ((h x).mp (List.mem_cons_self ..)) with e | e
      · exact e
      · rcases List.mem_cons.mp ((h y).mpr (List.mem_cons_self ..)) with e' | e'
        · exact e'.symm
        · have a := h2.1 x e
          have b := h1.1 y e'
          omega
    subst e
    rw [asc_unique h1.2 h2.2 fun z => ?_]
    constructor
    · intro hz
      rcases List.mem_cons.mp ((h z).mp (List.mem_cons_of_mem _ hz)) with e | e
      · subst e
        have := h1.1 z hz
        omega
      · exact e
    · intro hz
      rcases List.mem_cons.mp ((h z).mpr (List.mem_cons_of_mem _ hz)) with e | e
      · subst e
        have := h2.1 z hz
        omega
      · exact e
theorem setI_len : ∀ l : List Int, (setI l).length ≤ l.length
  | [] => Nat.le_refl _
  | x :: l => by
    have h1 : ∀ m : List Int, (insI x m).length ≤ m.length + 1 := fun m => by
      induction m with
      | nil => exact Nat.le_refl _
      | cons y m ih =>
        unfold insI
        by_cases e : x < y
        · rw [if_pos e]; exact Nat.le_refl _
        · rw [if_neg e]
          by_cases e2 : x = y
          · rw [if_pos e2]; exact Nat.le_succ _
          · rw [if_neg e2]; exact Nat.succ_le_succ ih
    exact Nat.le_trans (h1 (setI l)) (Nat.succ_le_succ (setI_len l))
section
variable {X : Cx} {Γ : List Sl} {e : Expr} {pos p p1 pos1 : Pos}
/-- sorted(set(t)), t a tuple of ints -/
theorem xo_sortedSetT {ns : List Int} (h : XV X e Γ (tT D.int ns)) (hz : ns.length ≤ 60) (hm : X.mg "sorted" = none) (hm1 : X.mg "set" = none) (hc : X.calm = true := by rfl) (hg : Gl X "sorted" := by rfl) (hg1 : Gl X "set" := by rfl)
    (he : starEach (e :: []) X.env = (false, eval e X.env) :: starEach [] X.env := by rfl) (hpl : (backTo pos1 (starEach [] X.env)).any (·.1) = false := by rfl) (he2 : starEach (.Call (.Name "set" p1) [e] [] pos1 :: []) X.env = (false, eval (.Call (.Name "set" p1) [e] [] pos1) X.env) :: starEach [] X.env := by rfl) (hpl2 : (backTo pos (starEach [] X.env)).any (·.1) = false := by rfl) :
    XO X (.Call (.Name "sorted" p) [.Call (.Name "set" p1) [e] [] pos1] [] pos) Γ (.ml ((setI ns).map D.int)) := by
  have hs : PE X (.Call (.Name "set" p1) [e] [] pos1) (tCB (rSetTI X.w X.K) (tCons (wpE X e) tNil)) := pe_callTy (cr_setTI hc) hg1 hm1 PyProof.Rows.boot_set (pa_cons pe_wp pa_nil he) (by decide) (by decide) he hpl
  refine xn_of (pe_callB (cr_sortedSet hc) hg hm (by decide +kernel) (pa_cons hs pa_nil he2) (by decide) (by decide) he2 hpl2) fun σ Hb H E Q q => h σ Hb H E _ fun v d Hb1 H1 p1 g1 E1 r1 => ?_
  subst p1
  cases r1 with
  | @tup a vs _ ha k =>
    have e1 := k.ints
    subst e1
    refine ⟨a, ns, rfl, xt E1.ex ha, hz, fun p c hcn hp => ⟨p, _, c, rfl, upd_same, by omega, fun ms p2 hs hmem _ hp2 => ?_⟩⟩
    have em : ms = setI ns := asc_unique hs (setI_asc ns) fun x => by
      rw [hmem x, mem_setI]
      exact decide_eq_true_iff
    subst em
    have n1 := New.side (o := SetO X.w p (fun j => decide (j ∈ ns)) c) E1.ex hp
    have E2 := E1.new n1
    have n2 := New.side (o := .lst ((setI ns).map V.int)) E2.ex hp2
    exact q p2 _ _ Hb1 _ rfl (new_none g1 (new_none n1 hp2)) (gwn (gwn g1 n1) n2) (E2.new n2) (fresh_back E2.ex hp2) upd_same ⟨_, rfl, drs_ints _⟩
end

/-! ### typed forms in short -/
theorem atI_getD {α : Type} {l : List α} {i : Int} {d : α} (h0 : 0 ≤ i) (h : i < l.length) : atI l i = some (l.getD i.toNat d) := by
  obtain ⟨n, rfl⟩ : ∃ n : Nat, i = n := ⟨i.toNat, by omega⟩
  have hn : n < l.length := by omega
  refine atI_nat ?_
  rw [List.getElem?_eq_getElem hn]
  show _ = some (l.getD n d)
  rw [List.getD_eq_getElem?_getD, List.getElem?_eq_getElem hn]
  rfl
/-- the least, the greatest of ints -/
def lmin : List Int → Int
  | [] => 0
  | [x] => x
  | x :: y :: l => if lmin (y :: l) < x then lmin (y :: l) else x
def lmax : List Int → Int
  | [] => 0
  | [x] => x
  | x :: y :: l => if x < lmax (y :: l) then lmax (y :: l) else x
theorem lmin_ok : ∀ {l : List Int}, l ≠ [] → lmin l ∈ l ∧ ∀ y ∈ l, lmin l ≤ y
  | [x], _ => ⟨List.mem_cons_self .., fun y hy => by rw [List.mem_singleton.mp hy]; exact Int.le_refl _⟩
  | x :: y :: l, _ => by
    obtain ⟨h1, h2⟩ := lmin_ok (l := y :: l) (by simp)
    unfold lmin
    by_cases e : lmin (y :: l) < x
    · rw [if_pos e]
      exact ⟨List.mem_cons_of_mem _ h1, fun z hz => (List.mem_cons.mp hz).elim (fun q => by omega) (h2 z)⟩
    · rw [if_neg e]
      exact ⟨List.mem_cons_self .., fun z hz => (List.mem_cons.mp hz).elim (fun q => by omega) fun q => by have := h2 z q; omega⟩
theorem lmax_ok : ∀ {l : List Int}, l ≠ [] → lmax l ∈ l ∧ ∀ y ∈ l, y ≤ lmax l
  | [x], _ => ⟨List.mem_cons_self .., fun y hy => by rw [List.mem_singleton.mp hy]; exact Int.le_refl _⟩
  | x :: y :: l, _ => by
    obtain ⟨h1, h2⟩ := lmax_ok (l := y :: l) (by simp)
    unfold lmax
    by_cases e : x < lmax (y :: l)
    · rw [if_pos e]
      exact ⟨List.mem_cons_of_mem _ h1, fun z hz => (List.mem_cons.mp hz).elim (fun q => by omega) (h2 z)⟩
    · rw [if_neg e]
      exact ⟨List.mem_cons_self .., fun z hz => (List.mem_cons.mp hz).elim (fun q => by omega) fun q => by have := h2 z q; omega⟩
section
variable {X : Cx} {Γ : List Sl} {m : Bool} {a b c e tg : Expr} {pos p : Pos} {α β : Type}
theorem xv_catT {f : α → D} {l l' : List α} (ha : XV X a Γ (tT f l)) (hb : XV X b Γ (tT f l')) (hz : l.length + l'.length ≤ 100000) : XV X (.BinOp a .Add b pos) Γ (tT f (l ++ l')) := by
  have z := xv_bin (pos := pos) op_catA (v_catT (K := X.K) (ds := l.map f) (es := l'.map f) (by rw [List.length_map, List.length_map]; exact hz)) ha hb
  rw [← List.map_append] at z
  exact z
theorem xo_catL {f : α → D} {l l' : List α} (ha : XV X a Γ (lT f l)) (hb : XV X b Γ (lT f l')) (hz : l.length + l'.length ≤ 100000) : XO X (.BinOp a .Add b pos) Γ (.ml ((l ++ l').map f)) := xn_of (pe_op op_cat pe_wp pe_wp) (jn_bin ha (fun _ _ => hb) fun d d' p q => by
  subst p q
  have z := v_catL (K := X.K) (ds := l.map f) (es := l'.map f) (by rw [List.length_map, List.length_map]; exact hz)
  rw [← List.map_append] at z
  exact z)
theorem xv_lenL {ds : List D} (h : XV X a Γ (.lst ds)) (hm : X.mg "len" = none) (hg : Gl X "len" := by rfl) (hs : starEach (a :: []) X.env = (false, eval a X.env) :: starEach [] X.env := by rfl) (hpl : (backTo pos (starEach [] X.env)).any (·.1) = false := by rfl) : XV X (.Call (.Name "len" p) [a] [] pos) Γ (.int ds.length) := xe_callB call_len_seq hm PySem.boot_len (xl_cons h xa_nil hs) (fun _ z => by rw [z]; exact l_lenL) hg (by decide) (by decide) hs hpl
theorem xv_lenT {ds : List D} (h : XV X a Γ (.tup ds)) (hm : X.mg "len" = none) (hg : Gl X "len" := by rfl) (hs : starEach (a :: []) X.env = (false, eval a X.env) :: starEach [] X.env := by rfl) (hpl : (backTo pos (starEach [] X.env)).any (·.1) = false := by rfl) : XV X (.Call (.Name "len" p) [a] [] pos) Γ (.int ds.length) := xe_callB call_len_seq hm PySem.boot_len (xl_cons h xa_nil hs) (fun _ z => by rw [z]; exact l_lenT) hg (by decide) (by decide) hs hpl
theorem xv_lenLT {f : α → D} {l : List α} (h : XV X a Γ (lT f l)) (hm : X.mg "len" = none) (hg : Gl X "len" := by rfl) (hs : starEach (a :: []) X.env = (false, eval a X.env) :: starEach [] X.env := by rfl) (hpl : (backTo pos (starEach [] X.env)).any (·.1) = false := by rfl) : XV X (.Call (.Name "len" p) [a] [] pos) Γ (.int l.length) := by
  have z := xv_lenL (pos := pos) (p := p) h hm hg hs hpl
  rw [List.length_map] at z
  exact z
theorem xv_lenTT {f : α → D} {l : List α} (h : XV X a Γ (tT f l)) (hm : X.mg "len" = none) (hg : Gl X "len" := by rfl) (hs : starEach (a :: []) X.env = (false, eval a X.env) :: starEach [] X.env := by rfl) (hpl : (backTo pos (starEach [] X.env)).any (·.1) = false := by rfl) : XV X (.Call (.Name "len" p) [a] [] pos) Γ (.int l.length) := by
  have z := xv_lenT (pos := pos) (p := p) h hm hg hs hpl
  rw [List.length_map] at z
  exact z
theorem xv_tupleL {f : α → D} {l : List α} (h : XV X a Γ (lT f l)) (hm : X.mg "tuple" = none) (hg : Gl X "tuple" := by rfl) (hs : starEach (a :: []) X.env = (false, eval a X.env) :: starEach [] X.env := by rfl) (hpl : (backTo pos (starEach [] X.env)).any (·.1) = false := by rfl) : XV X (.Call (.Name "tuple" p) [a] [] pos) Γ (tT f l) := xe_callT call_tuple_of hm (by decide +kernel) (xl_cons h xa_nil hs) (fun _ z => by rw [z]; exact l_tupleL) hg (by decide) (by decide) hs hpl
theorem xv_tupleT {f : α → D} {l : List α} (h : XV X a Γ (tT f l)) (hm : X.mg "tuple" = none) (hg : Gl X "tuple" := by rfl) (hs : starEach (a :: []) X.env = (false, eval a X.env) :: starEach [] X.env := by rfl) (hpl : (backTo pos (starEach [] X.env)).any (·.1) = false := by rfl) : XV X (.Call (.Name "tuple" p) [a] [] pos) Γ (tT f l) := xe_callT call_tuple_of hm (by decide +kernel) (xl_cons h xa_nil hs) (fun _ z => by rw [z]; exact l_tupleT) hg (by decide) (by decide) hs hpl
theorem xo_listL {f : α → D} {l : List α} (h : XV X a Γ (lT f l)) (hm : X.mg "list" = none) (hg : Gl X "list" := by rfl) (hs : starEach (a :: []) X.env = (false, eval a X.env) :: starEach [] X.env := by rfl) (hpl : (backTo pos (starEach [] X.env)).any (·.1) = false := by rfl) : XO X (.Call (.Name "list" p) [a] [] pos) Γ (.ml (l.map f)) := xn_callT call_list_of hm (by decide +kernel) (xl_cons h xa_nil hs) (fun _ z => by rw [z]; exact l_listL) hg (by decide) (by decide) hs hpl
theorem xo_listT {f : α → D} {l : List α} (h : XV X a Γ (tT f l)) (hm : X.mg "list" = none) (hg : Gl X "list" := by rfl) (hs : starEach (a :: []) X.env = (false, eval a X.env) :: starEach [] X.env := by rfl) (hpl : (backTo pos (starEach [] X.env)).any (·.1) = false := by rfl) : XO X (.Call (.Name "list" p) [a] [] pos) Γ (.ml (l.map f)) := xn_callT call_list_of hm (by decide +kernel) (xl_cons h xa_nil hs) (fun _ z => by rw [z]; exact l_listT) hg (by decide) (by decide) hs hpl
theorem xv_all {l : List Bool} (h : XV X a Γ (lT D.bl l)) (hm : X.mg "all" = none) (hc : X.calm = true := by rfl) (hg : Gl X "all" := by rfl) (hs : starEach (a :: []) X.env = (false, eval a X.env) :: starEach [] X.env := by rfl) (hpl : (backTo pos (starEach [] X.env)).any (·.1) = false := by rfl) : XV X (.Call (.Name "all" p) [a] [] pos) Γ (.bl (l.all id)) := xe_callB (cr_all hc) hm (by decide +kernel) (xl_cons h xa_nil hs) (fun _ z => by rw [z]; exact l_all) hg (by decide) (by decide) hs hpl
theorem xv_any {l : List Bool} (h : XV X a Γ (lT D.bl l)) (hm : X.mg "any" = none) (hc : X.calm = true := by rfl) (hg : Gl X "any" := by rfl) (hs : starEach (a :: []) X.env = (false, eval a X.env) :: starEach [] X.env := by rfl) (hpl : (backTo pos (starEach [] X.env)).any (·.1) = false := by rfl) : XV X (.Call (.Name "any" p) [a] [] pos) Γ (.bl (l.any id)) := xe_callB (cr_any hc) hm (by decide +kernel) (xl_cons h xa_nil hs) (fun _ z => by rw [z]; exact l_any) hg (by decide) (by decide) hs hpl
theorem xv_intI {i : Int} (h : XV X a Γ (.int i)) (hm : X.mg "int" = none) (hg : Gl X "int" := by rfl) (hs : starEach (a :: []) X.env = (false, eval a X.env) :: starEach [] X.env := by rfl) (hpl : (backTo pos (starEach [] X.env)).any (·.1) = false := by rfl) : XV X (.Call (.Name "int" p) [a] [] pos) Γ (.int i) := xe_callT call_int1 hm PyProof.Rows.boot_int (xl_cons h xa_nil hs) (fun _ z => by rw [z]; exact l_int) hg (by decide) (by decide) hs hpl
theorem xv_intB {i : Bool} (h : XV X a Γ (.bl i)) (hm : X.mg "int" = none) (hg : Gl X "int" := by rfl) (hs : starEach (a :: []) X.env = (false, eval a X.env) :: starEach [] X.env := by rfl) (hpl : (backTo pos (starEach [] X.env)).any (·.1) = false := by rfl) : XV X (.Call (.Name "int" p) [a] [] pos) Γ (.int (if i then 1 else 0)) := xe_callT call_int1 hm PyProof.Rows.boot_int (xl_cons h xa_nil hs) (fun _ z => by rw [z]; exact l_intB) hg (by decide) (by decide) hs hpl
theorem xv_abs {i : Int} (h : XV X a Γ (.int i)) (hm : X.mg "abs" = none) (hg : Gl X "abs" := by rfl) (hs : starEach (a :: []) X.env = (false, eval a X.env) :: starEach [] X.env := by rfl) (hpl : (backTo pos (starEach [] X.env)).any (·.1) = false := by rfl) : XV X (.Call (.Name "abs" p) [a] [] pos) Γ (.int (if i < 0 then -i else i)) := xe_callB call_abs hm PyProof.Rows.boot_abs (xl_cons h xa_nil hs) (fun _ z => by rw [z]; exact l_abs) hg (by decide) (by decide) hs hpl
theorem xv_min {ns : List Int} (h : XV X a Γ (lT D.int ns)) (h0 : ns ≠ []) (hm : X.mg "min" = none) (hc : X.calm = true := by rfl) (hg : Gl X "min" := by rfl) (hs : starEach (a :: []) X.env = (false, eval a X.env) :: starEach [] X.env := by rfl) (hpl : (backTo pos (starEach [] X.env)).any (·.1) = false := by rfl) : XV X (.Call (.Name "min" p) [a] [] pos) Γ (.int (lmin ns)) := by
  refine XE.imp (Φ := fun z => ∃ m, z = .int m ∧ m ∈ ns ∧ ∀ y ∈ ns, m ≤ y) (xe_callB (cr_min hc) hm (by decide +kernel) (xl_cons h xa_nil hs) (fun _ z => by rw [z]; exact l_min (List.length_pos_iff.mpr h0)) hg (by decide) (by decide) hs hpl) ?_
  rintro d ⟨m, e, h1, h2⟩
  show d = _
  obtain ⟨k1, k2⟩ := lmin_ok h0
  have a1 := h2 _ k1
  have a2 := k2 _ h1
  rw [e, show m = lmin ns by omega]
theorem xv_max {ns : List Int} (h : XV X a Γ (lT D.int ns)) (h0 : ns ≠ []) (hm : X.mg "max" = none) (hc : X.calm = true := by rfl) (hg : Gl X "max" := by rfl) (hs : starEach (a :: []) X.env = (false, eval a X.env) :: starEach [] X.env := by rfl) (hpl : (backTo pos (starEach [] X.env)).any (·.1) = false := by rfl) : XV X (.Call (.Name "max" p) [a] [] pos) Γ (.int (lmax ns)) := by
  refine XE.imp (Φ := fun z => ∃ m, z = .int m ∧ m ∈ ns ∧ ∀ y ∈ ns, y ≤ m) (xe_callB (cr_max hc) hm (by decide +kernel) (xl_cons h xa_nil hs) (fun _ z => by rw [z]; exact l_max (List.length_pos_iff.mpr h0)) hg (by decide) (by decide) hs hpl) ?_
  rintro d ⟨m, e, h1, h2⟩
  show d = _
  obtain ⟨k1, k2⟩ := lmax_ok h0
  have a1 := h2 _ k1
  have a2 := k2 _ h1
  rw [e, show m = lmax ns by omega]
theorem xo_sorted [DecidableEq α] {f : α → D} {n : Nat} [Enc f n] [Alk f] {l : List α} (h : XV X a Γ (lT f l)) (hso : PySem.W.Sortable (l.map fun x => (f x).py)) (hu : X.A.units + 65 < cLine) (hm : X.mg "sorted" = none) (hn : n ≤ 60 := by decide) (hg : Gl X "sorted" := by rfl) (hs : starEach (a :: []) X.env = (false, eval a X.env) :: starEach [] X.env := by rfl) (hpl : (backTo pos (starEach [] X.env)).any (·.1) = false := by rfl) : XO X (.Call (.Name "sorted" p) [a] [] pos) Γ (.ml ((sortD f l).map f)) := xn_callB (cr_sortD (f := f) hu) hm (by decide +kernel) (xl_cons h xa_nil hs) (fun _ z => by rw [z]; exact l_sorted hso hn) hg (by decide) (by decide) hs hpl
theorem xw_listT {f : α → D} {l : List α} (h : XV X e Γ (lT f l)) : XW X tg e Γ (l.map f) := xw_list h
theorem xw_tupT {f : α → D} {l : List α} (h : XV X e Γ (tT f l)) : XW X tg e Γ (l.map f) := xw_tup h
theorem xv_ifT {f : α → D} {k : Bool} {x y : α} (ht : XB X c Γ k) (ha : k = true → XV X a Γ (f x)) (hb : k = false → XV X b Γ (f y)) : XV X (.IfExp c a b pos) Γ (f (if k = true then x else y)) := xe_if ht (fun z => by
  rw [if_pos z.symm]
  exact ha z.symm) fun z => by
  rw [if_neg (by rw [← z]; exact Bool.false_ne_true)]
  exact hb z.symm
theorem xb_truthI {i : Int} (h : XV X e Γ (.int i)) (he : ∀ whole, isTrue e X.env whole = (do let v ← whole; standAt e.pos; holding [v] (truthy v)) := by intro _; rfl) : XB X e Γ (i != 0) := xt_of (pt_truth pe_wp he) fun σ Hb H E Q q => h σ Hb H E _ fun v d Hb1 H1 p1 g1 E1 r1 => by
  subst p1
  cases r1
  exact ⟨i != 0, rfl, q _ Hb1 H1 rfl g1 E1⟩
theorem xv_neg {i : Int} (h : XV X e Γ (.int i)) : XV X (.UnaryOp .USub e pos) Γ (.int (-i)) := xe_of (pe_un un_neg pe_wp) fun σ Hb H E Q q => h σ Hb H E _ fun v d Hb1 H1 p1 g1 E1 r1 => by
  subst p1
  cases r1
  exact ⟨i, rfl, q _ _ Hb1 H1 rfl g1 E1 (.int _)⟩
theorem v_isB {K : PySem.W.Frag} {x y : Bool} : RV2 K (fun x y H Q => ∃ a b, x = .bl a ∧ y = .bl b ∧ Q (.bl (decide (a = b))) H) (.bl x) (.bl y) (.bl (decide (x = y))) := rv_scal fun u w Hb H ex h1 h2 => by
  cases h1
  cases h2
  exact ⟨.bl _, .bl _, fun Q q => ⟨x, y, rfl, rfl, q⟩⟩
theorem v_isnotB {K : PySem.W.Frag} {x y : Bool} : RV2 K (fun x y H Q => ∃ a b, x = .bl a ∧ y = .bl b ∧ Q (.bl (!decide (a = b))) H) (.bl x) (.bl y) (.bl (!decide (x = y))) := rv_scal fun u w Hb H ex h1 h2 => by
  cases h1
  cases h2
  exact ⟨.bl _, .bl _, fun Q q => ⟨x, y, rfl, rfl, q⟩⟩
end
end DL

namespace DL
open PySem PySem.Spec PyProof.Rows L2 Evl
section
variable {X : Cx} {m : Bool} {elt tg iter c : Expr} {ifs : List Expr} {scope : Scope} {Γ : List Sl} {pos : Pos} {own : List (Str × Nat)} {g : TG} {tt : TT} {kp : Nat} {G : Dn}
/-- without a test -/
theorem xo_map {α β : Type} {f : α → D} {xs : List α} (js : List Nat) (es : α → List D) (f' : β → D) (h : α → β) (own : List (Str × Nat)) (hi : XW X tg iter Γ (xs.map f)) (hg : Bk X scope fun Y => PG Y tg g) (gt : ∀ x ∈ xs, XGt X.K g (f x) js (es x))
    (he : ∀ x ∈ xs, Bk X scope fun Y => XV Y elt (setG Γ js (es x)) (f' (h x))) (hl : xs.length ≤ 100000) (ok : BlkOk X.N X.env.scope scope own) (hN : X.N.Nodup) (hw : wipeG Γ (own.map (·.2)) = Γ := by rfl) (hv : ∀ j ∈ js, j ∈ own.map (·.2) := by decide)
    (hc : X.calm = true := by rfl) (hs : ∀ x, foldedSetIterable iter X.env x = pure x := by intro _; rfl) : XO X (.ListComp elt [⟨tg, iter, [], 0⟩] scope pos) Γ (.ml ((xs.map h).map f')) := by
  have z := xo_lc (pos := pos) js es (fun _ => true) f' h own hi hg gt (.no) (fun _ _ => jt_yes rfl) (fun x hx _ => he x hx) hl ok hN hw hv hc hs
  rw [List.filter_eq_self.mpr (fun _ _ => rfl)] at z
  exact z
theorem xs_asgMap {st2 py : Pos} {x : Str} {α β : Type} {f : α → D} {xs : List α} (i : Nat) (js : List Nat) (es : α → List D) (f' : β → D) (h : α → β) (own : List (Str × Nat)) (hi : XW X tg iter Γ (xs.map f)) (hg : Bk X scope fun Y => PG Y tg g) (gt : ∀ x ∈ xs, XGt X.K g (f x) js (es x))
    (he : ∀ x ∈ xs, Bk X scope fun Y => XV Y elt (setG Γ js (es x)) (f' (h x))) (hl : xs.length ≤ 100000) (k : G.nx (Γ.set i (.ow (.ml ((xs.map h).map f'))))) (ok : BlkOk X.N X.env.scope scope own) (hN : X.N.Nodup) (hsw : swapsWith (.ListComp elt [⟨tg, iter, [], 0⟩] scope pos) (some (.Name x py)) st2.line X.env = pure true)
    (hw : wipeG Γ (own.map (·.2)) = Γ := by rfl) (hv : ∀ j ∈ js, j ∈ own.map (·.2) := by decide) (hk : kp ≤ i := by decide) (hy : X.N[i]? = some x := by rfl) (hyl : X.env.scope.names.lookup x = some .local := by rfl)
    (hc : X.calm = true := by rfl) (hs : ∀ x, foldedSetIterable iter X.env x = pure x := by intro _; rfl) : XS X kp (.Assign [.Name x py] (.ListComp elt [⟨tg, iter, [], 0⟩] scope pos) st2) Γ G := by
  refine xs_asgLc i js es (fun _ => true) f' h own hi hg gt (.no) (fun _ _ => jt_yes rfl) (fun x hx _ => he x hx) hl ?_ ok hN hsw hw hv hk hy hyl hc hs
  rw [List.filter_eq_self.mpr (fun _ _ => rfl)]
  exact k
end

/-! ### two clauses -/
section
variable {K : PySem.W.Frag} {Γ : List Sl} {wi wi1 : TI} {g g1 : TG} {tt tt1 : TT} {te : TE}
theorem jn_lc2P {α β γ : Type} {vs vs1 js js1 : List Nat} {f : α → D} {xs : List α} {es : α → List D} {p : α → Bool} {f1 : β → D} {ys : α → List β} {es1 : β → List D} {p1 : α → β → Bool} {f' : γ → D} {h : α → β → γ} (hw : wipeG Γ vs = Γ) (hw1 : ∀ x ∈ xs, wipeG (setG Γ js (es x)) vs1 = setG Γ js (es x)) (hi : JI K false wi Γ fun z => z = xs.map f) (hv : ∀ j ∈ js, j ∈ vs) (hv1 : ∀ j ∈ js1, j ∈ vs1) (hl : ((xs.filter p).flatMap fun x => ((ys x).filter (p1 x)).map (h x)).length < 100000)
    (hg : ∀ x ∈ xs, XGt K g (f x) js (es x)) (ht : ∀ x ∈ xs, JT K false tt (setG Γ js (es x)) fun z => z = p x) (hi1 : ∀ x ∈ xs, p x = true → JI K false wi1 (setG Γ js (es x)) fun z => z = (ys x).map f1) (hg1 : ∀ x ∈ xs, ∀ y ∈ ys x, XGt K g1 (f1 y) js1 (es1 y))
    (ht1 : ∀ x ∈ xs, ∀ y ∈ ys x, JT K false tt1 (setG (setG Γ js (es x)) js1 (es1 y)) fun z => z = p1 x y) (he : ∀ x ∈ xs, ∀ y ∈ ys x, p1 x y = true → JR K false te (setG (setG Γ js (es x)) js1 (es1 y)) fun z => z = f' (h x y)) :
    JN K false (tLc2 wi g tt wi1 g1 tt1 te vs vs1) Γ fun o => o = .ml (((xs.filter p).flatMap fun x => ((ys x).filter (p1 x)).map (h x)).map f') := fun σ Hb H E Q q => by
  refine hi σ Hb H E _ fun J ds Hb1 H1 e0 g1' E1 it => fun Dl nD => ?_
  subst e0
  have nb : Hb1 Dl = none := fresh_back E1.ex nD
  have noD : ¬ Own σ Γ Dl := fun z => (E1.own_some z).1 nD
  have nW : ∀ {σ' : L2.St} {Γ' : List Sl} {b : Addr}, ¬ WW false σ' Γ' b := fun z => by cases z.1
  -- what is made of the first i items, and of the first j of the inner ones
  let A : Nat → List γ := fun i => ((xs.take i).filter p).flatMap fun x => ((ys x).filter (p1 x)).map (h x)
  let St : List γ → Hp → Prop := fun acc H2 => ∃ Hb2 ws, Gr (fun a => a = Dl) Hb1 (upd H1 Dl (.lst [])) Hb2 H2 ∧ En K Hb2 H2 σ Γ ∧ Hb2 Dl = none ∧ H2 Dl = some (.lst ws) ∧ DRs K Hb2 ws (acc.map f')
  have hlen : (xs.map f).length = xs.length := List.length_map _
  refine ⟨fun i mm H2 => mm = xs.length - i ∧ i ≤ xs.length ∧ St (A i) H2, ⟨xs.length, by simp, Nat.zero_le _, Hb1, [], Gr.refl (New.side E1.ex nD).s, E1.new (New.side E1.ex nD), nb, upd_same, by simp [A]; exact .nil⟩, ?_⟩
  rintro i mm H2 ⟨rfl, hi', Hb2, ws, G2, E2, n2, h2, r2⟩
  by_cases hlt : i < xs.length
  · obtain ⟨go, yl⟩ := (it Hb2 H2 G2.b E2.ex i).1 (by rw [hlen]; exact hlt)
    have hx : xs[i]? = some xs[i] := List.getElem?_eq_getElem hlt
    have mx : xs[i] ∈ xs := List.getElem_mem hlt
    have et : xs.take (i + 1) = xs.take i ++ [xs[i]] := by rw [List.take_add_one, hx]; rfl
    have eA : A (i + 1) = A i ++ if p xs[i] = true then ((ys xs[i]).filter (p1 xs[i])).map (h xs[i]) else [] := by
      show ((xs.take (i + 1)).filter p).flatMap _ = _
      rw [et, List.filter_append, List.flatMap_append]
      by_cases hp : p xs[i] = true
      · rw [if_pos hp, List.filter_cons, if_pos hp]
        simp [A]
      · rw [if_neg hp, List.filter_cons, if_neg hp]
        simp [A]
    have lenA : ∀ l : List γ, l <+: ((xs.filter p).flatMap fun x => ((ys x).filter (p1 x)).map (h x)) → l.length < 100000 := fun l z => Nat.lt_of_le_of_lt z.length_le hl
    have preA : A (i + 1) <+: ((xs.filter p).flatMap fun x => ((ys x).filter (p1 x)).map (h x)) := by
      refine ⟨((xs.drop (i + 1)).filter p).flatMap fun x => ((ys x).filter (p1 x)).map (h x), ?_⟩
      show ((xs.take (i + 1)).filter p).flatMap _ ++ _ = _
      rw [← List.flatMap_append, ← List.filter_append, List.take_append_drop]
    refine .inr ⟨go, St (A (i + 1)), fun H' hN => ⟨xs.length - (i + 1), by omega, rfl, hlt, hN⟩, fun x H3 y => ?_⟩
    obtain ⟨d, Hb3, e, g3, rx⟩ := yl x H3 y
    rw [List.getElem?_map, hx] at e
    cases e
    generalize hxx : xs[i] = xi at *
    have E3 := E2.new g3
    have n3 : Hb3 Dl = none := (g3.f Dl (by rw [h2]; simp) (by rw [h2]; simp) fun z => z).trans n2
    have h3 := g3.ex Dl _ h2
    refine hg xi mx x Hb3 H3 (wipe σ vs) _ E3.ex rx fun vals rv => ⟨(wipe_setL hv).trans wipe_wipe, ?_⟩
    have mk : ∀ {Hbc Hc : Hp}, En K Hbc Hc σ Γ → Ex Hb3 Hbc → En K Hbc Hc (DL.setL (wipe σ vs) js vals) (setG Γ js (es xi)) := fun {Hbc Hc} Ec xc => by
      have z := (Ec.wipe vs).setL (js := js) (rv.mono xc)
      rw [hw] at z
      exact z
    have bk : ∀ {σ' : L2.St} {Γ' : List Sl} {Hbc Hc Hbd Hd : Hp}, En K Hbc Hc σ Γ → Gr (WW false σ' Γ') Hbc Hc Hbd Hd → En K Hbd Hd σ Γ := fun {σ' Γ' Hbc Hc Hbd Hd} Ec gc => Ec.new (ww_new gc)
    refine ht xi mx _ Hb3 H3 (mk E3 (Ex.refl _)) _ fun b Hb4 H4 eb g4 E4' => ?_
    have E4 := bk E3 g4
    have h4 := g4.h Dl _ h3 nW
    have n4 : Hb4 Dl = none := (g4.f Dl (by rw [h3]; simp) (by rw [h3]; simp) nW).trans n3
    have G4 : Gr (fun a => a = Dl) Hb1 (upd H1 Dl (.lst [])) Hb4 H4 := (G2.trans g3 fun _ z => z.elim).trans (ww_new g4) fun _ z => z.elim
    have r4 := r2.mono (g3.b.trans g4.b)
    cases b with
    | false =>
      refine iteF ⟨Hb4, ws, G4, E4, n4, h4, ?_⟩
      rw [eA, if_neg (by rw [← eb]; exact Bool.false_ne_true), List.append_nil]
      exact r4
    | true =>
      refine iteT (hi1 xi mx eb.symm _ Hb4 H4 E4' _ fun J1 ds1 Hb5 H5 e1 g5 E5' it1 => ?_)
      subst e1
      have E5 := bk E4 g5
      have h5 := g5.h Dl _ h4 nW
      have n5 : Hb5 Dl = none := (g5.f Dl (by rw [h4]; simp) (by rw [h4]; simp) nW).trans n4
      have G5 : Gr (fun a => a = Dl) Hb1 (upd H1 Dl (.lst [])) Hb5 H5 := G4.trans (ww_new g5) fun _ z => z.elim
      have r5 := r4.mono g5.b
      rw [if_pos eb.symm] at eA
      let B : Nat → List γ := fun j => A i ++ (((ys xi).take j).filter (p1 xi)).map (h xi)
      have hlen1 : ((ys xi).map f1).length = (ys xi).length := List.length_map _
      refine ⟨fun j kk Hc => kk = (ys xi).length - j ∧ j ≤ (ys xi).length ∧ ∃ Hbc wc, Ex Hb5 Hbc ∧ Gr (fun a => a = Dl) Hb1 (upd H1 Dl (.lst [])) Hbc Hc ∧ En K Hbc Hc σ Γ ∧ Hbc Dl = none ∧ Hc Dl = some (.lst wc) ∧ DRs K Hbc wc ((B j).map f'), ⟨(ys xi).length, by simp, Nat.zero_le _, Hb5, ws, Ex.refl _, G5, E5, n5, h5, by simp [B]; exact r5⟩, ?_⟩
      rintro j kk Hc ⟨rfl, hj, Hbc, wc, xc, Gc, Ec, nc, hc, rc⟩
      by_cases hjl : j < (ys xi).length
      · obtain ⟨go1, yl1⟩ := (it1 Hbc Hc xc Ec.ex j).1 (by rw [hlen1]; exact hjl)
        have hy : (ys xi)[j]? = some (ys xi)[j] := List.getElem?_eq_getElem hjl
        have my : (ys xi)[j] ∈ ys xi := List.getElem_mem hjl
        have et1 : (ys xi).take (j + 1) = (ys xi).take j ++ [(ys xi)[j]] := by rw [List.take_add_one, hy]; rfl
        have eB : B (j + 1) = B j ++ if p1 xi (ys xi)[j] = true then [h xi (ys xi)[j]] else [] := by
          show A i ++ (((ys xi).take (j + 1)).filter (p1 xi)).map (h xi) = _
          rw [et1, List.filter_append, List.map_append, List.filter_cons]
          by_cases hp : p1 xi (ys xi)[j] = true
          · rw [if_pos hp, if_pos hp]; simp [B]
          · rw [if_neg hp, if_neg hp]; simp [B]
        have preB : B (j + 1) <+: A (i + 1) := by
          rw [eA]
          refine ⟨(((ys xi).drop (j + 1)).filter (p1 xi)).map (h xi), ?_⟩
          show (A i ++ _) ++ _ = _
          rw [List.append_assoc, ← List.map_append, ← List.filter_append, List.take_append_drop]
        refine .inr ⟨go1, fun Hd => ∃ Hbd wd, Ex Hb5 Hbd ∧ Gr (fun a => a = Dl) Hb1 (upd H1 Dl (.lst [])) Hbd Hd ∧ En K Hbd Hd σ Γ ∧ Hbd Dl = none ∧ Hd Dl = some (.lst wd) ∧ DRs K Hbd wd ((B (j + 1)).map f'), fun H' hN => ⟨(ys xi).length - (j + 1), by omega, rfl, hjl, hN⟩, fun x1 H6 y1 => ?_⟩
        obtain ⟨d1, Hb6, e1, g6, rx1⟩ := yl1 x1 H6 y1
        rw [List.getElem?_map, hy] at e1
        cases e1
        generalize hyy : (ys xi)[j] = yj at *
        have E6 := Ec.new g6
        have n6 : Hb6 Dl = none := (g6.f Dl (by rw [hc]; simp) (by rw [hc]; simp) fun z => z).trans nc
        have h6 := g6.ex Dl _ hc
        have xb : Ex Hb3 Hb6 := ((g4.b.trans g5.b).trans xc).trans g6.b
        refine hg1 xi mx yj my x1 Hb6 H6 (wipe (DL.setL (wipe σ vs) js vals) vs1) _ E6.ex rx1 fun vals1 rv1 => ⟨(wipe_setL hv1).trans wipe_wipe, ?_⟩
        have E7 : En K Hb6 H6 (DL.setL (wipe (DL.setL (wipe σ vs) js vals) vs1) js1 vals1) (setG (setG Γ js (es xi)) js1 (es1 yj)) := by
          have z := ((mk E6 xb).wipe vs1).setL (js := js1) rv1
          rw [hw1 xi mx] at z
          exact z
        refine ht1 xi mx yj my _ Hb6 H6 E7 _ fun b1 Hb8 H8 eb1 g8 E8' => ?_
        have E8 := bk E6 g8
        have h8 := g8.h Dl _ h6 nW
        have n8 : Hb8 Dl = none := (g8.f Dl (by rw [h6]; simp) (by rw [h6]; simp) nW).trans n6
        have G8 : Gr (fun a => a = Dl) Hb1 (upd H1 Dl (.lst [])) Hb8 H8 := (Gc.trans g6 fun _ z => z.elim).trans (ww_new g8) fun _ z => z.elim
        have r8 := rc.mono (g6.b.trans g8.b)
        cases b1 with
        | false =>
          refine iteF ⟨Hb8, wc, (xc.trans g6.b).trans g8.b, G8, E8, n8, h8, ?_⟩
          rw [eB, if_neg (by rw [← eb1]; exact Bool.false_ne_true), List.append_nil]
          exact r8
        | true =>
          refine iteT (he xi mx yj my eb1.symm _ Hb8 H8 E8' _ fun y e9 Hb9 H9 q9 g9 E9' r9 => ?_)
          subst q9
          have E9 := bk E8 g9
          have h9 := g9.h Dl _ h8 nW
          have n9 : Hb9 Dl = none := (g9.f Dl (by rw [h8]; simp) (by rw [h8]; simp) nW).trans n8
          have G9 : Gr (fun a => a = Dl) Hb1 (upd H1 Dl (.lst [])) Hb9 H9 := G8.trans (ww_new g9) fun _ z => z.elim
          have lB : (B (j + 1)).length < 100000 := Nat.lt_of_le_of_lt preB.length_le (lenA _ preA)
          rw [if_pos eb1.symm] at eB
          refine ⟨wc, h9, sz_lt ?_, Hb9, wc ++ [y], ((xc.trans g6.b).trans g8.b).trans g9.b, G9.trans (Gr.put (W := fun a => a = Dl) E9.ex n9 (by rw [h9]; simp) rfl) (fun a z => .inl z), E9.side n9 noD, n9, upd_same, ?_⟩
          · rw [rc.len, List.length_map]
            rw [eB, List.length_append] at lB
            have : ([h xi yj] : List γ).length = 1 := rfl
            omega
          · rw [eB, List.map_append]
            exact (r8.mono g9.b).app (.one r9)
      · have ej : j = (ys xi).length := by omega
        refine .inl ⟨(it1 Hbc Hc xc Ec.ex j).2 (by rw [hlen1]; omega), Hbc, wc, Gc, Ec, nc, hc, ?_⟩
        rw [eA]
        have z : B j = A i ++ ((ys xi).filter (p1 xi)).map (h xi) := by
          show A i ++ (((ys xi).take j).filter (p1 xi)).map (h xi) = _
          rw [ej, List.take_length]
        rw [← z]
        exact rc
  · have e : i = xs.length := by omega
    refine .inl ⟨(it Hb2 H2 G2.b E2.ex i).2 (by rw [hlen]; omega), q Dl (.lst ws) _ Hb2 H2 rfl (new_none g1' nD) ?_ E2 n2 h2 ⟨ws, rfl, ?_⟩⟩
    · refine g1'.trans ((New.side (o := .lst []) E1.ex nD).gr (W := fun a => a = Dl) |>.trans G2 fun a z => .inl z) fun a z => ?_
      subst z
      exact .inr (new_none g1' nD)
    · have z : A i = (xs.filter p).flatMap fun x => ((ys x).filter (p1 x)).map (h x) := by
        show ((xs.take i).filter p).flatMap _ = _
        rw [e, List.take_length]
      rw [← z]
      exact r2
end
section
variable {X : Cx} {elt tg iter tg1 iter1 : Expr} {ifs ifs1 : List Expr} {scope : Scope} {Γ : List Sl} {pos : Pos} {own : List (Str × Nat)} {g g1 : TG} {tt tt1 : TT} {kp : Nat} {G : Dn}
theorem xo_lc2 {α β γ : Type} {f : α → D} {xs : List α} (js js1 : List Nat) (es : α → List D) (es1 : β → List D) (p : α → Bool) (f1 : β → D) (ys : α → List β) (p1 : α → β → Bool) (f' : γ → D) (h : α → β → γ) (own : List (Str × Nat)) (vs1 : List Nat) (hi : XW X tg iter Γ (xs.map f)) (hg : Bk X scope fun Y => PG Y tg g) (gt : ∀ x ∈ xs, XGt X.K g (f x) js (es x)) (hf : Ifs X scope ifs tt) (ht : ∀ x ∈ xs, JT X.K false tt (setG Γ js (es x)) fun z => z = p x)
    (hi1 : ∀ x ∈ xs, p x = true → Bk X scope fun Y => XW Y tg1 iter1 (setG Γ js (es x)) ((ys x).map f1)) (hg1 : Bk X scope fun Y => PG Y tg1 g1) (gt1 : ∀ x ∈ xs, ∀ y ∈ ys x, XGt X.K g1 (f1 y) js1 (es1 y)) (hf1 : Ifs X scope ifs1 tt1) (ht1 : ∀ x ∈ xs, ∀ y ∈ ys x, JT X.K false tt1 (setG (setG Γ js (es x)) js1 (es1 y)) fun z => z = p1 x y)
    (he : ∀ x ∈ xs, ∀ y ∈ ys x, p1 x y = true → Bk X scope fun Y => XV Y elt (setG (setG Γ js (es x)) js1 (es1 y)) (f' (h x y))) (hl : ((xs.filter p).flatMap fun x => ((ys x).filter (p1 x)).map (h x)).length < 100000) (ok : BlkOk X.N X.env.scope scope own) (hN : X.N.Nodup) (hw : wipeG Γ (own.map (·.2)) = Γ := by rfl) (hw1 : ∀ x ∈ xs, wipeG (setG Γ js (es x)) vs1 = setG Γ js (es x) := by intro _ _; rfl) (hv : ∀ j ∈ js, j ∈ own.map (·.2) := by decide) (hv1 : ∀ j ∈ js1, j ∈ vs1 := by decide) (hv2 : ∀ i ∈ vs1, i ∈ own.map (·.2) := by decide)
    (hc : X.calm = true := by rfl) (hs : ∀ x, foldedSetIterable iter X.env x = pure x := by intro _; rfl) (hs1 : ∀ env x, foldedSetIterable iter1 env x = pure x := by intro _ _; rfl) : XO X (.ListComp elt [⟨tg, iter, ifs, 0⟩, ⟨tg1, iter1, ifs1, 0⟩] scope pos) Γ (.ml (((xs.filter p).flatMap fun x => ((ys x).filter (p1 x)).map (h x)).map f')) :=
  xn_of (pe_lc2 hc hN pi_wp ok hv2 hg hf.ok pi_wb hg1 hf1.ok pe_wb hs hs1) (jn_lc2P hw hw1 hi hv hv1 hl gt ht (fun x hx hp => ji_wb (hi1 x hx hp)) gt1 ht1 fun x hx y hy hp => jr_wb (he x hx y hy hp))
theorem xs_asgLc2 {st2 py : Pos} {x : Str} {α β γ : Type} {f : α → D} {xs : List α} (i : Nat) (js js1 : List Nat) (es : α → List D) (es1 : β → List D) (p : α → Bool) (f1 : β → D) (ys : α → List β) (p1 : α → β → Bool) (f' : γ → D) (h : α → β → γ) (own : List (Str × Nat)) (vs1 : List Nat) (hi : XW X tg iter Γ (xs.map f)) (hg : Bk X scope fun Y => PG Y tg g) (gt : ∀ x ∈ xs, XGt X.K g (f x) js (es x)) (hf : Ifs X scope ifs tt) (ht : ∀ x ∈ xs, JT X.K false tt (setG Γ js (es x)) fun z => z = p x)
    (hi1 : ∀ x ∈ xs, p x = true → Bk X scope fun Y => XW Y tg1 iter1 (setG Γ js (es x)) ((ys x).map f1)) (hg1 : Bk X scope fun Y => PG Y tg1 g1) (gt1 : ∀ x ∈ xs, ∀ y ∈ ys x, XGt X.K g1 (f1 y) js1 (es1 y)) (hf1 : Ifs X scope ifs1 tt1) (ht1 : ∀ x ∈ xs, ∀ y ∈ ys x, JT X.K false tt1 (setG (setG Γ js (es x)) js1 (es1 y)) fun z => z = p1 x y)
    (he : ∀ x ∈ xs, ∀ y ∈ ys x, p1 x y = true → Bk X scope fun Y => XV Y elt (setG (setG Γ js (es x)) js1 (es1 y)) (f' (h x y))) (hl : ((xs.filter p).flatMap fun x => ((ys x).filter (p1 x)).map (h x)).length < 100000) (k : G.nx (Γ.set i (.ow (.ml (((xs.filter p).flatMap fun x => ((ys x).filter (p1 x)).map (h x)).map f'))))) (ok : BlkOk X.N X.env.scope scope own) (hN : X.N.Nodup) (hsw : swapsWith (.ListComp elt [⟨tg, iter, ifs, 0⟩, ⟨tg1, iter1, ifs1, 0⟩] scope pos) (some (.Name x py)) st2.line X.env = pure true)
    (hw : wipeG Γ (own.map (·.2)) = Γ := by rfl) (hw1 : ∀ x ∈ xs, wipeG (setG Γ js (es x)) vs1 = setG Γ js (es x) := by intro _ _; rfl) (hv : ∀ j ∈ js, j ∈ own.map (·.2) := by decide) (hv1 : ∀ j ∈ js1, j ∈ vs1 := by decide) (hv2 : ∀ i ∈ vs1, i ∈ own.map (·.2) := by decide) (hk : kp ≤ i := by decide) (hy : X.N[i]? = some x := by rfl) (hyl : X.env.scope.names.lookup x = some .local := by rfl)
    (hc : X.calm = true := by rfl) (hs : ∀ x, foldedSetIterable iter X.env x = pure x := by intro _; rfl) (hs1 : ∀ env x, foldedSetIterable iter1 env x = pure x := by intro _ _; rfl) : XS X kp (.Assign [.Name x py] (.ListComp elt [⟨tg, iter, ifs, 0⟩, ⟨tg1, iter1, ifs1, 0⟩] scope pos) st2) Γ G :=
  xs_of (ps_setLc2 hc hN hy hyl hsw pi_wp ok hv2 hg hf.ok pi_wb hg1 hf1.ok pe_wb hs hs1) (js_asgN (jn_lc2P hw hw1 hi hv hv1 hl gt ht (fun x hx hp => ji_wb (hi1 x hx hp)) gt1 ht1 fun x hx y hy hp => jr_wb (he x hx y hy hp)) (fun o z => by rw [z]; exact k) hk)
end
end DL

namespace DL
open PySem PySem.Spec PyProof.Rows L2 Evl

/-! ### min(xs, default=d) -/
theorem lmin_fold (x : Int) (xs : List Int) : PySem.W.minOf x xs ∈ x :: xs ∧ ∀ y ∈ x :: xs, PySem.W.minOf x xs ≤ y := by
  unfold PySem.W.minOf
  induction xs generalizing x with
  | nil => exact ⟨List.mem_cons_self .., fun y hy => by rw [List.mem_singleton.mp hy]; exact Int.le_refl _⟩
  | cons z xs ih =>
    rw [List.foldl_cons]
    show _ ∧ _
    by_cases h : z < x
    · have e : (if PySem.W.DatumOrd.lt z x = true then z else x) = z := if_pos (show decide (z < x) = true from decide_eq_true h)
      rw [e]
      obtain ⟨h1, h2⟩ := ih z
      refine ⟨List.mem_cons_of_mem _ h1, fun y hy => ?_⟩
      rcases List.mem_cons.mp hy with q | q
      · have := h2 z (List.mem_cons_self ..)
        omega
      · exact h2 y q
    · have e : (if PySem.W.DatumOrd.lt z x = true then z else x) = x := if_neg (show ¬ decide (z < x) = true from fun q => h (of_decide_eq_true q))
      rw [e]
      obtain ⟨h1, h2⟩ := ih x
      refine ⟨?_, fun y hy => ?_⟩
      · rcases List.mem_cons.mp h1 with q | q
        · rw [q]; exact List.mem_cons_self ..
        · exact List.mem_cons_of_mem _ (List.mem_cons_of_mem _ q)
      · rcases List.mem_cons.mp hy with q | q
        · rw [q]; exact h2 x (List.mem_cons_self ..)
        · rcases List.mem_cons.mp q with q | q
          · have := h2 x (List.mem_cons_self ..)
            omega
          · exact h2 y (List.mem_cons_of_mem _ q)
theorem minOf_lmin {y : Int} {ys : List Int} : PySem.W.minOf y ys = lmin (y :: ys) := by
  obtain ⟨h1, h2⟩ := lmin_fold y ys
  obtain ⟨k1, k2⟩ := lmin_ok (l := y :: ys) (by simp)
  have a := h2 _ k1
  have b := k2 _ h1
  omega
/-- min with a default -/
def lminD (d : Int) (l : List Int) : Int := if l = [] then d else lmin l
def rMinD (K : PySem.W.Frag) : List V → List V → Hp → VK → Prop := fun vs zs H Q => ∃ (a : Addr) (ns : List Int) (d : Int), vs = [V.ref a] ∧ zs = [.int d] ∧ SqL K H a (ns.map V.int) ∧ Q (.int (lminD d ns)) H
theorem cr_minD {X : Cx} (hc : X.calm = true) (hu : X.A.units + 65 < cLine) : CallRK X (.builtin "min") [Str.ofString "default"] (rMinD X.K) := by
  intro pins s σ H vs zs us ws Q I r rz h
  obtain ⟨a, ns, d, rfl, rfl, hs, q⟩ := h
  obtain rfl := Vals.ref1 r
  obtain ⟨w1, rfl, e1⟩ := vals1 rz
  obtain ⟨t, rfl⟩ := e1
  obtain ⟨its, rv, hl, hz⟩ := I.list hs
  have hi := rv.ints
  refine PySem.W.min_list_datum_default (α := Int) (I.ok.hd hc) hl.isList (xs := ns) (PySem.W.HoldAll.of_ints (by simpa using hi)) (by show X.A.units + 1 + 0 < cLine; omega) (fun e h' tk hk => ?_) fun y ys i v h' tk e hv hh hk => ?_
  · subst e
    refine ⟨.int d, H, I.kept (t' := tk) hk, ⟨t, rfl⟩, ?_⟩
    exact q
  · obtain ⟨t', rfl⟩ := PySem.W.int_of_holds hh
    refine ⟨.int (lminD d ns), H, I.kept (t' := tk) hk, ⟨t', ?_⟩, q⟩
    subst e
    rw [minOf_lmin]
    rfl
section
variable {X : Cx} {Γ : List Sl} {e b : Expr} {pos p kp : Pos}
theorem xv_minD {ns : List Int} {d : Int} (h : XV X e Γ (lT D.int ns)) (hb : XV X b Γ (.int d)) (hm : X.mg "min" = none) (hu : X.A.units + 65 < cLine) (hk : PK X [⟨some (Str.ofString "default"), b, kp⟩] (tCons (wpE X b) tNil)) (hc : X.calm = true := by rfl) (hg : Gl X "min" := by rfl)
    (he : backTo pos (starEach (e :: []) X.env) = (false, eval e X.env) :: backTo pos (starEach [] X.env) := by rfl) (hpl : (backTo pos (starEach (e :: []) X.env)).any (·.1) = false := by rfl)
    (hall : (backToKw pos (keywordEach [⟨some (Str.ofString "default"), b, kp⟩] X.env)).all (·.1.isSome) = true := by rfl) (hnone : (backToKw pos (keywordEach [⟨some (Str.ofString "default"), b, kp⟩] X.env)).any (·.1.isNone) = false := by rfl) (hks : (backToKw pos (keywordEach [⟨some (Str.ofString "default"), b, kp⟩] X.env)).filterMap (·.1) = [Str.ofString "default"] := by rfl)
    (hs : starEach (e :: []) X.env = (false, eval e X.env) :: starEach [] X.env := by rfl) : XV X (.Call (.Name "min" p) [e] [⟨some (Str.ofString "default"), b, kp⟩] pos) Γ (.int (lminD d ns)) :=
  xe_of (pe_callBK (cr_minD hc hu) hg hm (by decide +kernel) (pa_cons pe_wp pa_nil hs) hk (by decide) (by decide) he hpl hall hnone hks) fun σ Hb H E Q q => h σ Hb H E _ fun v z Hb1 H1 p1 g1 E1 r1 => hb σ Hb1 H1 E1 _ fun w z2 Hb2 H2 p2 g2 E2 r2 => by
    subst p1 p2
    cases r2
    cases r1 with
    | @lst a vs _ ha k =>
      have e1 := k.ints
      subst e1
      exact ⟨a, ns, d, rfl, rfl, SqL.of (E2.ex _ _ (g2.b _ _ ha)), q _ _ Hb2 H2 rfl (gww g1 g2) E2 (.int _)⟩
end
end DL

namespace DL
open PySem PySem.Spec PyProof.Rows L2 Evl

/-! ### saying less -/
theorem le_refl {Γ : List Sl} : Le Γ Γ := ⟨rfl, fun _ _ h => .inr h⟩
theorem le_nil : Le [] [] := le_refl
theorem le_un {a : Sl} {Γ Γ' : List Sl} (h : Le Γ Γ') : Le (a :: Γ) (.un :: Γ') := ⟨by rw [List.length_cons, List.length_cons, h.1], fun i s k => by
  cases i with
  | zero => cases k; exact .inl rfl
  | succ i => exact h.2 i s k⟩
theorem le_eq {a : Sl} {Γ Γ' : List Sl} (h : Le Γ Γ') : Le (a :: Γ) (a :: Γ') := ⟨by rw [List.length_cons, List.length_cons, h.1], fun i s k => by
  cases i with
  | zero => exact .inr k
  | succ i => exact h.2 i s k⟩
theorem Le.set {Γ Γ' : List Sl} (h : Le Γ Γ') (i : Nat) (s : Sl) : Le (Γ.set i s) (Γ'.set i s) := ⟨by rw [List.length_set, List.length_set, h.1], fun j t k => by
  rcases set_at k with ⟨rfl, z2, z3⟩ | ⟨z1, z2⟩
  · exact .inr (by rw [List.getElem?_set_self (by rw [h.1]; exact z3), z2])
  · exact (h.2 j t z2).imp id fun q => by rw [List.getElem?_set_ne z1]; exact q⟩
theorem Le.setG : ∀ {js : List Nat} {es : List D} {Γ Γ' : List Sl}, Le Γ Γ' → Le (DL.setG Γ js es) (DL.setG Γ' js es)
  | [], _, _, _, h => h
  | _ :: _, [], _, _, h => h
  | j :: js, d :: es, _, _, h => Le.setG (js := js) (h.set j (.pd d))
section
variable {X : Cx} {elt tg iter tg1 iter1 : Expr} {scope : Scope} {Γ : List Sl} {pos : Pos} {g g1 : TG} {kp : Nat} {G : Dn}
theorem flat_all {α β γ : Type} {xs : List α} {ys : α → List β} {h : α → β → γ} : ((xs.filter fun _ => true).flatMap fun x => ((ys x).filter fun _ => true).map (h x)) = xs.flatMap fun x => (ys x).map (h x) := by
  rw [List.filter_eq_self.mpr (fun _ _ => rfl)]
  have e : (fun x => ((ys x).filter fun _ => true).map (h x)) = fun x => (ys x).map (h x) := funext fun x => by rw [List.filter_eq_self.mpr (fun _ _ => rfl)]
  rw [e]
theorem xo_map2 {α β γ : Type} {f : α → D} {xs : List α} (js js1 : List Nat) (es : α → List D) (es1 : β → List D) (f1 : β → D) (ys : α → List β) (f' : γ → D) (h : α → β → γ) (own : List (Str × Nat)) (vs1 : List Nat) (hi : XW X tg iter Γ (xs.map f)) (hg : Bk X scope fun Y => PG Y tg g) (gt : ∀ x ∈ xs, XGt X.K g (f x) js (es x))
    (hi1 : ∀ x ∈ xs, Bk X scope fun Y => XW Y tg1 iter1 (setG Γ js (es x)) ((ys x).map f1)) (hg1 : Bk X scope fun Y => PG Y tg1 g1) (gt1 : ∀ x ∈ xs, ∀ y ∈ ys x, XGt X.K g1 (f1 y) js1 (es1 y))
    (he : ∀ x ∈ xs, ∀ y ∈ ys x, Bk X scope fun Y => XV Y elt (setG (setG Γ js (es x)) js1 (es1 y)) (f' (h x y))) (hl : (xs.flatMap fun x => (ys x).map (h x)).length < 100000) (ok : BlkOk X.N X.env.scope scope own) (hN : X.N.Nodup) (hw : wipeG Γ (own.map (·.2)) = Γ := by rfl) (hw1 : ∀ x ∈ xs, wipeG (setG Γ js (es x)) vs1 = setG Γ js (es x) := by intro _ _; rfl) (hv : ∀ j ∈ js, j ∈ own.map (·.2) := by decide) (hv1 : ∀ j ∈ js1, j ∈ vs1 := by decide) (hv2 : ∀ i ∈ vs1, i ∈ own.map (·.2) := by decide)
    (hc : X.calm = true := by rfl) (hs : ∀ x, foldedSetIterable iter X.env x = pure x := by intro _; rfl) (hs1 : ∀ env x, foldedSetIterable iter1 env x = pure x := by intro _ _; rfl) : XO X (.ListComp elt [⟨tg, iter, [], 0⟩, ⟨tg1, iter1, [], 0⟩] scope pos) Γ (.ml ((xs.flatMap fun x => (ys x).map (h x)).map f')) := by
  have z := xo_lc2 (pos := pos) js js1 es es1 (fun _ => true) f1 ys (fun _ _ => true) f' h own vs1 hi hg gt (.no) (fun _ _ => jt_yes rfl) (fun x hx _ => hi1 x hx) hg1 gt1 (.no) (fun _ _ _ _ => jt_yes rfl) (fun x hx y hy _ => he x hx y hy) (by rw [flat_all]; exact hl) ok hN hw hw1 hv hv1 hv2 hc hs hs1
  rw [flat_all] at z
  exact z
theorem xs_asgMap2 {st2 py : Pos} {x : Str} {α β γ : Type} {f : α → D} {xs : List α} (i : Nat) (js js1 : List Nat) (es : α → List D) (es1 : β → List D) (f1 : β → D) (ys : α → List β) (f' : γ → D) (h : α → β → γ) (own : List (Str × Nat)) (vs1 : List Nat) (hi : XW X tg iter Γ (xs.map f)) (hg : Bk X scope fun Y => PG Y tg g) (gt : ∀ x ∈ xs, XGt X.K g (f x) js (es x))
    (hi1 : ∀ x ∈ xs, Bk X scope fun Y => XW Y tg1 iter1 (setG Γ js (es x)) ((ys x).map f1)) (hg1 : Bk X scope fun Y => PG Y tg1 g1) (gt1 : ∀ x ∈ xs, ∀ y ∈ ys x, XGt X.K g1 (f1 y) js1 (es1 y))
    (he : ∀ x ∈ xs, ∀ y ∈ ys x, Bk X scope fun Y => XV Y elt (setG (setG Γ js (es x)) js1 (es1 y)) (f' (h x y))) (hl : (xs.flatMap fun x => (ys x).map (h x)).length < 100000) (k : G.nx (Γ.set i (.ow (.ml ((xs.flatMap fun x => (ys x).map (h x)).map f'))))) (ok : BlkOk X.N X.env.scope scope own) (hN : X.N.Nodup) (hsw : swapsWith (.ListComp elt [⟨tg, iter, [], 0⟩, ⟨tg1, iter1, [], 0⟩] scope pos) (some (.Name x py)) st2.line X.env = pure true)
    (hw : wipeG Γ (own.map (·.2)) = Γ := by rfl) (hw1 : ∀ x ∈ xs, wipeG (setG Γ js (es x)) vs1 = setG Γ js (es x) := by intro _ _; rfl) (hv : ∀ j ∈ js, j ∈ own.map (·.2) := by decide) (hv1 : ∀ j ∈ js1, j ∈ vs1 := by decide) (hv2 : ∀ i ∈ vs1, i ∈ own.map (·.2) := by decide) (hk : kp ≤ i := by decide) (hy : X.N[i]? = some x := by rfl) (hyl : X.env.scope.names.lookup x = some .local := by rfl)
    (hc : X.calm = true := by rfl) (hs : ∀ x, foldedSetIterable iter X.env x = pure x := by intro _; rfl) (hs1 : ∀ env x, foldedSetIterable iter1 env x = pure x := by intro _ _; rfl) : XS X kp (.Assign [.Name x py] (.ListComp elt [⟨tg, iter, [], 0⟩, ⟨tg1, iter1, [], 0⟩] scope pos) st2) Γ G := by
  refine xs_asgLc2 i js js1 es es1 (fun _ => true) f1 ys (fun _ _ => true) f' h own vs1 hi hg gt (.no) (fun _ _ => jt_yes rfl) (fun x hx _ => hi1 x hx) hg1 gt1 (.no) (fun _ _ _ _ => jt_yes rfl) (fun x hx y hy _ => he x hx y hy) (by rw [flat_all]; exact hl) ?_ ok hN hsw hw hw1 hv hv1 hv2 hk hy hyl hc hs hs1
  rw [flat_all]
  exact k
end
section
variable {X : Cx} {kp : Nat} {sts rest body : List Stmt} {Γ : List Sl} {G : Dn} {tg iter : Expr} {pos : Pos} {g : TG}
/-- a loop whose slots behind each turn are known: st, what the turns so far have made -/
theorem xs_loop {α S : Type} {f : α → D} {xs : List α} {js : List Nat} (es : α → List D) (emb : S → List Sl) (st : List α → S) (hi : XW X tg iter Γ (xs.map f)) (hp : PG X tg g) (hg : ∀ x ∈ xs, XGt X.K g (f x) js (es x)) (h0 : Le Γ (emb (st [])))
    (hs : ∀ pre x post, xs = pre ++ x :: post → XSs X kp body (setG (emb (st pre)) js (es x)) { nx := fun Γ' => Le Γ' (emb (st (pre ++ [x]))), ct := fun Γ' => Le Γ' (emb (st (pre ++ [x]))), bk := fun _ => False, rt := G.rt }) (hd : XSs X kp rest (emb (st xs)) G) (hps : PassesOwn (model X.prog X.w) X.A X.env X.xe) (hj : ∀ j ∈ js, kp ≤ j := by decide) (hc : X.calm = true := by rfl)
    (hss : ∀ x, foldedSetIterable iter X.env x = pure x := by intro _; rfl) : XSs X kp (.For tg iter body [] pos :: rest) Γ G := by
  refine xs_cons (xs_forT es (fun pre Γ' => Le Γ' (emb (st pre))) hi hp h0 hg (fun pre x post Γ' hx hv => ?_) (fun Γ' hv => hd.le hv) hps hj hc hss)
  exact ((hs pre x post hx).le hv.setG).imp (fun _ z => z) (fun _ _ z => z) (fun _ z => z.elim) fun _ z => z
theorem xs_leave (h : ∀ Γ', Le Γ Γ' → G.nx Γ') : XSs X kp [] Γ G := xs_nil (h Γ le_refl)
end
theorem hu_65 {k : Nat} {A : Around} (r : Room k A) : A.units + 65 < cLine := by
  have := r.un
  omega
theorem hu_64 {k : Nat} {A : Around} (r : Room k A) : A.units + 64 < cLine := by
  have := r.un
  omega
end DL

namespace DL
open PySem PySem.Spec PyProof.Rows L2 Evl
/-! ### defs as facts: what the kit tells of a def, in one -/
section
variable {P : Program} {w : World} {K : PySem.W.Frag} {mg : Str → Option Value} {base h : Heap}
structure Dd (K : PySem.W.Frag) (mg : Str → Option Value) (x : Str) (st : Stmt) (ps : List Str) : Prop where
  ex : ∃ (f : Addr) (fd : FuncData), Fun K x x st f fd ∧ mg x = some (.ref f) ∧ PySem.W.keepIn K (.ref f) = true ∧ Binds K fd ps []
/-- how the arguments are bound: by running bindArgs on a list of the right length -/
def Bnd (x : Str) (st : Stmt) (ps : List Str) : Prop := ∀ (kV doc pm : Value) (an : Option Addr) (cdv ct : Value) (us : List Value), us.length = ps.length → bindArgs (PySem.W.fnOf x x (defArgs st) (defBody st) (defScope st) .none kV doc pm an cdv ct) ⟨us, []⟩ = pure (ps.zip us)
theorem dd_mk {x : Str} {st : Stmt} {ps : List Str} (b : Bnd x st ps) (X : K.In h) (G : h.Ns mainGlobals mg) {f : Addr} {oc : Value} {od an : Option Addr} {osl : Array (Option Value)} {kV doc pm cdv ct : Value}
    (a : PySem.W.nsIn K mainGlobals x = some (some (.ref f))) (l : K.lookup f = some ⟨oc, od, .func (PySem.W.fnOf x x (defArgs st) (defBody st) (defScope st) .none kV doc pm an cdv ct), osl⟩)
    (c : PySem.W.codeIn K cdv x = true) (k : PySem.W.keepIn K (.ref f) = true) : Dd K mg x st ps := by
  have F := fun_mk (st := st) l c k
  exact ⟨f, _, F, PySem.W.mg_of X G a, k, F.binds fun kV doc pm an cdv ct us hl => b kV doc pm an cdv ct us hl⟩
theorem Cal.of {x : Str} {st : Stmt} {ps : List Str} {k : Nat} {sp : Sp} (D : Dd K mg x st ps) (ok : ∀ {f : Addr} {fd : FuncData}, Fun K x x st f fd → FnOk P w K mg base CX0 k f fd ps sp) : Cal P w K mg base k x ps sp := by
  obtain ⟨f, fd, F, h1, h2, h3⟩ := D.ex
  exact ⟨f, fd, ok F, h1, h2, h3⟩
theorem fn_absurd {ps : List Str} {sp : Sp} {k : Nat} {f : Addr} {fd : FuncData} (h : ∀ vs H Q E, ¬ sp vs H Q E) : FnOk P w K mg base CX0 k f fd ps sp := ⟨fun vs H Q E z => absurd z (h vs H Q E), fun A outer s H args us vs Q E hr e b v z => absurd z (h vs H Q E)⟩
/-- a def that calls itself: by how deep it still may go -/
theorem cal_rec {x : Str} {st : Stmt} {ps : List Str} {C : Nat → Con} (D : Dd K mg x st ps) (h0 : ∀ ds Φ, ¬ C 0 ds Φ) (step : ∀ n, Cal P w K mg base n x ps (spP K (C n)) → ∀ {f : Addr} {fd : FuncData}, Fun K x x st f fd → FnOk P w K mg base CX0 (n + 1) f fd ps (spP K (C (n + 1)))) : ∀ n, Cal P w K mg base n x ps (spP K (C n))
  | 0 => Cal.of D fun _ => fn_absurd fun vs H Q E ⟨ds, Φ, Hb, z, _⟩ => h0 ds Φ z
  | n + 1 => Cal.of D (step n (cal_rec D h0 step n))
theorem cal_recE {x : Str} {st : Stmt} {ps : List Str} {o : MO} {C : Nat → Con} (D : Dd K mg x st ps) (h0 : ∀ ds Φ, ¬ C 0 ds Φ) (step : ∀ n, Cal P w K mg base n x ps (spE K o (C n)) → ∀ {f : Addr} {fd : FuncData}, Fun K x x st f fd → FnOk P w K mg base CX0 (n + 1) f fd ps (spE K o (C (n + 1)))) : ∀ n, Cal P w K mg base n x ps (spE K o (C n))
  | 0 => Cal.of D fun _ => fn_absurd fun vs H Q E ⟨a, ws, ds, Φ, Hb, u, _, z, _⟩ => h0 ds Φ z
  | n + 1 => Cal.of D (step n (cal_recE D h0 step n))
theorem Cal.mono {x : Str} {ps : List Str} {j k : Nat} {sp : Sp} (c : Cal P w K mg base j x ps sp) (h : j ≤ k) : Cal P w K mg base k x ps sp := by
  obtain ⟨f, fd, F, h1, h2, h3⟩ := c.ex
  exact ⟨f, fd, F.mono h, h1, h2, h3⟩
/-! ### the law -/
def cLaw (n : Nat) : Con := fun ds Φ => ∃ ns : List Int, ds = [.sc ns] ∧ ns.length ≤ n ∧ Φ (.bl true)
structure Dl (K : PySem.W.Frag) (mg : Str → Option Value) (st : Stmt) (x : Str) : Prop where
  ex : ∃ (f : Addr) (fd : FuncData), Fun K "law" "law" st f fd ∧ mg "law" = some (.ref f) ∧ ∀ (s : Shared) (u : Value), BindsTo s fd ⟨[u], []⟩ [(x, u)]
theorem dl_mk {st : Stmt} {x : Str} (b : Bnd "law" st [x]) (X : K.In h) (G : h.Ns mainGlobals mg) {f : Addr} {oc : Value} {od an : Option Addr} {osl : Array (Option Value)} {kV doc pm cdv ct : Value}
    (a : PySem.W.nsIn K mainGlobals "law" = some (some (.ref f))) (l : K.lookup f = some ⟨oc, od, .func (PySem.W.fnOf "law" "law" (defArgs st) (defBody st) (defScope st) .none kV doc pm an cdv ct), osl⟩)
    (c : PySem.W.codeIn K cdv "law" = true) (k : PySem.W.keepIn K (.ref f) = true) : Dl K mg st x :=
  ⟨f, _, fun_mk (st := st) l c k, PySem.W.mg_of X G a, fun s u => .of_eq (b kV doc pm an cdv ct [u] rfl)⟩
theorem law_walk {l : PySem.W.OpenLaw} (n k : Nat) {q : Program} {loose : List Str} {XP : (Str → Option Value) → Heap → Prop} {YP : World → Heap → Prop} {d : DefRec} {K : Params → PySem.W.Frag} {st : Stmt} {x : Str}
    (hn : l.most = some n) (hn2 : n ≤ sizeLine) (hdf : d.params.defaults = []) (hr : Room k callerA) (hd : d.name = "law") (hY : ∀ (w : World) (h : Heap), YP w h → (K w.params).In h)
    (F : ∀ (w : World) (mg : Str → Option Value) (h : Heap), (K w.params).In h → h.Ns mainGlobals mg → Dl (K w.params) mg st x ∧ ∀ (base : Heap) (f : Addr) (fd : FuncData), Fun (K w.params) "law" "law" st f fd → FnOk l.prog w (K w.params) mg base CX0 k f fd [x] (spP (K w.params) (cLaw n))) :
    PySem.W.WalkO q loose XP YP l.row.toRowW d [] (fun f vs => PySem.call f vs) := by
  refine walk_of (n := n) (k := k) (x := x) (K := K) (CX := fun _ => CX0) (sp := fun w => spP (K w.params) (cLaw n)) hn hn2 hdf hr hY (fun w mg fa h KX G hmg => ?_) (fun w H a ns hl hO hS => ?_) fun _ _ _ _ _ z => z
  · obtain ⟨h0, h3⟩ := F w mg h KX G
    obtain ⟨f, fd, Ff, h1, h2⟩ := h0.ex
    rw [hd] at hmg
    cases h1.symm.trans hmg
    exact ⟨fd, h2, fun base _ _ => h3 base _ fd Ff⟩
  · exact ⟨[.sc ns], fun z => z = .bl true, H, ⟨ns, rfl, hl, rfl⟩, Ex.refl H, .cons (.sc hS) .nil, fun v d Hb' H' z _ r => by
      subst z
      cases r
      rfl⟩
end
end DL

namespace DL
open PySem PySem.Spec PyProof.Rows L2 Evl
theorem xv_nilL {X : Cx} {Γ : List Sl} {α : Type} {f : α → D} {pos : Pos} : XV X (.List [] pos) Γ (lT f []) := xv_lst (ds := []) xa_nil (by decide)
section
variable {X : Cx} {kp : Nat} {sts rest body : List Stmt} {Γ : List Sl} {G : Dn} {tg iter : Expr} {pos : Pos} {g : TG}
/-- .. with what is known besides -/
theorem xs_loopP {α S : Type} {f : α → D} {xs : List α} {js : List Nat} (es : α → List D) (emb : S → List Sl) (st : List α → S) (Iv : List α → Prop) (hi : XW X tg iter Γ (xs.map f)) (hp : PG X tg g) (hg : ∀ x ∈ xs, XGt X.K g (f x) js (es x)) (h0 : Le Γ (emb (st []))) (i0 : Iv [])
    (hs : ∀ pre x post, xs = pre ++ x :: post → Iv pre → XSs X kp body (setG (emb (st pre)) js (es x)) { nx := fun Γ' => Le Γ' (emb (st (pre ++ [x]))) ∧ Iv (pre ++ [x]), ct := fun Γ' => Le Γ' (emb (st (pre ++ [x]))) ∧ Iv (pre ++ [x]), bk := fun _ => False, rt := G.rt }) (hd : Iv xs → XSs X kp rest (emb (st xs)) G) (hps : PassesOwn (model X.prog X.w) X.A X.env X.xe) (hj : ∀ j ∈ js, kp ≤ j := by decide) (hc : X.calm = true := by rfl)
    (hss : ∀ x, foldedSetIterable iter X.env x = pure x := by intro _; rfl) : XSs X kp (.For tg iter body [] pos :: rest) Γ G := by
  refine xs_cons (xs_forT es (fun pre Γ' => Le Γ' (emb (st pre)) ∧ Iv pre) hi hp ⟨h0, i0⟩ hg (fun pre x post Γ' hx hv => ?_) (fun Γ' hv => (hd hv.2).le hv.1) hps hj hc hss)
  exact ((hs pre x post hx hv.2).le hv.1.setG).imp (fun _ z => z) (fun _ _ z => z) (fun _ z => z.elim) fun _ z => z
end
end DL

namespace DL
open PySem PySem.Spec PyProof.Rows L2 Evl
/-! ### the law's script -/
theorem atI_mapV {α β : Type} {f : α → β} {l : List α} {i : Int} {x : α} (h : atI l i = some x) : atI (l.map f) i = some (f x) := by
  unfold atI at h ⊢
  rw [List.length_map]
  cases e : ixN l.length i with
  | none => rw [e] at h; cases h
  | some j =>
    rw [e] at h
    show (l.map f)[j]? = some (f x)
    rw [List.getElem?_map, show l[j]? = some x from h]
    rfl
theorem v_ixSc {K : PySem.W.Frag} {ns : List Int} {i j : Int} (h : atI ns i = some j) : RV2 K (rIxL K) (.sc ns) (.int i) (.int j) := rv_scal fun x y Hb H ex h1 h2 => by
  cases h1 with
  | sc ha =>
    cases h2
    exact ⟨.int j, .int j, fun Q q => ⟨_, _, i, .int j, rfl, rfl, ex_l ex ha, atI_mapV h, q⟩⟩
theorem l_lenSc {K : PySem.W.Frag} {ns : List Int} : RL K (fun xs H Q => ∃ p ys, xs = [.ref p] ∧ (SqL K H p ys ∨ SqT K H p ys) ∧ Q (.int ys.length) H) [.sc ns] fun z => z = .int ns.length := rl_scal fun xs Hb H ex h1 => by
  obtain ⟨v, rfl, r⟩ := h1.one_inv
  cases r with
  | sc ha => exact ⟨.int ns.length, .int _, fun Q k => ⟨_, _, rfl, .inl (ex_l ex ha), by rw [List.length_map]; exact k⟩⟩
theorem xv_lenSc {X : Cx} {Γ : List Sl} {a : Expr} {pos p : Pos} {ns : List Int} (h : XV X a Γ (.sc ns)) (hm : X.mg "len" = none) (hg : Gl X "len" := by rfl) (hs : starEach (a :: []) X.env = (false, eval a X.env) :: starEach [] X.env := by rfl) (hpl : (backTo pos (starEach [] X.env)).any (·.1) = false := by rfl) : XV X (.Call (.Name "len" p) [a] [] pos) Γ (.int ns.length) := xe_callB call_len_seq hm PySem.boot_len (xl_cons h xa_nil hs) (fun _ z => by
  rw [z]
  exact l_lenSc) hg (by decide) (by decide) hs hpl
/-! ### isinstance(x, T), T a built-in class -/
def D.ty : D → Option String
  | .non => some "NoneType" | .bl _ => some "bool" | .int _ => some "int" | .str _ => some "str" | .lst _ => some "list" | .tup _ => some "tuple"
  | _ => none
theorem ty_of {K : PySem.W.Frag} {H : Hp} {v : V} {d : D} {t : String} (r : DR K H v d) (h : d.ty = some t) : TyX K H v (.type t) := by
  cases r with
  | non => cases h; exact .base .non
  | bl b => cases h; exact .base (.bl b)
  | int b => cases h; exact .base (.int b)
  | str b => cases h; exact .base (.str b)
  | lst k _ =>
    cases h
    exact .base (.lst k)
  | tup k _ =>
    cases h
    exact .base (.tup k)
  | ins _ _ _ _ => cases h
  | dic _ _ _ _ => cases h
  | sc _ => cases h
section
variable {X : Cx} {Γ : List Sl} {a : Expr} {pos p pt : Pos} {d : D}
theorem xe_isi {m : Bool} {Φa Φ : D → Prop} (T : String) (ha : XE X m a Γ Φa) (h : ∀ d, Φa d → ∃ t b, d.ty = some t ∧ kitB t T = some b ∧ Φ (.bl b)) (hm : X.mg "isinstance" = none) (hm2 : X.mg (Str.ofString T) = none) (hv : bootBuiltins (Str.ofString T) = some (.type T) := by decide +kernel) (hb : bootBuiltins "isinstance" = some (.builtin "isinstance") := by decide +kernel)
    (hg : Gl X "isinstance" := by rfl) (hg2 : Gl X (Str.ofString T) := by rfl) (hn2 : (Str.ofString T) ≠ "__name__" := by decide) (hdb2 : ((Str.ofString T) == ("__debug__" : Str)) = false := by decide)
    (hs : starEach [a, .Name (Str.ofString T) pt] X.env = (false, eval a X.env) :: starEach [.Name (Str.ofString T) pt] X.env := by rfl) (hs2 : starEach [.Name (Str.ofString T) pt] X.env = (false, eval (.Name (Str.ofString T) pt) X.env) :: starEach [] X.env := by rfl) (hpl : (backTo pos (starEach [.Name (Str.ofString T) pt] X.env)).any (·.1) = false := by rfl) : XE X m (.Call (.Name "isinstance" p) [a, .Name (Str.ofString T) pt] [] pos) Γ Φ :=
  xe_of (pe_callB call_isi hg hm hb (pa_cons pe_wp (pa_cons (pe_bltn (v := .ty T) hg2 hm2 hv rfl hn2 hdb2) pa_nil hs2) hs) (by decide) (by decide) hs hpl) fun σ Hb H E Q q => ha σ Hb H E _ fun v d Hb1 H1 p1 g1 E1 r1 => by
    obtain ⟨t, b, h1, h2, h3⟩ := h d p1
    exact ⟨v, .ty T, .type t, .type T, b, rfl, .ty T, ty_of (r1.mono E1.ex) h1, kit_ty h2, q (.bl b) (.bl b) Hb1 H1 h3 g1 E1 (.bl b)⟩
theorem xv_isi {t : String} {b : Bool} (T : String) (ha : XV X a Γ d) (hm : X.mg "isinstance" = none) (hm2 : X.mg (Str.ofString T) = none) (h1 : d.ty = some t := by rfl) (h2 : kitB t T = some b := by decide +kernel) (hv : bootBuiltins (Str.ofString T) = some (.type T) := by decide +kernel) (hb : bootBuiltins "isinstance" = some (.builtin "isinstance") := by decide +kernel)
    (hg : Gl X "isinstance" := by rfl) (hg2 : Gl X (Str.ofString T) := by rfl) (hn2 : (Str.ofString T) ≠ "__name__" := by decide) (hdb2 : ((Str.ofString T) == ("__debug__" : Str)) = false := by decide)
    (hs : starEach [a, .Name (Str.ofString T) pt] X.env = (false, eval a X.env) :: starEach [.Name (Str.ofString T) pt] X.env := by rfl) (hs2 : starEach [.Name (Str.ofString T) pt] X.env = (false, eval (.Name (Str.ofString T) pt) X.env) :: starEach [] X.env := by rfl) (hpl : (backTo pos (starEach [.Name (Str.ofString T) pt] X.env)).any (·.1) = false := by rfl) : XV X (.Call (.Name "isinstance" p) [a, .Name (Str.ofString T) pt] [] pos) Γ (.bl b) :=
  xe_isi T ha (fun z e => ⟨t, b, by rw [e]; exact h1, h2, rfl⟩) hm hm2 hv hb hg hg2 hn2 hdb2 hs hs2 hpl
end
/-! ### a def that hands back a list it has just written down -/
section
variable {P : Program} {w : World} {K : PySem.W.Frag} {mg : Str → Option Value} {base : Heap} {x qual : Str} {st : Stmt} {f : Addr} {fd : FuncData} {N ps : List Str} {k : Nat} {e : Expr} {pos : Pos}
theorem no_ownG {σ : L2.St} {ds : List D} {a : Addr} : ¬ Own σ (stG N (ds.map .pd)) a := fun ⟨i, o, h, _⟩ => by
  unfold stG at h
  by_cases hi : i < (ds.map Sl.pd).length
  · rw [List.getElem?_append_left hi, List.getElem?_map] at h
    cases hd : ds[i]? with
    | none => rw [hd] at h; cases h
    | some d' => rw [hd] at h; cases h
  · rw [List.getElem?_append_right (by omega), List.getElem?_replicate] at h
    split at h <;> cases h
theorem fn_newRet {C : List D → (MO → Prop) → Prop} (F : Fun K x qual st f fd) (S : FnScope N ps (defScope st)) (len : ∀ ds Φ, C ds Φ → ds.length = ps.length) (hb : defBody st = [.Return (some e) pos])
    (body : ∀ (cdv : Value) (A : Around) (outer : List Env) (s : Shared) (H : Hp) (E : XK), Room k (A.deeper (envOfC qual (defScope st) s.heap.objs.size f cdv)) → ∀ ds Φ, C ds Φ → XN (cxF P w K mg base N qual st f cdv A outer s H E) true e (stG N (ds.map .pd)) Φ) :
    FnOk P w K mg base CX0 (k + 1) f fd ps (spN K C) := fn_new F S len fun cdv A outer s H E hr ds Φ h1 => by
  rw [hb]
  refine ⟨_, pss_cons (ps_ret pe_wp) pss_nil, fun σ Hb H2 En Q q => ?_⟩
  refine body cdv A outer s H E hr ds Φ h1 σ Hb H2 En Q fun p u o Hb' H' z n g E' nb hp r => ?_
  exact q p u o Hb' H' z n (g.wk fun _ y => (no_ownG y.2).elim) nb hp r
end
end DL

namespace DL
open PySem PySem.Spec PyProof.Rows L2 Evl
/-! ### the drawn numbers' state: [script, place, rest, seed] -/
def stM (ns : List Int) (i r z : Int) : MO := .ml [.sc ns, .int i, .int r, .int z]
def stB (i r z : Int) : Prop := 0 ≤ i ∧ 0 ≤ r ∧ 0 ≤ z ∧ z < 4294967296
def stO : MO := .inv fun K Hb o => ∃ ns i r z, stB i r z ∧ MR K Hb o (stM ns i r z)
def stR (o : MO) : Prop := ∃ ns i r z, stB i r z ∧ o = stM ns i r z
section
variable {K : PySem.W.Frag} {Hb : Hp} {u : HO} {o : MO}
theorem st_in (h : stR o) (r : MR K Hb u o) : MR K Hb u stO := ⟨fun xs e => by
  exact r.nt xs (congrArg some e), fun Hb' e => by
  obtain ⟨ns, i, r', z, b, rfl⟩ := h
  exact ⟨ns, i, r', z, b, r.mono e⟩⟩
theorem st_out (r : MR K Hb u stO) : ∃ o', stR o' ∧ MR K Hb u o' := by
  obtain ⟨ns, i, r', z, b, h⟩ := r.2 Hb (Ex.refl Hb)
  exact ⟨_, ⟨ns, i, r', z, b, rfl⟩, h⟩
end
def cStart : List D → (MO → Prop) → Prop := fun ds Φ => ∃ ns : List Int, ds = [.sc ns] ∧ Φ stO
def cPick : Con := fun ds Φ => ∃ limit : Int, ds = [.int limit] ∧ (1 ≤ limit ∧ limit < 1073741824) ∧ ∀ v, 0 ≤ v → v < limit → Φ (.int v)
/-! what both sides of _law_same may be -/
def D.sm : Nat → D → Prop
  | _, .non => True | _, .bl _ => True | _, .int _ => True | _, .str _ => True
  | n + 1, .lst l => l.length ≤ 100000 ∧ ∀ d ∈ l, D.sm n d
  | n + 1, .tup l => l.length ≤ 100000 ∧ ∀ d ∈ l, D.sm n d
  | _, _ => False
theorem sm_int {n : Nat} {i : Int} : (D.int i).sm n := by cases n <;> trivial
theorem sm_bl {n : Nat} {i : Bool} : (D.bl i).sm n := by cases n <;> trivial
theorem sm_str {n : Nat} {i : Str} : (D.str i).sm n := by cases n <;> trivial
theorem sm_non {n : Nat} : D.non.sm n := by cases n <;> trivial
theorem sm_lT {α : Type} {f : α → D} {xs : List α} {n : Nat} (hl : xs.length ≤ 100000) (h : ∀ x ∈ xs, (f x).sm n) : (lT f xs).sm (n + 1) := ⟨by rw [List.length_map]; exact hl, fun d hd => by
  obtain ⟨x, hx, rfl⟩ := List.mem_map.mp hd
  exact h x hx⟩
theorem sm_tT {α : Type} {f : α → D} {xs : List α} {n : Nat} (hl : xs.length ≤ 100000) (h : ∀ x ∈ xs, (f x).sm n) : (tT f xs).sm (n + 1) := ⟨by rw [List.length_map]; exact hl, fun d hd => by
  obtain ⟨x, hx, rfl⟩ := List.mem_map.mp hd
  exact h x hx⟩
def cSame (n : Nat) : Con := fun ds Φ => ∃ d : D, ds = [d, d] ∧ (∃ m, n = m + 1 ∧ d.sm m) ∧ Φ (.bl true)
theorem atI_get {l : List D} {i : Int} (h0 : 0 ≤ i) (h : i < l.length) : atI l i = some (l.getD i.toNat .non) := by
  obtain ⟨n, rfl⟩ : ∃ n : Nat, i = n := ⟨i.toNat, by omega⟩
  have hn : n < l.length := by omega
  refine atI_nat ?_
  rw [List.getD_eq_getElem?_getD]
  show _ = some ((l[n]?).getD D.non)
  rw [List.getElem?_eq_getElem hn]
  rfl
theorem get_in {l : List D} {i : Int} (h0 : 0 ≤ i) (h : i < l.length) : l.getD i.toNat .non ∈ l := by
  rw [List.getD_eq_getElem?_getD, List.getElem?_eq_getElem (by omega)]
  exact List.getElem_mem _
theorem XN.cast {X : Cx} {m : Bool} {e : Expr} {Γ : List Sl} {Φ Ψ : MO → Prop} (h : XN X m e Γ Φ) (k : ∀ o, Φ o → ∃ o', Ψ o' ∧ ∀ (Hb : Hp) (u : HO), MR X.K Hb u o → MR X.K Hb u o') : XN X m e Γ Ψ := fun σ Hb H E Q q => h σ Hb H E Q fun p u o Hb' H' z n g E' nb hp r => by
  obtain ⟨o', h1, h2⟩ := k o z
  exact q p u o' Hb' H' h1 n g E' nb hp (h2 Hb' u r)
end DL

namespace DL
open PySem PySem.Spec PyProof.Rows L2 Evl
/-! ### drawing in the midst of a row -/
section
variable {X : Cx} {Γ : List Sl} {m : Bool} {a b e : Expr} {es : List Expr} {pos p : Pos} {k : Nat} {y : Str} {py : Pos}
abbrev dInt (L : Int) : D → Prop := fun d => ∃ v, d = .int v ∧ 0 ≤ v ∧ v < L
theorem xe_pick (i : Nat) {L : Int} (c : Cal X.prog X.w X.K X.mg X.base k "_law_pick" ["state", "limit"] (spE X.K stO cPick)) (hr : Room k X.A) (ha : XV X e Γ (.int L)) (hL : 1 ≤ L ∧ L < 1073741824) (h : Γ[i]? = some (.ow stO) := by rfl) (hN : X.N[i]? = some y := by rfl) (hv : Vis X.env.scope y := by first | exact Or.inl rfl | exact Or.inr (Or.inl rfl) | exact Or.inr (Or.inr rfl)) (hd : (y == ("__debug__" : Str)) = false := by decide)
    (hcd : (y == ("__classdict__" : Str)) = false := by decide) (hg : Gl X "_law_pick" := by rfl) (he : starEach [.Name y py, e] X.env = (false, eval (.Name y py) X.env) :: starEach [e] X.env := by rfl) (he2 : starEach [e] X.env = (false, eval e X.env) :: starEach [] X.env := by rfl) (hpl : (backTo pos (starEach [e] X.env)).any (·.1) = false := by rfl) :
    XE X true (.Call (.Name "_law_pick" p) [.Name y py, e] [] pos) Γ (dInt L) :=
  xe_callE i c hr (xl_cons ha xa_nil he2).up (fun ds h => ⟨L, h, hL, fun v h0 h1 => ⟨v, rfl, h0, h1⟩⟩) h hN hv hd hcd hg (by decide) he hpl
theorem xt_eqI {L j : Int} (ha : XE X m a Γ (dInt L)) (hb : XV X b Γ (.int j)) {Φ : Bool → Prop} (h : ∀ v, 0 ≤ v → v < L → Φ (decide (v = j))) (hm : behindInMarks .Eq b = false := by first | exact nobehind _ (by decide) (by decide) | rfl) : XT X m (.Compare a [.Eq] [b] pos) Γ Φ :=
  xt_cmp op_eq hm ha (fun _ _ => hb.up) fun d e ⟨v, hv, h0, h1⟩ q => by
    subst hv q
    intro x y Hb H ex r1 r2 Q w
    exact v_eqI x y Hb H ex r1 r2 Q fun z d' Hb' H' f => w z d' Hb' H' ⟨_, f, h v h0 h1⟩
theorem xa_one {Φ : D → Prop} {Ψ : List D → Prop} (h : XE X m e Γ Φ) (k : ∀ d, Φ d → Ψ [d]) (hs : starEach (e :: []) X.env = (false, eval e X.env) :: starEach [] X.env := by rfl) : XA X m [e] Γ Ψ := xa_cons h (fun _ _ => xa_nil.up) (fun d ds p q => by rw [q]; exact k d p) hs
theorem xa_then {d : D} {Φ Ψ : List D → Prop} (h : XV X e Γ d) (hb : XA X m es Γ Φ) (k : ∀ ds, Φ ds → Ψ (d :: ds)) (hs : starEach (e :: es) X.env = (false, eval e X.env) :: starEach es X.env := by rfl) : XA X m (e :: es) Γ Ψ := xa_cons h.up (fun _ _ => hb) (fun d' ds p q => by rw [p]; exact k ds q) hs
end
end DL

namespace DL
open PySem PySem.Spec PyProof.Rows L2 Evl
/-! ### slices -/
def cutD {α : Type} (xs : List α) (lo hi : Option Int) : List α := (xs.drop (HT.sIx xs.length 0 lo)).take (HT.sIx xs.length xs.length hi - HT.sIx xs.length 0 lo)
theorem cutD_map {α β : Type} {f : α → β} {xs : List α} {lo hi : Option Int} : cutD (xs.map f) lo hi = (cutD xs lo hi).map f := by
  unfold cutD
  rw [List.length_map, ← List.map_drop, ← List.map_take]
theorem cutD_to {α : Type} {xs : List α} {k : Nat} : cutD xs none (some (k : Int)) = xs.take k := by
  unfold cutD
  rw [HT.sIx_none, HT.sIx_nat, List.drop_zero, Nat.sub_zero]
  rw [← List.take_take, List.take_length]
theorem cutD_from {α : Type} {xs : List α} {k : Nat} : cutD xs (some (k : Int)) none = xs.drop k := by
  unfold cutD
  rw [HT.sIx_none, HT.sIx_nat]
  rw [List.take_of_length_le (by rw [List.length_drop]; omega)]
  by_cases h : k ≤ xs.length
  · rw [Nat.min_eq_left h]
  · rw [Nat.min_eq_right (by omega), List.drop_eq_nil_of_le (Nat.le_refl _), List.drop_eq_nil_of_le (by omega)]
theorem cutD_whole {α : Type} {xs : List α} {lo hi : Option Int} (h : HT.sIx xs.length 0 lo = 0 ∧ HT.sIx xs.length xs.length hi = xs.length) : cutD xs lo hi = xs := by
  unfold cutD
  rw [h.1, h.2, List.drop_zero, Nat.sub_zero, List.take_length]
/-- a slice's bound -/
def XP (X : Cx) (Γ : List Sl) (o : Option Expr) (v : Option Int) : Prop := ∃ to, PO X o to ∧ ∀ (σ : L2.St) (Hb H : Hp), En X.K Hb H σ Γ → ∀ Q : Option Int → Hp → Prop, (∀ Hb' H', Gr (WW false σ Γ) Hb H Hb' H' → En X.K Hb' H' σ Γ → Q v H') → to σ H Q
section
variable {X : Cx} {Γ : List Sl} {m : Bool} {a b e elt tg iter : Expr} {es : List Expr} {pos p p2 : Pos} {lo hi : Option Expr} {lv hv : Option Int} {x : Str}
theorem xp_none : XP X Γ none none := ⟨_, po_none, fun σ Hb H E Q q => q Hb H (Gr.refl E.ex) E⟩
theorem xp_some {i : Int} (h : XV X e Γ (.int i)) : XP X Γ (some e) (some i) := ⟨_, po_some pe_wp, fun σ Hb H E Q q => h σ Hb H E _ fun v d Hb' H' p g E' r => by
  subst p
  cases r
  exact ⟨i, rfl, q Hb' H' g E'⟩⟩
theorem xo_slL {α : Type} {f : α → D} {l : List α} (h : XV X a Γ (lT f l)) (hl : XP X Γ lo lv) (hh : XP X Γ hi hv) : XO X (.Subscript a (.Slice lo hi none p2) pos) Γ (.ml ((cutD l lv hv).map f)) := by
  obtain ⟨tl, h1, h2⟩ := hl
  obtain ⟨th, k1, k2⟩ := hh
  refine xn_of (pe_slice sl_list pe_wp h1 k1) fun σ Hb H E Q q => h σ Hb H E _ fun v d Hb1 H1 p1 g1 E1 r1 => h2 σ Hb1 H1 E1 _ fun Hb2 H2 g2 E2 => k2 σ Hb2 H2 E2 _ fun Hb3 H3 g3 E3 => ?_
  subst p1
  cases r1 with
  | @lst c vs _ ha r =>
    refine ⟨c, vs, rfl, SqL.of (E3.ex _ _ (g3.b _ _ (g2.b _ _ ha))), fun p hp => ?_⟩
    have hb := fresh_back E3.ex hp
    refine q p _ _ Hb3 _ rfl (new_none (gww g1 (gww g2 g3)) hp) (gwn (gww g1 (gww g2 g3)) (New.side E3.ex hp)) (E3.new (New.side E3.ex hp)) hb upd_same ⟨_, rfl, ?_⟩
    have z := ((r.mono g2.b).mono g3.b)
    have e := z.len
    rw [← cutD_map]
    unfold cutV cutD
    rw [e]
    exact (z.drop _).take _
theorem xv_slL {α : Type} {f : α → D} {l : List α} (h : XV X a Γ (lT f l)) (hl : XP X Γ lo lv) (hh : XP X Γ hi hv) : XV X (.Subscript a (.Slice lo hi none p2) pos) Γ (lT f (cutD l lv hv)) := (xo_slL h hl hh).frz
theorem xv_slT {α : Type} {f : α → D} {l : List α} (h : XV X a Γ (tT f l)) (hl : XP X Γ lo lv) (hh : XP X Γ hi hv) : XV X (.Subscript a (.Slice lo hi none p2) pos) Γ (tT f (cutD l lv hv)) := by
  obtain ⟨tl, h1, h2⟩ := hl
  obtain ⟨th, k1, k2⟩ := hh
  refine xe_of (pe_slice sl_tupA pe_wp h1 k1) fun σ Hb H E Q q => h σ Hb H E _ fun v d Hb1 H1 p1 g1 E1 r1 => h2 σ Hb1 H1 E1 _ fun Hb2 H2 g2 E2 => k2 σ Hb2 H2 E2 _ fun Hb3 H3 g3 E3 => ?_
  subst p1
  cases r1 with
  | @tup c vs _ ha r =>
    have ha3 := g3.b _ _ (g2.b _ _ ha)
    have z := ((r.mono g2.b).mono g3.b)
    have e := z.len
    refine ⟨c, vs, rfl, xt E3.ex ha3, fun w => ?_, fun w p hp => ?_⟩
    · refine q (.ref c) _ Hb3 H3 ?_ (gww g1 (gww g2 g3)) E3 (.tup ha3 z)
      rw [e, List.length_map] at w
      rw [cutD_whole w]
      rfl
    · refine q (.ref p) _ _ _ rfl (gwn (gww g1 (gww g2 g3)) (New.mk E3.ex hp)) (E3.new (New.mk E3.ex hp)) (.tup upd_same ((?_ : DRs X.K Hb3 _ _).mono (Ex.new (fresh_back E3.ex hp))))
      rw [← cutD_map]
      unfold cutV cutD
      rw [e]
      exact (z.drop _).take _
/-! ### comprehensions whose items are drawn -/
theorem xn_lcD {scope : Scope} {g : TG} {α β : Type} {f : α → D} {xs : List α} {Ψ : β → Prop} (js : List Nat) (es : α → List D) (f' : β → D) (own : List (Str × Nat)) (hi : XW X tg iter Γ (xs.map f)) (hg : Bk X scope fun Y => PG Y tg g) (gt : ∀ x ∈ xs, XGt X.K g (f x) js (es x))
    (he : ∀ x ∈ xs, Bk X scope fun Y => XE Y true elt (setG Γ js (es x)) fun d => ∃ b, d = f' b ∧ Ψ b) (hl : xs.length ≤ 100000) (ok : BlkOk X.N X.env.scope scope own) (hN : X.N.Nodup) (hw : wipeG Γ (own.map (·.2)) = Γ := by rfl) (hv : ∀ j ∈ js, j ∈ own.map (·.2) := by decide)
    (hc : X.calm = true := by rfl) (hs : ∀ x, foldedSetIterable iter X.env x = pure x := by intro _; rfl) : XN X true (.ListComp elt [⟨tg, iter, [], 0⟩] scope pos) Γ fun o => ∃ bs : List β, o = .ml (bs.map f') ∧ bs.length = xs.length ∧ ∀ b ∈ bs, Ψ b := by
  refine (xn_lc (Φ := fun z => z = xs.map f) js (fun _ i => (xs[i]?.map es).getD []) (fun _ i acc => ∃ bs : List β, acc = bs.map f' ∧ bs.length = i ∧ ∀ b ∈ bs, Ψ b) own hi.up hg (fun ds e i d hd => ?_) .no (fun ds e => ⟨[], rfl, rfl, fun b hb => nomatch hb⟩) (fun ds e i d acc hd hp => ?_) (fun ds e => by rw [e, List.length_map]; exact hl) ok hN hw hv hc hs).imp ?_
  · subst e
    rw [List.getElem?_map] at hd
    cases hx : xs[i]? with
    | none => rw [hx] at hd; cases hd
    | some x =>
      rw [hx] at hd
      cases hd
      exact gt x (List.mem_of_getElem? hx)
  · subst e
    rw [List.getElem?_map] at hd
    cases hx : xs[i]? with
    | none => rw [hx] at hd; cases hd
    | some x =>
      have z := he x (List.mem_of_getElem? hx)
      refine jt_yes ⟨fun _ s H C cl fp => ?_, fun h => nomatch h⟩
      show XE _ true elt (setG Γ js (es x)) _
      refine (z s H C cl fp).imp fun d hb => ?_
      obtain ⟨b, h1, h2⟩ := hb
      obtain ⟨bs, k1, k2, k3⟩ := hp
      refine ⟨bs ++ [b], by rw [k1, h1, List.map_append]; rfl, by rw [List.length_append, k2]; rfl, fun c hc => ?_⟩
      rcases List.mem_append.mp hc with hc | hc
      · exact k3 c hc
      · rw [List.mem_singleton.mp hc]
        exact h2
  · rintro o ⟨ds, acc, rfl, h1, bs, h2, h3, h4⟩
    exact ⟨bs, by rw [h1, h2], by rw [h3, List.length_map], h4⟩
theorem xe_tupN {β : Type} {f' : β → D} {Φ : List β → Prop} (h : XN X m a Γ fun o => ∃ bs : List β, o = .ml (bs.map f') ∧ Φ bs) (hm : X.mg "tuple" = none) (hg : Gl X "tuple" := by rfl) (hs : starEach (a :: []) X.env = (false, eval a X.env) :: starEach [] X.env := by rfl) (hpl : (backTo pos (starEach [] X.env)).any (·.1) = false := by rfl) : XE X m (.Call (.Name "tuple" p) [a] [] pos) Γ fun d => ∃ bs, d = tT f' bs ∧ Φ bs :=
  xe_callT call_tuple_of hm (by decide +kernel) (xa_one (Ψ := fun ds => ∃ bs : List β, ds = [lT f' bs] ∧ Φ bs) ((h.imp fun o ⟨bs, h1, h2⟩ => ⟨bs.map f', h1, bs, rfl, h2⟩ : XN X m a Γ fun o => ∃ ds, o = .ml ds ∧ ∃ bs : List β, ds = bs.map f' ∧ Φ bs).frzP) (fun d ⟨ds, h1, bs, h2, h3⟩ => ⟨bs, by rw [h1, h2]; rfl, h3⟩) hs) (fun ds ⟨bs, h1, h2⟩ => by
    rw [h1]
    exact fun xs Hb H ex r Q q => l_tupleL xs Hb H ex r Q fun z d' Hb' H' e => q z d' Hb' H' ⟨bs, e, h2⟩) hg (by decide) (by decide) hs hpl
/-- i + what is drawn -/
theorem xe_addD {i L : Int} (ha : XV X a Γ (.int i)) (hb : XE X m b Γ (dInt L)) : XE X m (.BinOp a .Add b pos) Γ fun d => ∃ v, d = .int (i + v) ∧ 0 ≤ v ∧ v < L :=
  xe_bin op_add ha.up (fun _ _ => hb) fun d e h ⟨v, h2, h3⟩ => by
    subst h h2
    exact fun x y Hb H ex r1 r2 Q q => v_add x y Hb H ex r1 r2 Q fun z d' Hb' H' e => q z d' Hb' H' ⟨v, e, h3⟩
end
end DL
namespace DL
open PySem PySem.Spec PyProof.Rows L2 Evl
section
variable {X : Cx} {kp : Nat} {Γ : List Sl} {c : Expr} {A B rest : List Stmt} {G : Dn} {pos : Pos}
/-- a test that fails: what it guards is passed by -/
theorem xs_no (h : XB X c Γ false) (k : XSs X kp rest Γ G) : XSs X kp (.If c A [] pos :: rest) Γ G := xs_cons (xs_if h (fun h => nomatch h) fun _ => xs_nil k)
/-- a test whose part leaves all as it was -/
theorem xs_ifJ {b : Bool} (h : XB X c Γ b) (h1 : b = true → XSs X kp A Γ { G with nx := fun Γ' => Le Γ' Γ }) (k : XSs X kp rest Γ G) : XSs X kp (.If c A [] pos :: rest) Γ G :=
  xs_cons (xs_if h (fun e => (h1 e.symm).imp (fun Γ' l => k.le l) (fun _ _ z => z) (fun _ z => z) fun _ z => z) fun _ => xs_nil k)
end
end DL

namespace DL
open PySem PySem.Spec PyProof.Rows L2 Evl
/-! ### list(range(..)), tuple(range(..)) -/
theorem rgV_rng {a b : Int} : rgV a b = (rng a b).map V.int := by
  unfold rgV rng
  rw [List.map_map]
  rfl
theorem dr_ints {K : PySem.W.Frag} {H : Hp} : ∀ ns : List Int, DRs K H (ns.map V.int) (ns.map D.int)
  | [] => .nil
  | n :: ns => .cons (.int n) (dr_ints ns)
/-- range(..) as an argument, its ends known -/
def XG (X : Cx) (Γ : List Sl) (e : Expr) (a b : Int) : Prop := ∃ t, PRg X e t ∧ ∀ (σ : L2.St) (Hb H : Hp), En X.K Hb H σ Γ → ∀ Q : Int → Int → Hp → Prop, (∀ Hb' H', Gr (WW false σ Γ) Hb H Hb' H' → En X.K Hb' H' σ Γ → Q a b H') → t σ H Q
section
variable {X : Cx} {Γ : List Sl} {m : Bool} {a b e : Expr} {pos p : Pos}
theorem xg_1 {n : Int} (h : XV X a Γ (.int n)) (hm : X.mg "range" = none) (hg : Gl X "range" := by rfl) (na : starEach [a] X.env = (false, eval a X.env) :: starEach [] X.env := by rfl) : XG X Γ (.Call (.Name "range" p) [a] [] pos) 0 n :=
  ⟨_, prg_1 hg hm pe_wp na, fun σ Hb H E Q q => h σ Hb H E _ fun v d Hb1 H1 p1 g1 E1 r1 => by
    subst p1
    cases r1
    exact ⟨n, rfl, q Hb1 H1 g1 E1⟩⟩
theorem xg_2 {i j : Int} (h : XV X a Γ (.int i)) (h2 : XV X b Γ (.int j)) (hm : X.mg "range" = none) (hg : Gl X "range" := by rfl) (na : starEach [a, b] X.env = (false, eval a X.env) :: starEach [b] X.env := by rfl)
    (nb : starEach [b] X.env = (false, eval b X.env) :: starEach [] X.env := by rfl) (hp : (backTo pos (starEach [b] X.env)).any (·.1) = false := by rfl) : XG X Γ (.Call (.Name "range" p) [a, b] [] pos) i j :=
  ⟨_, prg_2 hg hm pe_wp pe_wp na nb hp, fun σ Hb H E Q q => h σ Hb H E _ fun v d Hb1 H1 p1 g1 E1 r1 => h2 σ Hb1 H1 E1 _ fun v2 d2 Hb2 H2 p2 g2 E2 r2 => by
    subst p1 p2
    cases r1
    cases r2
    exact ⟨i, j, rfl, rfl, q Hb2 H2 (gww g1 g2) E2⟩⟩
theorem xo_listRg {i j : Int} (h : XG X Γ e i j) (hi : -100000 ≤ i ∧ i ≤ 100000) (hj : -100000 ≤ j ∧ j ≤ 100000) (hm : X.mg "list" = none) (hc : X.calm = true := by rfl) (hg : Gl X "list" := by rfl) (na : starEach [e] X.env = (false, eval e X.env) :: starEach [] X.env := by rfl) : XO X (.Call (.Name "list" p) [e] [] pos) Γ (.ml ((rng i j).map D.int)) := by
  obtain ⟨t, h1, h2⟩ := h
  refine xn_of (pe_listRg hc hg hm h1 na) fun σ Hb H E Q q => h2 σ Hb H E _ fun Hb1 H1 g1 E1 => ⟨⟨by omega, by omega, by omega, by omega, by omega⟩, fun p hp => ?_⟩
  exact q p _ _ Hb1 _ rfl (new_none g1 hp) (gwn g1 (New.side E1.ex hp)) (E1.new (New.side E1.ex hp)) (fresh_back E1.ex hp) upd_same ⟨_, rfl, by rw [rgV_rng]; exact dr_ints _⟩
theorem xv_listRg {i j : Int} (h : XG X Γ e i j) (hi : -100000 ≤ i ∧ i ≤ 100000) (hj : -100000 ≤ j ∧ j ≤ 100000) (hm : X.mg "list" = none) (hc : X.calm = true := by rfl) (hg : Gl X "list" := by rfl) (na : starEach [e] X.env = (false, eval e X.env) :: starEach [] X.env := by rfl) : XV X (.Call (.Name "list" p) [e] [] pos) Γ (lT D.int (rng i j)) := (xo_listRg h hi hj hm hc hg na).frz
theorem xv_tupRg {i j : Int} (h : XG X Γ e i j) (hi : -100000 ≤ i ∧ i ≤ 100000) (hj : -100000 ≤ j ∧ j ≤ 100000) (hm : X.mg "tuple" = none) (hc : X.calm = true := by rfl) (hg : Gl X "tuple" := by rfl) (na : starEach [e] X.env = (false, eval e X.env) :: starEach [] X.env := by rfl) : XV X (.Call (.Name "tuple" p) [e] [] pos) Γ (tT D.int (rng i j)) := by
  obtain ⟨t, h1, h2⟩ := h
  refine xe_of (pe_tupRg hc hg hm h1 na) fun σ Hb H E Q q => h2 σ Hb H E _ fun Hb1 H1 g1 E1 => ⟨⟨by omega, by omega, by omega, by omega, by omega⟩, fun p hp => ?_⟩
  exact q (.ref p) _ _ _ rfl (gwn g1 (New.mk E1.ex hp)) (E1.new (New.mk E1.ex hp)) (.tup upd_same (by rw [rgV_rng]; exact dr_ints _))
/-! ### a op b op c -/
theorem jr_chain {K : PySem.W.Frag} {r r' : R2} {ta tb tc : TE} {d d1 d2 : D} {k l : Bool} (ha : JR K m ta Γ fun z => z = d) (hb : JR K m tb Γ fun z => z = d1) (hc : JR K m tc Γ fun z => z = d2) (hr : RV2 K r d d1 (.bl k)) (hr' : k = true → RV2 K r' d1 d2 (.bl l)) : JR K m (tChain r r' ta tb tc) Γ fun z => z = .bl (k && l) := fun σ Hb H E Q q =>
  ha σ Hb H E _ fun x e1 Hb1 H1 p1 g1 E1 r1 => hb σ Hb1 H1 E1 _ fun y e2 Hb2 H2 p2 g2 E2 r2 => by
    subst p1 p2
    refine hr x y Hb2 H2 E2.ex (r1.mono g2.b) r2 _ fun z e3 Hb3 H3 p3 g3 r3 => ?_
    subst p3
    cases r3
    refine ⟨k, rfl, ?_⟩
    cases k with
    | false =>
      rw [if_neg (fun z => Bool.noConfusion z)]
      exact q (.bl false) (.bl false) Hb3 H3 rfl (gwn (gww g1 g2) g3) (E2.new g3) (.bl false)
    | true =>
      rw [if_pos rfl]
      refine hc σ Hb3 H3 (E2.new g3) _ fun w' e4 Hb4 H4 p4 g4 E4 r4 => ?_
      subst p4
      refine hr' rfl y w' Hb4 H4 E4.ex ((r2.mono g3.b).mono g4.b) r4 _ fun z e5 Hb5 H5 p5 g5 r5 => ?_
      exact q z e5 Hb5 H5 p5 (gwn (gww (gwn (gww g1 g2) g3) g4) g5) (E4.new g5) r5
theorem xv_chain {op op' : CmpOp} {r r' : R2} {c : Expr} {d d1 d2 : D} {k l : Bool} (ho : OpR X (compareOp op) r) (hr : RV2 X.K r d d1 (.bl k)) (ho' : OpR X (compareOp op') r') (hr' : k = true → RV2 X.K r' d1 d2 (.bl l)) (ha : XV X a Γ d) (hb : XV X b Γ d1) (hc : XV X c Γ d2) (hm : lastMarks [op, op'] [b, c] = false := by with_unfolding_all rfl) : XV X (.Compare a [op, op'] [b, c] pos) Γ (.bl (k && l)) := xe_of (pe_chain ho ho' pe_wp pe_wp pe_wp hm) (jr_chain ha hb hc hr hr')
theorem xb_chain {op op' : CmpOp} {r r' : R2} {c : Expr} {d d1 d2 : D} {k l : Bool} (ho : OpR X (compareOp op) r) (hr : RV2 X.K r d d1 (.bl k)) (ho' : OpR X (compareOp op') r') (hr' : k = true → RV2 X.K r' d1 d2 (.bl l)) (ha : XV X a Γ d) (hb : XV X b Γ d1) (hc : XV X c Γ d2) (hm : lastMarks [op, op'] [b, c] = false := by with_unfolding_all rfl) : XB X (.Compare a [op, op'] [b, c] pos) Γ (k && l) := xt_of (pt_chain ho ho' pe_wp pe_wp pe_wp hm) (jt_test fun σ Hb H E Q q => jr_chain ha hb hc hr hr' σ Hb H E Q fun v d Hb' H' e => q v d Hb' H' ⟨_, e, rfl⟩)
end
end DL
namespace DL
open PySem PySem.Spec PyProof.Rows L2 Evl
section
variable {X : Cx} {kp : Nat} {Γ Γ' : List Sl} {c : Expr} {body rest : List Stmt} {G : Dn} {pos : Pos}
theorem XT.le {Φ : Bool → Prop} (h : XT X false c Γ' Φ) (l : Le Γ Γ') : XT X false c Γ Φ := fun σ Hb H E Q q => h σ Hb H (E.le l) Q fun b Hb' H' p g E' => q b Hb' H' p ((ww_new g).wk fun _ z => z.elim) (E.new (ww_new g))
/-- a while loop over known states -/
theorem xs_whl {S : Type} (emb : S → List Sl) (ms : S → Nat) (Iv : S → Prop) (s0 : S) (h0 : Le Γ (emb s0)) (i0 : Iv s0) (hs : ∀ s, Iv s → ∃ b, XB X c (emb s) b ∧ (b = true → XSs X kp body (emb s) { nx := fun Γ2 => ∃ s', ms s' < ms s ∧ Iv s' ∧ Le Γ2 (emb s'), ct := fun Γ2 => ∃ s', ms s' < ms s ∧ Iv s' ∧ Le Γ2 (emb s'), bk := fun _ => False, rt := G.rt }) ∧ (b = false → XSs X kp rest (emb s) G)) (hps : PassesOwn (model X.prog X.w) X.A X.env X.xe) : XSs X kp (.While c body [] pos :: rest) Γ G := by
  refine xs_cons (xs_while (m := false) (fun k Γ2 => ∃ s, k = ms s ∧ Iv s ∧ Le Γ2 (emb s)) (ms s0) ⟨s0, rfl, i0, h0⟩ (fun k Γ2 ⟨s, hk, hI, l⟩ => ?_) hps)
  subst hk
  obtain ⟨b, h1, h2, h3⟩ := hs s hI
  exact ⟨fun z => z = b, XT.le h1 l, fun e => ((h2 e.symm).le l).imp (fun _ ⟨s', y1, y2, y3⟩ => ⟨ms s', y1, s', rfl, y2, y3⟩) (fun _ _ z => z) (fun _ z => z.elim) (fun _ ⟨s', y1, y2, y3⟩ => ⟨ms s', y1, s', rfl, y2, y3⟩), fun e => (h3 e.symm).le l⟩
end
end DL

namespace DL
open PySem PySem.Spec PyProof.Rows L2 Evl
section
variable {X : Cx} {Γ : List Sl} {m : Bool} {a b e tg : Expr} {pos p : Pos} {kp : Nat} {sts rest body : List Stmt} {G : Dn} {g : TG}
/-- range(n), n drawn -/
theorem xi_range1D {L : Int} (h : XE X m e Γ (dInt L)) (hL : L ≤ 100000) (hm : X.mg "range" = none) (hg : Gl X "range" := by rfl) (hs : starEach [e] X.env = [(false, eval e X.env)] := by rfl) : XI X m tg (.Call (.Name "range" p) [e] [] pos) Γ fun ds => ∃ n, ds = (rng 0 n).map D.int ∧ 0 ≤ n ∧ n < L := xi_of (pi_range1 hg hm pa_wp hs) fun σ Hb H E R q => (xa_one (Ψ := fun ds => ∃ n, ds = [.int n] ∧ 0 ≤ n ∧ n < L) h (fun d ⟨v, h1, h2⟩ => ⟨v, by rw [h1], h2⟩) hs) σ Hb H E _ fun vs ds Hb1 H1 p1 g1 E1 r1 => by
  obtain ⟨n, rfl, h0, h1⟩ := p1
  cases r1 with
  | cons r1 r2 =>
    cases r2
    cases r1
    have z := q (Itr 0 (n - 0).toNat) _ Hb1 H1 ⟨n, rfl, h0, h1⟩ g1 E1 itd_rng
    rw [Int.sub_zero] at z
    exact ⟨n, rfl, by omega, by omega, z⟩
/-- a loop over a drawn number of turns; st: what may stand behind i turns -/
theorem xs_loopD {S : Type} {js : List Nat} {L : Int} {iter : Expr} (emb : S → List Sl) (Iv : Nat → S → Prop) (s0 : S) (hi : XI X m tg iter Γ fun ds => ∃ n, ds = (rng 0 n).map D.int ∧ 0 ≤ n ∧ n < L) (hp : PG X tg g) (hg : ∀ k : Int, XGt X.K g (.int k) js [.int k]) (h0 : Le Γ (emb s0)) (i0 : Iv 0 s0)
    (hs : ∀ (i : Nat) (s : S), (i : Int) < L → Iv i s → XSs X kp body (setG (emb s) js [.int i]) { nx := fun Γ' => ∃ s', Iv (i + 1) s' ∧ Le Γ' (emb s'), ct := fun Γ' => ∃ s', Iv (i + 1) s' ∧ Le Γ' (emb s'), bk := fun _ => False, rt := G.rt })
    (hd : ∀ (n : Nat) (s : S), (n : Int) < L → Iv n s → XSs X kp rest (emb s) G) (hps : PassesOwn (model X.prog X.w) X.A X.env X.xe) (hj : ∀ j ∈ js, kp ≤ j := by decide) (hc : X.calm = true := by rfl) (hss : ∀ x, foldedSetIterable iter X.env x = pure x := by intro _; rfl) : XSs X kp (.For tg iter body [] pos :: rest) Γ G := by
  refine xs_cons (xs_for (fun _ i => [.int i]) (fun _ i Γ' => ∃ s, Iv i s ∧ Le Γ' (emb s)) hi hp (fun ds _ => ⟨s0, i0, h0⟩) (fun ds ⟨n, e, h1, h2⟩ i d hd' => ?_) (fun ds ⟨n, e, h1, h2⟩ i d Γ' hd' hv => ?_) (fun ds Γ' ⟨n, e, h1, h2⟩ hv => ?_) hps hj hc hss)
  · subst e
    rw [List.getElem?_map] at hd'
    cases hx : (rng 0 n)[i]? with
    | none => rw [hx] at hd'; cases hd'
    | some k =>
      rw [hx] at hd'
      cases hd'
      have hlt : i < (rng 0 n).length := (List.getElem?_eq_some_iff.mp hx).1
      rw [rng_len] at hlt
      rw [rng_get (by omega)] at hx
      cases hx
      rw [Int.zero_add]
      exact hg i
  · subst e
    have hlt : i < (rng 0 n).length := by
      have := (List.getElem?_eq_some_iff.mp hd').1
      rwa [List.length_map] at this
    rw [rng_len] at hlt
    obtain ⟨s, v1, v2⟩ := hv
    exact ((hs i s (by omega) v1).le v2.setG).imp (fun _ z => z) (fun _ _ z => z) (fun _ z => z.elim) fun _ z => z
  · subst e
    rw [List.length_map, rng_len] at hv
    obtain ⟨s, v1, v2⟩ := hv
    exact (hd _ s (by omega) v1).le v2
/-- xs[i], i drawn -/
theorem xe_ixD {L : Int} {α : Type} {f : α → D} {l : List α} {Ψ : D → Prop} (ha : XV X a Γ (lT f l)) (hb : XE X m b Γ (dInt L)) (hL : L ≤ l.length) (h : ∀ x ∈ l, Ψ (f x)) (hs : PlainIx b := by exact fun _ _ => rfl) : XE X m (.Subscript a b pos) Γ Ψ :=
  xe_ix ix_list ha.up (fun _ _ => hb) (fun d e h1 ⟨v, h2, h3, h4⟩ => by
    subst h1 h2
    obtain ⟨n, rfl⟩ : ∃ n : Nat, v = n := ⟨v.toNat, by omega⟩
    have hn : n < l.length := by omega
    have z : RV2 X.K (rIxL X.K) (lT f l) (.int (n : Int)) (f l[n]) := v_ixLT (atI_nat (by rw [List.getElem?_eq_getElem hn]))
    exact fun x y Hb H ex r1 r2 Q q => z x y Hb H ex r1 r2 Q fun z' d' Hb' H' e => q z' d' Hb' H' (by rw [e]; exact h _ (List.getElem_mem _))) hs
theorem xe_ixDT {L : Int} {α : Type} {f : α → D} {l : List α} {Ψ : D → Prop} (ha : XV X a Γ (tT f l)) (hb : XE X m b Γ (dInt L)) (hL : L ≤ l.length) (h : ∀ x ∈ l, Ψ (f x)) (hs : PlainIx b := by exact fun _ _ => rfl) : XE X m (.Subscript a b pos) Γ Ψ :=
  xe_ix ix_tup ha.up (fun _ _ => hb) (fun d e h1 ⟨v, h2, h3, h4⟩ => by
    subst h1 h2
    obtain ⟨n, rfl⟩ : ∃ n : Nat, v = n := ⟨v.toNat, by omega⟩
    have hn : n < l.length := by omega
    have z : RV2 X.K (rIxT X.K) (tT f l) (.int (n : Int)) (f l[n]) := v_ixTT (atI_nat (by rw [List.getElem?_eq_getElem hn]))
    exact fun x y Hb H ex r1 r2 Q q => z x y Hb H ex r1 r2 Q fun z' d' Hb' H' e => q z' d' Hb' H' (by rw [e]; exact h _ (List.getElem_mem _))) hs
/-- a loop over known items; Iv: what may be behind i turns -/
theorem xs_loopI {α S : Type} {f : α → D} {xs : List α} {js : List Nat} {iter : Expr} (es : α → List D) (emb : S → List Sl) (Iv : Nat → S → Prop) (s0 : S) (hi : XW X tg iter Γ (xs.map f)) (hp : PG X tg g) (hg : ∀ x ∈ xs, XGt X.K g (f x) js (es x)) (h0 : Le Γ (emb s0)) (i0 : Iv 0 s0)
    (hs : ∀ (i : Nat) (x : α) (s : S), xs[i]? = some x → Iv i s → XSs X kp body (setG (emb s) js (es x)) { nx := fun Γ' => ∃ s', Iv (i + 1) s' ∧ Le Γ' (emb s'), ct := fun Γ' => ∃ s', Iv (i + 1) s' ∧ Le Γ' (emb s'), bk := fun _ => False, rt := G.rt })
    (hd : ∀ (s : S), Iv xs.length s → XSs X kp rest (emb s) G) (hps : PassesOwn (model X.prog X.w) X.A X.env X.xe) (hj : ∀ j ∈ js, kp ≤ j := by decide) (hc : X.calm = true := by rfl) (hss : ∀ x, foldedSetIterable iter X.env x = pure x := by intro _; rfl) : XSs X kp (.For tg iter body [] pos :: rest) Γ G := by
  refine xs_cons (xs_for (fun _ i => (xs[i]?.map es).getD []) (fun _ i Γ' => ∃ s, Iv i s ∧ Le Γ' (emb s)) hi hp (fun ds _ => ⟨s0, i0, h0⟩) (fun ds e i d hd' => ?_) (fun ds e i d Γ' hd' hv => ?_) (fun ds Γ' e hv => ?_) hps hj hc hss)
  · subst e
    rw [List.getElem?_map] at hd'
    cases hx : xs[i]? with
    | none => rw [hx] at hd'; cases hd'
    | some x =>
      rw [hx] at hd'
      cases hd'
      exact hg x (List.mem_of_getElem? hx)
  · subst e
    rw [List.getElem?_map] at hd'
    cases hx : xs[i]? with
    | none => rw [hx] at hd'; cases hd'
    | some x =>
      obtain ⟨s, v1, v2⟩ := hv
      exact ((hs i x s hx v1).le v2.setG).imp (fun _ z => z) (fun _ _ z => z) (fun _ z => z.elim) fun _ z => z
  · subst e
    rw [List.length_map] at hv
    obtain ⟨s, v1, v2⟩ := hv
    exact (hd s v1).le v2
end
end DL
namespace DL
open PySem PySem.Spec PyProof.Rows L2 Evl
section
variable {X : Cx} {Γ : List Sl} {m : Bool} {a b : Expr} {pos : Pos}
/-- a drawn list + a list -/
theorem xe_catLD {α : Type} {f : α → D} {l' : List α} {Φ : List α → Prop} (ha : XE X m a Γ fun d => ∃ l, d = lT f l ∧ Φ l) (hb : XV X b Γ (lT f l')) (hz : ∀ l, Φ l → l.length + l'.length ≤ 100000) : XE X m (.BinOp a .Add b pos) Γ fun d => ∃ l, d = lT f (l ++ l') ∧ Φ l := by
  have z : XN X m (.BinOp a .Add b pos) Γ fun o => ∃ ds, o = .ml ds ∧ ∃ l, ds = (l ++ l').map f ∧ Φ l := xn_of (pe_op op_cat pe_wp pe_wp) (jn_bin ha (fun _ _ => hb.up) fun d e ⟨l, h1, h2⟩ q => by
    subst h1 q
    have y := v_catL (K := X.K) (ds := l.map f) (es := l'.map f) (by rw [List.length_map, List.length_map]; exact hz l h2)
    exact fun x1 y1 Hb H ex r1 r2 Q q => y x1 y1 Hb H ex r1 r2 Q fun p u o Hb' H' e => q p u o Hb' H' ⟨_, e, l, by rw [List.map_append], h2⟩)
  exact z.frzP.imp fun d ⟨ds, h1, l, h2, h3⟩ => ⟨l, by rw [h1, h2]; rfl, h3⟩
/-- a list times a number -/
theorem xv_repL {α : Type} {f : α → D} {l : List α} {k : Int} (ha : XV X a Γ (lT f l)) (hb : XV X b Γ (.int k)) (hk : 0 ≤ k ∧ k ≤ 100000) (hz : l.length * k.toNat ≤ 100000) : XV X (.BinOp a .Mult b pos) Γ (lT f (List.replicate k.toNat l).flatten) := by
  refine XN.frz (ds := (List.replicate k.toNat l).flatten.map f) (xn_of (pe_op op_rep pe_wp pe_wp) (jn_bin ha (fun _ _ => hb) fun d e h1 h2 => ?_))
  subst h1 h2
  intro x y Hb H ex r1 r2 Q q
  cases r1 with
  | lst h r =>
    cases r2
    have hl := r.len
    rw [List.length_map] at hl
    refine ⟨_, k, _, rfl, rfl, ex _ _ h, by omega, by omega, sz_of (by rw [hl]; exact hz), fun p hp => q p _ _ Hb _ rfl hp (New.side ex hp) (fresh_back ex hp) upd_same ⟨_, rfl, ?_⟩⟩
    have e : (List.replicate k.toNat l).flatten.map f = (List.replicate k.toNat (l.map f)).flatten := by rw [List.map_flatten, List.map_replicate]
    rw [e]
    generalize k.toNat = n
    induction n with
    | zero => exact .nil
    | succ n ih =>
      rw [List.replicate_succ, List.replicate_succ, List.flatten_cons, List.flatten_cons]
      exact r.app ih
end
end DL

namespace DL
open PySem PySem.Spec PyProof.Rows L2 Evl
/-! ### len(set(t)), t a tuple of ints -/
section
variable {X : Cx} {Γ : List Sl} {m : Bool} {e : Expr} {pos pos1 p p1 : Pos}
def rLenSet (w : World) : List V → Hp → VK → Prop := fun xs H Q => ∃ (p : Addr) (S : Int → Bool) (c : Nat), xs = [.ref p] ∧ H p = some (SetO w p S c) ∧ c ≤ 1000 ∧ ((∃ ks : List Int, ks.Nodup ∧ (∀ k, S k = true ↔ k ∈ ks) ∧ ks.length = c) → Q (.int c) H)
theorem cr_lenSet : CallR X (.builtin "len") (rLenSet X.w) := by
  intro pins s σ H xs us Q I r h
  obtain ⟨p, S, c, rfl, hp, hc, q⟩ := h
  rw [Vals.ref1 r]
  obtain ⟨R, _⟩ := (show ObjOk X.prog X.w H s.heap p (SetO X.w p S c) from I.hok p _ hp)
  obtain ⟨o, es, ep, t, ho, hex, hd, hg, hn, hm, hb, hf, hs, _⟩ := R
  exact call_len_set ho hex hd hf (by rw [hs]; omega) ⟨.int c, H, I.tok _, ⟨_, by rw [hs]⟩, q ⟨es.toList.map keyOf, hn, hm, by rw [List.length_map, Array.length_toList, hs]⟩⟩
theorem xv_lenSetT {ns : List Int} (h : XV X e Γ (tT D.int ns)) (hz : ns.length ≤ 60) (hm : X.mg "len" = none) (hm1 : X.mg "set" = none) (hc : X.calm = true := by rfl) (hg : Gl X "len" := by rfl) (hg1 : Gl X "set" := by rfl)
    (he : starEach (e :: []) X.env = (false, eval e X.env) :: starEach [] X.env := by rfl) (hpl : (backTo pos1 (starEach [] X.env)).any (·.1) = false := by rfl) (he2 : starEach (.Call (.Name "set" p1) [e] [] pos1 :: []) X.env = (false, eval (.Call (.Name "set" p1) [e] [] pos1) X.env) :: starEach [] X.env := by rfl) (hpl2 : (backTo pos (starEach [] X.env)).any (·.1) = false := by rfl) :
    XV X (.Call (.Name "len" p) [.Call (.Name "set" p1) [e] [] pos1] [] pos) Γ (.int (setI ns).length) := by
  have hs : PE X (.Call (.Name "set" p1) [e] [] pos1) (tCB (rSetTI X.w X.K) (tCons (wpE X e) tNil)) := pe_callTy (cr_setTI hc) hg1 hm1 PyProof.Rows.boot_set (pa_cons pe_wp pa_nil he) (by decide) (by decide) he hpl
  refine xe_of (pe_callB cr_lenSet hg hm (by decide +kernel) (pa_cons hs pa_nil he2) (by decide) (by decide) he2 hpl2) fun σ Hb H E Q q => h σ Hb H E _ fun v d Hb1 H1 p1 g1 E1 r1 => ?_
  subst p1
  cases r1 with
  | @tup a vs _ ha k =>
    have e1 := k.ints
    subst e1
    refine ⟨a, ns, rfl, xt E1.ex ha, hz, fun p c hcn hp => ⟨p, _, c, rfl, upd_same, by omega, fun ⟨ks, k1, k2, k3⟩ => ?_⟩⟩
    have n1 := New.side (o := SetO X.w p (fun j => decide (j ∈ ns)) c) E1.ex hp
    have el : c = (setI ns).length := by
      rw [← k3]
      have nd : (setI ns).Nodup := (setI_asc ns).imp fun h => by omega
      exact ((List.perm_ext_iff_of_nodup k1 nd).mpr fun x => by rw [← k2 x, mem_setI]; exact decide_eq_true_iff).length_eq
    exact q (.int c) _ Hb1 _ (by rw [el]) (gwn g1 n1) (E1.new n1) (.int _)
/-! ### [drawn for k in range(drawn)], sorted of it -/
variable {a elt tg iter : Expr}
theorem xn_lcDD {scope : Scope} {g : TG} {β : Type} {Ψ : β → Prop} {L : Int} (js : List Nat) (f' : β → D) (own : List (Str × Nat)) (hi : XI X true tg iter Γ fun ds => ∃ n, ds = (rng 0 n).map D.int ∧ 0 ≤ n ∧ n < L) (hL : L ≤ 100000) (hg : Bk X scope fun Y => PG Y tg g) (gt : ∀ k : Int, XGt X.K g (.int k) js [.int k])
    (he : ∀ k : Int, Bk X scope fun Y => XE Y true elt (setG Γ js [.int k]) fun d => ∃ b, d = f' b ∧ Ψ b) (ok : BlkOk X.N X.env.scope scope own) (hN : X.N.Nodup) (hw : wipeG Γ (own.map (·.2)) = Γ := by rfl) (hv : ∀ j ∈ js, j ∈ own.map (·.2) := by decide)
    (hc : X.calm = true := by rfl) (hs : ∀ x, foldedSetIterable iter X.env x = pure x := by intro _; rfl) : XN X true (.ListComp elt [⟨tg, iter, [], 0⟩] scope pos) Γ fun o => ∃ bs : List β, o = .ml (bs.map f') ∧ (bs.length : Int) < L ∧ ∀ b ∈ bs, Ψ b := by
  refine (xn_lc (Φ := fun ds => ∃ n, ds = (rng 0 n).map D.int ∧ 0 ≤ n ∧ n < L) js (fun _ i => [.int i]) (fun _ i acc => ∃ bs : List β, acc = bs.map f' ∧ bs.length = i ∧ ∀ b ∈ bs, Ψ b) own hi hg (fun ds ⟨n, e, h0, h1⟩ i d hd => ?_) .no (fun ds e => ⟨[], rfl, rfl, fun b hb => nomatch hb⟩) (fun ds ⟨n, e, h0, h1⟩ i d acc hd hp => ?_) (fun ds ⟨n, e, h0, h1⟩ => by rw [e, List.length_map, rng_len]; omega) ok hN hw hv hc hs).imp ?_
  · subst e
    rw [List.getElem?_map] at hd
    cases hx : (rng 0 n)[i]? with
    | none => rw [hx] at hd; cases hd
    | some x =>
      rw [hx] at hd
      cases hd
      have hlt := (List.getElem?_eq_some_iff.mp hx).1
      rw [rng_len] at hlt
      rw [rng_get (by omega)] at hx
      cases hx
      rw [Int.zero_add]
      exact gt i
  · refine jt_yes ⟨fun _ s H C cl fp => ?_, fun h => nomatch h⟩
    show XE _ true elt (setG Γ js [.int i]) _
    refine (he i s H C cl fp).imp fun d hb => ?_
    obtain ⟨b, h1, h2⟩ := hb
    obtain ⟨bs, k1, k2, k3⟩ := hp
    refine ⟨bs ++ [b], by rw [k1, h1, List.map_append]; rfl, by rw [List.length_append, k2]; rfl, fun c hc => ?_⟩
    rcases List.mem_append.mp hc with hc | hc
    · exact k3 c hc
    · rw [List.mem_singleton.mp hc]
      exact h2
  · rintro o ⟨ds, acc, ⟨n, e, h0, h1⟩, rfl, bs, h2, h3, h4⟩
    exact ⟨bs, by rw [h2], by rw [h3, e, List.length_map, rng_len]; omega, h4⟩
theorem xn_sortedN {α : Type} [DecidableEq α] {f : α → D} {n : Nat} [Enc f n] [Alk f] {Φ : List α → Prop} (h : XN X m a Γ fun o => ∃ xs : List α, o = .ml (xs.map f) ∧ Φ xs) (hso : ∀ xs, Φ xs → PySem.W.Sortable (xs.map fun x => (f x).py)) (hu : X.A.units + 65 < cLine) (hm : X.mg "sorted" = none) (hn : n ≤ 60 := by decide) (hg : Gl X "sorted" := by rfl) (hs : starEach (a :: []) X.env = (false, eval a X.env) :: starEach [] X.env := by rfl) (hpl : (backTo pos (starEach [] X.env)).any (·.1) = false := by rfl) :
    XN X m (.Call (.Name "sorted" p) [a] [] pos) Γ fun o => ∃ xs : List α, o = .ml ((sortD f xs).map f) ∧ Φ xs :=
  xn_callB (cr_sortD (f := f) hu) hm (by decide +kernel) (xa_one (Ψ := fun ds => ∃ xs : List α, ds = [lT f xs] ∧ Φ xs) ((h.imp fun o ⟨bs, h1, h2⟩ => ⟨bs.map f, h1, bs, rfl, h2⟩ : XN X m a Γ fun o => ∃ ds, o = .ml ds ∧ ∃ xs : List α, ds = xs.map f ∧ Φ xs).frzP) (fun d ⟨ds, h1, bs, h2, h3⟩ => ⟨bs, by rw [h1, h2]; rfl, h3⟩) hs) (fun ds ⟨xs, h1, h2⟩ => by
    rw [h1]
    exact fun vs Hb H ex r Q q => l_sorted (hso xs h2) hn vs Hb H ex r Q fun p u o Hb' H' e => q p u o Hb' H' ⟨xs, e, h2⟩) hg (by decide) (by decide) hs hpl
end
end DL
namespace DL
open PySem PySem.Spec PyProof.Rows L2 Evl
/-! ### max(t), t a tuple of ints -/
theorem lmax_fold (x : Int) (xs : List Int) : PySem.W.maxOf x xs ∈ x :: xs ∧ ∀ y ∈ x :: xs, y ≤ PySem.W.maxOf x xs := by
  unfold PySem.W.maxOf
  induction xs generalizing x with
  | nil => exact ⟨List.mem_cons_self .., fun y hy => by rw [List.mem_singleton.mp hy]; exact Int.le_refl _⟩
  | cons z xs ih =>
    rw [List.foldl_cons]
    obtain ⟨h1, h2⟩ := ih (if PySem.W.DatumOrd.lt x z = true then z else x)
    have e : (if PySem.W.DatumOrd.lt x z = true then z else x) = max x z := by
      show (if decide (x < z) = true then z else x) = max x z
      by_cases c : x < z
      · rw [if_pos (decide_eq_true c)]; omega
      · rw [if_neg (by simpa using c)]; omega
    rw [e] at h1 h2 ⊢
    constructor
    · rcases List.mem_cons.mp h1 with y | y
      · rw [y]
        rcases Int.le_total x z with c | c
        · rw [Int.max_eq_right c]; simp
        · rw [Int.max_eq_left c]; simp
      · exact List.mem_cons_of_mem _ (List.mem_cons_of_mem _ y)
    · intro y hy
      have h3 := h2 (max x z) (List.mem_cons_self ..)
      rcases List.mem_cons.mp hy with rfl | hy
      · have := Int.le_max_left y z; omega
      · rcases List.mem_cons.mp hy with rfl | hy
        · have := Int.le_max_right x y; omega
        · exact h2 y (List.mem_cons_of_mem _ hy)
theorem maxOf_lmax {y : Int} {ys : List Int} : PySem.W.maxOf y ys = lmax (y :: ys) := by
  obtain ⟨h1, h2⟩ := lmax_fold y ys
  obtain ⟨k1, k2⟩ := lmax_ok (l := y :: ys) (by simp)
  have a := k2 _ h1
  have b := h2 _ k1
  omega
def rMaxT (K : PySem.W.Frag) : List V → Hp → VK → Prop := fun vs H Q => ∃ (a : Addr) (ns : List Int), vs = [V.ref a] ∧ SqT K H a (ns.map V.int) ∧ ns ≠ [] ∧ Q (.int (lmax ns)) H
theorem cr_maxT {X : Cx} (hc : X.calm = true) (hu : X.A.units + 65 < cLine) : CallR X (.builtin "max") (rMaxT X.K) := by
  intro pins s σ H vs us Q I r h
  obtain ⟨a, ns, rfl, hs, hne, q⟩ := h
  obtain rfl := Vals.ref1 r
  obtain ⟨its, rv, hl, hz⟩ := I.tuple hs
  have hi := rv.ints
  cases ns with
  | nil => exact absurd rfl hne
  | cons y ys =>
    refine PySem.W.max_tuple_datum (α := Int) (I.ok.hd hc) (show s.heap.IsTuple a its.toArray from hl) (x := y) (xs := ys) (PySem.W.HoldAll.of_ints (by simpa using hi)) (by show X.A.units + 1 + 0 < cLine; omega) fun i v h' tk hv hh hk => ?_
    obtain ⟨t', rfl⟩ := PySem.W.int_of_holds hh
    refine ⟨.int (lmax (y :: ys)), H, I.kept (t' := tk) hk, ⟨t', ?_⟩, q⟩
    rw [maxOf_lmax]
theorem xv_maxT {X : Cx} {Γ : List Sl} {a : Expr} {pos p : Pos} {ns : List Int} (h : XV X a Γ (tT D.int ns)) (h0 : ns ≠ []) (hm : X.mg "max" = none) (hu : X.A.units + 65 < cLine) (hc : X.calm = true := by rfl) (hg : Gl X "max" := by rfl) (hs : starEach (a :: []) X.env = (false, eval a X.env) :: starEach [] X.env := by rfl) (hpl : (backTo pos (starEach [] X.env)).any (·.1) = false := by rfl) : XV X (.Call (.Name "max" p) [a] [] pos) Γ (.int (lmax ns)) :=
  xe_callB (cr_maxT hc hu) hm (by decide +kernel) (xl_cons h xa_nil hs) (fun _ z => by
    rw [z]
    exact rl_scal fun xs Hb H ex h1 => by
      obtain ⟨v, rfl, r⟩ := h1.one_inv
      cases r with
      | @tup a vs _ ha k =>
        have e1 := k.ints
        subst e1
        exact ⟨.int (lmax ns), .int _, fun Q q => ⟨a, ns, rfl, xt ex ha, h0, q⟩⟩) hg (by decide) (by decide) hs hpl
end DL

namespace DL
open PySem PySem.Spec PyProof.Rows L2 Evl
/-! ### and, of values that are true, where owned objects may change -/
section
variable {X : Cx} {m : Bool} {a b : Expr} {es : List Expr} {Γ : List Sl} {pos : Pos} {Φ : D → Prop}
theorem xe_one {op : BoolOp} (h : XE X m a Γ Φ) : XE X m (.BoolOp op [a] pos) Γ Φ := xe_of (pe_one pe_wp) h
theorem xe_andT (h : XE X m a Γ fun z => z = .bl true) (h2 : XE X m (.BoolOp .And (b :: es) pos) Γ Φ) : XE X m (.BoolOp .And (a :: b :: es) pos) Γ Φ :=
  xe_of (pe_and pe_wp pe_wp) fun σ Hb H E Q q => h σ Hb H E _ fun v d Hb1 H1 p1 g1 E1 r1 => by
    subst p1
    cases r1
    exact ⟨true, rfl, iteT (h2 σ Hb1 H1 E1 Q fun v2 d2 Hb2 H2 p2 g2 E2 r2 => q v2 d2 Hb2 H2 p2 (gww g1 g2) E2 r2)⟩
end
end DL

namespace DL
open PySem PySem.Spec PyProof.Rows L2 Evl
/-! ### dicts whose keys are tuples of ints -/
def keyI (k : List Int) : List Key := k.map Sum.inl
theorem keyI_inj : ∀ {a b : List Int}, keyI a = keyI b → a = b
  | [], [], _ => rfl
  | [], y :: b, h => by cases h
  | x :: a, [], h => by cases h
  | x :: a, y :: b, h => by
    have h1 : (Sum.inl x : Key) = Sum.inl y := (List.cons.inj h).1
    cases h1
    rw [keyI_inj (a := a) (b := b) (List.cons.inj h).2]
theorem keyI_kV (k : List Int) : (keyI k).map kV = k.map V.int := by
  unfold keyI
  rw [List.map_map]
  rfl
def getA {β : Type} (l : List (List Int × β)) (k : List Int) : Option β := (l.find? fun p => decide (p.1 = k)).map (·.2)
def putA {β : Type} (l : List (List Int × β)) (k : List Int) (b : β) : List (List Int × β) :=
  if (l.any fun p => decide (p.1 = k)) = true then l.map (fun p => if p.1 = k then (p.1, b) else p) else l ++ [(k, b)]
def dicT {β : Type} (f : β → D) (l : List (List Int × β)) : D := .dic (l.map fun p => keyI p.1) (l.map fun p => f p.2)
def odT {β : Type} (f : β → D) (l : List (List Int × β)) : MO := .dT (l.map fun p => keyI p.1) (l.map fun p => f p.2)
section
variable {K : PySem.W.Frag} {H Hb : Hp} {β : Type} {f : β → D}
theorem dv_get : ∀ {kvs : List (List Key × V)} {l : List (List Int × β)}, kvs.map (·.1) = l.map (fun p => keyI p.1) → DRs K H (kvs.map (·.2)) (l.map fun p => f p.2) → ∀ {k : List Int} {b : β}, getA l k = some b → ∃ v, valV kvs (keyI k) = some v ∧ DR K H v (f b)
  | [], [], _, _, k, b, e => by cases e
  | [], _ :: _, h, _, _, _, _ => by cases h
  | _ :: _, [], h, _, _, _, _ => by cases h
  | p :: kvs, q :: l, h, r, k, b, e => by
    have h1 := (List.cons.inj h).1
    have h2 := (List.cons.inj h).2
    cases r with
    | cons r1 r2 =>
      unfold getA at e
      by_cases z : q.1 = k
      · rw [List.find?_cons_of_pos (by simp [z])] at e
        cases e
        exact ⟨p.2, valV_pos (h1.trans (congrArg keyI z)), r1⟩
      · rw [List.find?_cons_of_neg (by simp [z])] at e
        obtain ⟨v, e1, e2⟩ := dv_get h2 r2 (k := k) (b := b) e
        exact ⟨v, (valV_neg fun y => z (keyI_inj (h1.symm.trans y))).trans e1, e2⟩
theorem dv_any : ∀ {kvs : List (List Key × V)} {l : List (List Int × β)}, kvs.map (·.1) = l.map (fun p => keyI p.1) → ∀ {k : List Int}, (kvs.any fun p => decide (p.1 = keyI k)) = l.any fun p => decide (p.1 = k)
  | [], [], _, _ => rfl
  | [], _ :: _, h, _ => by cases h
  | _ :: _, [], h, _ => by cases h
  | p :: kvs, q :: l, h, k => by
    have h1 := (List.cons.inj h).1
    rw [List.any_cons, List.any_cons, dv_any (List.cons.inj h).2]
    refine congrArg (· || _) ?_
    by_cases z : q.1 = k
    · rw [decide_eq_true z, decide_eq_true (h1.trans (congrArg keyI z))]
    · rw [decide_eq_false z, decide_eq_false fun y => z (keyI_inj (h1.symm.trans y))]
theorem dv_map {k : List Int} {v : V} {b : β} (rb : DR K H v (f b)) : ∀ {kvs : List (List Key × V)} {l : List (List Int × β)}, kvs.map (·.1) = l.map (fun p => keyI p.1) → DRs K H (kvs.map (·.2)) (l.map fun p => f p.2) →
    (kvs.map fun kv => if kv.1 = keyI k then (kv.1, v) else kv).map (·.1) = (l.map fun p => if p.1 = k then (p.1, b) else p).map (fun p => keyI p.1) ∧ DRs K H ((kvs.map fun kv => if kv.1 = keyI k then (kv.1, v) else kv).map (·.2)) ((l.map fun p => if p.1 = k then (p.1, b) else p).map fun p => f p.2)
  | [], [], _, _ => ⟨rfl, .nil⟩
  | [], _ :: _, h, _ => by cases h
  | _ :: _, [], h, _ => by cases h
  | p :: kvs, q :: l, h, r => by
    have h1 : p.1 = keyI q.1 := (List.cons.inj h).1
    cases r with
    | cons r1 r2 =>
      obtain ⟨i1, i2⟩ := dv_map rb (List.cons.inj h).2 r2
      by_cases z : q.1 = k
      · have z2 : p.1 = keyI k := h1.trans (congrArg keyI z)
        simp only [List.map_cons, if_pos z, if_pos z2]
        exact ⟨by rw [h1, i1], .cons rb i2⟩
      · have z2 : ¬ p.1 = keyI k := fun y => z (keyI_inj (h1.symm.trans y))
        simp only [List.map_cons, if_neg z, if_neg z2]
        exact ⟨by rw [h1, i1], .cons r1 i2⟩
theorem dv_put {kvs : List (List Key × V)} {l : List (List Int × β)} (h : kvs.map (·.1) = l.map (fun p => keyI p.1)) (r : DRs K H (kvs.map (·.2)) (l.map fun p => f p.2)) {k : List Int} {v : V} {b : β} (rb : DR K H v (f b)) :
    (putK kvs (keyI k) v).map (·.1) = (putA l k b).map (fun p => keyI p.1) ∧ DRs K H ((putK kvs (keyI k) v).map (·.2)) ((putA l k b).map fun p => f p.2) := by
  unfold putK putA
  rw [dv_any h]
  by_cases z : (l.any fun p => decide (p.1 = k)) = true
  · rw [if_pos z, if_pos z]
    exact dv_map rb h r
  · rw [if_neg z, if_neg z]
    simp only [List.map_append, List.map_cons, List.map_nil]
    exact ⟨by rw [h], r.app (.one rb)⟩
theorem len_putA {l : List (List Int × β)} {k : List Int} {b : β} : (putA l k b).length ≤ l.length + 1 := by
  unfold putA
  split
  · rw [List.length_map]; omega
  · rw [List.length_append]; simp
/-- a tuple of ints as a key -/
theorem key_at {v : V} {k : List Int} (e : Ex Hb H) (r : DR K Hb v (tT D.int k)) : ∃ b, v = .ref b ∧ H b = some (.tup ((keyI k).map kV)) := by
  cases r with
  | @tup a vs _ ha r =>
    have := r.ints
    subst this
    exact ⟨a, rfl, by rw [keyI_kV]; exact e _ _ ha⟩
end
section
variable {X : Cx} {kp : Nat} {Γ : List Sl} {G : Dn} {m : Bool} {e a b : Expr} {pos pos' : Pos} {sts : List Stmt} {x : Str} {β : Type} {f : β → D}
/-- {} -/
theorem xo_dict : XO X (.Dict [] [] pos) Γ (odT f []) := xn_of pe_dnewT fun σ Hb H E Q q => fun p hp => q p (.dT []) _ Hb _ rfl hp (New.side E.ex hp).gr (E.new (New.side E.ex hp)) (fresh_back E.ex hp) upd_same ⟨[], rfl, rfl, .nil⟩
/-- d[k] of a dict that is data -/
theorem xv_get {l : List (List Int × β)} {k : List Int} {y : β} (ha : XV X a Γ (dicT f l)) (hb : XV X b Γ (tT D.int k)) (hu : X.A.units + 65 < cLine) (h : getA l k = some y) (hs : NoSl b := by exact fun _ _ => rfl) : XV X (.Subscript a b pos) Γ (f y) :=
  xe_of (pe_dget (by omega) pe_wp pe_wp hs) fun σ Hb H E Q q => ha σ Hb H E _ fun v d Hb1 H1 p1 g1 E1 r1 => hb σ Hb1 H1 E1 _ fun v2 d2 Hb2 H2 p2 g2 E2 r2 => by
    subst p1 p2
    obtain ⟨c, rfl, hc⟩ := key_at E2.ex r2
    have r1 := r1.mono g2.b
    cases r1 with
    | @dic p ob kvs vs _ _ h1 h2 h3 h4 =>
      subst h3
      obtain ⟨w, e1, e2⟩ := dv_get h2 h4 h
      exact ⟨p, w, rfl, .inr ⟨kvs, keyI k, c, .inr ⟨ob, E2.ex _ _ h1⟩, rfl, hc, e1.symm⟩, q w (f y) Hb2 H2 rfl (gww g1 g2) E2 e2⟩
/-- d[k] of an owned dict -/
theorem xv_getO (i : Nat) {l : List (List Int × β)} {k : List Int} {y : β} (hb : XV X b Γ (tT D.int k)) (hu : X.A.units + 65 < cLine) (h : getA l k = some y) (hi : Γ[i]? = some (.ow (odT f l)) := by rfl) (hN : X.N[i]? = some x := by rfl) (hv : Vis X.env.scope x := by first | exact Or.inl rfl | exact Or.inr (Or.inl rfl) | exact Or.inr (Or.inr rfl)) (hd : (x == ("__debug__" : Str)) = false := by decide)
    (hcd : (x == ("__classdict__" : Str)) = false := by decide) (hs : NoSl b := by exact fun _ _ => rfl) : XV X (.Subscript (.Name x pos') b pos) Γ (f y) :=
  xe_of (pe_dget (by omega) (pe_var hN hv hd hcd) pe_wp hs) fun σ Hb H E Q q => by
    obtain ⟨p, u, k1, _, _, _⟩ := E.own i _ hi
    refine ⟨.ref p, k1, hb σ Hb H E _ fun v2 d2 Hb2 H2 p2 g2 E2 r2 => ?_⟩
    subst p2
    obtain ⟨c, rfl, hc⟩ := key_at E2.ex r2
    obtain ⟨p', u', k1', k2, k3, kv, rfl, h2, h4⟩ := E2.own i _ hi
    rw [k1] at k1'
    cases k1'
    obtain ⟨w, e1, e2⟩ := dv_get h2 h4 h
    exact ⟨p, w, rfl, .inr ⟨kv, keyI k, c, .inl k3, rfl, hc, e1.symm⟩, q w (f y) Hb2 H2 rfl g2 E2 e2⟩
theorem js_setD {K : PySem.W.Frag} {te tj : TE} {i : Nat} {l : List (List Int × β)} {Φ : β → Prop} {Ψ : List Int → Prop} (h : Γ[i]? = some (.ow (odT f l))) (he : JR K m te Γ fun z => ∃ y, z = f y ∧ Φ y) (hj : JR K m tj Γ fun z => ∃ k, z = tT D.int k ∧ Ψ k) (hz : l.length < 100000) (k : ∀ y k, Φ y → Ψ k → G.nx (Γ.set i (.ow (odT f (putA l k y))))) : JS K kp (tAsg te (gSub (tVar i) tj rSetD)) Γ G := fun σ Hb H E F a b c d => he σ Hb H E _ fun v z Hb1 H1 y g1 E1 r => by
  obtain ⟨p, u, h1, _, _, _⟩ := E1.own i _ h
  refine ⟨.ref p, h1, hj σ Hb1 H1 E1 _ fun v2 z2 Hb2 H2 y2 g2 E2 r2 => ?_⟩
  obtain ⟨k', rfl, y2⟩ := y2
  obtain ⟨y', rfl, y⟩ := y
  obtain ⟨q, rfl, hq⟩ := key_at E2.ex r2
  obtain ⟨p', u', k1', k2, k3, kv, rfl, e2, e4⟩ := E2.own i _ h
  rw [h1] at k1'
  cases k1'
  have hl : kv.length < sizeLine := by
    have := congrArg List.length e2
    rw [List.length_map, List.length_map] at this
    rw [sizeLine_eq]
    omega
  obtain ⟨w1, w2⟩ := dv_put e2 e4 (k := k') (r.mono g2.b)
  exact ⟨p, _, rfl, DPut.t k3 hq hl, a _ _ _ _ (k y' k' y y2) ((GS.of (gww g1 g2) E2).trans (GS.put E2 h h1 ⟨_, rfl, w1, w2⟩))⟩
/-- d[k] = v -/
theorem xs_setD (i : Nat) {l : List (List Int × β)} {Φ : β → Prop} {Ψ : List Int → Prop} {pos2 : Pos} (hu : X.A.units + 65 < cLine) (he : XE X m e Γ fun z => ∃ y, z = f y ∧ Φ y) (hj : XE X m a Γ fun z => ∃ k, z = tT D.int k ∧ Ψ k) (hz : l.length < 100000) (k : ∀ y k, Φ y → Ψ k → G.nx (Γ.set i (.ow (odT f (putA l k y))))) (h : Γ[i]? = some (.ow (odT f l)) := by rfl)
    (hps : X.A.units + 1 < cLine → PS X (.Assign [.Subscript (.Name x pos') a pos2] e pos) (tAsg (wpE X e) (gSub (tVar i) (wpE X a) rSetD)) := by exact fun hu1 => ps_asg pe_wp (pg_sub (pe_var (by rfl) (by first | exact Or.inl rfl | exact Or.inr (Or.inl rfl) | exact Or.inr (Or.inr rfl))) pe_wp (set_dict hu1))) :
    XS X kp (.Assign [.Subscript (.Name x pos') a pos2] e pos) Γ G := xs_of (hps (by omega)) (js_setD h he hj hz k)
theorem xs_setDV (i : Nat) {l : List (List Int × β)} {y : β} {k : List Int} {pos2 : Pos} (hu : X.A.units + 65 < cLine) (he : XV X e Γ (f y)) (hj : XV X a Γ (tT D.int k)) (hz : l.length < 100000) (kk : G.nx (Γ.set i (.ow (odT f (putA l k y))))) (h : Γ[i]? = some (.ow (odT f l)) := by rfl)
    (hps : X.A.units + 1 < cLine → PS X (.Assign [.Subscript (.Name x pos') a pos2] e pos) (tAsg (wpE X e) (gSub (tVar i) (wpE X a) rSetD)) := by exact fun hu1 => ps_asg pe_wp (pg_sub (pe_var (by rfl) (by first | exact Or.inl rfl | exact Or.inr (Or.inl rfl) | exact Or.inr (Or.inr rfl))) pe_wp (set_dict hu1))) :
    XS X kp (.Assign [.Subscript (.Name x pos') a pos2] e pos) Γ G := xs_setD i (Φ := fun z => z = y) (Ψ := fun z => z = k) hu (he.imp fun d z => ⟨y, z, rfl⟩) (hj.imp fun d z => ⟨k, z, rfl⟩) hz (fun y' k' h1 h2 => by rw [h1, h2]; exact kk) h hps
/-! an owned dict is data from here on: it is known from now -/
theorem xs_freezeD (i : Nat) {l : List (List Int × β)} (h : XSs X kp sts (Γ.set i (.pd (dicT f l))) G) (hi : Γ[i]? = some (.ow (odT f l)) := by rfl) (hk : kp ≤ i := by decide) : XSs X kp sts Γ G := fun σ Hb H E F a b c d pins s I => by
  obtain ⟨p, u, h1, h2, h3, kv, rfl, e2, e4⟩ := E.own i _ hi
  obtain ⟨od, I2⟩ := I.lock h3 trivial
  have ow : ∀ q, Own σ (Γ.set i (.pd (dicT f l))) q → Own σ Γ q := fun q ⟨j, m, z1, z2⟩ => by
    rcases set_at z1 with ⟨rfl, y2, y3⟩ | ⟨y1, y2⟩
    · cases y2
    · exact ⟨j, m, y2, z2⟩
  have op : Own σ Γ p := ⟨i, _, hi, h1⟩
  have eb : Ex Hb (upd Hb p (.frz od (.dT kv))) := Ex.new h2
  have E2 : En X.K (upd Hb p (.frz od (.dT kv))) (upd H p (.frz od (.dT kv))) σ (Γ.set i (.pd (dicT f l))) := {
    ex := fun b o e => by
      by_cases z : b = p
      · subst z; rw [upd_same] at e ⊢; exact e
      · rw [upd_ne z] at e ⊢; exact E.ex b o e
    val := fun j e h' => by
      rcases set_at h' with ⟨rfl, z2, z3⟩ | ⟨z1, z2⟩
      · cases z2
        exact ⟨_, h1, .dic upd_same e2 rfl (e4.mono eb)⟩
      · obtain ⟨v, k1, k2⟩ := E.val j e z2
        exact ⟨v, k1, k2.mono eb⟩
    own := fun j n h' => by
      rcases set_at h' with ⟨rfl, z2, z3⟩ | ⟨z1, z2⟩
      · cases z2
      · obtain ⟨b, w, k1, k2, k3, k4⟩ := E.own j n z2
        have ne : b ≠ p := fun z => by
          subst z
          exact z1 (E.sep i j _ _ n hi z2 h1 k1)
        exact ⟨b, w, k1, by rw [upd_ne ne]; exact k2, by rw [upd_ne ne]; exact k3, k4.mono eb⟩
    sep := fun j k b n n' y1 y2 k1 k2 => by
      rcases set_at y1 with ⟨rfl, z2, z3⟩ | ⟨z1, z2⟩
      · cases z2
      · rcases set_at y2 with ⟨rfl, z4, z5⟩ | ⟨z3, z4⟩
        · cases z4
        · exact E.sep j k b n n' z2 z4 k1 k2
    len := by rw [List.length_set, E.len] }
  have kk : ∀ Γ2 σ2 Hb2 H2, GS X.K kp σ (Γ.set i (.pd (dicT f l))) (upd Hb p (.frz od (.dT kv))) (upd H p (.frz od (.dT kv))) σ2 Γ2 Hb2 H2 → GS X.K kp σ Γ Hb H σ2 Γ2 Hb2 H2 := fun Γ2 σ2 Hb2 H2 g => by
    refine ⟨⟨eb.trans g.gr.b, fun q o y n => ?_, fun q y => ?_, g.gr.s, fun q y t n => ?_⟩, g.en, fun q z => ?_, g.kp⟩
    · have ne : q ≠ p := fun z => n (by rw [z]; exact op)
      exact g.gr.h q o (by rw [upd_ne ne]; exact y) fun z => n (ow q z)
    · refine g.gr.al q ?_
      by_cases z : q = p
      · subst z; rw [upd_same]; simp
      · rw [upd_ne z]; exact y
    · have ne : q ≠ p := fun z => n (by rw [z]; exact op)
      rw [g.gr.f q (by rw [upd_ne ne]; exact y) (by rw [upd_ne ne]; exact t) fun z => n (ow q z), upd_ne ne]
    · rcases g.own q z with z | z
      · exact .inl (ow q z)
      · by_cases y : q = p
        · exact .inl (by rw [y]; exact op)
        · rw [upd_ne y] at z; exact .inr z
  exact h σ _ _ E2 F (fun Γ2 σ2 Hb2 H2 y k => a Γ2 σ2 Hb2 H2 y (kk _ _ _ _ k)) (fun Γ2 σ2 Hb2 H2 y k => b Γ2 σ2 Hb2 H2 y (kk _ _ _ _ k)) (fun Γ2 σ2 Hb2 H2 y k => c Γ2 σ2 Hb2 H2 y (kk _ _ _ _ k)) (fun d2 v Γ2 σ2 Hb2 H2 y k => d d2 v Γ2 σ2 Hb2 H2 y (kk _ _ _ _ k)) pins s I2
end
/-! ### for k in d -/
theorem itd_dic {K : PySem.W.Frag} {Hb : Hp} {p : Addr} {ob : Obj} {kvs : List (List Key × V)} {ks : List (List Int)} (h : Hb p = some (.frz ob (.dT kvs))) (e : kvs.map (·.1) = ks.map keyI) : ItD K (Itkt p ob kvs) Hb (ks.map (tT D.int)) := fun Hb1 H1 e1 e2 i => by
  have hl : kvs.length = ks.length := by
    have := congrArg List.length e
    rwa [List.length_map, List.length_map] at this
  have h1 : H1 p = some (.frz ob (.dT kvs)) := e2 _ _ (e1 _ _ h)
  refine ⟨fun hi => ?_, fun hi => ⟨h1, by rw [List.length_map] at hi; omega⟩⟩
  rw [List.length_map] at hi
  refine ⟨⟨h1, by omega⟩, fun x H2 y => ?_⟩
  obtain ⟨rfl, k, v, q, y1, rfl, y2⟩ := y
  have hk : (kvs.map (·.1))[i]? = some k := by rw [List.getElem?_map, y1]; rfl
  rw [e, List.getElem?_map, List.getElem?_eq_getElem hi] at hk
  have hk : keyI ks[i] = k := Option.some.inj hk
  subst hk
  rw [keyI_kV] at y2
  refine ⟨tT D.int ks[i], ?_⟩
  by_cases z : Hb1 q = none
  · refine ⟨upd Hb1 q (.tup (ks[i].map V.int)), by rw [List.getElem?_map, List.getElem?_eq_getElem hi]; rfl, ⟨Ex.new z, fun _ _ a _ => a, fun _ a => a, fun b o a => ?_, fun b a t _ => upd_ne fun w => by subst w; exact t _ y2⟩, .tup upd_same (drs_ints _)⟩
    by_cases w : b = q
    · subst w; rw [upd_same] at a; cases a; exact y2
    · rw [upd_ne w] at a; exact e2 _ _ a
  · cases w : Hb1 q with
    | none => exact absurd w z
    | some o =>
      have := e2 _ _ w
      rw [y2] at this
      cases this
      exact ⟨Hb1, by rw [List.getElem?_map, List.getElem?_eq_getElem hi]; rfl, Gr.refl e2, .tup w (drs_ints _)⟩
section
variable {X : Cx} {Γ : List Sl} {e tg : Expr} {β : Type} {f : β → D}
theorem xw_dic {l : List (List Int × β)} (h : XV X e Γ (dicT f l)) : XW X tg e Γ ((l.map fun p => p.1).map (tT D.int)) := xi_of (pi_keys pe_wp) fun σ Hb H E R q => h σ Hb H E _ fun v d Hb1 H1 p1 g1 E1 r1 => by
  subst p1
  cases r1 with
  | @dic p ob kvs vs _ _ h1 h2 h3 h4 =>
    exact ⟨p, ob, rfl, .inr ⟨kvs, E1.ex _ _ h1, q _ _ Hb1 H1 rfl g1 E1 (itd_dic h1 (by rw [h2, List.map_map]; rfl))⟩⟩
end
end DL

namespace DL
open PySem PySem.Spec PyProof.Rows L2 Evl
/-! ### == of dicts whose keys are tuples -/
section
variable {prog : Program} {w : World} {K : Type} [DecidableEq K] {knd : HeapKind prog w K} {A : Around} {E : Value → Shared → Prop} {s : Shared}
def HitsH (A : Around) (s : Shared) (kb : List (K × Addr × Value)) : List (K × Addr × Value) → Bool → Prop
  | [], r => r = true
  | x :: rest, r => (atKey kb x.1 = none ∧ r = false) ∨ ∃ p e b', atKey kb x.1 = some p ∧ SeqAt.EqAt A s x.2.2 p.2 e ∧ HitsH A s kb rest b' ∧ r = (e && b')
theorem samePairsH {nm : String} {a b : Addr} {ka kb : List (K × Addr × Value)} {r : Bool} {Q : Bool → Shared → Prop} (hu : knd.room A) (ha : (a == sysModules) = false) (hb : (b == sysModules) = false)
    (da : s.heap.DictOfH knd a ka) (db : s.heap.DictOfH knd b kb) (hits : ka.length = kb.length → HitsH A s kb ka r) (h : Q (ka.length == kb.length && r) s) :
    wpAny (model prog w) A (Builtin.Dict.samePairs nm a b) Q E s := by
  obtain ⟨oa, es, ep, hoa, _, hda, hea, hia, hna⟩ := da
  obtain ⟨ob, es', ep', hob, _, hdb, heb, hib, hnb⟩ := db
  have hla : es.size = ka.length := size_of_entries hea
  have hlb : es'.size = kb.length := size_of_entries heb
  rw [← hla, ← hlb] at h
  unfold Builtin.Dict.samePairs Builtin.Dict.showsAll
  rw [if_neg (show ¬ (a == sysModules) = true by rw [ha]; exact Bool.false_ne_true), if_neg (show ¬ (b == sysModules) = true by rw [hb]; exact Bool.false_ne_true)]
  refine wpAny_bind (wpAny_pure (wpAny_bind (wpAny_pure ?_)))
  refine wpAny_bind (wpAny_dictEntries hoa hda ?_)
  dsimp only
  refine wpAny_bind (wpAny_dictEntries hob hdb ?_)
  by_cases hsz : es.size = es'.size
  case neg =>
    rw [if_pos (by simpa using hsz)]
    have hbf : (es.size == es'.size) = false := by simpa using hsz
    rw [hbf, Bool.false_and] at h
    exact wpAny_bind (wpAny_rule (wpAny_pure h))
  case pos =>
    have h' : Q r s := by simpa [hsz] using h
    have hits' := hits (by rw [← hla, ← hlb]; exact hsz)
    rw [if_neg (by rw [hsz]; simp)]
    refine wpAny_bind (wpAny_dictEpoch hoa hda ?_)
    refine wpAny_bind ?_
    rw [Std.Legacy.Range.forIn_eq_forIn_range']
    simp only [Std.Legacy.Range.size, Nat.sub_zero, Nat.add_sub_cancel, Nat.div_one]
    refine wpAny_forIn_list _
      (fun rest q s' => s' = s ∧ q = (none, ()) ∧ ∃ i, rest = List.range' i (es.size - i) ∧ i ≤ es.size ∧ HitsH A s kb (ka.drop i) r)
      _ ?_ ?_ _ _ ⟨rfl, rfl, 0, by simp, Nat.zero_le _, hits'⟩
    · rintro x rest q s' ⟨rfl, rfl, i, hr, hi, hpre⟩
      have hlt : i < es.size := by
        rcases Nat.lt_or_ge i es.size with h | h
        · exact h
        · rw [Nat.sub_eq_zero_of_le h] at hr; simp at hr
      obtain ⟨rfl, hrest⟩ : x = i ∧ rest = List.range' (i + 1) (es.size - (i + 1)) := by
        have e : es.size - i = (es.size - (i + 1)) + 1 := by omega
        rw [e, List.range'_succ] at hr
        injection hr with h1 h2
        exact ⟨h1, h2⟩
      refine wpAny_bind (wpAny_dictEntries hoa hda ?_)
      have hlt' : x < ka.length := by rw [← hla]; exact hlt
      obtain ⟨k, q, v, hkv⟩ : ∃ k q v, ka[x] = (k, q, v) := ⟨_, _, _, rfl⟩
      have hka : ka[x]? = some (k, q, v) := by rw [List.getElem?_eq_getElem hlt', hkv]
      have hdrop : ka.drop x = (k, q, v) :: ka.drop (x + 1) := by rw [← hkv]; exact List.drop_eq_getElem_cons hlt'
      have hex : es[x]? = some ⟨knd.hash k, .ref q, v⟩ := by rw [entry_at hea x, hka]; rfl
      rw [hex]
      rw [hdrop] at hpre
      have hik : knd.is s'.heap k q := hia _ (List.mem_of_getElem? hka)
      dsimp only
      refine wpAny_bind (wpAny_holding (wpAny_bind (wpAny_dictFind_heap hu hik hob hdb heb hib hnb (fun hno => ?_) fun j p hj => ?_)))
      · have hn := atKey_none_of_get hno
        rcases hpre with ⟨_, er⟩ | ⟨y, _, _, hy, _⟩
        · rw [er] at h'
          refine wpAny_pure ?_
          show wpAny _ _ (if (!false) = true then _ else _) _ _ _
          rw [if_pos (by decide)]
          exact wpAny_pure (wpAny_pure h')
        · rw [show atKey kb k = some y from hy] at hn; exact nomatch hn
      · have hv := atKey_of_get hnb hj
        refine wpAny_bind (wpAny_dictEntries hob hdb ?_)
        rw [show es'[j]? = some ⟨knd.hash k, .ref p.1, p.2⟩ by rw [entry_at heb j, hj]; rfl]
        dsimp only
        rcases hpre with ⟨hn, _⟩ | ⟨y, e, b', hy, he, hrr, er⟩
        · rw [show atKey kb k = none from hn] at hv; exact nomatch hv
        · have ey : p = y := Option.some.inj (hv.symm.trans hy)
          subst ey
          refine wpAny_holding (he _ _ _ _ ?_)
          cases e with
          | false =>
            rw [er, Bool.false_and] at h'
            show wpAny _ _ (if (!false) = true then _ else _) _ _ _
            rw [if_pos (by decide)]
            exact wpAny_pure (wpAny_pure h')
          | true =>
            rw [Bool.true_and] at er
            rw [← er] at hrr
            show wpAny _ _ (if (!true) = true then _ else _) _ _ _
            rw [if_neg (by decide)]
            refine wpAny_bind (wpAny_dictEpoch hoa hda ?_)
            rw [if_neg (by simp)]
            exact wpAny_pure ⟨rfl, rfl, x + 1, hrest, hlt, hrr⟩
    · rintro q s' ⟨rfl, rfl, i, hr, hi, hpre⟩
      have hin : i = es.size := by
        rcases Nat.lt_or_ge i es.size with h | h
        · have e : es.size - i = (es.size - (i + 1)) + 1 := by omega
          rw [e, List.range'_succ] at hr; exact nomatch hr
        · exact Nat.le_antisymm hi h
      refine wpAny_pure ?_
      rw [hin, hla, List.drop_length] at hpre
      rw [show r = true from hpre] at h'
      exact h'
theorem dictEqH {a b : Addr} {ka kb : List (K × Addr × Value)} {r : Bool} {Q : Value → Shared → Prop} (hr : knd.room A.in1) (ha : (a == sysModules) = false) (hb : (b == sysModules) = false)
    (da : s.heap.DictOfH knd a ka) (db : s.heap.DictOfH knd b kb) (hu : A.units < cLine) (hits : ka.length = kb.length → HitsH A.in1 s kb ka r) (h : Q (.bool (ka.length == kb.length && r)) s) :
    wpAny (model prog w) A (compareOp .Eq (.ref a) (.ref b)) Q E s := by
  refine wpAny_richCompare_same_room (op := .Eq) da.typeIs db.typeIs PySem.F.slot_dict_eq (wpAny_call_entry PySem.F.slot_dict_eq da.typeIs PySem.F.entry_dict_eq ?_ (PySem.F.args_dict_eq_2 _ _)) hu
  show wpAny _ _ (Builtin.Dict.dictSlotArgs "__eq__" ⟨[.ref a, .ref b], []⟩ >>= _) _ _ s
  refine wpAny_bind ?_
  unfold Builtin.Dict.dictSlotArgs
  refine wpAny_bind (wpAny_notOrdered_dict da.typeIs ?_)
  show wpAny _ _ (pure (Value.ref a, Value.ref b)) _ _ s
  refine wpAny_pure ?_
  refine wpAny_bind (wpAny_isInstance (T := "dict") db.typeIs PySem.F.sub_dict_dict ?_)
  simp only [Bool.not_true, Bool.false_eq_true, if_false]
  refine wpAny_bind (wpAny_pure (wpAny_bind (wpAny_pure ?_)))
  refine wpAny_bind (samePairsH hr ha hb da db hits ?_)
  refine wpAny_pure ⟨_, rfl, ?_, ?_⟩
  · exact fun x => nomatch x
  · simpa using h
theorem dictNeH {a b : Addr} {ka kb : List (K × Addr × Value)} {r : Bool} {Q : Value → Shared → Prop} (hr : knd.room A.in1) (ha : (a == sysModules) = false) (hb : (b == sysModules) = false)
    (da : s.heap.DictOfH knd a ka) (db : s.heap.DictOfH knd b kb) (hu : A.units < cLine) (hits : ka.length = kb.length → HitsH A.in1 s kb ka r) (h : Q (.bool (!(ka.length == kb.length && r))) s) :
    wpAny (model prog w) A (compareOp .NotEq (.ref a) (.ref b)) Q E s := by
  refine wpAny_richCompare_same_room (op := .NotEq) da.typeIs db.typeIs PySem.F.slot_dict_ne (wpAny_call_entry PySem.F.slot_dict_ne da.typeIs PySem.F.entry_dict_ne ?_ (PySem.F.args_dict_ne_2 _ _)) hu
  show wpAny _ _ (Builtin.Dict.dictSlotArgs "__ne__" ⟨[.ref a, .ref b], []⟩ >>= _) _ _ s
  refine wpAny_bind ?_
  unfold Builtin.Dict.dictSlotArgs
  refine wpAny_bind (wpAny_notOrdered_dict da.typeIs ?_)
  show wpAny _ _ (pure (Value.ref a, Value.ref b)) _ _ s
  refine wpAny_pure ?_
  refine wpAny_bind (wpAny_isInstance (T := "dict") db.typeIs PySem.F.sub_dict_dict ?_)
  simp only [Bool.not_true, Bool.false_eq_true, if_false]
  refine wpAny_bind (wpAny_pure (wpAny_bind (wpAny_pure ?_)))
  refine wpAny_bind (samePairsH hr ha hb da db hits ?_)
  refine wpAny_pure ⟨_, rfl, ?_, ?_⟩
  · exact fun x => nomatch x
  · simpa using h
end
/-- .. of what the dicts stand for -/
def eqA {β : Type} [DecidableEq β] (l m : List (List Int × β)) : Bool := l.length == m.length && l.all fun p => decide (getA m p.1 = some p.2)
section
variable {X : Cx} {β : Type} [DecidableEq β] {f : β → D} {n : Nat} [he : Enc f n]
theorem getA_none {Hb H : Hp} {K : PySem.W.Frag} : ∀ {kvs : List (List Key × V)} {l : List (List Int × β)}, kvs.map (·.1) = l.map (fun p => keyI p.1) → ∀ {k : List Int}, getA l k = none → valV kvs (keyI k) = none
  | [], [], _, _, _ => rfl
  | [], _ :: _, h, _, _ => by cases h
  | _ :: _, [], h, _, _ => by cases h
  | p :: kvs, q :: l, h, k, e => by
    have h1 : p.1 = keyI q.1 := (List.cons.inj h).1
    unfold getA at e
    by_cases z : q.1 = k
    · rw [List.find?_cons_of_pos (by simp [z])] at e
      cases e
    · rw [List.find?_cons_of_neg (by simp [z])] at e
      exact (valV_neg fun y => z (keyI_inj (h1.symm.trans y))).trans (getA_none (Hb := Hb) (H := H) (K := K) (List.cons.inj h).2 e)
theorem hits_of {pins : List (Addr × Obj)} {s : Shared} {σ : L2.St} {H : Hp} {A : Around} (I : Inv X pins σ H s) (hu : A.units + 64 < cLine) (hn : n ≤ 64) {ls : List (List Key × V)} {ys : List (List Key × Addr × Value)} {m : List (List Int × β)} (rl : KT H ls ys) (h2 : ls.map (·.1) = m.map (fun p => keyI p.1)) (r2 : DRs X.K H (ls.map (·.2)) (m.map fun p => f p.2)) :
    ∀ {ks : List (List Key × V)} {xs : List (List Key × Addr × Value)} {l : List (List Int × β)}, KT H ks xs → ks.map (·.1) = l.map (fun p => keyI p.1) → DRs X.K H (ks.map (·.2)) (l.map fun p => f p.2) → HitsH A s ys xs (l.all fun p => decide (getA m p.1 = some p.2))
  | [], _, [], r, _, _ => by cases r; rfl
  | [], _, _ :: _, _, h, _ => by cases h
  | _ :: _, _, [], _, h, _ => by cases h
  | p :: ks, _, q :: l, r, h, rr => by
    cases r with
    | @cons _ x _ xs hx r =>
      obtain ⟨e1, _, e3⟩ := hx
      have h1 : p.1 = keyI q.1 := (List.cons.inj h).1
      cases rr with
      | cons r1 r3 =>
        have ih := hits_of I hu hn rl h2 r2 (l := l) r (List.cons.inj h).2 r3
        show (atKey ys x.1 = none ∧ _) ∨ _
        rw [← e1, h1, List.all_cons]
        have rv := rl.val (keyI q.1)
        cases e : getA m q.1 with
        | none =>
          rw [getA_none (Hb := H) (H := H) (K := X.K) h2 e] at rv
          left
          cases z : atKey ys (keyI q.1) with
          | none => exact ⟨rfl, rfl⟩
          | some y => rw [z] at rv; exact rv.elim
        | some b =>
          right
          obtain ⟨v, k1, k2⟩ := dv_get h2 r2 e
          rw [k1] at rv
          cases z : atKey ys (keyI q.1) with
          | none => rw [z] at rv; exact rv.elim
          | some y =>
            rw [z] at rv
            have rv : RelV v y.2 := rv
            obtain ⟨as, q1⟩ := Dp.reads I _ _ _ (r1.dp (he.ok q.2)) e3
            obtain ⟨bs, q2⟩ := Dp.reads I _ _ _ (k2.dp (he.ok b)) rv
            refine ⟨y, decide (some b = some q.2), _, rfl, ?_, ih, rfl⟩
            have hd : decide (some b = some q.2) = PyData.eqv (f q.2).py (f b).py := by
              rw [he.eq]
              by_cases w : q.2 = b
              · rw [decide_eq_true w, decide_eq_true (by rw [w])]
              · rw [decide_eq_false w, decide_eq_false fun y => w (Option.some.inj y).symm]
            rw [hd]
            exact SeqAt.eqAt_reads _ _ A s _ _ as bs q1 q2 (SeqAt.canLay_of_shaped (ok_shaped (he.ok q.2) hn)) (SeqAt.canLay_of_shaped (ok_shaped (he.ok b) hn)) (SeqAt.room_of_shaped (ok_shaped (he.ok q.2) hn) hu)
/-- d == e, d != e -/
def rDic (K : PySem.W.Frag) (f : β → D) (neg : Bool) : R2 := fun x y H Q => ∃ (a b : Addr) (oa ob : Obj) (ks ls : List (List Key × V)) (l m : List (List Int × β)), x = .ref a ∧ y = .ref b ∧ H a = some (.frz oa (.dT ks)) ∧ H b = some (.frz ob (.dT ls)) ∧
  ks.map (·.1) = l.map (fun p => keyI p.1) ∧ DRs K H (ks.map (·.2)) (l.map fun p => f p.2) ∧ ls.map (·.1) = m.map (fun p => keyI p.1) ∧ DRs K H (ls.map (·.2)) (m.map fun p => f p.2) ∧ Q (.bl (if neg then !eqA l m else eqA l m)) H
theorem len_kt {H : Hp} {ks : List (List Key × V)} {xs : List (List Key × Addr × Value)} {l : List (List Int × β)} (r : KT H ks xs) (h : ks.map (·.1) = l.map (fun p => keyI p.1)) : xs.length = l.length := by
  have h1 := Paired.length r
  have h2 := congrArg List.length h
  rw [List.length_map, List.length_map] at h2
  omega
theorem op_eqDic (hu : X.A.units + 65 < cLine) (hn : n ≤ 64 := by decide) : OpR X (compareOp .Eq) (rDic X.K f false) := by
  intro pins s σ H x y v u Q I rx ry h
  obtain ⟨a, b, oa, ob, ks, ls, l, m, rfl, rfl, ha, hb, k1, r1, k2, r2, q⟩ := h
  cases (show v = Value.ref a from rx)
  cases (show u = Value.ref b from ry)
  obtain ⟨_, sa, xs, ra, da⟩ := dt_rd I.hok (.inr ⟨oa, ha⟩)
  obtain ⟨_, sb, ys, rb, db⟩ := dt_rd I.hok (.inr ⟨ob, hb⟩)
  refine dictEqH (tupleKind_room_in1 (by omega)) sa sb da db (by omega) (fun _ => hits_of I (A := X.A.in1) (by show X.A.units + 1 + 64 < cLine; omega) hn rb k2 r2 ra k1 r1) ⟨.bl (eqA l m), H, I, ?_, q⟩
  rw [len_kt ra k1, len_kt rb k2]
  rfl
theorem op_neDic (hu : X.A.units + 65 < cLine) (hn : n ≤ 64 := by decide) : OpR X (compareOp .NotEq) (rDic X.K f true) := by
  intro pins s σ H x y v u Q I rx ry h
  obtain ⟨a, b, oa, ob, ks, ls, l, m, rfl, rfl, ha, hb, k1, r1, k2, r2, q⟩ := h
  cases (show v = Value.ref a from rx)
  cases (show u = Value.ref b from ry)
  obtain ⟨_, sa, xs, ra, da⟩ := dt_rd I.hok (.inr ⟨oa, ha⟩)
  obtain ⟨_, sb, ys, rb, db⟩ := dt_rd I.hok (.inr ⟨ob, hb⟩)
  refine dictNeH (tupleKind_room_in1 (by omega)) sa sb da db (by omega) (fun _ => hits_of I (A := X.A.in1) (by show X.A.units + 1 + 64 < cLine; omega) hn rb k2 r2 ra k1 r1) ⟨.bl (!eqA l m), H, I, ?_, q⟩
  rw [len_kt ra k1, len_kt rb k2]
  rfl
theorem v_dic {K : PySem.W.Frag} {l m : List (List Int × β)} {neg : Bool} : RV2 K (rDic K f neg) (dicT f l) (dicT f m) (.bl (if neg then !eqA l m else eqA l m)) := rv_scal fun x y Hb H ex h1 h2 => by
  cases h1 with
  | @dic a oa ks vs _ _ a1 a2 a3 a4 =>
    subst a3
    cases h2 with
    | @dic b ob ls us _ _ b1 b2 b3 b4 =>
      subst b3
      exact ⟨.bl _, .bl _, fun Q q => ⟨a, b, oa, ob, ks, ls, l, m, rfl, rfl, ex _ _ a1, ex _ _ b1, a2, a4.mono ex, b2, b4.mono ex, q⟩⟩
end
end DL

namespace DL
open PySem PySem.Spec PyProof.Rows L2 Evl
/-! ### sorted(d), d a dict whose keys are tuples of ints -/
/-- what is gathered, with the place of the list that holds it -/
theorem collectLt {prog : Program} {w : World} {A : Around} {E : Value → Shared → Prop} {s : Shared} {T : String} {r d : Addr} {n : Nat} {P : Nat → Value → Prop} {OK : Heap → Prop} {R : List Value → Shared → Prop} (K : PySem.W.KdlSrc prog w T r d n P OK) (hh : A.handled = none) (hok : OK s.heap) (hn : n ≤ sizeLine)
    (h : ∀ (h' : Heap) (tk : Nat) (acc : Array Value), s.heap.objs.size < h'.objs.size → (∀ b o, s.heap.get? b = some o → h'.get? b = some o) → PySem.ItemsOf P acc n → R acc.toList { s with heap := h', toks := tk }) :
    wpAny (model prog w) A (collect (.ref r)) R E s := by
  have hlt := K.there _ hok
  unfold collect
  refine wpAny_bind (wpAny_runValue (codeAny_builtin entry_proto_collect' ?_))
  rw [Around.under_plainId PySem.F.plain_proto_collect _]
  show wpAny _ A.in1 (newList [] >>= fun l => again (.builtin "list.__iadd__" ⟨[l, .ref r], []⟩)) _ _ s
  refine wpAny_bind (wpAny_newObj_type ?_)
  refine wpAny_pure ⟨plainId_quiet PySem.F.plain_list_iadd _, codeAny_builtin entry_list_iadd' ?_⟩
  rw [Around.under_plainId PySem.F.plain_list_iadd _]
  have hS₁ : (s.heap.push { cls := .type "list", data := .seq ([] : List Value).toArray }).get? s.heap.objs.size = some { cls := .type "list", data := .seq #[] } := Heap.get?_push_size _ rfl
  show wpAny _ A.in1 (Builtin.List.listExtendWith (.ref s.heap.objs.size) (.ref r) (.ref s.heap.objs.size)) _ _ _
  have key := PySem.W.kdl_extend (A := A) (s := { s with heap := s.heap.push { cls := .type "list", data := .seq ([] : List Value).toArray } })
    (R := fun (q : Result) (s' : Shared) => ∃ (h' : Heap) (tk : Nat) (acc' : Array Value) (c' : Nat), q = .ok (.ret (.ref s.heap.objs.size)) ∧ s' = { s with heap := h', toks := tk } ∧
      (∀ b o, s.heap.get? b = some o → h'.get? b = some o) ∧ h'.get? s.heap.objs.size = some { cls := .type "list", dict := none, data := .seq acc' c', slots := #[] } ∧ PySem.ItemsOf P acc' n)
    K hh (K.keep _ _ hok fun b _ o e => Heap.get?_push_of_some _ e) s.heap.objs.size (Nat.ne_of_gt hlt.1) (Nat.ne_of_gt hlt.2) (.ref s.heap.objs.size) 0 hS₁
    (fun h' tk acc' c' hk hS' hacc => ⟨h', tk, acc', c', rfl, rfl, fun b o e => hk b o (Nat.ne_of_lt (Heap.lt_size e)) (Heap.get?_push_of_some _ e), hS', hacc⟩) hn
  refine wpAny_mono key (fun fin s' x => ?_) fun e s' x => ?_
  · cases fin with
    | done f =>
      obtain ⟨h', tk, acc', c', e, rfl, hk, hS', hacc⟩ := x
      cases e
      show wpAny _ A (load s.heap.objs.size >>= _) _ _ _
      exact wpAny_bind (wpAny_load hS' (wpAny_pure (h h' tk acc' (Heap.lt_size hS') hk hacc)))
    | again c₁ =>
      refine ⟨x.1, codeAny_mono x.2 fun q s₂ y => ?_⟩
      obtain ⟨h', tk, acc', c', rfl, rfl, hk, hS', hacc⟩ := y
      show wpAny _ A (load s.heap.objs.size >>= _) _ _ _
      exact wpAny_bind (wpAny_load hS' (wpAny_pure (h h' tk acc' (Heap.lt_size hS') hk hacc)))
  · obtain ⟨_, _, _, _, e', _⟩ := x
    cases e'
section
variable {X : Cx}
def rSortDic (K : PySem.W.Frag) : List V → Hp → VK → Prop := fun vs H Q => ∃ (d : Addr) (ob : Obj) (kvs : List (List Key × V)) (ks : List (List Int)), vs = [.ref d] ∧ H d = some (.frz ob (.dT kvs)) ∧ kvs.map (·.1) = ks.map keyI ∧ (∀ k ∈ ks, k ≠ []) ∧
  ∀ (p : Addr) (zs : List (List Int × V)), H p = none → zs.map (·.1) = sortD (tT D.int) ks → (∀ z ∈ zs, ∃ q, z.2 = .ref q ∧ H q = some (.tup (z.1.map V.int))) → Q (.ref p) (upd H p (.lst (zs.map (·.2))))
theorem keys_zip {H : Hp} : ∀ {ks : List (List Int)} {acc : List Value}, acc.length = ks.length → (∀ (i : Nat) (k : List Int) (v : Value), ks[i]? = some k → acc[i]? = some v → ∃ q, v = .ref q ∧ H q = some (.tup (k.map V.int))) → ∃ zs : List (List Int × V), zs.map (·.1) = ks ∧ Vals (zs.map (·.2)) acc ∧ ∀ z ∈ zs, ∃ q, z.2 = .ref q ∧ H q = some (.tup (z.1.map V.int))
  | [], [], _, _ => ⟨[], rfl, .nil, fun z hz => nomatch hz⟩
  | [], _ :: _, h, _ => by cases h
  | _ :: _, [], h, _ => by cases h
  | k :: ks, v :: acc, h, f => by
    obtain ⟨zs, e1, e2, e3⟩ := keys_zip (H := H) (ks := ks) (acc := acc) (by simpa using h) fun i k v h1 h2 => f (i + 1) k v (by simpa using h1) (by simpa using h2)
    obtain ⟨q, rfl, hq⟩ := f 0 k v rfl rfl
    refine ⟨(k, .ref q) :: zs, by rw [List.map_cons, e1], .cons rfl e2, fun z hz => ?_⟩
    rcases List.mem_cons.mp hz with rfl | hz
    · exact ⟨q, rfl, hq⟩
    · exact e3 z hz
theorem cr_sortedDic (hc : X.calm = true) (hu : X.A.units + 65 < cLine) : CallR X (.builtin "sorted") (rSortDic X.K) := by
  intro pins s σ H vs us Q I r h
  obtain ⟨d, ob, kvs, ks, rfl, hd, hk, hne, q⟩ := h
  obtain rfl := Vals.ref1 r
  obtain ⟨hs, hgd, hx, es, ep, hdt, hsz, ent⟩ := I.frzT hd
  obtain ⟨hz, _⟩ := dt_rd I.hok (.inr ⟨ob, hd⟩)
  have hl : kvs.length = ks.length := by
    have := congrArg List.length hk
    rwa [List.length_map, List.length_map] at this
  refine Calls.call_function_entry kind_sorted plain_sorted entry_sorted (args_sorted1 _) ?_
  unfold Builtin.«sorted»
  refine wpAny_bind (m := checkCount "sorted" 1 1 _) (wpAny_pure ?_)
  refine wpAny_bind (collectLt (A := X.A.in1) (kdl_raw hs hx hdt) (I.ok.hd hc) hgd (by omega) fun h' tk acc hlt0 kp hacc => ?_)
  obtain ⟨zs, z1, z2, z3⟩ := keys_zip (H := H) (ks := ks) (acc := acc.toList) (by rw [Array.length_toList, hacc.1]; omega) fun i k v h1 h2 => by
    rw [Array.getElem?_toList] at h2
    obtain ⟨en, e1, e2⟩ := hacc.2 i v h2
    have h3 : (kvs.map (·.1))[i]? = some (keyI k) := by rw [hk, List.getElem?_map, h1]; rfl
    rw [List.getElem?_map] at h3
    obtain ⟨⟨k', v'⟩, h4, h5⟩ := Option.map_eq_some_iff.mp h3
    obtain ⟨en', b, hen, hkey, hb⟩ := ent i k' v' h4
    rw [e1] at hen
    cases hen
    have h5 : k' = keyI k := h5
    subst h5
    rw [keyI_kV] at hb
    exact ⟨b, e2.trans (show en.key = Value.ref b from hkey), hb⟩
  have hzl : zs.length = ks.length := by rw [← z1, List.length_map]
  have hdp : ∀ z ∈ zs, Dp X.K H z.2 (tT D.int z.1).py := fun z hz => by
    obtain ⟨b, e1, e2⟩ := z3 z hz
    rw [e1]
    exact (DR.tup e2 (drs_ints _) : DR X.K H (.ref b) (tT D.int z.1)).dp (n := 1) (Enc.ok (f := tT D.int) z.1)
  obtain ⟨e1, e2⟩ := each_of (f := tT D.int) I z2 hdp
  have em : zs.map (fun z => (tT D.int z.1).py) = ks.map fun x => (tT D.int x).py := by
    rw [← z1, List.map_map]
    rfl
  refine wpAny_bind (wpAny_newList ?_ (by rw [Array.length_toList, hacc.1]; omega))
  have ho : (h'.push (seqObj "list" acc.toList.toArray 0)).get? h'.objs.size = some (seqObj "list" acc.toList.toArray 0) := Heap.get?_push_size _ rfl
  have hlt : ∀ {b : Addr} {o : Obj}, s.heap.get? b = some o → (PySem.W.sortingHeap (h'.push (seqObj "list" acc.toList.toArray 0)) h'.objs.size acc.toList).get? b = some o := fun {b o} e =>
    PySem.W.sortingHeap_old (Nat.ne_of_lt (Heap.lt_size (kp _ _ e))) (Heap.get?_push_of_some _ (kp _ _ e))
  have er' : PySem.W.EachIs (fun v (b : List Int × V) => ∃ as, Reads (PySem.W.sortingHeap (h'.push (seqObj "list" acc.toList.toArray 0)) h'.objs.size acc.toList) v (tT D.int b.1).py as) acc.toList zs := e2.mono fun _ _ ⟨as, r⟩ => ⟨as, PyProof.Rows.Reads.keeps (fun _ _ => hlt) r⟩
  have hal : PySem.W.AllAlike (zs.map fun z => (tT D.int z.1).py) := by
    rw [em]
    exact PySem.W.AllAlike.of (fun l m => Alk.al (f := tT D.int) l m)
  have hso : PySem.W.Sortable (zs.map fun z => (tT D.int z.1).py) := by
    rw [em]
    exact so_tup hne
  refine wpAny_bind (wpAny_holding (wpAny_call_entry slot_list_sort ⟨_, ho, rfl⟩ entry_list_sort (PySem.W.list_sort_vals (κ := PySem.W.dataKind (PySem.W.sortingHeap (h'.push (seqObj "list" acc.toList.toArray 0)) h'.objs.size acc.toList) (zs.map fun z => (tT D.int z.1).py)) ho (PySem.W.SortsAt.data (s := { s with heap := PySem.W.sortingHeap (h'.push (seqObj "list" acc.toList.toArray 0)) h'.objs.size acc.toList, toks := tk }) (PySem.W.each_map (R := fun v d => ∃ as, Reads (PySem.W.sortingHeap (h'.push (seqObj "list" acc.toList.toArray 0)) h'.objs.size acc.toList) v d as) (fun z : List Int × V => (tT D.int z.1).py) er') hal hso (PySem.W.bound_map fun b hb => ?_)) (by rw [Array.length_toList, hacc.1]; omega) ⟨.none, rfl, ?_⟩) (args_list_sort _)))
  · have := (ok_depth (Enc.ok (f := tT D.int) b.1)).2
    show X.A.units + 1 + 1 + _ < cLine
    omega
  · have eo := PySem.W.sortVals_data (enc := fun z : List Int × V => (tT D.int z.1).py) false e1 er' hal
    have hn : H h'.objs.size = none := I.hok.fresh (Nat.le_of_lt hlt0)
    generalize PySem.W.sortVals (PySem.W.dataKind (PySem.W.sortingHeap (h'.push (seqObj "list" acc.toList.toArray 0)) h'.objs.size acc.toList) (zs.map fun z => (tT D.int z.1).py)) false acc.toList acc.toList = out at eo ⊢
    obtain ⟨c, hc'⟩ := PyProof.Rows.sortedHeap_at (vs := acc.toList) (out := out.toArray) ho
    have es : (zs.mergeSort (PySem.W.dataLe false fun z => (tT D.int z.1).py)).map (·.1) = sortD (tT D.int) ks := by
      have z := PySem.W.sort_maps (r := PySem.W.dataLe false fun z : List Int × V => (tT D.int z.1).py) (s := leD (tT D.int)) (fun z : List Int × V => z.1) (l := zs) (fun _ _ _ _ => rfl)
      rw [z1] at z
      exact z
    have hlen' : ((zs.mergeSort (PySem.W.dataLe false fun z => (tT D.int z.1).py)).map (·.2)).length ≤ sizeLine := by
      rw [List.length_map, List.length_mergeSort]
      omega
    refine wpAny_pure ⟨_, rfl, .ref h'.objs.size, upd H h'.objs.size (.lst ((zs.mergeSort (PySem.W.dataLe false fun z => (tT D.int z.1).py)).map (·.2))), I.laid (t' := tk) (fun b u e => ?_) (Nat.le_of_lt hlt0) ⟨hlen', out, c, vals_each eo, hc'⟩, rfl, q _ _ hn es fun z hz => z3 z (List.mem_mergeSort.mp hz)⟩
    have q1 := kp b u e
    have h1 := Heap.lt_size q1
    show (sortedHeap (h'.push (seqObj "list" acc.toList.toArray 0)) h'.objs.size acc.toList out.toArray).get? b = some u
    rw [sortedHeap_old (Nat.ne_of_lt h1) (by rw [size_push']; exact Nat.lt_succ_of_lt h1)]
    exact Heap.get?_push_of_some _ q1
/-- tuples that are tracked become data -/
theorem adopt {K : PySem.W.Frag} {H : Hp} : ∀ {zs : List (List Int × V)} {Hb : Hp}, Ex Hb H → (∀ z ∈ zs, ∃ q, z.2 = .ref q ∧ H q = some (.tup (z.1.map V.int))) → ∃ Hb', New Hb H Hb' H ∧ DRs K Hb' (zs.map (·.2)) ((zs.map (·.1)).map (tT D.int))
  | [], Hb, e, _ => ⟨Hb, Gr.refl e, .nil⟩
  | z :: zs, Hb, e, h => by
    obtain ⟨Hb1, n1, r1⟩ := adopt (K := K) (zs := zs) e fun y hy => h y (List.mem_cons_of_mem _ hy)
    obtain ⟨q, e1, e2⟩ := h z (List.mem_cons_self ..)
    have e1' : Ex Hb1 H := n1.s
    by_cases w : Hb1 q = none
    · have n2 : New Hb1 H (upd Hb1 q (.tup (z.1.map V.int))) H := ⟨Ex.new w, fun _ _ a _ => a, fun _ a => a, fun b o a => by
        by_cases y : b = q
        · subst y; rw [upd_same] at a; cases a; exact e2
        · rw [upd_ne y] at a; exact e1' _ _ a, fun b a t _ => upd_ne fun y => by subst y; exact t _ e2⟩
      refine ⟨_, n1.then n2, .cons ?_ (r1.mono (Ex.new w))⟩
      show DR K _ z.2 _
      rw [e1]
      exact .tup upd_same (drs_ints _)
    · cases y : Hb1 q with
      | none => exact absurd y w
      | some o =>
        have := e1' _ _ y
        rw [e2] at this
        cases this
        refine ⟨Hb1, n1, .cons ?_ r1⟩
        show DR K _ z.2 _
        rw [e1]
        exact .tup y (drs_ints _)
variable {Γ : List Sl} {m : Bool} {e : Expr} {pos p : Pos} {β : Type} {f : β → D}
theorem xo_sortedDic {l : List (List Int × β)} (h : XV X e Γ (dicT f l)) (hne : ∀ p ∈ l, p.1 ≠ []) (hu : X.A.units + 65 < cLine) (hm : X.mg "sorted" = none) (hc : X.calm = true := by rfl) (hg : Gl X "sorted" := by rfl) (hs : starEach (e :: []) X.env = (false, eval e X.env) :: starEach [] X.env := by rfl) (hpl : (backTo pos (starEach [] X.env)).any (·.1) = false := by rfl) : XO X (.Call (.Name "sorted" p) [e] [] pos) Γ (.ml ((sortD (tT D.int) (l.map fun p => p.1)).map (tT D.int))) :=
  xn_of (pe_callB (cr_sortedDic hc hu) hg hm (by decide +kernel) (pa_cons pe_wp pa_nil hs) (by decide) (by decide) hs hpl) fun σ Hb H E Q q => h σ Hb H E _ fun v d Hb1 H1 p1 g1 E1 r1 => by
    subst p1
    cases r1 with
    | @dic a ob kvs vs _ _ h1 h2 h3 h4 =>
      refine ⟨a, ob, kvs, l.map (fun p => p.1), rfl, E1.ex _ _ h1, by rw [h2, List.map_map]; rfl, fun k hk => ?_, fun p zs hp z1 z2 => ?_⟩
      · obtain ⟨x, hx, rfl⟩ := List.mem_map.mp hk
        exact hne x hx
      · obtain ⟨Hb2, n2, r2⟩ := adopt (K := X.K) (zs := zs) E1.ex z2
        have E2 := E1.new n2
        rw [← z1] at q
        exact q p (.lst (zs.map (·.2))) _ Hb2 _ rfl (new_none g1 hp) (gwn (gwn g1 n2) (New.side E2.ex hp)) (E2.new (New.side E2.ex hp)) (fresh_back E2.ex hp) upd_same ⟨_, rfl, r2⟩
end
end DL

namespace DL
open PySem PySem.Spec PyProof.Rows L2 Evl
/-! ### sorted(t), t a tuple -/
theorem collectTup {prog : Program} {w : World} {A : Around} {E : Value → Shared → Prop} {s : Shared} {l : Addr} {vs : List Value} {Q : List Value → Shared → Prop} {o : Obj} {n : Nat} (ho : s.heap.get? l = some o) (hc : o.cls = .type "tuple") (hd : o.data = .seq vs.toArray n)
    (h : Q vs { s with heap := (s.heap.push (seqObj "list" #[] 0)).update s.heap.objs.size (Obj.mapSeq (· ++ vs.toArray)) }) (hsz : vs.length ≤ sizeLine) :
    wpAny (model prog w) A (collect (.ref l)) Q E s := by
  unfold collect
  refine wpAny_bind (wpAny_runValue (codeAny_builtin entry_proto_collect' ?_))
  show wpAny _ _ (do again (.builtin "list.__iadd__" ⟨[← newList [], .ref l], []⟩)) _ _ s
  refine wpAny_bind (wpAny_newList (wpAny_pure ⟨Code.quiet_builtin _ (by decide +kernel), codeAny_builtin entry_list_iadd' ?_⟩))
  show wpAny _ _ (Builtin.List.listExtendWith (.ref s.heap.objs.size) (.ref l) (.ref s.heap.objs.size)) _ _ { s with heap := s.heap.push (seqObj "list" #[] 0) }
  unfold Builtin.List.listExtendWith
  have ho' : (s.heap.push (seqObj "list" #[] 0)).get? l = some o := Heap.get?_push_of_some _ ho
  refine wpAny_bind (wpAny_typeOf (T := "tuple") ⟨o, ho', hc⟩ ?_)
  have ht : (Value.type "tuple" == Value.type "tuple") = true := by rfl
  rw [if_pos (by rw [ht]; simp)]
  refine wpAny_bind (listItems_at ho' hd ?_)
  refine wpAny_bind (listItems_at (xs := #[]) (n := 0) (Heap.get?_push_size _ rfl) rfl ?_)
  rw [if_neg (by simp)]
  refine wpAny_bind (listUpdate_at (xs := #[]) (n := 0) (Heap.get?_push_size _ rfl) rfl ?_ (Nat.zero_le _) (by show (#[] ++ vs.toArray).size ≤ sizeLine + 1; simp only [Array.size_append, List.size_toArray, List.length_nil]; omega))
  refine wpAny_pure ?_
  show wpAny (model prog w) A (do
      let o ← load s.heap.objs.size
      match o.data with
      | .seq xs _ => pure xs.toList
      | _ => unsupported "internal:collect") Q E { s with heap := (s.heap.push (seqObj "list" #[] 0)).update s.heap.objs.size (Obj.mapSeq (· ++ vs.toArray)) }
  refine wpAny_bind (wpAny_load (get?_update_seq (Heap.get?_push_size _ rfl) _) ?_)
  show wpAny _ _ (pure ((#[] : Array Value) ++ vs.toArray).toList) Q E _
  rw [show ((#[] : Array Value) ++ vs.toArray).toList = vs by simp]
  exact wpAny_pure h
section
variable {X : Cx}
def rSortTup {α : Type} (K : PySem.W.Frag) (f : α → D) : List V → Hp → VK → Prop := fun vs H Q => ∃ (a : Addr) (zs : List (α × V)) (n : Nat), vs = [.ref a] ∧ H a = some (.tup (zs.map (·.2))) ∧ (∀ z ∈ zs, Dp K H z.2 (f z.1).py ∧ (f z.1).py.depth ≤ n) ∧ n ≤ 60 ∧ PySem.W.AllAlike (zs.map fun z => (f z.1).py) ∧ PySem.W.Sortable (zs.map fun z => (f z.1).py) ∧
  ∀ p, H p = none → Q (.ref p) (upd H p (.lst ((zs.mergeSort (PySem.W.dataLe false fun z => (f z.1).py)).map (·.2))))
theorem cr_sortTup {α : Type} {f : α → D} (hu : X.A.units + 65 < cLine) : CallR X (.builtin "sorted") (rSortTup X.K f) := by
  intro pins s σ H vs us Q I r h
  obtain ⟨a, zs, n, rfl, ha, hd, hn, hal, hso, q⟩ := h
  obtain rfl := Vals.ref1 r
  obtain ⟨hz, its, rv, o, ho0, hcl, c0, hdat⟩ := (show ObjOk X.prog X.w H s.heap a (.tup (zs.map (·.2))) from I.hok a _ ha)
  have hlen : its.length = zs.length := by have := rv.length; rw [List.length_map] at this; omega
  rw [List.length_map] at hz
  refine Calls.call_function_entry kind_sorted plain_sorted entry_sorted (args_sorted1 _) ?_
  unfold Builtin.«sorted»
  refine wpAny_bind (m := checkCount "sorted" 1 1 _) (wpAny_pure ?_)
  refine wpAny_bind (collectTup (A := X.A.in1) (vs := its) ho0 hcl hdat ?_ (by omega))
  generalize hh : (s.heap.push (seqObj "list" #[] 0)).update s.heap.objs.size (Obj.mapSeq (· ++ its.toArray)) = h'
  have hlt0 : s.heap.objs.size < h'.objs.size := by
    rw [← hh, Heap.size_update, size_push']
    exact Nat.lt_succ_self _
  have kp : ∀ b o, s.heap.get? b = some o → h'.get? b = some o := fun b o e => by
    rw [← hh, Heap.get?_update_ne _ _ _ _ (Nat.ne_of_lt (Heap.lt_size e))]
    exact Heap.get?_push_of_some _ e
  clear hh
  obtain ⟨e1, e2⟩ := each_of (f := f) I rv fun z hz => (hd z hz).1
  refine wpAny_bind (wpAny_newList ?_ (by omega))
  have ho : (h'.push (seqObj "list" its.toArray 0)).get? h'.objs.size = some (seqObj "list" its.toArray 0) := Heap.get?_push_size _ rfl
  have hlt : ∀ {b : Addr} {o : Obj}, s.heap.get? b = some o → (PySem.W.sortingHeap (h'.push (seqObj "list" its.toArray 0)) h'.objs.size its).get? b = some o := fun {b o} e =>
    PySem.W.sortingHeap_old (Nat.ne_of_lt (Heap.lt_size (kp _ _ e))) (Heap.get?_push_of_some _ (kp _ _ e))
  have er' : PySem.W.EachIs (fun v (b : α × V) => ∃ as, Reads (PySem.W.sortingHeap (h'.push (seqObj "list" its.toArray 0)) h'.objs.size its) v (f b.1).py as) its zs := e2.mono fun _ _ ⟨as, r⟩ => ⟨as, PyProof.Rows.Reads.keeps (fun _ _ => hlt) r⟩
  refine wpAny_bind (wpAny_holding (wpAny_call_entry slot_list_sort ⟨_, ho, rfl⟩ entry_list_sort (PySem.W.list_sort_vals (κ := PySem.W.dataKind (PySem.W.sortingHeap (h'.push (seqObj "list" its.toArray 0)) h'.objs.size its) (zs.map fun z => (f z.1).py)) ho (PySem.W.SortsAt.data (s := { s with heap := PySem.W.sortingHeap (h'.push (seqObj "list" its.toArray 0)) h'.objs.size its }) (PySem.W.each_map (R := fun v d => ∃ as, Reads (PySem.W.sortingHeap (h'.push (seqObj "list" its.toArray 0)) h'.objs.size its) v d as) (fun z : α × V => (f z.1).py) er') hal hso (PySem.W.bound_map fun b hb => ?_)) (by omega) ⟨.none, rfl, ?_⟩) (args_list_sort _)))
  · have := (hd b hb).2
    show X.A.units + 1 + 1 + _ < cLine
    omega
  · have eo := PySem.W.sortVals_data (enc := fun z : α × V => (f z.1).py) false e1 er' hal
    have hn : H h'.objs.size = none := I.hok.fresh (Nat.le_of_lt hlt0)
    generalize PySem.W.sortVals (PySem.W.dataKind (PySem.W.sortingHeap (h'.push (seqObj "list" its.toArray 0)) h'.objs.size its) (zs.map fun z => (f z.1).py)) false its its = out at eo ⊢
    obtain ⟨c, hc'⟩ := PyProof.Rows.sortedHeap_at (vs := its) (out := out.toArray) ho
    have hlen' : ((zs.mergeSort (PySem.W.dataLe false fun z => (f z.1).py)).map (·.2)).length ≤ sizeLine := by
      rw [List.length_map, List.length_mergeSort]
      omega
    refine wpAny_pure ⟨_, rfl, .ref h'.objs.size, upd H h'.objs.size (.lst ((zs.mergeSort (PySem.W.dataLe false fun z => (f z.1).py)).map (·.2))), I.laid (t' := s.toks) (fun b u e => ?_) (Nat.le_of_lt hlt0) ⟨hlen', out, c, vals_each eo, hc'⟩, rfl, q _ hn⟩
    have q1 := kp b u e
    have h1 := Heap.lt_size q1
    show (sortedHeap (h'.push (seqObj "list" its.toArray 0)) h'.objs.size its out.toArray).get? b = some u
    rw [sortedHeap_old (Nat.ne_of_lt h1) (by rw [size_push']; exact Nat.lt_succ_of_lt h1)]
    exact Heap.get?_push_of_some _ q1
theorem l_sortedTup {K : PySem.W.Frag} {α : Type} [DecidableEq α] {f : α → D} {n : Nat} [he : Enc f n] [ha : Alk f] {xs : List α} (hso : PySem.W.Sortable (xs.map fun x => (f x).py)) (hn : n ≤ 60 := by decide) : RLN K (rSortTup K f) [tT f xs] fun z => z = .ml ((sortD f xs).map f) := fun vs Hb H ex h1 Q q => by
  obtain ⟨v, rfl, r⟩ := h1.one_inv
  cases r with
  | @tup a ws _ hb k =>
    obtain ⟨e1, e2, e3⟩ := zip_snd k
    have em : (xs.zip ws).map (fun z => (f z.1).py) = xs.map fun x => (f x).py := by
      rw [← e2, List.map_map, e2]
      rfl
    refine ⟨a, xs.zip ws, n, rfl, by rw [e1]; exact ex _ _ hb, fun z hz => ⟨((e3 z hz).mono ex).dp (he.ok z.1), (ok_depth (he.ok z.1)).2⟩, hn, ?_, by rw [em]; exact hso, fun p hp => ?_⟩
    · rw [em]
      exact PySem.W.AllAlike.of ha.al
    · have es : ((xs.zip ws).mergeSort (PySem.W.dataLe false fun z => (f z.1).py)).map (·.1) = sortD f xs := by
        have z := PySem.W.sort_maps (r := PySem.W.dataLe false fun z : α × V => (f z.1).py) (s := leD f) (fun z : α × V => z.1) (l := xs.zip ws) (fun _ _ _ _ => rfl)
        rw [e2] at z
        exact z
      refine q p _ _ Hb _ rfl hp (New.side ex hp) (fresh_back ex hp) upd_same ⟨_, rfl, ?_⟩
      rw [← es]
      exact drs_zip fun z hz => e3 z (List.mem_mergeSort.mp hz)
variable {Γ : List Sl} {m : Bool} {a e : Expr} {pos p : Pos} {α : Type}
theorem xo_sortedTup [DecidableEq α] {f : α → D} {n : Nat} [Enc f n] [Alk f] {l : List α} (h : XV X a Γ (tT f l)) (hso : PySem.W.Sortable (l.map fun x => (f x).py)) (hu : X.A.units + 65 < cLine) (hm : X.mg "sorted" = none) (hn : n ≤ 60 := by decide) (hg : Gl X "sorted" := by rfl) (hs : starEach (a :: []) X.env = (false, eval a X.env) :: starEach [] X.env := by rfl) (hpl : (backTo pos (starEach [] X.env)).any (·.1) = false := by rfl) : XO X (.Call (.Name "sorted" p) [a] [] pos) Γ (.ml ((sortD f l).map f)) := xn_callB (cr_sortTup (f := f) hu) hm (by decide +kernel) (xl_cons h xa_nil hs) (fun _ z => by rw [z]; exact l_sortedTup hso hn) hg (by decide) (by decide) hs hpl
end
end DL

namespace DL
open PySem PySem.Spec PyProof.Rows L2 Evl
section
variable {X : Cx} {kp : Nat} {Γ : List Sl} {G : Dn} {m : Bool} {a b e : Expr} {pos pos' : Pos} {x : Str} {Φ : D → Prop}
/-- xs[i], i drawn, of what i may be -/
theorem xe_ixP {α : Type} {f : α → D} {l : List α} {P : Int → Prop} {Ψ : D → Prop} (ha : XV X a Γ (lT f l)) (hb : XE X m b Γ fun d => ∃ v, d = .int v ∧ P v) (h : ∀ v, P v → ∃ x, atI l v = some x ∧ Ψ (f x)) (hs : PlainIx b := by exact fun _ _ => rfl) : XE X m (.Subscript a b pos) Γ Ψ :=
  xe_ix ix_list ha.up (fun _ _ => hb) (fun d e h1 ⟨v, h2, h3⟩ => by
    subst h1 h2
    obtain ⟨x, k1, k2⟩ := h v h3
    have z : RV2 X.K (rIxL X.K) (lT f l) (.int v) (f x) := v_ixLT k1
    exact fun x' y Hb H ex r1 r2 Q q => z x' y Hb H ex r1 r2 Q fun z' d' Hb' H' e => q z' d' Hb' H' (by rw [e]; exact k2)) hs
/-- xs[i] = e, i drawn -/
theorem js_setLD {K : PySem.W.Frag} {te tj : TE} {i : Nat} {L : Int} {ds : List D} (h : Γ[i]? = some (.ow (.ml ds))) (he : JR K m te Γ Φ) (hj : JR K m tj Γ (dInt L)) (hL : L ≤ ds.length) (k : ∀ d (j : Nat), Φ d → j < ds.length → G.nx (Γ.set i (.ow (.ml (ds.set j d))))) : JS K kp (tAsg te (gSub (tVar i) tj rSetL)) Γ G := fun σ Hb H E F a b c d => he σ Hb H E _ fun v z Hb1 H1 y g1 E1 r => by
  obtain ⟨p, vs, h1, h2, h3, h4⟩ := E1.own_at h
  refine ⟨.ref p, h1, hj σ Hb1 H1 E1 _ fun v2 z2 Hb2 H2 y2 g2 E2 r2 => ?_⟩
  obtain ⟨n, rfl, n0, n1⟩ := y2
  cases r2
  obtain ⟨p', ws, k1, k2, k3, k4⟩ := E2.own_at h
  rw [h1] at k1
  cases k1
  have hn : ixN ds.length n = some n.toNat := by
    unfold ixN
    rw [if_pos n0, if_pos (by omega)]
  exact ⟨p, ws, n, n.toNat, rfl, rfl, k3, by rw [k4.len]; exact hn, a _ _ _ _ (k z n.toNat y (by omega)) ((GS.of (gww g1 g2) E2).trans (GS.put E2 h h1 ⟨_, rfl, k4.set (r.mono g2.b) n.toNat⟩))⟩
theorem xs_setOD (i : Nat) {L : Int} {ds : List D} {pos2 : Pos} (he : XE X m e Γ Φ) (hj : XE X m a Γ (dInt L)) (hL : L ≤ ds.length) (k : ∀ d (j : Nat), Φ d → j < ds.length → G.nx (Γ.set i (.ow (.ml (ds.set j d))))) (h : Γ[i]? = some (.ow (.ml ds)) := by rfl)
    (hps : PS X (.Assign [.Subscript (.Name x pos') a pos2] e pos) (tAsg (wpE X e) (gSub (tVar i) (wpE X a) rSetL)) := by exact ps_asg pe_wp (pg_sub (pe_var (by rfl) (by first | exact Or.inl rfl | exact Or.inr (Or.inl rfl) | exact Or.inr (Or.inr rfl))) pe_wp set_list)) :
    XS X kp (.Assign [.Subscript (.Name x pos') a pos2] e pos) Γ G := xs_of hps (js_setLD h he hj hL k)
end
theorem sm_oT {α : Type} {f : α → D} {o : Option α} {n : Nat} (h : ∀ x, o = some x → (f x).sm n) : (oT f o).sm n := by
  cases o with
  | none => exact sm_non
  | some x => exact h x rfl
theorem sm_pT {α β : Type} {f : α → D} {g : β → D} {p : α × β} {n : Nat} (h1 : (f p.1).sm n) (h2 : (g p.2).sm n) : (pT f g p).sm (n + 1) := ⟨(show (2 : Nat) ≤ 100000 by decide), fun d hd => by
  rcases List.mem_cons.mp hd with rfl | hd
  · exact h1
  · rw [List.mem_singleton.mp hd]; exact h2⟩
end DL

namespace DL
open PySem PySem.Spec PyProof.Rows L2 Evl
/-! ### isinstance(d, T), len(d), d.get(k) of a dict that is data -/
section
variable {X : Cx} {Γ : List Sl} {m : Bool} {a b e : Expr} {es : List Expr} {pos p pt apos : Pos} {β : Type} {f : β → D}
def rIsiDic : List V → Hp → VK → Prop := fun xs H Q => ∃ (d : Addr) (ob : Obj) (kvs : List (List Key × V)) (T : String) (b : Bool), xs = [.ref d, .ty T] ∧ H d = some (.frz ob (.dT kvs)) ∧ kitB "dict" T = some b ∧ Q (.bl b) H
theorem call_isiDic : CallR X (.builtin "isinstance") rIsiDic := by
  intro pins s σ H xs us Q I r h
  obtain ⟨d, ob, kvs, T, b, rfl, hd, e, q⟩ := h
  obtain ⟨u1, u2, rfl, r1, r2⟩ := vals2 r
  cases (show u1 = Value.ref d from r1)
  cases (show u2 = Value.type T from r2)
  obtain ⟨_, _, ys, _, o, es, ep, h1, h2, _⟩ := dt_rd I.hok (.inr ⟨ob, hd⟩)
  exact PySem.W.kia_one PySem.W.kitx_dict I.kIn ⟨o, h1, h2.1⟩ (kit_ty e) (fun z => nomatch z) fun tk => ⟨.bl b, H, I.tok tk, rfl, q⟩
theorem xv_isiD {ks : List (List Key)} {ds : List D} {r : Bool} (T : String) (ha : XV X a Γ (.dic ks ds)) (hm : X.mg "isinstance" = none) (hm2 : X.mg (Str.ofString T) = none) (h2 : kitB "dict" T = some r := by decide +kernel) (hv : bootBuiltins (Str.ofString T) = some (.type T) := by decide +kernel) (hb : bootBuiltins "isinstance" = some (.builtin "isinstance") := by decide +kernel)
    (hg : Gl X "isinstance" := by rfl) (hg2 : Gl X (Str.ofString T) := by rfl) (hn2 : (Str.ofString T) ≠ "__name__" := by decide) (hdb2 : ((Str.ofString T) == ("__debug__" : Str)) = false := by decide)
    (hs : starEach [a, .Name (Str.ofString T) pt] X.env = (false, eval a X.env) :: starEach [.Name (Str.ofString T) pt] X.env := by rfl) (hs2 : starEach [.Name (Str.ofString T) pt] X.env = (false, eval (.Name (Str.ofString T) pt) X.env) :: starEach [] X.env := by rfl) (hpl : (backTo pos (starEach [.Name (Str.ofString T) pt] X.env)).any (·.1) = false := by rfl) : XV X (.Call (.Name "isinstance" p) [a, .Name (Str.ofString T) pt] [] pos) Γ (.bl r) :=
  xe_of (pe_callB call_isiDic hg hm hb (pa_cons pe_wp (pa_cons (pe_bltn (v := .ty T) hg2 hm2 hv rfl hn2 hdb2) pa_nil hs2) hs) (by decide) (by decide) hs hpl) fun σ Hb H E Q q => ha σ Hb H E _ fun v d Hb1 H1 p1 g1 E1 r1 => by
    subst p1
    cases r1 with
    | @dic c ob kvs vs _ _ k1 k2 k3 k4 => exact ⟨c, ob, kvs, T, r, rfl, E1.ex _ _ k1, h2, q (.bl r) (.bl r) Hb1 H1 rfl g1 E1 (.bl r)⟩
def rLenDic : List V → Hp → VK → Prop := fun xs H Q => ∃ (d : Addr) (ob : Obj) (kvs : List (List Key × V)), xs = [.ref d] ∧ H d = some (.frz ob (.dT kvs)) ∧ Q (.int kvs.length) H
theorem call_lenDic : CallR X (.builtin "len") rLenDic := by
  intro pins s σ H xs us Q I r h
  obtain ⟨d, ob, kvs, rfl, hd, q⟩ := h
  obtain rfl := Vals.ref1 r
  obtain ⟨hz, hs, ys, hk, o, es, ep, h1, h2, h3, h4, _⟩ := dt_rd I.hok (.inr ⟨ob, hd⟩)
  have hl : es.size = kvs.length := (size_of_entries h4).trans (Paired.length hk).symm
  have hty : s.TypeIs (.ref d) "dict" := ⟨o, h1, h2.1⟩
  refine PyProof.Rows.call_len_slot (n := (kvs.length : Int)) hty PySem.F.slot_dict_len (fun Q' hq => PySem.call_len_raw hs ⟨o, h1, h2, h3⟩ (by rw [hl]; exact hq)) (by omega) (by rw [sizeLine_eq] at hz; omega) ⟨.int kvs.length, H, I.tok _, ⟨_, rfl⟩, q⟩
theorem xv_lenD {l : List (List Int × β)} (h : XV X a Γ (dicT f l)) (hm : X.mg "len" = none) (hg : Gl X "len" := by rfl) (hs : starEach (a :: []) X.env = (false, eval a X.env) :: starEach [] X.env := by rfl) (hpl : (backTo pos (starEach [] X.env)).any (·.1) = false := by rfl) : XV X (.Call (.Name "len" p) [a] [] pos) Γ (.int l.length) :=
  xe_of (pe_callB call_lenDic hg hm PySem.boot_len (pa_cons pe_wp pa_nil hs) (by decide) (by decide) hs hpl) fun σ Hb H E Q q => h σ Hb H E _ fun v d Hb1 H1 p1 g1 E1 r1 => by
    subst p1
    cases r1 with
    | @dic c ob kvs vs _ _ k1 k2 k3 k4 =>
      have e := congrArg List.length k2
      rw [List.length_map, List.length_map] at e
      exact ⟨c, ob, kvs, rfl, E1.ex _ _ k1, by rw [e]; exact q (.int l.length) (.int l.length) Hb1 H1 rfl g1 E1 (.int _)⟩
theorem get_none : ∀ {kvs : List (List Key × V)} {l : List (List Int × β)}, kvs.map (·.1) = l.map (fun p => keyI p.1) → ∀ {k : List Int}, getA l k = none → valV kvs (keyI k) = none
  | [], [], _, _, _ => rfl
  | [], _ :: _, h, _, _ => by cases h
  | _ :: _, [], h, _, _ => by cases h
  | p :: kvs, q :: l, h, k, e => by
    have h1 : p.1 = keyI q.1 := (List.cons.inj h).1
    unfold getA at e
    by_cases z : q.1 = k
    · rw [List.find?_cons_of_pos (by simp [z])] at e
      cases e
    · rw [List.find?_cons_of_neg (by simp [z])] at e
      exact (valV_neg fun y => z (keyI_inj (h1.symm.trans y))).trans (get_none (List.cons.inj h).2 e)
/-- d.get(k) -/
theorem xv_getm {l : List (List Int × β)} {k : List Int} (ha : XV X a Γ (dicT f l)) (hb : XV X b Γ (tT D.int k)) (hu : X.A.units + 65 < cLine) (hm1 : M1 X a "get" apos b pos := by exact ⟨rfl, rfl, rfl, rfl⟩) : XV X (.Call (.Attribute a "get" apos) [b] [] pos) Γ (oT f (getA l k)) :=
  xe_of (pe_dget1 (by omega) pe_wp pe_wp hm1) fun σ Hb H E Q q => ha σ Hb H E _ fun v d Hb1 H1 p1 g1 E1 r1 => by
    subst p1
    cases r1 with
    | @dic p ob kvs vs _ _ h1 h2 h3 h4 =>
      subst h3
      refine ⟨p, rfl, .inr ⟨kvs, .inr ⟨ob, E1.ex _ _ h1⟩⟩, hb σ Hb1 H1 E1 _ fun v2 d2 Hb2 H2 p2 g2 E2 r2 => ?_⟩
      subst p2
      obtain ⟨c, rfl, hc⟩ := key_at E2.ex r2
      cases e : getA l k with
      | none => exact ⟨none, .inr ⟨kvs, keyI k, c, .inr ⟨ob, E2.ex _ _ (g2.b _ _ h1)⟩, rfl, hc, (get_none h2 e).symm⟩, q .non .non Hb2 H2 (by rw [e]; rfl) (gww g1 g2) E2 .non⟩
      | some y =>
        obtain ⟨w, e1, e2⟩ := dv_get h2 (h4.mono g2.b) e
        exact ⟨some w, .inr ⟨kvs, keyI k, c, .inr ⟨ob, E2.ex _ _ (g2.b _ _ h1)⟩, rfl, hc, e1.symm⟩, q w (f y) Hb2 H2 (by rw [e]; rfl) (gww g1 g2) E2 e2⟩
/-! ### an owned dict looked at -/
theorem borrowD {K : PySem.W.Frag} {σ : L2.St} {Hb H : Hp} {i : Nat} {l : List (List Int × β)} (E : En K Hb H σ Γ) (hi : Γ[i]? = some (.ow (odT f l))) {p : Addr} {kv : List (List Key × V)} {od : Obj} (h1 : σ[i]? = some (some (.ref p))) (h2 : Hb p = none) (h3 : H p = some (.dT kv)) (e2 : kv.map (·.1) = l.map (fun p => keyI p.1)) (e4 : DRs K Hb (kv.map (·.2)) (l.map fun p => f p.2)) :
    En K (upd Hb p (.frz od (.dT kv))) (upd H p (.frz od (.dT kv))) σ (Γ.set i (.pd (dicT f l))) := by
  have eb : Ex Hb (upd Hb p (.frz od (.dT kv))) := Ex.new h2
  exact {
    ex := fun b o e => by
      by_cases z : b = p
      · subst z; rw [upd_same] at e ⊢; exact e
      · rw [upd_ne z] at e ⊢; exact E.ex b o e
    val := fun j e h' => by
      rcases set_at h' with ⟨rfl, z2, z3⟩ | ⟨z1, z2⟩
      · cases z2
        exact ⟨_, h1, .dic upd_same e2 rfl (e4.mono eb)⟩
      · obtain ⟨v, k1, k2⟩ := E.val j e z2
        exact ⟨v, k1, k2.mono eb⟩
    own := fun j n h' => by
      rcases set_at h' with ⟨rfl, z2, z3⟩ | ⟨z1, z2⟩
      · cases z2
      · obtain ⟨b, w, k1, k2, k3, k4⟩ := E.own j n z2
        have ne : b ≠ p := fun z => by
          subst z
          exact z1 (E.sep i j _ _ n hi z2 h1 k1)
        exact ⟨b, w, k1, by rw [upd_ne ne]; exact k2, by rw [upd_ne ne]; exact k3, k4.mono eb⟩
    sep := fun j k b n n' y1 y2 k1 k2 => by
      rcases set_at y1 with ⟨rfl, z2, z3⟩ | ⟨z1, z2⟩
      · cases z2
      · rcases set_at y2 with ⟨rfl, z4, z5⟩ | ⟨z3, z4⟩
        · cases z4
        · exact E.sep j k b n n' z2 z4 k1 k2
    len := by rw [List.length_set, E.len] }
theorem unborrowD {K : PySem.W.Frag} {σ : L2.St} {Hb H Hb' H' : Hp} (E : En K Hb H σ Γ) {p : Addr} {kv : List (List Key × V)} {od : Obj} (h2 : Hb p = none) (h3 : H p = some (.dT kv)) (g : New (upd Hb p (.frz od (.dT kv))) (upd H p (.frz od (.dT kv))) Hb' H') : H' p = some (.frz od (.dT kv)) ∧ New Hb H (cutA Hb' p) (upd H' p (.dT kv)) := by
  have hp : H' p = some (.frz od (.dT kv)) := g.ex _ _ upd_same
  refine ⟨hp, ⟨fun b o e => ?_, fun a o e _ => ?_, fun a e => ?_, fun b o e => ?_, fun a e t _ => ?_⟩⟩
  · have ne : b ≠ p := ne_of_none e h2
    rw [cutA_ne ne]
    exact g.b b o (by rw [upd_ne ne]; exact e)
  · by_cases z : a = p
    · subst z; rw [upd_same]; rw [h3] at e; exact e
    · rw [upd_ne z]; exact g.h a o (by rw [upd_ne z]; exact e) fun w => w
  · by_cases z : a = p
    · subst z; rw [upd_same]; simp
    · rw [upd_ne z]; exact g.al a (by rw [upd_ne z]; exact e)
  · by_cases z : b = p
    · subst z; rw [cutA_same] at e; cases e
    · rw [cutA_ne z] at e; rw [upd_ne z]; exact g.s b o e
  · by_cases z : a = p
    · subst z; rw [cutA_same, h2]
    · rw [cutA_ne z, g.f a (by rw [upd_ne z]; exact e) (by rw [upd_ne z]; exact t) fun w => w, upd_ne z]
theorem xe_borrowD (i : Nat) {l : List (List Int × β)} {Φ : D → Prop} (hx : XE X false e (Γ.set i (.pd (dicT f l))) Φ) (hs : ∀ d, Φ d → d.flat = true) (hi : Γ[i]? = some (.ow (odT f l)) := by rfl) : XE X false e Γ Φ := fun σ Hb H E Q q pins s I => by
  obtain ⟨p, u, h1, h2, h3, kv, rfl, e2, e4⟩ := E.own i _ hi
  obtain ⟨od, I2⟩ := I.lock h3 trivial
  refine thn (hx σ _ _ (borrowD E hi h1 h2 h3 e2 e4) (fun v H' => H' p = some (.frz od (.dT kv)) ∧ Q v (upd H' p (.dT kv))) (fun v d Hb' H' y g E' r => ?_) pins s I2) fun v s1 ⟨x, H', I', r, e, q'⟩ => ⟨x, _, I'.unlock e (I.nofrz h3 trivial), r, q'⟩
  obtain ⟨k1, k2⟩ := unborrowD E h2 h3 (ww_new g)
  exact ⟨k1, q v d _ _ y (New.gr k2) (E.new k2) (r.flat_any (hs d y))⟩
theorem xt_borrowD (i : Nat) {l : List (List Int × β)} {Φ : Bool → Prop} (hx : XT X false e (Γ.set i (.pd (dicT f l))) Φ) (hi : Γ[i]? = some (.ow (odT f l)) := by rfl) : XT X false e Γ Φ := fun σ Hb H E Q q pins s I => by
  obtain ⟨p, u, h1, h2, h3, kv, rfl, e2, e4⟩ := E.own i _ hi
  obtain ⟨od, I2⟩ := I.lock h3 trivial
  refine thn (hx σ _ _ (borrowD E hi h1 h2 h3 e2 e4) (fun b H' => H' p = some (.frz od (.dT kv)) ∧ Q b (upd H' p (.dT kv))) (fun b Hb' H' y g E' => ?_) pins s I2) fun b s1 ⟨H', I', e, q'⟩ => ⟨_, I'.unlock e (I.nofrz h3 trivial), q'⟩
  obtain ⟨k1, k2⟩ := unborrowD E h2 h3 (ww_new g)
  exact ⟨k1, q b _ _ y (New.gr k2) (E.new k2)⟩
end
/-! ### [x for x in xs if drawn] -/
section
variable {X : Cx} {elt tg iter c : Expr} {scope : Scope} {Γ : List Sl} {pos : Pos} {own : List (Str × Nat)} {g : TG}
theorem xn_lcF {α : Type} {f : α → D} {xs : List α} (js : List Nat) (es : α → List D) (own : List (Str × Nat)) (hi : XW X tg iter Γ (xs.map f)) (hg : Bk X scope fun Y => PG Y tg g) (gt : ∀ x ∈ xs, XGt X.K g (f x) js (es x)) (ht : ∀ x ∈ xs, JT X.K true (wbT X scope c) (setG Γ js (es x)) fun _ => True)
    (he : ∀ x ∈ xs, Bk X scope fun Y => XV Y elt (setG Γ js (es x)) (f x)) (hl : xs.length ≤ 100000) (ok : BlkOk X.N X.env.scope scope own) (hN : X.N.Nodup) (hw : wipeG Γ (own.map (·.2)) = Γ := by rfl) (hv : ∀ j ∈ js, j ∈ own.map (·.2) := by decide)
    (hc : X.calm = true := by rfl) (hs : ∀ x, foldedSetIterable iter X.env x = pure x := by intro _; rfl) : XN X true (.ListComp elt [⟨tg, iter, [c], 0⟩] scope pos) Γ fun o => ∃ ys : List α, o = .ml (ys.map f) ∧ ys.Sublist xs := by
  refine (xn_lc (Φ := fun z => z = xs.map f) js (fun _ i => (xs[i]?.map es).getD []) (fun _ i acc => ∃ ys : List α, acc = ys.map f ∧ ys.Sublist (xs.take i)) own hi.up hg (fun ds e i d hd => ?_) .one (fun ds e => ⟨[], rfl, List.nil_sublist _⟩) (fun ds e i d acc hd hp => ?_) (fun ds e => by rw [e, List.length_map]; exact hl) ok hN hw hv hc hs).imp ?_
  · subst e
    rw [List.getElem?_map] at hd
    cases hx : xs[i]? with
    | none => rw [hx] at hd; cases hd
    | some x =>
      rw [hx] at hd
      cases hd
      exact gt x (List.mem_of_getElem? hx)
  · subst e
    rw [List.getElem?_map] at hd
    cases hx : xs[i]? with
    | none => rw [hx] at hd; cases hd
    | some x =>
      rw [hx] at hd
      cases hd
      obtain ⟨ys, h1, h2⟩ := hp
      have et : xs.take (i + 1) = xs.take i ++ [x] := by rw [List.take_add_one, hx]; rfl
      have hxm := List.mem_of_getElem? hx
      intro σ Hb H E Q q
      refine ht x hxm σ Hb H E Q fun b Hb' H' _ g' E' => q b Hb' H' ⟨fun _ => ?_, fun _ => ⟨ys, h1, by rw [et]; exact h2.trans (List.sublist_append_left _ _)⟩⟩ g' E'
      intro s0 H0 C cl fp
      refine (he x hxm s0 H0 C cl fp).up.imp fun d hd => ?_
      exact ⟨ys ++ [x], by rw [hd, h1, List.map_append]; rfl, by rw [et]; exact h2.append (List.Sublist.refl _)⟩
  · rintro o ⟨ds, acc, rfl, h1, ys, h2, h3⟩
    refine ⟨ys, by rw [h1, h2], ?_⟩
    rwa [List.length_map, List.take_length] at h3
end
end DL

namespace DL
open PySem PySem.Spec PyProof.Rows L2 Evl
/-! ### a def that hands back what it has built in a local -/
theorem execs_app (env : Env) (b : List Stmt) : ∀ a : List Stmt, execs (a ++ b) env = (do match ← execs a env with | .next => execs b env | f => pure f)
  | [] => by
    rw [List.nil_append]
    show _ = (execs [] env >>= _)
    rw [show execs [] env = pure Flow.next by rw [execs]]
    rw [pure_bind]
  | s :: a => by
    rw [List.cons_append]
    conv => lhs; rw [execs]
    conv => rhs; rw [execs]
    rw [bind_assoc]
    refine congrArg _ (funext fun f => ?_)
    cases f with
    | next => exact execs_app env b a
    | ret v => rw [pure_bind]
    | brk => rw [pure_bind]
    | cont => rw [pure_bind]
section
variable {X : Cx}
theorem pss_app {a b : List Stmt} {ta tb : TS} (h1 : PSs X a ta) (h2 : PSs X b tb) : PSs X (a ++ b) (tSeq ta tb) := by
  refine ⟨fun pins s σ H D I h => ?_⟩
  rw [execs_app]
  refine wpAny_bind (thn (h1.run pins s σ H { D with nx := tb D } I h) fun f s1 q => ?_)
  cases f with
  | next =>
    obtain ⟨σ', H', I', q⟩ := q
    exact h2.run pins s1 σ' H' D I' q
  | ret v => exact wpAny_pure q
  | brk => exact wpAny_pure q
  | cont => exact wpAny_pure q
end
section
variable {P : Program} {w : World} {K : PySem.W.Frag} {mg : Str → Option Value} {base : Heap} {x qual y : Str} {st : Stmt} {f : Addr} {fd : FuncData} {N ps : List Str} {k : Nat} {p pos : Pos}
theorem fn_newTail {C : List D → (MO → Prop) → Prop} (F : Fun K x qual st f fd) (S : FnScope N ps (defScope st)) (len : ∀ ds Φ, C ds Φ → ds.length = ps.length) (i : Nat) {init : List Stmt} (hb : defBody st = init ++ [.Return (some (.Name y p)) pos])
    (hx : ∀ (cdv : Value) (A : Around) (outer : List Env) (s : Shared) (H : Hp) (E : XK), PE (cxF P w K mg base N qual st f cdv A outer s H E) (.Name y p) (tVar i))
    (body : ∀ (cdv : Value) (A : Around) (outer : List Env) (s : Shared) (H : Hp) (E : XK), Room k (A.deeper (envOfC qual (defScope st) s.heap.objs.size f cdv)) → ∀ ds Φ, C ds Φ → XSs (cxF P w K mg base N qual st f cdv A outer s H E) 0 init (stG N (ds.map .pd)) { nx := fun Γ' => ∃ o, Φ o ∧ Γ'[i]? = some (.ow o), rt := fun _ _ => False }) :
    FnOk P w K mg base CX0 (k + 1) f fd ps (spN K C) := fn_new F S len fun cdv A outer s H E hr ds Φ h1 => by
  rw [hb]
  refine ⟨_, pss_app pss_wp (pss_cons (ps_ret (hx cdv A outer s H E)) pss_nil), fun σ Hb H2 En Q q => ?_⟩
  refine body cdv A outer s H E hr ds Φ h1 σ Hb H2 En _ (fun Γ' σ' Hb' H' z g => ?_) (fun _ _ _ _ z => z.elim) (fun _ _ _ _ z => z.elim) fun _ _ _ _ _ _ z => z.elim
  obtain ⟨o, ho, hi⟩ := z
  obtain ⟨p, u, k1, k2, k3, k4⟩ := g.en.own i o hi
  have hn : H2 p = none := (g.own p ⟨i, o, hi, k1⟩).elim (fun z => (no_ownG z).elim) id
  exact ⟨.ref p, k1, q p u o Hb' H' ho hn (g.gr.wk fun a z => (no_ownG z).elim) k2 k3 k4⟩
end
end DL

namespace DL
open PySem PySem.Spec PyProof.Rows L2 Evl
section
variable {X : Cx} {kp : Nat} {Γ : List Sl} {m : Bool} {a b e : Expr} {es : List Expr} {pos p pt apos : Pos} {G : Dn} {x : Str} {pos' : Pos}
/-- a list times a number, owned -/
theorem xo_repL {α : Type} {f : α → D} {l : List α} {k : Int} (ha : XV X a Γ (lT f l)) (hb : XV X b Γ (.int k)) (hk : 0 ≤ k ∧ k ≤ 100000) (hz : l.length * k.toNat ≤ 100000) : XO X (.BinOp a .Mult b pos) Γ (.ml ((List.replicate k.toNat l).flatten.map f)) := by
  refine (xn_of (pe_op op_rep pe_wp pe_wp) (jn_bin ha (fun _ _ => hb) fun d e h1 h2 => ?_))
  subst h1 h2
  intro x y Hb H ex r1 r2 Q q
  cases r1 with
  | lst h r =>
    cases r2
    have hl := r.len
    rw [List.length_map] at hl
    refine ⟨_, k, _, rfl, rfl, ex _ _ h, by omega, by omega, sz_of (by rw [hl]; exact hz), fun p hp => q p _ _ Hb _ rfl hp (New.side ex hp) (fresh_back ex hp) upd_same ⟨_, rfl, ?_⟩⟩
    have e : (List.replicate k.toNat l).flatten.map f = (List.replicate k.toNat (l.map f)).flatten := by rw [List.map_flatten, List.map_replicate]
    rw [e]
    generalize k.toNat = n
    induction n with
    | zero => exact .nil
    | succ n ih =>
      rw [List.replicate_succ, List.replicate_succ, List.flatten_cons, List.flatten_cons]
      exact r.app ih
/-- xs[i] = e, the place known, of a typed list -/
theorem xs_setL (i : Nat) {α : Type} {f : α → D} {l : List α} {y : α} {n : Int} {pos2 : Pos} (he : XV X e Γ (f y)) (hj : XV X a Γ (.int n)) (hn : 0 ≤ n ∧ n < l.length) (k : G.nx (Γ.set i (.ow (.ml ((l.set n.toNat y).map f))))) (h : Γ[i]? = some (.ow (.ml (l.map f))) := by rfl)
    (hps : PS X (.Assign [.Subscript (.Name x pos') a pos2] e pos) (tAsg (wpE X e) (gSub (tVar i) (wpE X a) rSetL)) := by exact ps_asg pe_wp (pg_sub (pe_var (by rfl) (by first | exact Or.inl rfl | exact Or.inr (Or.inl rfl) | exact Or.inr (Or.inr rfl))) pe_wp set_list)) :
    XS X kp (.Assign [.Subscript (.Name x pos') a pos2] e pos) Γ G := by
  refine xs_setO i n.toNat he hj ?_ (fun d z => ?_) h hps
  · unfold ixN
    rw [List.length_map, if_pos hn.1, if_pos hn.2]
  · subst z
    rw [← List.map_set]
    exact k
end
/-! ### an own, new dict as data -/
section
variable {X : Cx} {m : Bool} {e : Expr} {Γ : List Sl} {β : Type} {f : β → D}
theorem XN.frzDP {Φ : List (List Int × β) → Prop} (h : XN X m e Γ fun z => ∃ l, z = odT f l ∧ Φ l) : XE X m e Γ fun z => ∃ l, z = dicT f l ∧ Φ l := fun σ Hb H E Q q pins s I => by
  refine thn (h σ Hb H E (fun v H' => ∃ (p : Addr) (kv : List (List Key × V)), v = .ref p ∧ H' p = some (.dT kv) ∧ H p = none ∧ ∀ od : Obj, Q (.ref p) (upd H' p (.frz od (.dT kv)))) (fun p u o Hb' H' z n g E' nb hp r => ?_) pins s I) fun v s1 ⟨x, H', I', r, p, kv, e1, e2, e0, e3⟩ => ?_
  · obtain ⟨l, rfl, hl⟩ := z
    obtain ⟨kv, rfl, e2, e4⟩ := r
    refine ⟨p, kv, rfl, hp, n, fun od => ?_⟩
    have eb : Ex Hb' (upd Hb' p (.frz od (.dT kv))) := Ex.new nb
    have eh : Ex (upd Hb' p (.frz od (.dT kv))) (upd H' p (.frz od (.dT kv))) := fun b o e => by
      by_cases z : b = p
      · subst z; rw [upd_same] at e ⊢; exact e
      · rw [upd_ne z] at e ⊢; exact E'.ex b o e
    have ne : ∀ {a : Addr} {o}, H a = some o → a ≠ p := fun e z => by subst z; rw [n] at e; cases e
    refine q (.ref p) (dicT f l) (upd Hb' p (.frz od (.dT kv))) _ ⟨l, rfl, hl⟩ ⟨g.b.trans eb, fun a o e w => by rw [upd_ne (ne e)]; exact g.h a o e w, fun a e => ?_, eh, fun a e t w => ?_⟩ {
      ex := eh
      val := fun i d k => by obtain ⟨v, h1, h2⟩ := E'.val i d k; exact ⟨v, h1, h2.mono eb⟩
      own := fun i mm k => by
        obtain ⟨a, w, h1, h2, h3, h4⟩ := E'.own i mm k
        obtain ⟨a', w', k1, k2, k3, k4⟩ := E.own i mm k
        rw [h1] at k1
        cases k1
        have na := ne k3
        exact ⟨a, w, h1, by rw [upd_ne na]; exact h2, by rw [upd_ne na]; exact h3, h4.mono eb⟩
      sep := E'.sep
      len := E'.len } (.dic upd_same e2 rfl (e4.mono eb))
    · by_cases z : a = p
      · subst z; rw [upd_same]; simp
      · rw [upd_ne z]; exact g.al a e
    · have na : a ≠ p := fun z => by subst z; exact e n
      rw [upd_ne na]
      exact g.f a e t w
  · subst e1
    obtain ⟨od, I2⟩ := I'.lock e2 trivial
    exact ⟨_, _, I2, r, e3 od⟩
theorem XN.frzD {l : List (List Int × β)} (h : XN X m e Γ fun z => z = odT f l) : XE X m e Γ fun z => z = dicT f l := (XN.frzDP (Φ := fun z => z = l) (h.imp fun z k => ⟨l, k, rfl⟩)).imp fun d ⟨l', h1, h2⟩ => by rw [h1, h2]
end
/-! ### (a, b), both drawn -/
section
variable {X : Cx} {m : Bool} {a b : Expr} {Γ : List Sl} {pos : Pos} {A B : D → Prop} {j : Nat}
theorem xe_pair (ha : XE X m a Γ A) (hb : XE X m b Γ B) (hs1 : starEach [a, b] X.env = (false, eval a X.env) :: starEach [b] X.env := by rfl) (hs : starEach [b] X.env = (false, eval b X.env) :: starEach [] X.env := by rfl) : XE X m (.Tuple [a, b] j pos) Γ fun z => ∃ x y, z = .tup [x, y] ∧ A x ∧ B y :=
  xe_tup (Φ := fun ds => ∃ x y, ds = [x, y] ∧ A x ∧ B y) (xa_cons (Φb := fun _ ds => ∃ y, ds = [y] ∧ B y) ha (fun d _ => xa_one hb (fun y hy => ⟨y, rfl, hy⟩) hs) (fun x ds h ⟨y, e, hy⟩ => ⟨x, y, by rw [e], h, hy⟩) hs1) (fun ds ⟨x, y, e, h1, h2⟩ => ⟨x, y, by rw [e], h1, h2⟩) (by simp) (fun ds ⟨x, y, e, _, _⟩ => by rw [e]; simp)
end
end DL

namespace DL
open PySem PySem.Spec PyProof.Rows L2 Evl
/-! ### xs.index(x) -/
section
variable {X : Cx} {Γ : List Sl} {m : Bool} {a b e : Expr} {pos p p1 pos1 apos : Pos}
/-- the first place -/
def idxD {α : Type} [DecidableEq α] (x : α) (l : List α) : Nat := l.idxOf x
theorem at_idx {α : Type} [DecidableEq α] {x : α} : ∀ {l : List α}, x ∈ l → l[l.idxOf x]? = some x := fun {l} h => by
  rw [List.getElem?_eq_getElem (List.idxOf_lt_length_iff.mpr h)]
  exact congrArg some (List.getElem_idxOf (List.idxOf_lt_length_iff.mpr h))
theorem before_idx {α : Type} [DecidableEq α] {x : α} : ∀ {l : List α} {i : Nat} {y : α}, i < l.idxOf x → l[i]? = some y → y ≠ x
  | [], i, y, h, e => by simp at e
  | z :: l, i, y, h, e => by
    rw [List.idxOf_cons] at h
    by_cases c : z = x
    · subst c
      rw [beq_self_eq_true] at h
      exact absurd h (Nat.not_lt_zero _)
    · rw [beq_eq_false_iff_ne.mpr c] at h
      cases i with
      | zero =>
        simp at e
        rw [← e]; exact c
      | succ i =>
        rw [List.getElem?_cons_succ] at e
        exact before_idx (Nat.lt_of_succ_lt_succ h) e
theorem pyL_get {α : Type} {f : α → D} : ∀ {l : List α} {i : Nat}, (pyL (l.map f))[i]? = (l[i]?).map fun y => (f y).py
  | [], i => by simp [pyL]
  | y :: l, 0 => rfl
  | y :: l, i + 1 => by
    show (pyL (l.map f))[i]? = _
    rw [pyL_get]
    rfl
theorem xv_index {α : Type} [DecidableEq α] {f : α → D} {n : Nat} [h : Enc f n] {x : α} {l : List α} (ha : XV X a Γ (lT f l)) (hb : XV X b Γ (f x)) (hx : x ∈ l) (hu : X.A.units + 65 < cLine) (hn : n ≤ 63 := by decide)
    (hbm : PE X (.Call (.Attribute a "index" apos) [b] [] pos) (tBM X.K "list" (rIndexD X.K) (wpE X a) (tCons (wpE X b) tNil)) := by exact pe_bm PySem.F.plainAttrs_list PySem.F.slot_list_index PySem.F.type_list_index (mt_indexD (by assumption)) pe_wp (pa_cons pe_wp pa_nil)) : XV X (.Call (.Attribute a "index" apos) [b] [] pos) Γ (.int (idxD x l : Nat)) :=
  xe_of hbm fun σ Hb H E Q q => ha σ Hb H E _ fun v d Hb1 H1 p1 g1 E1 r1 => by
    subst p1
    cases r1 with
    | @lst c vs _ hc r =>
      have k1 : DR X.K Hb1 (.ref c) (lT f l) := .lst hc r
      refine ⟨?_, hb σ Hb1 H1 E1 _ fun v2 d2 Hb2 H2 p2 g2 E2 r2 => ?_⟩
      · exact .inl ⟨rfl, vs, SqL.of (E1.ex _ _ hc)⟩
      · subst p2
        refine ⟨c, v2, (f x).py, pyL (l.map f), idxD x l, (f x).py, rfl, rfl, (k1.mono (g2.b.trans E2.ex)).dp (n := n + 1) (okL_map h.ok l), (r2.mono E2.ex).dp (h.ok x), ok_shaped (d := lT f l) (n := n + 1) (okL_map h.ok l) (by omega), ok_shaped (h.ok x) (by omega), ?_, ?_, fun i z' hi hz' => ?_, q (.int (idxD x l : Nat)) _ Hb2 H2 rfl (gww g1 g2) E2 (.int _)⟩
        · rw [pyL_get, show l[idxD x l]? = some x from at_idx hx]; rfl
        · rw [h.eq]; exact decide_eq_true rfl
        · rw [pyL_get] at hz'
          obtain ⟨y, hy, rfl⟩ := Option.map_eq_some_iff.mp hz'
          rw [h.eq]
          exact decide_eq_false (before_idx hi hy)
end
end DL
namespace DL
open PySem PySem.Spec PyProof.Rows L2 Evl
theorem XN.frzT {X : Cx} {m : Bool} {e : Expr} {Γ : List Sl} {α : Type} {f : α → D} {Ψ : List α → Prop} (h : XN X m e Γ fun o => ∃ r : List α, o = .ml (r.map f) ∧ Ψ r) : XE X m e Γ fun d => ∃ r : List α, d = lT f r ∧ Ψ r :=
  (XN.frzP (Φ := fun ds => ∃ r : List α, ds = r.map f ∧ Ψ r) (h.imp fun o ⟨r, h1, h2⟩ => ⟨_, h1, r, rfl, h2⟩)).imp fun d ⟨ds, h1, r, h2, h3⟩ => ⟨r, by rw [h1, h2]; rfl, h3⟩
/-! ### sorted(set(xs)), xs a list of tuples of d ints in [0, B) -/
section
variable {X : Cx} {Γ : List Sl} {m : Bool} {a b e : Expr} {pos p p1 pos1 apos : Pos}
theorem tups_of {K : PySem.W.Frag} {Hb : Hp} : ∀ {vs : List V} {l : List (List Int)}, DRs K Hb vs (l.map (tT D.int)) → ∃ ks : List (Addr × List Int), vs = ks.map (fun p => V.ref p.1) ∧ ks.map (fun p => p.2) = l ∧ ∀ p ∈ ks, Hb p.1 = some (.tup (p.2.map V.int))
  | _, [], h => by
    cases h
    exact ⟨[], rfl, rfl, fun p hp => nomatch hp⟩
  | _, x :: l, h => by
    cases h with
    | cons h1 h2 =>
      obtain ⟨ks, e1, e2, e3⟩ := tups_of h2
      cases h1 with
      | @tup c ws _ hc r =>
        have := r.ints
        subst this
        refine ⟨(c, x) :: ks, by rw [e1]; rfl, by rw [List.map_cons, e2], fun p hp => ?_⟩
        rcases List.mem_cons.mp hp with rfl | hp
        · exact hc
        · exact e3 p hp
theorem drs_tups {K : PySem.W.Frag} {Hb : Hp} : ∀ {ks : List (Addr × List Int)}, (∀ p ∈ ks, Hb p.1 = some (.tup (p.2.map V.int))) → DRs K Hb (ks.map fun p => V.ref p.1) ((ks.map fun p => p.2).map (tT D.int))
  | [], _ => .nil
  | p :: ks, h => .cons (.tup (h p (List.mem_cons_self ..)) (drs_ints _)) (drs_tups fun q hq => h q (List.mem_cons_of_mem _ hq))
theorem xn_sortedSetTT {l : List (List Int)} {d : Nat} {B : Int} (h : XV X e Γ (lT (tT D.int) l)) (hz : l.length ≤ 60) (hd : 1 ≤ d) (hl : ∀ x ∈ l, x.length = d ∧ TS.Bd B x) (hu : X.A.units + 65 < cLine) (hm : X.mg "sorted" = none) (hm1 : X.mg "set" = none) (hc : X.calm = true := by rfl) (hg : Gl X "sorted" := by rfl) (hg1 : Gl X "set" := by rfl)
    (he : starEach (e :: []) X.env = (false, eval e X.env) :: starEach [] X.env := by rfl) (hpl : (backTo pos1 (starEach [] X.env)).any (·.1) = false := by rfl) (he2 : starEach (.Call (.Name "set" p1) [e] [] pos1 :: []) X.env = (false, eval (.Call (.Name "set" p1) [e] [] pos1) X.env) :: starEach [] X.env := by rfl) (hpl2 : (backTo pos (starEach [] X.env)).any (·.1) = false := by rfl) :
    XN X false (.Call (.Name "sorted" p) [.Call (.Name "set" p1) [e] [] pos1] [] pos) Γ fun o => ∃ r : List (List Int), o = .ml (r.map (tT D.int)) ∧ r.Nodup ∧ (∀ x, x ∈ r ↔ x ∈ l) ∧ r.Pairwise fun x y => TS.code B x ≤ TS.code B y := by
  have hs : PE X (.Call (.Name "set" p1) [e] [] pos1) (tCB (rSetOfT X.K X.prog X.w) (tCons (wpE X e) tNil)) := pe_callTy (cr_setOfT hc (by omega)) hg1 hm1 PyProof.Rows.boot_set (pa_cons pe_wp pa_nil he) (by decide) (by decide) he hpl
  refine xn_of (pe_callB (cr_sortedT hc) hg hm (by decide +kernel) (pa_cons hs pa_nil he2) (by decide) (by decide) he2 hpl2) fun σ Hb H E Q q => h σ Hb H E _ fun v d2 Hb1 H1 p1 g1 E1 r1 => ?_
  subst p1
  cases r1 with
  | @lst a vs _ ha k =>
    obtain ⟨ks, e1, e2, e3⟩ := tups_of k
    subst e1
    have hkl : ks.length = l.length := by rw [← e2, List.length_map]
    refine ⟨a, ks, rfl, SqL.of (E1.ex _ _ ha), fun p hp => xt E1.ex (e3 p hp), by omega, fun c L hcn hL1 hL2 => ?_⟩
    have n1 := New.side (o := SetTO X.prog X.w c L) E1.ex hcn
    have E2 := E1.new n1
    have hin : ∀ p ∈ L, p.2 ∈ l := fun p hp => by rw [← e2]; exact List.mem_map.mpr ⟨p, hL1 p hp, rfl⟩
    refine ⟨c, L, d, B, rfl, upd_same, fun p hp => xt E2.ex (e3 p (hL1 p hp)), hd, fun p hp => hl _ (hin p hp), fun L' p2 pm nd hfew pw hp2 => ?_⟩
    have n2 := New.side (o := .lst (L'.map fun q => V.ref q.1)) E2.ex hp2
    exact q p2 _ _ Hb1 _ ⟨L'.map (fun q => q.2), rfl, nd, fun x => by
      rw [List.mem_map]
      constructor
      · rintro ⟨q, hq, rfl⟩
        exact hin q (pm.mem_iff.mp hq)
      · intro hx
        rw [← e2] at hx
        obtain ⟨q, hq, rfl⟩ := List.mem_map.mp hx
        obtain ⟨q', hq', e⟩ := List.mem_map.mp (hL2 q hq)
        exact ⟨q', pm.mem_iff.mpr hq', e⟩, List.pairwise_map.mpr pw⟩ (new_none g1 (new_none n1 hp2)) (gwn (gwn g1 n1) n2) (E2.new n2) (fresh_back E2.ex hp2) upd_same ⟨_, rfl, drs_tups fun q hq => e3 q (hL1 q (pm.mem_iff.mp hq))⟩
end
end DL

/-! own classes: what the text must have, fields, making, methods, isinstance -/
namespace DL
open PySem PySem.Spec PyProof.Rows L2 Evl
/-- what of the text a class must have; ns: the names of its fields -/
structure Dc (K : PySem.W.Frag) (mg : Str → Option Value) (x : Str) (C : Addr) : Prop where
  gl : mg x = some (.ref C)
  cl : Cls K C
  mks : PySem.W.makesIn K C = true
  kp : PySem.W.keepIn K (.ref C) = true
  ha : PySem.W.findIn K (.ref C) "__class__" = some (some (.builtin "object.__class__"))
  hn : PySem.W.specialIn K (.builtin "object.__class__") "__get__" = some (some (.builtin "getset_descriptor.__get__"))
  htk : PySem.W.takesIn K (.builtin "object.__class__") = some true
  hm : PySem.W.mroIn K C (.type "object") = some true
/-- an object of C under construction: names of its fields so far, and their data -/
def oI (C : Addr) (ns : List Str) (ds : List D) : MO := .inv fun K Hb o => ∃ (dx : Addr) (fs : List (Str × V)), o = .ins C dx fs ∧ fs.map (·.1) = ns ∧ DRs K Hb (fs.map (·.2)) ds
theorem mr_oI {K : PySem.W.Frag} {Hb : Hp} {C dx : Addr} {fs : List (Str × V)} {ns : List Str} {ds : List D} (h1 : fs.map (·.1) = ns) (h2 : DRs K Hb (fs.map (·.2)) ds) : MR K Hb (.ins C dx fs) (oI C ns ds) := ⟨fun xs => by simp, fun Hb' e => ⟨dx, fs, rfl, h1, h2.mono e⟩⟩
theorem of_oI {K : PySem.W.Frag} {Hb : Hp} {o : HO} {C : Addr} {ns : List Str} {ds : List D} (h : MR K Hb o (oI C ns ds)) : ∃ (dx : Addr) (fs : List (Str × V)), o = .ins C dx fs ∧ fs.map (·.1) = ns ∧ DRs K Hb (fs.map (·.2)) ds := h.2 Hb (Ex.refl _)
theorem putF_new {f : Str} {v : V} : ∀ {fs : List (Str × V)}, f ∉ fs.map (·.1) → putF f v fs = fs ++ [(f, v)]
  | [], _ => rfl
  | (g, w) :: fs, h => by
    have hg : g ≠ f := fun e => h (by rw [e]; exact List.mem_cons_self ..)
    have : putF f v ((g, w) :: fs) = (g, w) :: putF f v fs := by
      show (if g = f then (g, v) :: fs else (g, w) :: putF f v fs) = _
      rw [if_neg hg]
    rw [this, putF_new fun z => h (List.mem_cons_of_mem _ z)]
    rfl
section
variable {X : Cx} {kp : Nat} {Γ : List Sl} {m : Bool} {e o : Expr} {es : List Expr} {pos pos' p p2 : Pos} {G : Dn} {x f : Str} {Φ : D → Prop} {C : Addr} {ns : List Str} {ds : List D}
/-- self.f = e, the object in slot i -/
theorem xs_fld (i : Nat) (he : XE X m e Γ Φ) (c : Cls X.K C) (n : NoAttr X.K C f) (k : ∀ d, Φ d → G.nx (Γ.set i (.ow (oI C (ns ++ [f]) (ds ++ [d]))))) (hf : f ∉ ns := by decide) (hl : ns.length < 1000 := by decide) (h : Γ[i]? = some (.ow (oI C ns ds)) := by rfl)
    (hps : PS X (.Assign [.Attribute (.Name x pos') f p2] e pos) (sFld X.K (tVar i) (wpE X e) f) := by exact ps_fld (pe_var (by rfl) (by first | exact Or.inl rfl | exact Or.inr (Or.inl rfl) | exact Or.inr (Or.inr rfl))) pe_wp rfl) :
    XS X kp (.Assign [.Attribute (.Name x pos') f p2] e pos) Γ G := xs_of hps fun σ Hb H E F a b c2 d => he σ Hb H E _ fun v z Hb1 H1 y g1 E1 r => by
  obtain ⟨q, u, h1, h2, h3, h4⟩ := E1.own i _ h
  obtain ⟨dx, fs, rfl, e1, e2⟩ := of_oI h4
  have hlen : fs.length = ns.length := by rw [← e1, List.length_map]
  refine ⟨.ref q, h1, q, C, dx, fs, rfl, h3, c, n, by omega, ?_⟩
  have pf : putF f v fs = fs ++ [(f, v)] := putF_new (by rw [e1]; exact hf)
  rw [pf]
  exact a _ _ _ _ (k z y) ((GS.of g1 E1).trans (GS.put E1 h h1 (mr_oI (by rw [List.map_append, e1]; rfl) (by rw [List.map_append]; exact e2.app (.one r)))))
/-- e.f, an object that is data -/
theorem drs_lookup {K : PySem.W.Frag} {Hb : Hp} : ∀ {fs : List (Str × V)} {ns : List Str} {ds : List D} {d : D}, fs.map (·.1) = ns → DRs K Hb (fs.map (·.2)) ds → (ns.zip ds).lookup f = some d → ∃ v, fs.lookup f = some v ∧ DR K Hb v d
  | [], _, _, _, rfl, _, h => by simp at h
  | (g, v) :: fs, _, ds, d, rfl, r, h => by
    cases r with
    | @cons _ d0 _ ds0 r1 r2 =>
      have h : ((g, d0) :: ((fs.map (·.1)).zip ds0)).lookup f = some d := h
      rw [List.lookup_cons] at h ⊢
      cases e : f == g with
      | true =>
        rw [e] at h
        cases h
        exact ⟨v, rfl, r1⟩
      | false =>
        rw [e] at h
        exact drs_lookup rfl r2 h
theorem no_lookup {fs : List (Str × V)} (h : f ∉ fs.map (·.1)) : fs.lookup f = none := by
  induction fs with
  | nil => rfl
  | cons q fs ih =>
    rw [List.lookup_cons]
    have : (f == q.1) = false := beq_eq_false_iff_ne.mpr fun e => h (by rw [e]; exact List.mem_cons_self ..)
    rw [this]
    exact ih fun z => h (List.mem_cons_of_mem _ z)
theorem xv_fld {d : D} (h : XV X e Γ (.ins C ns ds)) (c : Cls X.K C) (n : NoAttr X.K C f) (hl : (ns.zip ds).lookup f = some d := by rfl) (hb : attributeBase e f X.env (eval e X.env) = eval e X.env := by rfl) : XV X (.Attribute e f pos) Γ d :=
  xe_of (pe_fld pe_wp hb) fun σ Hb H E Q q => h σ Hb H E _ fun v z Hb1 H1 p1 g1 E1 r1 => by
    subst p1
    cases r1 with
    | @ins a C dx fs vs _ _ k1 k2 k3 k4 =>
      subst k3
      obtain ⟨u, h1, h2⟩ := drs_lookup k2 k4 hl
      exact ⟨a, C, dx, fs, u, rfl, E1.ex _ _ k1, c, n, h1, q u d Hb1 H1 rfl g1 E1 h2⟩
/-! ### an own, new object as data -/
theorem XN.frzI {Φ : List D → Prop} (h : XN X m e Γ fun z => ∃ ds, z = oI C ns ds ∧ Φ ds) : XE X m e Γ fun z => ∃ ds, z = .ins C ns ds ∧ Φ ds := fun σ Hb H E Q q => h σ Hb H E Q fun p u o Hb' H' z n g E' nb hp r => by
  obtain ⟨ds, rfl, hd⟩ := z
  obtain ⟨dx, fs, rfl, e1, e2⟩ := of_oI r
  have g2 : Gr (WW m σ Γ) Hb H (upd Hb' p (.ins C dx fs)) H' := ⟨g.b.trans (Ex.new nb), g.h, g.al, fun b o e => by
    by_cases z : b = p
    · subst z; rw [upd_same] at e; cases e; exact hp
    · rw [upd_ne z] at e; exact g.s b o e, fun b e t w => by rw [upd_ne fun z => by subst z; exact e n]; exact g.f b e t w⟩
  have E2 : En X.K (upd Hb' p (.ins C dx fs)) H' σ Γ := {
    ex := g2.s
    val := fun i d k => by obtain ⟨v, h1, h2⟩ := E'.val i d k; exact ⟨v, h1, h2.mono (Ex.new nb)⟩
    own := fun i m k => by
      obtain ⟨a, u, h1, h2, h3, h4⟩ := E'.own i m k
      obtain ⟨a', u', k1, k2, k3, k4⟩ := E.own i m k
      rw [h1] at k1
      cases k1
      refine ⟨a, u, h1, ?_, h3, h4.mono (Ex.new nb)⟩
      rw [upd_ne fun z => by subst z; rw [n] at k3; cases k3]
      exact h2
    sep := E'.sep
    len := E'.len }
  exact q (.ref p) (.ins C ns ds) _ H' ⟨ds, rfl, hd⟩ g2 E2 (.ins upd_same e1 rfl (e2.mono (Ex.new nb)))
end
/-! ### __init__, making -/
/-- a def that fills a new object: its first argument -/
def spI (K : PySem.W.Frag) (C : Addr) (Cn : List D → (MO → Prop) → Prop) : Sp := fun vs H Q _ => ∃ (a dx : Addr) (ws : List V) (ds : List D) (Φ : MO → Prop) (Hb : Hp), vs = .ref a :: ws ∧ Cn ds Φ ∧ Ex Hb H ∧ Hb a = none ∧ H a = some (.ins C dx []) ∧ DRs K Hb ws ds ∧
  ∀ o Hb' H' u', Φ o → Gr (fun b => b = a) Hb H Hb' H' → Hb' a = none → H' a = some u' → MR K Hb' u' o → Q .non H'
structure Clk (P : Program) (w : World) (K : PySem.W.Frag) (mg : Str → Option Value) (base : Heap) (k : Nat) (C : Addr) (ps : List Str) (sp : Sp) : Prop where
  ex : ∃ (f : Addr) (fd : FuncData), FnOk P w K mg base CX0 k f fd ps sp ∧ Mk K C f ∧ Binds K fd ps []
/-- a method -/
structure Mth (P : Program) (w : World) (K : PySem.W.Frag) (mg : Str → Option Value) (base : Heap) (k : Nat) (C : Addr) (x : Str) (ps : List Str) (sp : Sp) : Prop where
  ex : ∃ (f : Addr) (fd : FuncData), FnOk P w K mg base CX0 k f fd ps sp ∧ Meth K C x f ∧ Binds K fd ps []
section
variable {P : Program} {w : World} {K : PySem.W.Frag} {mg : Str → Option Value} {base : Heap} {x qual : Str} {st : Stmt} {f : Addr} {fd : FuncData} {N ps : List Str} {k : Nat} {C : Addr}
theorem fn_init {Cn : List D → (MO → Prop) → Prop} (F : Fun K x qual st f fd) (S : FnScope N ps (defScope st)) (len : ∀ ds Φ, Cn ds Φ → ds.length + 1 = ps.length)
    (body : ∀ (cdv : Value) (A : Around) (outer : List Env) (s : Shared) (H : Hp) (E : XK), Room k (A.deeper (envOfC qual (defScope st) s.heap.objs.size f cdv)) → ∀ ds Φ, Cn ds Φ → XSs (cxF P w K mg base N qual st f cdv A outer s H E) 1 (defBody st) (stG N (.ow (oI C [] []) :: ds.map .pd)) { nx := fun Γ' => ∃ o', Φ o' ∧ Γ'[0]? = some (.ow o'), rt := fun _ _ => False }) :
    FnOk P w K mg base CX0 (k + 1) f fd ps (spI K C Cn) := by
  refine F.ok S (fun vs H Q E h => ?_) (fun cdv A outer s H vs Q E hr h => ?_)
  · obtain ⟨a, dx, ws, ds, Φ, Hb, rfl, h1, _, _, _, h3, _⟩ := h
    rw [List.length_cons, h3.len]
    exact len ds Φ h1
  · obtain ⟨a, dx, ws, ds, Φ, Hb, rfl, h1, h2, h3, h4, h6, q⟩ := h
    refine ⟨_, pss_wp, body cdv A outer s H E hr ds Φ h1 _ Hb H (en_startE h2 h3 h4 (mr_oI rfl .nil) h6) _ (fun Γ' σ' Hb' H' z g => ?_) (fun _ _ _ _ z => z.elim) (fun _ _ _ _ z => z.elim) fun d v _ _ Hb' H' z g r => z.elim⟩
    obtain ⟨o', p2, p3⟩ := z
    obtain ⟨b, u', e1, e2, e3, e4⟩ := g.en.own 0 o' p3
    have e0 := g.kp 0 (by decide)
    rw [e1] at e0
    have z : some (some (V.ref b)) = some (some (V.ref a)) := e0
    injection z with z
    injection z with z
    injection z with z
    subst z
    exact q o' Hb' H' u' p2 (g.gr.wk fun c y => one_own y) e2 e3 e4
end
section
variable {X : Cx} {Γ : List Sl} {m : Bool} {e o : Expr} {es : List Expr} {pos p apos : Pos} {x f : Str} {Φ : D → Prop} {C : Addr} {ns : List Str} {ds : List D} {k : Nat} {ps : List Str}
/-- C(..) -/
theorem xn_make {Cn : List D → (MO → Prop) → Prop} {Φa : List D → Prop} {Φ : MO → Prop} (c : Clk X.prog X.w X.K X.mg X.base k C ps (spI X.K C Cn)) (hgl : X.mg x = some (.ref C)) (hr : Room (k + 1) X.A) (ha : XA X m (e :: es) Γ Φa) (hc : ∀ ds, Φa ds → Cn ds Φ) (hg : Gl X x := by rfl) (hdb : (x == ("__debug__" : Str)) = false := by decide)
    (he : starEach (e :: es) X.env = (false, eval e X.env) :: starEach es X.env := by rfl) (hpl : (backTo pos (starEach es X.env)).any (·.1) = false := by rfl) : XN X m (.Call (.Name x p) (e :: es) [] pos) Γ Φ := by
  obtain ⟨f, fd, F, h1, h3⟩ := c.ex
  refine xn_of (pe_make h1 F hr hg hgl h3 .nil pass0 pa_wp hdb he hpl) fun σ Hb H E Q q => ha σ Hb H E _ fun vs ds Hb1 H1 p1 g1 E1 r1 => ?_
  intro y dx hy hdx hne
  have n1 := New.side (o := .own y) E1.ex hdx
  have hy1 : upd H1 dx (.own y) y = none := by rw [upd_ne fun z => hne z.symm]; exact hy
  have n2 := New.side (o := .ins C dx []) (E1.new n1).ex hy1
  have E2 := (E1.new n1).new n2
  have nb : Hb1 y = none := fresh_back E1.ex hy
  refine ⟨y, dx, vs, ds, Φ, Hb1, by rw [List.append_nil], hc ds p1, E2.ex, nb, upd_same, r1, fun o Hb2 H2 u2 p2 g2 nb2 h2 r2 => ⟨rfl, ?_⟩⟩
  have g12 : New Hb1 H1 Hb1 (upd (upd H1 dx (.own y)) y (.ins C dx [])) := n1.then n2
  have g3 : New Hb1 H1 Hb2 H2 := Gr.trans g12 g2 fun b z => .inr (by rw [z]; exact hy)
  exact q y u2 o Hb2 H2 p2 (new_none g1 hy) (gwn g1 g3) (E1.new g3) nb2 h2 r2
theorem xv_make {Cn : List D → (MO → Prop) → Prop} {as : List D} (c : Clk X.prog X.w X.K X.mg X.base k C ps (spI X.K C Cn)) (hgl : X.mg x = some (.ref C)) (hr : Room (k + 1) X.A) (ha : XL X (e :: es) Γ as) (hc : Cn as fun o => o = oI C ns ds) (hg : Gl X x := by rfl) (hdb : (x == ("__debug__" : Str)) = false := by decide)
    (he : starEach (e :: es) X.env = (false, eval e X.env) :: starEach es X.env := by rfl) (hpl : (backTo pos (starEach es X.env)).any (·.1) = false := by rfl) : XV X (.Call (.Name x p) (e :: es) [] pos) Γ (.ins C ns ds) :=
  (XN.frzI (C := C) (ns := ns) (Φ := fun z => z = ds) ((xn_make c hgl hr ha (fun z q => by rw [q]; exact hc) hg hdb he hpl).imp fun z q => ⟨ds, q, rfl⟩)).imp fun d ⟨es, h1, h2⟩ => by rw [h1, h2]
/-- o.m(..), o data -/
theorem xe_meth {Cn : Con} {Φa : List D → Prop} {pl : Sem Bool} (c : Mth X.prog X.w X.K X.mg X.base k C x ps (spP X.K Cn)) (cl : Cls X.K C) (hr : Room k X.A) (ho : XV X o Γ (.ins C ns ds)) (ha : XA X m (e :: es) Γ Φa) (hc : ∀ as, Φa as → Cn (.ins C ns ds :: as) Φ) (hx : x ∉ ns := by decide)
    (hst : starEach (e :: es) X.env = (false, eval e X.env) :: starEach es X.env := by rfl) (hpl : (backTo pos (starEach es X.env)).any (·.1) = false := by rfl)
    (ht : eval (.Call (.Attribute o x apos) (e :: es) [] pos) X.env = (do
      let ov ← eval o X.env
      standAt apos.atName
      let (f, first) ← holding [ov] (getMethod ov x pl)
      callWith pos f first (backTo pos (starEach (e :: es) X.env)) (backToKw pos (keywordEach [] X.env))) := by rfl) : XE X m (.Call (.Attribute o x apos) (e :: es) [] pos) Γ Φ := by
  obtain ⟨f, fd, F, h1, h3⟩ := c.ex
  refine xe_of (pe_meth pe_wp cl h1 F hr h3 .nil pass0 pa_wp hst hpl ht) fun σ Hb H E Q q => ho σ Hb H E _ fun v d Hb1 H1 p1 g1 E1 r1 => ?_
  subst p1
  cases r1 with
  | @ins a _ dx fs vs _ _ k1 k2 k3 k4 =>
    refine ⟨a, dx, fs, rfl, E1.ex _ _ k1, no_lookup (by rw [k2]; exact hx), ha σ Hb1 H1 E1 _ fun ws as Hb2 H2 p2 g2 E2 r2 => ?_⟩
    refine ⟨.ins C ns ds :: as, Φ, Hb2, hc as p2, E2.ex, by rw [List.append_nil]; exact .cons (.ins (g2.b _ _ k1) k2 k3 (k4.mono g2.b)) r2, fun v d Hb3 H3 p3 g3 r3 => q v d Hb3 H3 p3 (gwn (gww (ww_lift g1) g2) g3) (E2.new g3) r3⟩
theorem xv_meth {Cn : Con} {as : List D} {d : D} {pl : Sem Bool} (c : Mth X.prog X.w X.K X.mg X.base k C x ps (spP X.K Cn)) (cl : Cls X.K C) (hr : Room k X.A) (ho : XV X o Γ (.ins C ns ds)) (ha : XL X (e :: es) Γ as) (hc : Cn (.ins C ns ds :: as) fun z => z = d) (hx : x ∉ ns := by decide)
    (hst : starEach (e :: es) X.env = (false, eval e X.env) :: starEach es X.env := by rfl) (hpl : (backTo pos (starEach es X.env)).any (·.1) = false := by rfl)
    (ht : eval (.Call (.Attribute o x apos) (e :: es) [] pos) X.env = (do
      let ov ← eval o X.env
      standAt apos.atName
      let (f, first) ← holding [ov] (getMethod ov x pl)
      callWith pos f first (backTo pos (starEach (e :: es) X.env)) (backToKw pos (keywordEach [] X.env))) := by rfl) : XV X (.Call (.Attribute o x apos) (e :: es) [] pos) Γ d :=
  xe_meth c cl hr ho ha (fun z q => by rw [q]; exact hc) hx hst hpl ht
/-- o.m() -/
theorem xv_meth0 {Cn : Con} {d : D} {pl : Sem Bool} (c : Mth X.prog X.w X.K X.mg X.base k C x ps (spP X.K Cn)) (cl : Cls X.K C) (hr : Room k X.A) (ho : XV X o Γ (.ins C ns ds)) (hc : Cn [.ins C ns ds] fun z => z = d) (hx : x ∉ ns := by decide)
    (ht : eval (.Call (.Attribute o x apos) [] [] pos) X.env = (do
      let ov ← eval o X.env
      standAt apos.atName
      let (f, first) ← holding [ov] (getMethod ov x pl)
      callWith pos f first (backTo pos (starEach [] X.env)) (backToKw pos (keywordEach [] X.env))) := by rfl) : XV X (.Call (.Attribute o x apos) [] [] pos) Γ d := by
  obtain ⟨f, fd, F, h1, h3⟩ := c.ex
  refine xe_of (pe_meth0 pe_wp cl h1 F hr h3 .nil pass0 ht) fun σ Hb H E Q q => ho σ Hb H E _ fun v d Hb1 H1 p1 g1 E1 r1 => ?_
  subst p1
  cases r1 with
  | @ins a _ dx fs vs _ _ k1 k2 k3 k4 =>
    refine ⟨a, dx, fs, rfl, E1.ex _ _ k1, no_lookup (by rw [k2]; exact hx), ?_⟩
    exact ⟨[.ins C ns ds], _, Hb1, hc, E1.ex, .cons (.ins k1 k2 k3 k4) .nil, fun v d Hb3 H3 p3 g3 r3 => q v d Hb3 H3 p3 (gwn g1 g3) (E1.new g3) r3⟩
end
end DL

namespace L2
open PySem PySem.Spec PyProof.Rows
def rGeT (K : PySem.W.Frag) : R2 := fun x y H Q => ∃ (a b : Addr) (ns ms : List Int), x = .ref a ∧ y = .ref b ∧ SqT K H a (ns.map V.int) ∧ SqT K H b (ms.map V.int) ∧
  Q (.bl (Ob.lexAt (fun j => decide (ns.getD j 0 = ms.getD j 0)) (fun j => decide (ms.getD j 0 ≤ ns.getD j 0)) (decide (ns.length ≥ ms.length)) 0 (min ns.length ms.length))) H
theorem op_geT {X : Cx} (hu : X.A.units < cLine) : OpR X (compareOp .GtE) (rGeT X.K) := by
  intro pins s σ H x y v u Q I rx ry h
  obtain ⟨a, b, ns, ms, rfl, rfl, ha, hb, q⟩ := h
  cases rx
  cases ry
  obtain ⟨its, r1, p1, _⟩ := I.tuple ha
  obtain ⟨its2, r2, p2, _⟩ := I.tuple hb
  have i1 : IntsAre its ns := Vals.ints r1
  have i2 : IntsAre its2 ms := Vals.ints r2
  have e1 : its.toArray.size = ns.length := by rw [List.size_toArray]; exact i1.length
  have e2 : its2.toArray.size = ms.length := by rw [List.size_toArray]; exact i2.length
  have at1 : ∀ j (h1 : j < its.toArray.size), ∃ t, its.toArray[j] = .int (ns.getD j 0) t := fun j h1 => PyProof.Rows.IntsAre.int_at i1 _ _ (by simp at h1; simp [h1])
  have at2 : ∀ j (h1 : j < its2.toArray.size), ∃ t, its2.toArray[j] = .int (ms.getD j 0) t := fun j h1 => PyProof.Rows.IntsAre.int_at i2 _ _ (by simp at h1; simp [h1])
  have R := Ob.RcOp.tuples_ge (A := X.A) (s := s) (e := fun j => decide (ns.getD j 0 = ms.getD j 0)) (r := fun j => decide (ms.getD j 0 ≤ ns.getD j 0)) p1 p2 hu (fun j h1 h2 => by
    obtain ⟨t, et⟩ := at1 j h1
    obtain ⟨t', et'⟩ := at2 j h2
    rw [et, et']
    have z : (ns.getD j 0 == ms.getD j 0) = decide (ns.getD j 0 = ms.getD j 0) := by
      by_cases q : ns.getD j 0 = ms.getD j 0
      · rw [decide_eq_true q]; exact beq_iff_eq.mpr q
      · rw [decide_eq_false q]; exact beq_eq_false_iff_ne.mpr q
    rw [← z]
    exact SeqAt.EqAt.int_int _ _ _ _) (fun j h1 h2 _ => by
    obtain ⟨t, et⟩ := at1 j h1
    obtain ⟨t', et'⟩ := at2 j h2
    rw [et, et']
    exact Ob.RcOp.ge_int _ _ _ _)
  rw [e1, e2] at R
  have z : wpAny (model X.prog X.w) X.A (compareOp .GtE (.ref a) (.ref b)) (EP X pins σ Q) X.xe s := R X.prog X.w X.xe (EP X pins σ Q) ⟨.bl _, H, I, rfl, q⟩
  exact z
end L2
namespace DL
open PySem PySem.Spec PyProof.Rows L2 Evl
/-- the order of pairs -/
def geP (x y : Int × Int) : Bool := if x.1 = y.1 then decide (y.2 ≤ x.2) else decide (y.1 ≤ x.1)
theorem pair_tup {x : Int × Int} : pT D.int D.int x = tT D.int [x.1, x.2] := rfl
theorem v_geP {K : PySem.W.Frag} {x y : Int × Int} : RV2 K (rGeT K) (pT D.int D.int x) (pT D.int D.int y) (.bl (geP x y)) := rv_scal fun u w Hb H ex h1 h2 => by
  rw [pair_tup] at h1 h2
  cases h1 with
  | @tup a vs _ ha r1 =>
    cases h2 with
    | @tup b ws _ hb r2 =>
      have e1 := r1.ints
      have e2 := r2.ints
      subst e1 e2
      refine ⟨.bl (geP x y), .bl _, fun Q q => ⟨a, b, [x.1, x.2], [y.1, y.2], rfl, rfl, xt ex ha, xt ex hb, ?_⟩⟩
      have e : Ob.lexAt (fun j => decide ([x.1, x.2].getD j 0 = [y.1, y.2].getD j 0)) (fun j => decide ([y.1, y.2].getD j 0 ≤ [x.1, x.2].getD j 0)) (decide ([x.1, x.2].length ≥ [y.1, y.2].length)) 0 (min [x.1, x.2].length [y.1, y.2].length) = geP x y := by
        show (if decide (x.1 = y.1) = true then (if decide (x.2 = y.2) = true then decide (2 ≥ 2) else decide (y.2 ≤ x.2)) else decide (y.1 ≤ x.1)) = _
        unfold geP
        by_cases c : x.1 = y.1
        · rw [if_pos (decide_eq_true c), if_pos c]
          by_cases c2 : x.2 = y.2
          · rw [if_pos (decide_eq_true c2), decide_eq_true (by omega : y.2 ≤ x.2)]
            rfl
          · rw [if_neg (by simpa using c2)]
        · rw [if_neg (by simpa using c), if_neg c]
      rw [e]
      exact q
/-! ### isinstance with own classes, with (tuple, list) -/
section
variable {X : Cx} {Γ : List Sl} {m : Bool} {a b e : Expr} {pos p pt pt2 : Pos} {C C' : Addr} {ns : List Str} {ds : List D} {x x' : Str} {d : D}
def rIsiC (K : PySem.W.Frag) (C : Addr) (t : Value) (r : Bool) : Prop := PySem.W.kitOne K t (.ref C) = some r
theorem xv_isiC {r : Bool} (Dx : Dc X.K X.mg x C) (Dy : Dc X.K X.mg x' C') (ha : XV X a Γ (.ins C' ns ds)) (h2 : PySem.W.kitOne X.K (.ref C') (.ref C) = some r) (hm : X.mg "isinstance" = none) (hb : bootBuiltins "isinstance" = some (.builtin "isinstance") := by decide +kernel)
    (hg : Gl X "isinstance" := by rfl) (hg2 : Gl X x := by rfl) (hdb2 : (x == ("__debug__" : Str)) = false := by decide)
    (hs : starEach [a, .Name x pt] X.env = (false, eval a X.env) :: starEach [.Name x pt] X.env := by rfl) (hs2 : starEach [.Name x pt] X.env = (false, eval (.Name x pt) X.env) :: starEach [] X.env := by rfl) (hpl : (backTo pos (starEach [.Name x pt] X.env)).any (·.1) = false := by rfl) : XV X (.Call (.Name "isinstance" p) [a, .Name x pt] [] pos) Γ (.bl r) :=
  xe_of (pe_callB call_isi hg hm hb (pa_cons pe_wp (pa_cons (pe_glob (v := .ref C) hg2 Dx.gl rfl hdb2) pa_nil hs2) hs) (by decide) (by decide) hs hpl) fun σ Hb H E Q q => ha σ Hb H E _ fun v d Hb1 H1 p1 g1 E1 r1 => by
    subst p1
    cases r1 with
    | @ins q0 _ dx fs vs _ _ k1 k2 k3 k4 => exact ⟨.ref q0, .ref C, .ref C', .ref C, r, rfl, .own C, .base (.ins (E1.ex _ _ k1) Dy.cl Dy.ha Dy.hn Dy.htk Dy.hm), h2, q (.bl r) (.bl r) Hb1 H1 rfl g1 E1 (.bl r)⟩
theorem xv_isiB {t : String} {r : Bool} (Dx : Dc X.K X.mg x C) (ha : XV X a Γ d) (h1 : d.ty = some t) (h2 : PySem.W.kitOne X.K (.type t) (.ref C) = some r) (hm : X.mg "isinstance" = none) (hb : bootBuiltins "isinstance" = some (.builtin "isinstance") := by decide +kernel)
    (hg : Gl X "isinstance" := by rfl) (hg2 : Gl X x := by rfl) (hdb2 : (x == ("__debug__" : Str)) = false := by decide)
    (hs : starEach [a, .Name x pt] X.env = (false, eval a X.env) :: starEach [.Name x pt] X.env := by rfl) (hs2 : starEach [.Name x pt] X.env = (false, eval (.Name x pt) X.env) :: starEach [] X.env := by rfl) (hpl : (backTo pos (starEach [.Name x pt] X.env)).any (·.1) = false := by rfl) : XV X (.Call (.Name "isinstance" p) [a, .Name x pt] [] pos) Γ (.bl r) :=
  xe_of (pe_callB call_isi hg hm hb (pa_cons pe_wp (pa_cons (pe_glob (v := .ref C) hg2 Dx.gl rfl hdb2) pa_nil hs2) hs) (by decide) (by decide) hs hpl) fun σ Hb H E Q q => ha σ Hb H E _ fun v z Hb1 H1 p1 g1 E1 r1 => by
    subst p1
    exact ⟨v, .ref C, .type t, .ref C, r, rfl, .own C, ty_of (r1.mono E1.ex) h1, h2, q (.bl r) (.bl r) Hb1 H1 rfl g1 E1 (.bl r)⟩
/-- isinstance(x, (S, T)) -/
theorem kit_two {t S T : String} {r r' : Bool} (h : kitB t S = some r) (h' : kitB t T = some r') {K : PySem.W.Frag} : PySem.W.kitAny K (.type t) [.type S, .type T] = some (r || r') := by
  refine kitAny_cons (b := r) (kit_ty h) (fun e => ?_) (fun e => by rw [e]; rfl)
  subst e
  refine kitAny_cons (b := r') (kit_ty h') (fun e => ?_) (fun e => by rw [e]; rfl)
  subst e
  exact kitAny_nil
theorem xv_isi2 {t : String} {r r' : Bool} (S T : String) {j : Nat} {tp : Pos} (ha : XV X a Γ d) (hm : X.mg "isinstance" = none) (hmS : X.mg (Str.ofString S) = none) (hmT : X.mg (Str.ofString T) = none) (h1 : d.ty = some t := by rfl) (h2 : kitB t S = some r := by decide +kernel) (h3 : kitB t T = some r' := by decide +kernel)
    (hvS : bootBuiltins (Str.ofString S) = some (.type S) := by decide +kernel) (hvT : bootBuiltins (Str.ofString T) = some (.type T) := by decide +kernel) (hb : bootBuiltins "isinstance" = some (.builtin "isinstance") := by decide +kernel)
    (hg : Gl X "isinstance" := by rfl) (hgS : Gl X (Str.ofString S) := by rfl) (hgT : Gl X (Str.ofString T) := by rfl) (hnS : (Str.ofString S) ≠ "__name__" := by decide) (hdS : ((Str.ofString S) == ("__debug__" : Str)) = false := by decide) (hnT : (Str.ofString T) ≠ "__name__" := by decide) (hdT : ((Str.ofString T) == ("__debug__" : Str)) = false := by decide)
    (hs : starEach [a, .Tuple [.Name (Str.ofString S) pt, .Name (Str.ofString T) pt2] j tp] X.env = (false, eval a X.env) :: starEach [.Tuple [.Name (Str.ofString S) pt, .Name (Str.ofString T) pt2] j tp] X.env := by rfl) (hs2 : starEach [.Tuple [.Name (Str.ofString S) pt, .Name (Str.ofString T) pt2] j tp] X.env = (false, eval (.Tuple [.Name (Str.ofString S) pt, .Name (Str.ofString T) pt2] j tp) X.env) :: starEach [] X.env := by rfl)
    (ht1 : starEach [.Name (Str.ofString S) pt, .Name (Str.ofString T) pt2] X.env = (false, eval (.Name (Str.ofString S) pt) X.env) :: starEach [.Name (Str.ofString T) pt2] X.env := by rfl) (ht2 : starEach [.Name (Str.ofString T) pt2] X.env = (false, eval (.Name (Str.ofString T) pt2) X.env) :: starEach [] X.env := by rfl) (hpl : (backTo pos (starEach [.Tuple [.Name (Str.ofString S) pt, .Name (Str.ofString T) pt2] j tp] X.env)).any (·.1) = false := by rfl) :
    XV X (.Call (.Name "isinstance" p) [a, .Tuple [.Name (Str.ofString S) pt, .Name (Str.ofString T) pt2] j tp] [] pos) Γ (.bl (r || r')) :=
  xe_of (pe_callB call_isiT hg hm hb (pa_cons pe_wp (pa_cons (pe_tup (pa_cons (pe_bltn (v := .ty S) hgS hmS hvS rfl hnS hdS) (pa_cons (pe_bltn (v := .ty T) hgT hmT hvT rfl hnT hdT) pa_nil ht2) ht1)) pa_nil hs2) hs) (by decide) (by decide) hs hpl) fun σ Hb H E Q q => ha σ Hb H E _ fun v z Hb1 H1 p1 g1 E1 r1 => by
    subst p1
    refine ⟨by show (2 : Nat) ≤ sizeLine; rw [sizeLine_eq]; omega, fun c hc => ?_⟩
    have n1 := New.side (o := .tup [.ty S, .ty T]) E1.ex hc
    have E2 := E1.new n1
    exact ⟨v, c, [.ty S, .ty T], .type t, [.type S, .type T], r || r', rfl, upd_same, .cons (.ty S) (.cons (.ty T) .nil), ty_of (r1.mono E2.ex) h1, kit_two h2 h3, q (.bl _) (.bl _) Hb1 _ rfl (gwn g1 n1) E2 (.bl _)⟩
end
end DL

namespace DL
open PySem PySem.Spec PyProof.Rows L2 Evl
/-! ### the drawn numbers' state of _law_draw: [turn, rest] -/
def dwM (i r : Int) : MO := .ml [.int i, .int r]
def dwB (i r : Int) : Prop := 0 ≤ i ∧ 0 ≤ r
def dwO : MO := .inv fun K Hb o => ∃ i r, dwB i r ∧ MR K Hb o (dwM i r)
def dwR (o : MO) : Prop := ∃ i r, dwB i r ∧ o = dwM i r
section
variable {K : PySem.W.Frag} {Hb : Hp} {u : HO} {o : MO}
theorem dw_in (h : dwR o) (r : MR K Hb u o) : MR K Hb u dwO := ⟨fun xs e => by
  exact r.nt xs (congrArg some e), fun Hb' e => by
  obtain ⟨i, r', b, rfl⟩ := h
  exact ⟨i, r', b, r.mono e⟩⟩
theorem dw_out (r : MR K Hb u dwO) : ∃ o', dwR o' ∧ MR K Hb u o' := by
  obtain ⟨i, r', b, h⟩ := r.2 Hb (Ex.refl Hb)
  exact ⟨_, ⟨i, r', b, rfl⟩, h⟩
end
def cDraw : Con := fun ds Φ => ∃ (ns : List Int) (size : Int), ds = [.sc ns, .int size] ∧ (1 ≤ size ∧ size < 1073741824) ∧ ∀ v, 0 ≤ v → v < size → Φ (.int v)
section
variable {X : Cx} {Γ : List Sl} {m : Bool} {e e2 : Expr} {pos p py pz : Pos} {y z : Str} {k : Nat}
theorem xe_draw (i : Nat) {L : Int} {ns : List Int} (c : Cal X.prog X.w X.K X.mg X.base k "_law_draw" ["state", "script", "size"] (spE X.K dwO cDraw)) (hr : Room k X.A) (hs : XV X e2 Γ (.sc ns)) (ha : XV X e Γ (.int L)) (hL : 1 ≤ L ∧ L < 1073741824) (h : Γ[i]? = some (.ow dwO) := by rfl) (hN : X.N[i]? = some y := by rfl) (hv : Vis X.env.scope y := by first | exact Or.inl rfl | exact Or.inr (Or.inl rfl) | exact Or.inr (Or.inr rfl)) (hd : (y == ("__debug__" : Str)) = false := by decide)
    (hcd : (y == ("__classdict__" : Str)) = false := by decide) (hg : Gl X "_law_draw" := by rfl) (he : starEach [.Name y py, e2, e] X.env = (false, eval (.Name y py) X.env) :: starEach [e2, e] X.env := by rfl) (he2 : starEach [e2, e] X.env = (false, eval e2 X.env) :: starEach [e] X.env := by rfl) (he3 : starEach [e] X.env = (false, eval e X.env) :: starEach [] X.env := by rfl) (hpl : (backTo pos (starEach [e2, e] X.env)).any (·.1) = false := by rfl) :
    XE X true (.Call (.Name "_law_draw" p) [.Name y py, e2, e] [] pos) Γ (dInt L) :=
  xe_callE i c hr (xl_cons hs (xl_cons ha xa_nil he3) he2).up (fun ds h => ⟨ns, L, h, hL, fun v h0 h1 => ⟨v, rfl, h0, h1⟩⟩) h hN hv hd hcd hg (by decide) he hpl
end
end DL

namespace K36
open PySem PySem.Spec PyProof.Rows L2 Evl DL
def topS (i : Nat) : Stmt := PySem.Challenge.pw_worldwright_k36_whole_worlds_that_are_fo.main.body.getD i (.Pass ⟨0, 0, 0, 0⟩)
section
variable {P : Program} {w : World} {K : PySem.W.Frag} {mg : Str → Option Value} {base : Heap}
abbrev s_draw : Stmt := topS 22
abbrev n_draw : List Str := ["state", "script", "size", "cell", "mixed", "digit"]
theorem sc_draw : FnScope n_draw ["state", "script", "size"] (defScope s_draw) := ⟨rfl, rfl, rfl, by decide +kernel, rfl, by decide +kernel, by decide +kernel⟩
theorem ok_draw {f : Addr} {fd : FuncData} (F : Fun K "_law_draw" "_law_draw" s_draw f fd) (m_len : mg "len" = none) (m_int : mg "int" = none) : FnOk P w K mg base CX0 (0 + 1) f fd ["state", "script", "size"] (spE K dwO cDraw) := by
  refine fn_eff (o := dwO) dwR (fun Hb u o' h r => dw_in h r) F sc_draw (fun ds Φ ⟨ns, l, h, _⟩ => by rw [h]; rfl) fun cdv A outer s0 H E hr ds Φ ⟨ns, size, hd, ⟨hl, hl2⟩, hΦ⟩ => ?_
  subst hd
  have tail : ∀ i r, dwB i r → XSs (cxF P w K mg base n_draw "_law_draw" s_draw f cdv A outer s0 H E) 1 ((defBody s_draw).drop 1) [.ow (dwM i r), .pd (.sc ns), .pd (.int size), .un, .un, .un] { nx := fun Γ' => Φ .non ∧ ∃ o', dwR o' ∧ Γ'[0]? = some (.ow o'), rt := fun d Γ' => Φ d ∧ ∃ o', dwR o' ∧ Γ'[0]? = some (.ow o') } := fun i r ⟨h1, h2⟩ => by
    refine xs_cons (xs_asgV 5 (xv_borrow 0 (xv_bin op_mod (v_mod (j := size) (by omega)) (xv_intI (xv_ix ix_list (v_ixL rfl) (xv_var 0) xv_int) m_int) (xv_var 2))) ?_ sc_draw.nd)
    refine xs_cons (xs_setO 0 1 (xv_borrow 0 (xv_bin op_fdiv (v_fdiv (j := size) ⟨by omega, by omega⟩) (xv_ix ix_list (v_ixL rfl) (xv_var 0) xv_int) (xv_var 2))) xv_int rfl fun d hd => ?_)
    subst hd
    exact xs_cons (xs_retV (xv_var 5) ⟨hΦ _ (Int.emod_nonneg _ (by omega)) (Int.emod_lt_of_pos _ (by omega)), dwM i (r / size), ⟨i, r / size, ⟨h1, Int.ediv_nonneg h2 (by omega)⟩, rfl⟩, rfl⟩)
  refine xs_case 0 (P := dwR) (fun Hb u r => dw_out r) fun o' ⟨i, r, hb, ho⟩ => ?_
  subst ho
  obtain ⟨h1, h2⟩ := hb
  refine xs_cons (xs_if (xt_borrow 0 (xb_cmp op_eq v_eqI (xv_ix ix_list (v_ixL rfl) (xv_var 0) xv_int) xv_int)) (fun c => ?_) (fun c => ?_))
  · refine xs_cons (xs_asgV 3 xv_int ?_ sc_draw.nd)
    have p1 : ∀ cell : Int, XSs (cxF P w K mg base n_draw "_law_draw" s_draw f cdv A outer s0 H E) 1 (((defBody s_draw)[0]?.map fun s => (match s with | .If _ b _ _ => b | _ => [])).getD [] |>.drop 2) [.ow (dwM i r), .pd (.sc ns), .pd (.int size), .pd (.int cell), .un, .un] { nx := fun Γ' => XSs (cxF P w K mg base n_draw "_law_draw" s_draw f cdv A outer s0 H E) 1 ((defBody s_draw).drop 1) Γ' { nx := fun Γ' => Φ .non ∧ ∃ o', dwR o' ∧ Γ'[0]? = some (.ow o'), rt := fun d Γ' => Φ d ∧ ∃ o', dwR o' ∧ Γ'[0]? = some (.ow o') }, rt := fun d Γ' => Φ d ∧ ∃ o', dwR o' ∧ Γ'[0]? = some (.ow o') } := fun cell => by
      have p2 : ∀ cell : Int, XSs (cxF P w K mg base n_draw "_law_draw" s_draw f cdv A outer s0 H E) 1 (((defBody s_draw)[0]?.map fun s => (match s with | .If _ b _ _ => b | _ => [])).getD [] |>.drop 3) [.ow (dwM i r), .pd (.sc ns), .pd (.int size), .pd (.int cell), .un, .un] { nx := fun Γ' => XSs (cxF P w K mg base n_draw "_law_draw" s_draw f cdv A outer s0 H E) 1 ((defBody s_draw).drop 1) Γ' { nx := fun Γ' => Φ .non ∧ ∃ o', dwR o' ∧ Γ'[0]? = some (.ow o'), rt := fun d Γ' => Φ d ∧ ∃ o', dwR o' ∧ Γ'[0]? = some (.ow o') }, rt := fun d Γ' => Φ d ∧ ∃ o', dwR o' ∧ Γ'[0]? = some (.ow o') } := fun cell => by
        refine xs_cons (xs_asgV 4 (xv_borrow 0 (xv_bin op_mod (v_mod (j := 2147483647) (by omega)) (xv_intI (xv_bin op_mul (v_mul (.inr (by omega))) (xv_bin op_add v_add (xv_bin op_add v_add (xv_var 3) (xv_bin op_mul (v_mul (.inr (by omega))) (xv_ix ix_list (v_ixL rfl) (xv_var 0) xv_int) xv_int)) xv_int) xv_int) m_int) xv_int)) ?_ sc_draw.nd)
        generalize ((cell + i * 7919 + 1) * 48271) % 2147483647 = mixed
        refine xs_cons (xs_setO 0 1 (xv_borrow 0 (xv_bin op_mod (v_mod (j := 4294967291) (by omega)) (xv_intI (xv_bin op_add v_add (xv_bin op_mul (v_mul (.inr (by omega))) (xv_var 4) xv_int) (xv_bin op_mul (v_mul (.inr (by omega))) (xv_ix ix_list (v_ixL rfl) (xv_var 0) xv_int) xv_int)) m_int) xv_int)) xv_int rfl fun d hd => ?_)
        subst hd
        have b0 := Int.emod_nonneg (mixed * 69621 + i * 104729) (b := 4294967291) (by omega)
        refine xs_cons (xs_if (xt_borrow 0 (xt_w (xb_and (xb_cmp op_ge v_ge (xv_var 3) (xv_bin op_pow (v_pow ⟨by omega, by omega, by decide⟩) xv_int xv_int)) (fun _ => xw_and1 (xb_cmp op_lt v_lt (xv_ix ix_list (v_ixL rfl) (xv_var 0) xv_int) (xv_lenSc (xv_var 1) m_len)))))) (fun c => ?_) (fun c => ?_))
        · have c1 := of_decide_eq_true (Bool.and_eq_true_iff.mp c.symm).1
          have e18 : ((10 : Int) ^ (18 : Int).toNat) = 1000000000000000000 := by decide
          refine xs_cons (xs_setO 0 1 (xv_var 3) xv_int rfl fun d hd => ?_)
          subst hd
          refine xs_nil ?_
          refine xs_cons (xs_setO 0 0 (xv_borrow 0 (xv_bin op_add v_add (xv_ix ix_list (v_ixL rfl) (xv_var 0) xv_int) xv_int)) xv_int rfl fun d hd => ?_)
          subst hd
          exact xs_nil ((tail (i + 1) cell ⟨by omega, by rw [e18] at c1; omega⟩).le (le_eq (le_eq (le_eq (le_un (le_un (le_un le_nil)))))))
        · refine xs_nil ?_
          refine xs_cons (xs_setO 0 0 (xv_borrow 0 (xv_bin op_add v_add (xv_ix ix_list (v_ixL rfl) (xv_var 0) xv_int) xv_int)) xv_int rfl fun d hd => ?_)
          subst hd
          exact xs_nil ((tail (i + 1) _ ⟨by omega, b0⟩).le (le_eq (le_eq (le_eq (le_un (le_un (le_un le_nil)))))))
      refine xs_cons (xs_if (xb_cmp op_lt v_lt (xv_var 3) xv_int) (fun c => ?_) (fun c => ?_))
      · refine xs_cons (xs_asgV 3 (xv_bin op_sub v_sub xv_int (xv_bin op_mul (v_mul (.inl (by omega))) xv_int (xv_var 3))) ?_ sc_draw.nd)
        exact xs_nil (p2 _)
      · exact xs_nil (p2 _)
    refine xs_cons (xs_if (xb_cmp op_gt v_gt (xv_lenSc (xv_var 1) m_len) xv_int) (fun c => ?_) (fun c => ?_))
    · have c : (0 : Int) < (ns.length : Int) := of_decide_eq_true c.symm
      refine xs_cons (xs_asgV 3 (d := .int (ns.getD (i % (ns.length : Int)).toNat 0)) (xv_borrow 0 (xv_ix ix_list (v_ixSc (atI_getD (Int.emod_nonneg _ (by omega)) (Int.emod_lt_of_pos _ (by omega)))) (xv_var 1) (xv_bin op_mod (v_mod (by omega)) (xv_ix ix_list (v_ixL rfl) (xv_var 0) xv_int) (xv_lenSc (xv_var 1) m_len)))) ?_ sc_draw.nd)
      exact xs_nil (p1 _)
    · exact xs_nil (p1 _)
  · exact xs_nil ((tail i r ⟨h1, h2⟩).le (le_eq (le_eq (le_eq (le_un (le_un (le_un le_nil)))))))
end
end K36

namespace WF
open PySem PySem.Spec PyProof.Rows L2 Evl DL
/-! ### frames and models, as data -/
abbrev tP : Int × Int → D := pT D.int D.int
/-- the way the rules decide it -/
instance (priority := 3000) decPair (p : Int × Int) (l : List (Int × Int)) : Decidable (p ∈ l) := @List.instDecidableMemOfLawfulBEq (Int × Int) instBEqOfDecidableEq _ p l
structure Fr where
  many : Nat
  arrows : List (List (Int × Int))
structure Mo where
  fr : Fr
  marks : List (List Int)
abbrev eFr (C : Addr) (f : Fr) : D := .ins C ["many", "arrows"] [.int f.many, tT (tT tP) f.arrows]
abbrev eMo (C CM : Addr) (m : Mo) : D := .ins CM ["frame", "marks"] [eFr C m.fr, tT (tT D.int) m.marks]
/-- what the text must have of the classes -/
structure FrK (K : PySem.W.Frag) (mg : Str → Option Value) (C : Addr) : Prop where
  dc : Dc K mg "Frame" C
  many : NoAttr K C "many"
  arrows : NoAttr K C "arrows"
  same : PySem.W.kitOne K (.ref C) (.ref C) = some true
structure MoK (K : PySem.W.Frag) (mg : Str → Option Value) (C : Addr) : Prop where
  dc : Dc K mg "Model" C
  frame : NoAttr K C "frame"
  marks : NoAttr K C "marks"
  same : PySem.W.kitOne K (.ref C) (.ref C) = some true
def lessP (x y : Int × Int) : Prop := x.1 < y.1 ∨ (x.1 = y.1 ∧ x.2 < y.2)
def okA (n : Nat) (r : List (Int × Int)) : Prop := (∀ p ∈ r, (0 ≤ p.1 ∧ p.1 < (n : Int)) ∧ 0 ≤ p.2 ∧ p.2 < (n : Int)) ∧ r.Pairwise lessP ∧ r.length ≤ 100
def okS (n : Nat) (s : List Int) : Prop := (∀ x ∈ s, 0 ≤ x ∧ x < (n : Int)) ∧ s.Pairwise (· < ·) ∧ s.length ≤ 100
structure Fr.ok (f : Fr) : Prop where
  n1 : 1 ≤ f.many
  n2 : f.many ≤ 20
  len : f.arrows.length ≤ 20
  arr : ∀ r ∈ f.arrows, okA f.many r
structure Mo.ok (m : Mo) : Prop where
  fr : m.fr.ok
  len : m.marks.length ≤ 20
  mks : ∀ s ∈ m.marks, okS m.fr.many s
def seesL (f : Fr) (i x : Int) : List Int := if (f.arrows.length : Int) ≤ i then [] else (((f.arrows.getD (i).toNat []).filter fun x0 => (decide (x0.1 = x))).map fun x0 => x0.2)
/-! ### promises -/
def cIdx : Con := fun ds Φ => ∃ i : Int, ds = [.int i] ∧ Φ (.bl (decide (0 ≤ i)))
def cWld : Con := fun ds Φ => ∃ i n : Int, ds = [.int i, .int n] ∧ Φ (.bl (decide (0 ≤ i) && decide (i < n)))
def cWset : Con := fun ds Φ => ∃ (s : List Int) (n : Nat), ds = [tT D.int s, .int n] ∧ okS n s ∧ Φ (.bl true)
def cRel : Con := fun ds Φ => ∃ (r : List (Int × Int)) (n : Nat), ds = [tT tP r, .int n] ∧ okA n r ∧ Φ (.bl true)
def cFrI (C : Addr) : List D → (MO → Prop) → Prop := fun ds Φ => ∃ f : Fr, ds = [.int f.many, tT (tT tP) f.arrows] ∧ f.ok ∧ Φ (oI C ["many", "arrows"] [.int f.many, tT (tT tP) f.arrows])
def cMoI (C CM : Addr) : List D → (MO → Prop) → Prop := fun ds Φ => ∃ m : Mo, ds = [eFr C m.fr, tT (tT D.int) m.marks] ∧ m.ok ∧ Φ (oI CM ["frame", "marks"] [eFr C m.fr, tT (tT D.int) m.marks])
def cSees (C : Addr) : Con := fun ds Φ => ∃ (f : Fr) (i x : Int), ds = [eFr C f, .int i, .int x] ∧ (f.ok ∧ 0 ≤ i) ∧ Φ (tT D.int (seesL f i x))
theorem no_ge {n : Nat} {s : List Int} (h : okS n s) {k : Int} (h0 : 0 ≤ k) (h1 : k + 1 < (s.length : Int)) : s.getD k.toNat 0 < s.getD (k + 1).toNat 0 := by
  have e : (k + 1).toNat = k.toNat + 1 := by omega
  rw [e, List.getD_eq_getElem?_getD, List.getD_eq_getElem?_getD, List.getElem?_eq_getElem (by omega), List.getElem?_eq_getElem (by omega)]
  exact List.pairwise_iff_getElem.mp h.2.1 k.toNat (k.toNat + 1) (by omega) (by omega) (by omega)
theorem no_geP {n : Nat} {s : List (Int × Int)} (h : okA n s) {k : Int} (h0 : 0 ≤ k) (h1 : k + 1 < (s.length : Int)) : geP (s.getD k.toNat (0, 0)) (s.getD (k + 1).toNat (0, 0)) = false := by
  have e : (k + 1).toNat = k.toNat + 1 := by omega
  rw [e, List.getD_eq_getElem?_getD, List.getD_eq_getElem?_getD, List.getElem?_eq_getElem (by omega), List.getElem?_eq_getElem (by omega)]
  have := List.pairwise_iff_getElem.mp h.2.1 k.toNat (k.toNat + 1) (by omega) (by omega) (by omega)
  show geP s[k.toNat] s[k.toNat + 1] = false
  unfold geP
  rcases this with q | ⟨q, q2⟩
  · rw [if_neg (by omega)]
    exact decide_eq_false (by omega)
  · rw [if_pos q]
    exact decide_eq_false (by omega)
theorem any_no {l : List Int} {p : Int → Bool} (h : ∀ x ∈ l, p x = false) : ((l.map p).any id) = false := by
  rw [List.any_eq_false]
  intro b hb
  obtain ⟨x, hx, rfl⟩ := List.mem_map.mp hb
  rw [h x hx]
  decide
theorem all_yes {α : Type} {l : List α} {p : α → Bool} (h : ∀ x ∈ l, p x = true) : ((l.map p).all id) = true := by
  rw [List.all_eq_true]
  intro b hb
  obtain ⟨x, hx, rfl⟩ := List.mem_map.mp hb
  exact h x hx
theorem getD_in {α : Type} {l : List α} {d : α} {k : Int} (h0 : 0 ≤ k) (h1 : k < (l.length : Int)) : l.getD k.toNat d ∈ l := by
  rw [List.getD_eq_getElem?_getD, List.getElem?_eq_getElem (by omega)]
  exact List.getElem_mem _
theorem getD_len {f : Fr} (h : f.ok) {i : Int} : (f.arrows.getD i.toNat []).length ≤ 100 := by
  rw [List.getD_eq_getElem?_getD]
  cases e : f.arrows[i.toNat]? with
  | none => exact Nat.zero_le _
  | some r => exact (h.arr r (List.mem_of_getElem? e)).2.2
end WF

namespace K36
open PySem PySem.Spec PyProof.Rows L2 Evl DL WF
def methS (i j : Nat) : Stmt := match topS i with
  | .ClassDef _ _ _ body .. => body.getD j (.Pass ⟨0, 0, 0, 0⟩)
  | s => s
section
variable {P : Program} {w : World} {K : PySem.W.Frag} {mg : Str → Option Value} {base : Heap}
abbrev s_is_index : Stmt := topS 14
abbrev n_is_index : List Str := ["value"]
theorem sc_is_index : FnScope n_is_index ["value"] (defScope s_is_index) := ⟨rfl, rfl, rfl, by decide +kernel, rfl, by decide +kernel, by decide +kernel⟩
theorem ok_is_index {f : Addr} {fd : FuncData} (F : Fun K "is_index" "is_index" s_is_index f fd) (m_isinstance : mg "isinstance" = none) (m_int : mg "int" = none) (m_bool : mg "bool" = none) : FnOk P w K mg base CX0 (0 + 1) f fd ["value"] (spP K cIdx) := by
  refine fn_pure F sc_is_index (fun ds Φ ⟨i, hd, hΦ⟩ => by rw [hd]; rfl) fun cdv A outer s0 H E hr ds Φ ⟨i, hd, hΦ⟩ => ?_
  subst hd
  exact xs_cons (xs_retV (xv_and (xv_isi "int" (xv_var 0) m_isinstance m_int (t := "int") (b := true)) (fun _ => (xv_and (xv_not (xv_isi "bool" (xv_var 0) m_isinstance m_bool (t := "int") (b := false))) (fun _ => (xv_one (xv_cmp op_ge v_ge (xv_var 0) xv_int)))))) hΦ)
abbrev s_is_world : Stmt := topS 16
abbrev n_is_world : List Str := ["value", "many"]
theorem sc_is_world : FnScope n_is_world ["value", "many"] (defScope s_is_world) := ⟨rfl, rfl, rfl, by decide +kernel, rfl, by decide +kernel, by decide +kernel⟩
theorem ok_is_world {f : Addr} {fd : FuncData} (F : Fun K "is_world" "is_world" s_is_world f fd) (c_is_index : Cal P w K mg base 1 "is_index" ["value"] (spP K cIdx)) : FnOk P w K mg base CX0 (1 + 1) f fd ["value", "many"] (spP K cWld) := by
  refine fn_pure F sc_is_world (fun ds Φ ⟨i, n, hd, hΦ⟩ => by rw [hd]; rfl) fun cdv A outer s0 H E hr ds Φ ⟨i, n, hd, hΦ⟩ => ?_
  subst hd
  exact xs_cons (xs_retV (xv_and (xv_call c_is_index (hr.mono (by decide)) (xl_cons (xv_var 0) xa_nil) ⟨i, rfl, rfl⟩) (fun _ => (xv_one (xv_cmp op_lt v_lt (xv_var 0) (xv_var 1))))) hΦ)
abbrev s_is_world_set : Stmt := topS 17
abbrev n_is_world_set : List Str := ["value", "many", "one", "k"]
theorem sc_is_world_set : FnScope n_is_world_set ["value", "many"] (defScope s_is_world_set) := ⟨rfl, rfl, rfl, by decide +kernel, rfl, by decide +kernel, by decide +kernel⟩
theorem ok_is_world_set {f : Addr} {fd : FuncData} (F : Fun K "is_world_set" "is_world_set" s_is_world_set f fd) (c_is_world : Cal P w K mg base 2 "is_world" ["value", "many"] (spP K cWld)) (m_isinstance : mg "isinstance" = none) (m_tuple : mg "tuple" = none) (m_all : mg "all" = none) (m_any : mg "any" = none) (m_len : mg "len" = none) (m_range : mg "range" = none) : FnOk P w K mg base CX0 (2 + 1) f fd ["value", "many"] (spP K cWset) := by
  refine fn_pure F sc_is_world_set (fun ds Φ ⟨s, n, hd, hs, hΦ⟩ => by rw [hd]; rfl) fun cdv A outer s0 H E hr ds Φ ⟨s, n, hd, hs, hΦ⟩ => ?_
  subst hd
  have hsl := hs.2.2
  have yes : ((s.map fun one => (decide (0 ≤ one) && decide (one < (n : Int)))).all id) = true := all_yes fun x hx => by
    have := hs.1 x hx
    rw [decide_eq_true this.1, decide_eq_true this.2]
    rfl
  have no : (((rng 0 ((s.length : Int) - 1)).map fun k => (decide ((s.getD ((k + 1)).toNat 0) ≤ (s.getD (k).toNat 0)))).any id) = false := any_no fun k hk => by
    have hk := mem_rng.mp hk
    have := no_ge hs (k := k) (by omega) (by omega)
    exact decide_eq_false (by omega)
  refine xs_cons (xs_if (xt_w (xb_or (xb_not (xb_val (xv_isi "tuple" (xv_var 0) m_isinstance m_tuple (t := "tuple") (b := true)))) (fun _ => (xw_or1 (xb_not (xb_val (xv_all (xo_map (f := D.int) (xs := s) [2] (fun one => [D.int one]) D.bl (fun one => (decide (0 ≤ one) && decide (one < (n : Int)))) [("one", 2)] (xw_tupT (f := D.int) (xv_var 0)) (fun _ _ _ _ _ => pg_name (i := 2) sc_is_world_set.nd rfl (by first | exact Or.inl rfl | exact Or.inr rfl)) (fun _ _ => gt_name) (fun one hone _ _ _ _ _ => (xv_call c_is_world (hr.mono (by decide)) (xl_cons (xv_var 2) (xl_cons (xv_var 1) xa_nil)) ⟨one, (n : Int), rfl, rfl⟩)) (by omega) (blkOk_by (N := n_is_world_set) (sc := defScope s_is_world_set) (by decide +kernel)) sc_is_world_set.nd).frz m_all))))))) (fun h1 => by rw [yes] at h1; cases h1) (fun h1 => ?_))
  ·
    refine xs_nil ?_
    exact xs_cons (xs_retV (xv_not (xv_any (xo_map (f := D.int) (xs := (rng 0 ((s.length : Int) - 1))) [3] (fun k => [D.int k]) D.bl (fun k => (decide ((s.getD ((k + 1)).toNat 0) ≤ (s.getD (k).toNat 0)))) [("k", 3)] (xw_range1 (xl_cons (xv_bin op_sub v_sub (xv_lenTT (f := D.int) (xv_var 0) m_len) xv_int) xa_nil) (by omega) m_range (by omega)) (fun _ _ _ _ _ => pg_name (i := 3) sc_is_world_set.nd rfl (by first | exact Or.inl rfl | exact Or.inr rfl)) (fun _ _ => gt_name) (fun k hk _ _ _ _ _ => (xv_cmp op_ge v_ge (xv_ix ix_tup (v_ixTT (f := D.int) (atI_getD (by have mk := mem_rng.mp hk; omega) (by have mk := mem_rng.mp hk; omega))) (xv_var 0) (xv_var 3)) (xv_ix ix_tup (v_ixTT (f := D.int) (atI_getD (by have mk := mem_rng.mp hk; omega) (by have mk := mem_rng.mp hk; omega))) (xv_var 0) (xv_bin op_add v_add (xv_var 3) xv_int)))) (by rw [rng_len]; omega) (blkOk_by (N := n_is_world_set) (sc := defScope s_is_world_set) (by decide +kernel)) sc_is_world_set.nd).frz m_any)) (by rw [no]; exact hΦ))
abbrev s_is_relation : Stmt := topS 18
abbrev n_is_relation : List Str := ["value", "many", "pair", "one", "k"]
theorem sc_is_relation : FnScope n_is_relation ["value", "many"] (defScope s_is_relation) := ⟨rfl, rfl, rfl, by decide +kernel, rfl, by decide +kernel, by decide +kernel⟩
theorem ok_is_relation {f : Addr} {fd : FuncData} (F : Fun K "is_relation" "is_relation" s_is_relation f fd) (c_is_world : Cal P w K mg base 2 "is_world" ["value", "many"] (spP K cWld)) (m_isinstance : mg "isinstance" = none) (m_tuple : mg "tuple" = none) (m_all : mg "all" = none) (m_any : mg "any" = none) (m_len : mg "len" = none) (m_range : mg "range" = none) : FnOk P w K mg base CX0 (2 + 1) f fd ["value", "many"] (spP K cRel) := by
  refine fn_pure F sc_is_relation (fun ds Φ ⟨r, n, hd, hs, hΦ⟩ => by rw [hd]; rfl) fun cdv A outer s0 H E hr ds Φ ⟨r, n, hd, hs, hΦ⟩ => ?_
  subst hd
  have hu64 := hu_64 hr
  have hu65 := hu_65 hr
  have hu0 : (A.deeper (envOfC "is_relation" (defScope s_is_relation) s0.heap.objs.size f cdv)).units < cLine := by omega
  have hsl := hs.2.2
  have no : (((rng 0 ((r.length : Int) - 1)).map fun k => (geP (r.getD (k).toNat (0, 0)) (r.getD ((k + 1)).toNat (0, 0)))).any id) = false := any_no fun k hk => by
    have hk := mem_rng.mp hk
    exact no_geP hs (by omega) (by omega)
  refine xs_cons (xs_if (xb_not (xb_val (xv_isi "tuple" (xv_var 0) m_isinstance m_tuple (t := "tuple") (b := true)))) (fun h1 => by cases h1) (fun h1 => ?_))
  ·
    refine xs_nil ?_
    refine xs_loop (f := (pT D.int D.int)) (xs := r) (js := [2]) (fun pair => [(pT D.int D.int) pair]) (fun _ : Unit => [.pd (tT tP r), .pd (.int (n : Int)), .un, .un, .un]) (fun _ => ()) (xw_tupT (f := (pT D.int D.int)) (xv_var 0)) (pg_name (i := 2) sc_is_relation.nd rfl (by first | exact Or.inl rfl | exact Or.inr rfl)) (fun _ _ => gt_name) (by repeat (first | exact le_nil | refine le_eq ?_ | refine le_un ?_)) (fun pre pair post hx => ?_) ?_ PassesOwn.never
    ·
      have hp := hs.1 pair (by rw [hx]; simp)
      have yes : (([pair.1, pair.2].map fun one => (decide (0 ≤ one) && decide (one < (n : Int)))).all id) = true := all_yes fun x hx => by
        rcases List.mem_cons.mp hx with rfl | hx
        · rw [decide_eq_true hp.1.1, decide_eq_true hp.1.2]; rfl
        · rw [List.mem_singleton.mp hx, decide_eq_true hp.2.1, decide_eq_true hp.2.2]; rfl
      refine xs_cons (xs_if (xt_w (xb_or (xb_not (xb_val (xv_isi "tuple" (xv_var 2) m_isinstance m_tuple (t := "tuple") (b := true)))) (fun _ => (xb_or (xb_cmp op_ne v_neI (xv_lenTT (f := D.int) (l := [pair.1, pair.2]) (XV.is (xv_var 2) rfl) m_len) xv_int) (fun _ => (xw_or1 (xb_not (xb_val (xv_all (xo_map (f := D.int) (xs := [pair.1, pair.2]) [3] (fun one => [D.int one]) D.bl (fun one => (decide (0 ≤ one) && decide (one < (n : Int)))) [("one", 3)] (xw_tupT (f := D.int) (l := [pair.1, pair.2]) (XV.is (xv_var 2) rfl)) (fun _ _ _ _ _ => pg_name (i := 3) sc_is_relation.nd rfl (by first | exact Or.inl rfl | exact Or.inr rfl)) (fun _ _ => gt_name) (fun one hone _ _ _ _ _ => (xv_call c_is_world (hr.mono (by decide)) (xl_cons (xv_var 3) (xl_cons (xv_var 1) xa_nil)) ⟨one, (n : Int), rfl, rfl⟩)) (by simp) (blkOk_by (N := n_is_relation) (sc := defScope s_is_relation) (by decide +kernel)) sc_is_relation.nd).frz m_all))))))))) (fun h2 => by rw [yes] at h2; cases h2) (fun h2 => ?_))
      ·
        refine xs_nil ?_
        exact xs_nil (by repeat (first | exact le_nil | refine le_eq ?_ | refine le_un ?_))
    ·
      exact xs_cons (xs_retV (xv_not (xv_any (xo_map (f := D.int) (xs := (rng 0 ((r.length : Int) - 1))) [4] (fun k => [D.int k]) D.bl (fun k => (geP (r.getD (k).toNat (0, 0)) (r.getD ((k + 1)).toNat (0, 0)))) [("k", 4)] (xw_range1 (xl_cons (xv_bin op_sub v_sub (xv_lenTT (f := (pT D.int D.int)) (xv_var 0) m_len) xv_int) xa_nil) (by omega) m_range (by omega)) (fun _ _ _ _ _ => pg_name (i := 4) sc_is_relation.nd rfl (by first | exact Or.inl rfl | exact Or.inr rfl)) (fun _ _ => gt_name) (fun k hk _ _ _ _ _ => (xv_cmp (op_geT hu0) v_geP (xv_ix ix_tup (v_ixTT (f := (pT D.int D.int)) (atI_getD (by have mk := mem_rng.mp hk; omega) (by have mk := mem_rng.mp hk; omega))) (xv_var 0) (xv_var 4)) (xv_ix ix_tup (v_ixTT (f := (pT D.int D.int)) (atI_getD (by have mk := mem_rng.mp hk; omega) (by have mk := mem_rng.mp hk; omega))) (xv_var 0) (xv_bin op_add v_add (xv_var 4) xv_int)))) (by rw [rng_len]; omega) (blkOk_by (N := n_is_relation) (sc := defScope s_is_relation) (by decide +kernel)) sc_is_relation.nd).frz m_any)) (by rw [no]; exact hΦ))
abbrev s_Frame_sees : Stmt := methS 19 2
abbrev n_Frame_sees : List Str := ["self", "index", "world", "x", "y"]
theorem sc_Frame_sees : FnScope n_Frame_sees ["self", "index", "world"] (defScope s_Frame_sees) := ⟨rfl, rfl, rfl, by decide +kernel, rfl, by decide +kernel, by decide +kernel⟩
theorem ok_Frame_sees {CF : Addr} {f : Addr} {fd : FuncData} (F : Fun K "sees" "Frame.sees" s_Frame_sees f fd) (kF : FrK K mg CF) (m_len : mg "len" = none) (m_tuple : mg "tuple" = none) : FnOk P w K mg base CX0 (0 + 1) f fd ["self", "index", "world"] (spP K (cSees CF)) := by
  refine fn_pure F sc_Frame_sees (fun ds Φ ⟨f0, i, x, hd, ⟨hok, hi⟩, hΦ⟩ => by rw [hd]; rfl) fun cdv A outer s0 H E hr ds Φ ⟨f0, i, x, hd, ⟨hok, hi⟩, hΦ⟩ => ?_
  subst hd
  have hal := hok.len
  have hrow : (f0.arrows.getD (i).toNat []).length ≤ 100 := getD_len hok
  unfold seesL at hΦ
  refine xs_cons (xs_if (xb_cmp op_ge v_ge (xv_var 1) (xv_lenTT (f := (tT (pT D.int D.int))) (xv_fld (d := (tT (tT (pT D.int D.int))) f0.arrows) (xv_var 0) kF.dc.cl kF.arrows) m_len)) (fun h1 => ?_) (fun h1 => ?_))
  ·
    exact xs_cons (xs_retV (xv_tup xa_nil) (by rw [if_pos (of_decide_eq_true h1.symm)] at hΦ; exact hΦ))
  ·
    refine xs_nil ?_
    have h1 := of_decide_eq_false h1.symm
    exact xs_cons (xs_retV (xv_tupleL (f := D.int) (xo_lc (f := (pT D.int D.int)) (xs := (f0.arrows.getD (i).toNat [])) [3, 4] (fun x0 => [D.int x0.1, D.int x0.2]) (fun x0 => (decide (x0.1 = x))) D.int (fun x0 => x0.2) [("x", 3), ("y", 4)] (xw_tupT (f := (pT D.int D.int)) (xv_ix ix_tup (v_ixTT (f := (tT (pT D.int D.int))) (atI_getD (d := []) (by omega) (by omega))) (xv_fld (d := (tT (tT (pT D.int D.int))) f0.arrows) (xv_var 0) kF.dc.cl kF.arrows) (xv_var 1))) (fun _ _ _ _ _ => pg_tup rfl (pgs_cons (pg_name (i := 3) sc_Frame_sees.nd rfl (by first | exact Or.inl rfl | exact Or.inr rfl)) (pgs_cons (pg_name (i := 4) sc_Frame_sees.nd rfl (by first | exact Or.inl rfl | exact Or.inr rfl)) pgs_nil))) (fun _ _ => gt_pair) .one (fun x0 hx0 => jt_wb fun _ _ _ _ _ => (xb_cmp op_eq v_eqI (xv_var 3) (xv_var 2))) (fun x0 hx0 px0 _ _ _ _ _ => (xv_var 4)) (by omega) (blkOk_by (N := n_Frame_sees) (sc := defScope s_Frame_sees) (by decide +kernel)) sc_Frame_sees.nd).frz m_tuple) (by rw [if_neg h1] at hΦ; exact hΦ))
abbrev s_Frame_init : Stmt := methS 19 0
abbrev n_Frame_init : List Str := ["self", "many", "arrows", "k"]
theorem sc_Frame_init : FnScope n_Frame_init ["self", "many", "arrows"] (defScope s_Frame_init) := ⟨rfl, rfl, rfl, by decide +kernel, rfl, by decide +kernel, by decide +kernel⟩
theorem ok_Frame_init {CF : Addr} {f : Addr} {fd : FuncData} (F : Fun K "__init__" "Frame.__init__" s_Frame_init f fd) (kF : FrK K mg CF) (c_is_index : Cal P w K mg base 1 "is_index" ["value"] (spP K cIdx)) (c_is_relation : Cal P w K mg base 3 "is_relation" ["value", "many"] (spP K cRel)) (m_isinstance : mg "isinstance" = none) (m_tuple : mg "tuple" = none) (m_list : mg "list" = none) (m_len : mg "len" = none) (m_range : mg "range" = none) : FnOk P w K mg base CX0 (3 + 1) f fd ["self", "many", "arrows"] (spI K CF (cFrI CF)) := by
  refine fn_init F sc_Frame_init (fun ds Φ ⟨f0, hd, hok, hΦ⟩ => by rw [hd]; rfl) fun cdv A outer s0 H E hr ds Φ ⟨f0, hd, hok, hΦ⟩ => ?_
  subst hd
  have hal := hok.len
  have h1 := hok.n1
  refine xs_no (XB.is (xt_w (xb_or (xb_not (xb_val (xv_call c_is_index (hr.mono (by decide)) (xl_cons (xv_var 1) xa_nil) ⟨(f0.many : Int), rfl, rfl⟩))) (fun _ => xw_or1 (xb_cmp op_eq v_eqI (xv_var 1) xv_int)))) (by rw [decide_eq_true (by omega : (0 : Int) ≤ (f0.many : Int)), decide_eq_false (by omega : ¬ (f0.many : Int) = 0)]; rfl)) ?_
  refine xs_no (XB.is (xb_not (xb_val (xv_isi2 "tuple" "list" (xv_var 2) m_isinstance m_tuple m_list (t := "tuple") (r := true) (r' := false)))) rfl) ?_
  refine xs_loop (f := D.int) (xs := rng 0 (f0.arrows.length : Int)) (js := [3]) (fun k => [D.int k]) (fun _ : Unit => [.ow (oI CF [] []), .pd (.int (f0.many : Int)), .pd (tT (tT tP) f0.arrows), .un]) (fun _ => ()) (xw_range1 (xl_cons (xv_lenTT (f := tT tP) (xv_var 2) m_len) xa_nil) (by omega) m_range (by omega)) (pg_name (i := 3) sc_Frame_init.nd rfl (by first | exact Or.inl rfl | exact Or.inr rfl)) (fun _ _ => gt_name) (by repeat (first | exact le_nil | refine le_eq ?_ | refine le_un ?_)) (fun pre k post hx => ?_) ?_ PassesOwn.never
  · have hk := mem_rng.mp (show k ∈ rng 0 (f0.arrows.length : Int) by rw [hx]; simp)
    refine xs_no (XB.is (xb_not (xb_val (xv_call c_is_relation (hr.mono (by decide)) (xl_cons (xv_ix ix_tup (v_ixTT (f := tT tP) (atI_getD (d := []) hk.1 hk.2)) (xv_var 2) (xv_var 3)) (xl_cons (xv_var 1) xa_nil)) ⟨f0.arrows.getD k.toNat [], f0.many, rfl, hok.arr _ (getD_in hk.1 hk.2), rfl⟩))) rfl) ?_
    exact xs_nil (by repeat (first | exact le_nil | refine le_eq ?_ | refine le_un ?_))
  · refine xs_cons (xs_fld 0 (ns := []) (ds := []) (xv_var 1) kF.dc.cl kF.many (fun d hd => ?_))
    subst hd
    refine xs_cons (xs_fld 0 (ns := ["many"]) (ds := [.int (f0.many : Int)]) (xv_tupleT (f := tT tP) (xv_var 2) m_tuple) kF.dc.cl kF.arrows (fun d hd => ?_))
    subst hd
    exact xs_nil ⟨_, hΦ, rfl⟩
abbrev s_Model_init : Stmt := methS 20 0
abbrev n_Model_init : List Str := ["self", "frame", "marks", "k"]
theorem sc_Model_init : FnScope n_Model_init ["self", "frame", "marks"] (defScope s_Model_init) := ⟨rfl, rfl, rfl, by decide +kernel, rfl, by decide +kernel, by decide +kernel⟩
theorem ok_Model_init {CF CM : Addr} {f : Addr} {fd : FuncData} (F : Fun K "__init__" "Model.__init__" s_Model_init f fd) (kF : FrK K mg CF) (kM : MoK K mg CM) (c_is_world_set : Cal P w K mg base 3 "is_world_set" ["value", "many"] (spP K cWset)) (m_isinstance : mg "isinstance" = none) (m_tuple : mg "tuple" = none) (m_list : mg "list" = none) (m_len : mg "len" = none) (m_range : mg "range" = none) : FnOk P w K mg base CX0 (3 + 1) f fd ["self", "frame", "marks"] (spI K CM (cMoI CF CM)) := by
  refine fn_init F sc_Model_init (fun ds Φ ⟨m0, hd, hok, hΦ⟩ => by rw [hd]; rfl) fun cdv A outer s0 H E hr ds Φ ⟨m0, hd, hok, hΦ⟩ => ?_
  subst hd
  have hal := hok.len
  refine xs_no (XB.is (xt_w (xb_or (xb_not (xb_val (xv_isiC kF.dc kF.dc (xv_var 1) kF.same m_isinstance))) (fun _ => xw_or1 (xb_not (xb_val (xv_isi2 "tuple" "list" (xv_var 2) m_isinstance m_tuple m_list (t := "tuple") (r := true) (r' := false))))))) rfl) ?_
  refine xs_loop (f := D.int) (xs := rng 0 (m0.marks.length : Int)) (js := [3]) (fun k => [D.int k]) (fun _ : Unit => [.ow (oI CM [] []), .pd (eFr CF m0.fr), .pd (tT (tT D.int) m0.marks), .un]) (fun _ => ()) (xw_range1 (xl_cons (xv_lenTT (f := tT D.int) (xv_var 2) m_len) xa_nil) (by omega) m_range (by omega)) (pg_name (i := 3) sc_Model_init.nd rfl (by first | exact Or.inl rfl | exact Or.inr rfl)) (fun _ _ => gt_name) (by repeat (first | exact le_nil | refine le_eq ?_ | refine le_un ?_)) (fun pre k post hx => ?_) ?_ PassesOwn.never
  · have hk := mem_rng.mp (show k ∈ rng 0 (m0.marks.length : Int) by rw [hx]; simp)
    refine xs_no (XB.is (xb_not (xb_val (xv_call c_is_world_set (hr.mono (by decide)) (xl_cons (xv_ix ix_tup (v_ixTT (f := tT D.int) (atI_getD (d := []) hk.1 hk.2)) (xv_var 2) (xv_var 3)) (xl_cons (xv_fld (d := .int (m0.fr.many : Int)) (xv_var 1) kF.dc.cl kF.many) xa_nil)) ⟨m0.marks.getD k.toNat [], m0.fr.many, rfl, hok.mks _ (getD_in hk.1 hk.2), rfl⟩))) rfl) ?_
    exact xs_nil (by repeat (first | exact le_nil | refine le_eq ?_ | refine le_un ?_))
  · refine xs_cons (xs_fld 0 (ns := []) (ds := []) (xv_var 1) kM.dc.cl kM.frame (fun d hd => ?_))
    subst hd
    refine xs_cons (xs_fld 0 (ns := ["frame"]) (ds := [eFr CF m0.fr]) (xv_tupleT (f := tT D.int) (xv_var 2) m_tuple) kM.dc.cl kM.marks (fun d hd => ?_))
    subst hd
    exact xs_nil ⟨_, hΦ, rfl⟩
end
end K36

namespace DL
open PySem PySem.Spec PyProof.Rows L2 Evl
section
variable {X : Cx} {elt tg iter c : Expr} {scope : Scope} {Γ : List Sl} {pos : Pos} {own : List (Str × Nat)} {g : TG}
/-- [h(x) for x in xs if drawn] -/
theorem xn_lcFm {α β : Type} {f : α → D} {f' : β → D} {xs : List α} (h : α → β) (js : List Nat) (es : α → List D) (own : List (Str × Nat)) (hi : XW X tg iter Γ (xs.map f)) (hg : Bk X scope fun Y => PG Y tg g) (gt : ∀ x ∈ xs, XGt X.K g (f x) js (es x)) (ht : ∀ x ∈ xs, JT X.K true (wbT X scope c) (setG Γ js (es x)) fun _ => True)
    (he : ∀ x ∈ xs, Bk X scope fun Y => XV Y elt (setG Γ js (es x)) (f' (h x))) (hl : xs.length ≤ 100000) (ok : BlkOk X.N X.env.scope scope own) (hN : X.N.Nodup) (hw : wipeG Γ (own.map (·.2)) = Γ := by rfl) (hv : ∀ j ∈ js, j ∈ own.map (·.2) := by decide)
    (hc : X.calm = true := by rfl) (hs : ∀ x, foldedSetIterable iter X.env x = pure x := by intro _; rfl) : XN X true (.ListComp elt [⟨tg, iter, [c], 0⟩] scope pos) Γ fun o => ∃ ys : List α, o = .ml ((ys.map h).map f') ∧ ys.Sublist xs := by
  refine (xn_lc (Φ := fun z => z = xs.map f) js (fun _ i => (xs[i]?.map es).getD []) (fun _ i acc => ∃ ys : List α, acc = (ys.map h).map f' ∧ ys.Sublist (xs.take i)) own hi.up hg (fun ds e i d hd => ?_) .one (fun ds e => ⟨[], rfl, List.nil_sublist _⟩) (fun ds e i d acc hd hp => ?_) (fun ds e => by rw [e, List.length_map]; exact hl) ok hN hw hv hc hs).imp ?_
  · subst e
    rw [List.getElem?_map] at hd
    cases hx : xs[i]? with
    | none => rw [hx] at hd; cases hd
    | some x =>
      rw [hx] at hd
      cases hd
      exact gt x (List.mem_of_getElem? hx)
  · subst e
    rw [List.getElem?_map] at hd
    cases hx : xs[i]? with
    | none => rw [hx] at hd; cases hd
    | some x =>
      rw [hx] at hd
      cases hd
      obtain ⟨ys, h1, h2⟩ := hp
      have et : xs.take (i + 1) = xs.take i ++ [x] := by rw [List.take_add_one, hx]; rfl
      have hxm := List.mem_of_getElem? hx
      intro σ Hb H E Q q
      refine ht x hxm σ Hb H E Q fun b Hb' H' _ g' E' => q b Hb' H' ⟨fun _ => ?_, fun _ => ⟨ys, h1, by rw [et]; exact h2.trans (List.sublist_append_left _ _)⟩⟩ g' E'
      intro s0 H0 C cl fp
      refine (he x hxm s0 H0 C cl fp).up.imp fun d hd => ?_
      exact ⟨ys ++ [x], by rw [hd, h1, List.map_append, List.map_append]; rfl, by rw [et]; exact h2.append (List.Sublist.refl _)⟩
  · rintro o ⟨ds, acc, rfl, h1, ys, h2, h3⟩
    refine ⟨ys, by rw [h1, h2], ?_⟩
    rwa [List.length_map, List.take_length] at h3
end
section
variable {X : Cx} {Γ : List Sl} {m : Bool} {a b : Expr} {pos : Pos}
/-- a list + a drawn list -/
theorem xe_catR {α : Type} {f : α → D} {l : List α} {Φ : List α → Prop} (ha : XV X a Γ (lT f l)) (hb : XE X m b Γ fun d => ∃ l', d = lT f l' ∧ Φ l') (hz : ∀ l', Φ l' → l.length + l'.length ≤ 100000) : XE X m (.BinOp a .Add b pos) Γ fun d => ∃ l', d = lT f (l ++ l') ∧ Φ l' := by
  have z : XN X m (.BinOp a .Add b pos) Γ fun o => ∃ ds, o = .ml ds ∧ ∃ l', ds = (l ++ l').map f ∧ Φ l' := xn_of (pe_op op_cat pe_wp pe_wp) (jn_bin ha.up (fun _ _ => hb) fun d e q ⟨l', h1, h2⟩ => by
    subst h1 q
    have y := v_catL (K := X.K) (ds := l.map f) (es := l'.map f) (by rw [List.length_map, List.length_map]; exact hz l' h2)
    exact fun x1 y1 Hb H ex r1 r2 Q q => y x1 y1 Hb H ex r1 r2 Q fun p u o Hb' H' e => q p u o Hb' H' ⟨_, e, l', by rw [List.map_append], h2⟩)
  exact z.frzP.imp fun d ⟨ds, h1, l', h2, h3⟩ => ⟨l', by rw [h1, h2]; rfl, h3⟩
end
end DL
namespace DL
open PySem PySem.Spec PyProof.Rows L2 Evl
/-- a text in a tuple of texts -/
theorem any_str {x : Str} : ∀ l : List Str, ((pyL (l.map D.str)).any fun z => PyData.eqv z (D.str x).py) = decide (x ∈ l)
  | [] => by
    rw [decide_eq_false (by simp)]
    rfl
  | y :: l => by
    show ((y == x) || (pyL (l.map D.str)).any fun z => PyData.eqv z (D.str x).py) = _
    rw [any_str l]
    by_cases e : y = x
    · subst e
      rw [decide_eq_true (List.mem_cons_self ..)]
      simp
    · rw [beq_eq_false_iff_ne.mpr e, Bool.false_or]
      by_cases e2 : x ∈ l
      · rw [decide_eq_true e2, decide_eq_true (List.mem_cons_of_mem _ e2)]
      · rw [decide_eq_false e2, decide_eq_false fun z => (List.mem_cons.mp z).elim (fun q => e q.symm) e2]
theorem v_inUS {K : PySem.W.Frag} {x : Str} {l : List Str} (hx : (D.str x).ok 0 = true := by decide +kernel) (hl : okL (l.map D.str) 0 = true := by decide +kernel) : RV2 K (rInU K false) (.str x) (tT D.str l) (.bl (decide (x ∈ l))) := by
  rw [← any_str l]
  exact rv_scal fun u w Hb H ex h1 h2 => ⟨.bl _, .bl _, fun Q q => ⟨(D.str x).py, pyL (l.map D.str), (h1.mono ex).dp hx, (h2.mono ex).dp (n := 0 + 1) hl, ok_shaped hx (by omega), ok_shaped (d := tT D.str l) (n := 0 + 1) hl (by omega), q⟩⟩
end DL
namespace DL
open PySem PySem.Spec PyProof.Rows L2 Evl
/-! ### == where one side may be deep -/
section
variable {X : Cx}
def rEqW (K : PySem.W.Frag) : R2 := fun x y H Q => ∃ d e, Dp K H x d ∧ Dp K H y e ∧ d.canLay0 = true ∧ e.canLay0 = true ∧ min d.depth e.depth ≤ 64 ∧ Q (.bl (PyData.eqv d e)) H
theorem op_eqW (hu : X.A.units + 65 < cLine) : OpR X (compareOp .Eq) (rEqW X.K) := by
  intro pins s σ H x y v u Q I rx ry h
  obtain ⟨d, e, hd, he, sd, se, hm, q⟩ := h
  obtain ⟨as, r1⟩ := Dp.reads I d x v hd rx
  obtain ⟨bs, r2⟩ := Dp.reads I e y u he ry
  exact SeqAt.compareEq_reads r1 r2 sd se (by omega) ⟨.bl _, H, I, rfl, q⟩
theorem v_eqW {K : PySem.W.Frag} {d e : D} {n k : Nat} (hd : d.ok n = true) (he : e.ok k = true) (hk : k ≤ 64 := by decide) : RV2 K (rEqW K) d e (.bl (PyData.eqv d.py e.py)) := rv_scal fun x y Hb H ex h1 h2 =>
  ⟨.bl _, .bl _, fun Q q => ⟨d.py, e.py, (h1.mono ex).dp hd, (h2.mono ex).dp he, (ok_depth hd).1, (ok_depth he).1, by have := (ok_depth he).2; omega, q⟩⟩
end
/-! ### [e(x) for x in xs], e(x) one of several -/
section
variable {X : Cx} {elt tg iter : Expr} {Γ : List Sl} {pos : Pos}
theorem xn_lcR {scope : Scope} {g : TG} {α β : Type} {f : α → D} {xs : List α} {R : α → β → Prop} (js : List Nat) (es : α → List D) (f' : β → D) (own : List (Str × Nat)) (hi : XW X tg iter Γ (xs.map f)) (hg : Bk X scope fun Y => PG Y tg g) (gt : ∀ x ∈ xs, XGt X.K g (f x) js (es x))
    (he : ∀ x ∈ xs, Bk X scope fun Y => XE Y false elt (setG Γ js (es x)) fun d => ∃ b, d = f' b ∧ R x b) (hl : xs.length ≤ 100000) (ok : BlkOk X.N X.env.scope scope own) (hN : X.N.Nodup) (hw : wipeG Γ (own.map (·.2)) = Γ := by rfl) (hv : ∀ j ∈ js, j ∈ own.map (·.2) := by decide)
    (hc : X.calm = true := by rfl) (hs : ∀ x, foldedSetIterable iter X.env x = pure x := by intro _; rfl) : XN X false (.ListComp elt [⟨tg, iter, [], 0⟩] scope pos) Γ fun o => ∃ bs : List β, o = .ml (bs.map f') ∧ bs.length = xs.length ∧ ∀ (i : Nat) x b, xs[i]? = some x → bs[i]? = some b → R x b := by
  refine (xn_lc (Φ := fun z => z = xs.map f) js (fun _ i => (xs[i]?.map es).getD []) (fun _ i acc => ∃ bs : List β, acc = bs.map f' ∧ bs.length = i ∧ ∀ (j : Nat) x b, xs[j]? = some x → bs[j]? = some b → R x b) own hi hg (fun ds e i d hd => ?_) .no (fun ds e => ⟨[], rfl, rfl, fun j x b _ hb => by simp at hb⟩) (fun ds e i d acc hd hp => ?_) (fun ds e => by rw [e, List.length_map]; exact hl) ok hN hw hv hc hs).imp ?_
  · subst e
    rw [List.getElem?_map] at hd
    cases hx : xs[i]? with
    | none => rw [hx] at hd; cases hd
    | some x =>
      rw [hx] at hd
      cases hd
      exact gt x (List.mem_of_getElem? hx)
  · subst e
    rw [List.getElem?_map] at hd
    cases hx : xs[i]? with
    | none => rw [hx] at hd; cases hd
    | some x =>
      have z := he x (List.mem_of_getElem? hx)
      refine jt_yes ⟨fun _ s H C cl fp => ?_, fun h => nomatch h⟩
      show XE _ false elt (setG Γ js (es x)) _
      refine (z s H C cl fp).imp fun d hb => ?_
      obtain ⟨b, h1, h2⟩ := hb
      obtain ⟨bs, k1, k2, k3⟩ := hp
      refine ⟨bs ++ [b], by rw [k1, h1, List.map_append]; rfl, by rw [List.length_append, k2]; rfl, fun j x' c hx' hc => ?_⟩
      by_cases hj : j < bs.length
      · rw [List.getElem?_append_left hj] at hc
        exact k3 j x' c hx' hc
      · rw [List.getElem?_append_right (by omega)] at hc
        have hji : j = i := by
          have := (List.getElem?_eq_some_iff.mp hc).1
          simp only [List.length_cons, List.length_nil] at this
          omega
        subst hji
        rw [hx] at hx'
        cases hx'
        rw [k2, Nat.sub_self] at hc
        cases hc
        exact h2
  · rintro o ⟨ds, acc, rfl, h1, bs, h2, h3, h4⟩
    exact ⟨bs, by rw [h1, h2], by rw [h3, List.length_map], h4⟩
end
end DL
namespace DL
open PySem PySem.Spec PyProof.Rows L2 Evl
section
variable {X : Cx} {m : Bool} {a b c : Expr} {Γ : List Sl} {pos : Pos} {A B C : D → Prop} {j : Nat}
/-- (a, b, c), each drawn -/
theorem xe_trip (ha : XE X m a Γ A) (hb : XE X m b Γ B) (hc : XE X m c Γ C) (hs2 : starEach [a, b, c] X.env = (false, eval a X.env) :: starEach [b, c] X.env := by rfl) (hs1 : starEach [b, c] X.env = (false, eval b X.env) :: starEach [c] X.env := by rfl) (hs : starEach [c] X.env = (false, eval c X.env) :: starEach [] X.env := by rfl) : XE X m (.Tuple [a, b, c] j pos) Γ fun z => ∃ x y w, z = .tup [x, y, w] ∧ A x ∧ B y ∧ C w :=
  xe_tup (Φ := fun ds => ∃ x y w, ds = [x, y, w] ∧ A x ∧ B y ∧ C w) (xa_cons (Φb := fun _ ds => ∃ y w, ds = [y, w] ∧ B y ∧ C w) ha (fun _ _ => xa_cons (Φb := fun _ ds => ∃ w, ds = [w] ∧ C w) hb (fun d _ => xa_one hc (fun y hy => ⟨y, rfl, hy⟩) hs) (fun x ds h ⟨y, e, hy⟩ => ⟨x, y, by rw [e], h, hy⟩) hs1) (fun x ds h ⟨y, w, e, h1, h2⟩ => ⟨x, y, w, by rw [e], h, h1, h2⟩) hs2) (fun ds ⟨x, y, w, e, h1, h2⟩ => ⟨x, y, w, by rw [e], h1, h2⟩) (by simp) (fun ds ⟨x, y, w, e, _, _⟩ => by rw [e]; simp)
end
end DL

namespace WF
open PySem PySem.Spec PyProof.Rows L2 Evl DL
theorem rng_asc {lo hi : Int} : (rng lo hi).Pairwise (· < ·) := by
  unfold rng
  rw [List.pairwise_map]
  exact List.pairwise_lt_range.imp fun h => by omega
/-! ### sayings with boxes -/
inductive My where
  | letter (k : Int) | fls | neg (a : My) | and (a b : My) | or (a b : My) | imp (a b : My) | box (i : Int) (a : My) | some (i : Int) (a : My)
def eM : My → D
  | .letter k => .tup [.str "letter", .int k]
  | .fls => .tup [.str "false"]
  | .neg a => .tup [.str "not", eM a]
  | .and a b => .tup [.str "and", eM a, eM b]
  | .or a b => .tup [.str "or", eM a, eM b]
  | .imp a b => .tup [.str "if", eM a, eM b]
  | .box i a => .tup [.str "box", .int i, eM a]
  | .some i a => .tup [.str "some", .int i, eM a]
def My.dep : My → Nat
  | .letter _ => 0
  | .fls => 0
  | .neg a => a.dep + 1
  | .and a b => max a.dep b.dep + 1
  | .or a b => max a.dep b.dep + 1
  | .imp a b => max a.dep b.dep + 1
  | .box _ a => a.dep + 1
  | .some _ a => a.dep + 1
/-- letters and indexes are none below 0 -/
def My.nn : My → Prop
  | .letter k => 0 ≤ k
  | .fls => True
  | .neg a => a.nn
  | .and a b => a.nn ∧ b.nn
  | .or a b => a.nn ∧ b.nn
  | .imp a b => a.nn ∧ b.nn
  | .box i a => 0 ≤ i ∧ a.nn
  | .some i a => 0 ≤ i ∧ a.nn
/-! ### what is so -/
abbrev seesA (arrows : List (List (Int × Int))) (i x : Int) : List Int := if (arrows.length : Int) ≤ i then [] else (((arrows.getD (i).toNat []).filter fun x0 => (decide (x0.1 = x))).map fun x0 => x0.2)
def soB (m : Mo) : My → Int → Bool
  | .letter k, x => decide (k < (m.marks.length : Int)) && decide (x ∈ m.marks.getD k.toNat [])
  | .fls, _ => false
  | .neg a, x => !soB m a x
  | .and a b, x => soB m a x && soB m b x
  | .or a b, x => soB m a x || soB m b x
  | .imp a b, x => !soB m a x || soB m b x
  | .box i a, x => (seesA m.fr.arrows i x).all (soB m a)
  | .some i a, x => (seesA m.fr.arrows i x).any (soB m a)
def soL (m : Mo) (s : My) : List Int := (rng 0 (m.fr.many : Int)).filter (soB m s)
def cLSees : Con := fun ds Φ => ∃ (arrows : List (List (Int × Int))) (i x : Int), ds = [tT (tT tP) arrows, .int i, .int x] ∧ (0 ≤ i ∧ ∀ r ∈ arrows, r.length ≤ 100) ∧ Φ (lT D.int (seesA arrows i x))
def cLSo (n : Nat) : Con := fun ds Φ => ∃ (m : Mo) (s : My), ds = [.int m.fr.many, tT (tT tP) m.fr.arrows, tT (tT D.int) m.marks, eM s] ∧ (m.ok ∧ s.nn ∧ s.dep < n) ∧ Φ (lT D.int (soL m s))
def cLFrame : Con := fun ds Φ => ∃ (ns : List Int) (most relations : Int), ds = [.sc ns, .int most, .int relations] ∧ ((1 ≤ most ∧ most ≤ 10) ∧ 0 ≤ relations ∧ relations ≤ 20) ∧ ∀ f : Fr, f.ok → (f.many : Int) ≤ most → (f.arrows.length : Int) = relations → Φ (.tup [.int f.many, tT (tT tP) f.arrows])
def cLMarks : Con := fun ds Φ => ∃ (ns : List Int) (n : Nat) (letters : Int), ds = [.sc ns, .int n, .int letters] ∧ (n ≤ 20 ∧ 0 ≤ letters ∧ letters ≤ 20) ∧ ∀ ms : List (List Int), (ms.length : Int) = letters → (∀ s ∈ ms, okS n s) → Φ (tT (tT D.int) ms)
theorem mem_soL {m : Mo} {s : My} {x : Int} : x ∈ soL m s ↔ (0 ≤ x ∧ x < (m.fr.many : Int)) ∧ soB m s x = true := by
  unfold soL
  rw [List.mem_filter, mem_rng]
theorem sees_in {m : Mo} (h : m.ok) {i x y : Int} (hy : y ∈ seesA m.fr.arrows i x) : 0 ≤ y ∧ y < (m.fr.many : Int) := by
  unfold seesA at hy
  split at hy
  · exact nomatch hy
  · obtain ⟨p, hp, rfl⟩ := List.mem_map.mp hy
    have hp := (List.mem_filter.mp hp).1
    rw [List.getD_eq_getElem?_getD] at hp
    cases e : m.fr.arrows[i.toNat]? with
    | none => rw [e] at hp; exact nomatch hp
    | some r =>
      rw [e] at hp
      exact ((h.fr.arr r (List.mem_of_getElem? e)).1 p hp).2
theorem sees_len {arrows : List (List (Int × Int))} (h : ∀ r ∈ arrows, r.length ≤ 100) {i x : Int} : (seesA arrows i x).length ≤ 100 := by
  unfold seesA
  split
  · exact Nat.zero_le _
  · rw [List.length_map]
    refine Nat.le_trans (List.length_filter_le _ _) ?_
    rw [List.getD_eq_getElem?_getD]
    cases e : arrows[i.toNat]? with
    | none => exact Nat.zero_le _
    | some r => exact h r (List.mem_of_getElem? e)
theorem soL_len {m : Mo} {s : My} : (soL m s).length ≤ m.fr.many := by
  unfold soL
  have := List.length_filter_le (soB m s) (rng 0 (m.fr.many : Int))
  rw [rng_len] at this
  omega
/-- as the text asks it -/
theorem so_filter {m : Mo} {s : My} {p : Int → Bool} (h : ∀ x, 0 ≤ x ∧ x < (m.fr.many : Int) → p x = soB m s x) : ((rng 0 (m.fr.many : Int)).filter p).map (fun x => x) = soL m s := by
  rw [List.map_id']
  exact List.filter_congr fun x hx => h x (mem_rng.mp hx)
theorem in_soL {m : Mo} {s : My} {x : Int} (h : 0 ≤ x ∧ x < (m.fr.many : Int)) : decide (x ∈ soL m s) = soB m s x := by
  refine Bool.eq_iff_iff.mpr ?_
  rw [decide_eq_true_iff, mem_soL]
  exact ⟨fun z => z.2, fun z => ⟨h, z⟩⟩
theorem no_false {l : List Int} {p : Int → Bool} : (!decide (false ∈ l.map p)) = l.all p := by
  refine Bool.eq_iff_iff.mpr ?_
  rw [Bool.not_eq_true', decide_eq_false_iff_not, List.all_eq_true]
  constructor
  · intro h x hx
    cases e : p x with
    | true => rfl
    | false => exact absurd (List.mem_map.mpr ⟨x, hx, e⟩) h
  · intro h hm
    obtain ⟨x, hx, e⟩ := List.mem_map.mp hm
    rw [h x hx] at e
    cases e
theorem is_true {l : List Int} {p : Int → Bool} : decide (true ∈ l.map p) = l.any p := by
  refine Bool.eq_iff_iff.mpr ?_
  rw [decide_eq_true_iff, List.any_eq_true, List.mem_map]
theorem all_congr {l : List Int} {p q : Int → Bool} (h : ∀ x ∈ l, p x = q x) : l.all p = l.all q := by
  induction l with
  | nil => rfl
  | cons x l ih => rw [List.all_cons, List.all_cons, h x (List.mem_cons_self ..), ih fun y hy => h y (List.mem_cons_of_mem _ hy)]
theorem any_congr {l : List Int} {p q : Int → Bool} (h : ∀ x ∈ l, p x = q x) : l.any p = l.any q := by
  induction l with
  | nil => rfl
  | cons x l ih => rw [List.any_cons, List.any_cons, h x (List.mem_cons_self ..), ih fun y hy => h y (List.mem_cons_of_mem _ hy)]
theorem so_and {m : Mo} {a b : My} : ((soL m a).filter fun x => (decide (x ∈ soL m b))).map (fun x => x) = soL m (.and a b) := by
  rw [List.map_id']
  unfold soL
  rw [List.filter_filter]
  refine List.filter_congr fun x hx => ?_
  have := in_soL (s := b) (mem_rng.mp hx)
  unfold soL at this
  rw [this]
  exact Bool.and_comm _ _
/-! ### drawn frames -/
theorem full_less {n : Nat} : ((rng 0 (n : Int)).flatMap fun x => (rng 0 (n : Int)).map fun y => (x, y)).Pairwise lessP := by
  rw [List.pairwise_flatMap]
  refine ⟨fun x hx => List.pairwise_map.mpr (rng_asc.imp fun h => .inr ⟨rfl, h⟩), rng_asc.imp fun {x y} h p hp q hq => ?_⟩
  obtain ⟨_, _, rfl⟩ := List.mem_map.mp hp
  obtain ⟨_, _, rfl⟩ := List.mem_map.mp hq
  exact .inl h
theorem okA_sub {n : Nat} (hn : n ≤ 10) {r : List (Int × Int)} (h : r.Sublist ((rng 0 (n : Int)).flatMap fun x => (rng 0 (n : Int)).map fun y => (x, y))) : okA n r := by
  refine ⟨fun p hp => ?_, full_less.sublist h, ?_⟩
  · obtain ⟨x, hx, hp⟩ := List.mem_flatMap.mp (h.subset hp)
    obtain ⟨y, hy, rfl⟩ := List.mem_map.mp hp
    exact ⟨mem_rng.mp hx, mem_rng.mp hy⟩
  · refine Nat.le_trans h.length_le ?_
    have : ∀ l : List Int, (l.flatMap fun x => (rng 0 (n : Int)).map fun y => (x, y)).length = l.length * n := fun l => by
      induction l with
      | nil => simp
      | cons x l ih =>
        rw [List.flatMap_cons, List.length_append, ih, List.length_map, rng_len, List.length_cons, Nat.succ_mul]
        omega
    rw [this, rng_len]
    have h2 : ((n : Int) - 0).toNat = n := by omega
    rw [h2]
    have := Nat.mul_le_mul hn hn
    omega
theorem okS_sub {n : Nat} (hn : n ≤ 20) {s : List Int} (h : s.Sublist (rng 0 (n : Int))) : okS n s := ⟨fun x hx => mem_rng.mp (h.subset hx), rng_asc.sublist h, by
  have := h.length_le
  rw [rng_len] at this
  omega⟩
theorem flat_take {α β : Type} {l : List α} {f : α → List β} {j : Nat} : ((l.take j).flatMap f).Sublist (l.flatMap f) := by
  conv => rhs; rw [← List.take_append_drop j l, List.flatMap_append]
  exact List.sublist_append_left _ _
end WF

namespace K36
open PySem PySem.Spec PyProof.Rows L2 Evl DL WF
section
variable {P : Program} {w : World} {K : PySem.W.Frag} {mg : Str → Option Value} {base : Heap}
abbrev s_law_sees : Stmt := topS 25
abbrev n_law_sees : List Str := ["arrows", "i", "x", "a", "b"]
theorem sc_law_sees : FnScope n_law_sees ["arrows", "i", "x"] (defScope s_law_sees) := ⟨rfl, rfl, rfl, by decide +kernel, rfl, by decide +kernel, by decide +kernel⟩
theorem ok_law_sees {f : Addr} {fd : FuncData} (F : Fun K "_law_sees" "_law_sees" s_law_sees f fd) (m_len : mg "len" = none) : FnOk P w K mg base CX0 (0 + 1) f fd ["arrows", "i", "x"] (spP K cLSees) := by
  refine fn_pure F sc_law_sees (fun ds Φ ⟨arrows, i, x, hd, ⟨hi, hal⟩, hΦ⟩ => by rw [hd]; rfl) fun cdv A outer s0 H E hr ds Φ ⟨arrows, i, x, hd, ⟨hi, hal⟩, hΦ⟩ => ?_
  subst hd
  have hrow : (arrows.getD (i).toNat []).length ≤ 100 := by
    rw [List.getD_eq_getElem?_getD]
    cases e : arrows[i.toNat]? with
    | none => exact Nat.zero_le _
    | some r => exact hal r (List.mem_of_getElem? e)
  unfold seesA at hΦ
  refine xs_cons (xs_if (xb_cmp op_ge v_ge (xv_var 1) (xv_lenTT (f := (tT (pT D.int D.int))) (xv_var 0) m_len)) (fun h1 => ?_) (fun h1 => ?_))
  ·
    exact xs_cons (xs_retV xv_nilL (by rw [if_pos (of_decide_eq_true h1.symm)] at hΦ; exact hΦ))
  ·
    refine xs_nil ?_
    have h1 := of_decide_eq_false h1.symm
    exact xs_cons (xs_retV (xo_lc (f := (pT D.int D.int)) (xs := (arrows.getD (i).toNat [])) [3, 4] (fun x0 => [D.int x0.1, D.int x0.2]) (fun x0 => (decide (x0.1 = x))) D.int (fun x0 => x0.2) [("a", 3), ("b", 4)] (xw_tupT (f := (pT D.int D.int)) (xv_ix ix_tup (v_ixTT (f := (tT (pT D.int D.int))) (atI_getD (d := []) (by omega) (by omega))) (xv_var 0) (xv_var 1))) (fun _ _ _ _ _ => pg_tup rfl (pgs_cons (pg_name (i := 3) sc_law_sees.nd rfl (by first | exact Or.inl rfl | exact Or.inr rfl)) (pgs_cons (pg_name (i := 4) sc_law_sees.nd rfl (by first | exact Or.inl rfl | exact Or.inr rfl)) pgs_nil))) (fun _ _ => gt_pair) .one (fun x0 hx0 => jt_wb fun _ _ _ _ _ => (xb_cmp op_eq v_eqI (xv_var 3) (xv_var 2))) (fun x0 hx0 px0 _ _ _ _ _ => (xv_var 4)) (by omega) (blkOk_by (N := n_law_sees) (sc := defScope s_law_sees) (by decide +kernel)) sc_law_sees.nd).frz (by rw [if_neg h1] at hΦ; exact hΦ))
end
end K36

namespace K36
open PySem PySem.Spec PyProof.Rows L2 Evl DL WF
section
variable {P : Program} {w : World} {K : PySem.W.Frag} {mg : Str → Option Value} {base : Heap}
abbrev s_law_so : Stmt := topS 27
abbrev n_law_so : List Str := ["many", "arrows", "marks", "saying", "word", "x", "inner", "y", "first", "second"]
theorem sc_law_so : FnScope n_law_so ["many", "arrows", "marks", "saying"] (defScope s_law_so) := ⟨rfl, rfl, rfl, by decide +kernel, rfl, by decide +kernel, by decide +kernel⟩
theorem ok_law_so {f : Addr} {fd : FuncData} {n : Nat} (F : Fun K "_law_so" "_law_so" s_law_so f fd) (G : Cal P w K mg base (n + 2) "_law_so" ["many", "arrows", "marks", "saying"] (spP K (cLSo n))) (c_law_sees : Cal P w K mg base 1 "_law_sees" ["arrows", "i", "x"] (spP K cLSees)) (m_len : mg "len" = none) (m_range : mg "range" = none) : FnOk P w K mg base CX0 (n + 2 + 1) f fd ["many", "arrows", "marks", "saying"] (spP K (cLSo (n + 1))) := by
  refine fn_pure F sc_law_so (fun ds Φ ⟨m, s, hd, _, hΦ⟩ => by rw [hd]; rfl) fun cdv A outer s0 H E hr ds Φ ⟨m, s, hd, ⟨hok, hnn, hdep⟩, hΦ⟩ => ?_
  subst hd
  have hu65 := hu_65 hr
  have hn2 := hok.fr.n2
  have hml := hok.len
  have hra : ∀ r ∈ m.fr.arrows, r.length ≤ 100 := fun r hr => (hok.fr.arr r hr).2.2
  have hsl := fun i x => sees_len (arrows := m.fr.arrows) hra (i := i) (x := x)
  have hrl : (rng 0 (m.fr.many : Int)).length = m.fr.many := by rw [rng_len]; omega
  have hr2 : Room (n + 2) (A.deeper (envOfC "_law_so" (defScope s_law_so) s0.heap.objs.size f cdv)) := hr
  cases s with
  | letter k =>
    have hk : 0 ≤ k := hnn
    refine xs_cons (xs_asgV 4 (xv_ix ix_tup (v_ixT (f := .str "letter") rfl) (xv_var 3) xv_int) ?_ sc_law_so.nd)
    refine xs_cons (xs_if (xb_cmp op_eq v_eqS (xv_var 4) xv_str) (fun _ => ?_) (fun h => absurd h (by decide +kernel)))
    exact xs_cons (xs_retV (XV.is (xo_lc (f := D.int) (xs := rng 0 (m.fr.many : Int)) [5] (fun x => [D.int x]) (fun x => ((decide (k < (m.marks.length : Int))) && (decide (x ∈ m.marks.getD k.toNat [])))) D.int (fun x => x) [("x", 5)] (xw_range1 (xl_cons (xv_var 0) xa_nil) (by omega) m_range (by omega)) (fun _ _ _ _ _ => (pg_name (i := 5) sc_law_so.nd rfl (by first | exact Or.inl rfl | exact Or.inr rfl))) (fun _ _ => gt_name) .one (fun x hx => jt_wb fun _ _ _ _ _ => (xt_w (xb_and (xb_cmp op_lt v_lt (xv_ix ix_tup (v_ixT (f := .int k) rfl) (xv_var 3) xv_int) (xv_lenTT (f := tT D.int) (xv_var 2) m_len)) (fun hk2 => xw_and1 (xb_cmp op_in_seq v_inT (xv_var 5) (xv_ix ix_tup (v_ixTT (f := tT D.int) (atI_getD (d := []) hk (of_decide_eq_true hk2))) (xv_var 2) (xv_ix ix_tup (v_ixT (f := .int k) rfl) (xv_var 3) xv_int))))))) (fun x hx px _ _ _ _ _ => (xv_var 5)) (by omega) (blkOk_by (N := n_law_so) (sc := defScope s_law_so) (by decide +kernel)) sc_law_so.nd).frz (congrArg (lT D.int) (so_filter (s := .letter k) fun x hx => rfl))) hΦ)
  | fls =>
    refine xs_cons (xs_asgV 4 (xv_ix ix_tup (v_ixT (f := .str "false") rfl) (xv_var 3) xv_int) ?_ sc_law_so.nd)
    refine xs_no (XB.is (xb_cmp op_eq v_eqS (xv_var 4) xv_str) (by decide +kernel)) ?_
    refine xs_cons (xs_if (xb_cmp op_eq v_eqS (xv_var 4) xv_str) (fun _ => ?_) (fun h => absurd h (by decide +kernel)))
    exact xs_cons (xs_retV xv_nilL (by have e : soL m .fls = [] := List.filter_eq_nil_iff.mpr fun x _ => Bool.false_ne_true
                                       rw [e] at hΦ
                                       exact hΦ))
  | box i a =>
    have hi : 0 ≤ i := hnn.1
    have hda : a.dep < n := by simp only [My.dep] at hdep; omega
    refine xs_cons (xs_asgV 4 (xv_ix ix_tup (v_ixT (f := .str "box") rfl) (xv_var 3) xv_int) ?_ sc_law_so.nd)
    refine xs_no (XB.is (xb_cmp op_eq v_eqS (xv_var 4) xv_str) (by decide +kernel)) ?_
    refine xs_no (XB.is (xb_cmp op_eq v_eqS (xv_var 4) xv_str) (by decide +kernel)) ?_
    refine xs_cons (xs_if (XB.is (xb_cmp (op_inU hu65) (v_inUS (x := "box") (l := ["box", "some"])) (xv_var 4) (xv_tup (xl_cons xv_str (xl_cons xv_str xa_nil)))) (show _ = true by decide +kernel)) (fun _ => ?_) (fun h => nomatch h))
    refine xs_cons (xs_asgV 6 (xv_call G hr2 (xl_cons (xv_var 0) (xl_cons (xv_var 1) (xl_cons (xv_var 2) (xl_cons (xv_ix ix_tup (v_ixT (f := eM a) rfl) (xv_var 3) xv_int) xa_nil)))) ⟨m, a, rfl, ⟨hok, hnn.2, hda⟩, rfl⟩) ?_ sc_law_so.nd)
    have hal := soL_len (m := m) (s := a)
    refine xs_cons (xs_if (xb_cmp op_eq v_eqS (xv_var 4) xv_str) (fun _ => ?_) (fun h => absurd h (by decide +kernel)))
    exact xs_cons (xs_retV (XV.is (xo_lc (f := D.int) (xs := rng 0 (m.fr.many : Int)) [5] (fun x => [D.int x]) (fun x => (!decide (false ∈ ((seesA m.fr.arrows i x).map fun y => (decide (y ∈ soL m a)))))) D.int (fun x => x) [("x", 5)] (xw_range1 (xl_cons (xv_var 0) xa_nil) (by omega) m_range (by omega)) (fun _ _ _ _ _ => (pg_name (i := 5) sc_law_so.nd rfl (by first | exact Or.inl rfl | exact Or.inr rfl))) (fun _ _ => gt_name) .one (fun x hx => jt_wb fun _ _ _ _ _ => (xb_cmp (op_notInD hu65) (v_niL (f := D.bl) (x := false)) xv_bl (xo_map (f := D.int) (xs := seesA m.fr.arrows i x) [7] (fun y => [D.int y]) D.bl (fun y => (decide (y ∈ soL m a))) [("y", 7)] (xw_listT (f := D.int) (xv_call c_law_sees (hr.mono (by omega)) (xl_cons (xv_var 1) (xl_cons (xv_ix ix_tup (v_ixT (f := .int i) rfl) (xv_var 3) xv_int) (xl_cons (xv_var 5) xa_nil))) ⟨m.fr.arrows, i, x, rfl, ⟨hi, hra⟩, rfl⟩)) (fun _ _ _ _ _ => (pg_name (i := 7) sc_law_so.nd rfl (by first | exact Or.inl rfl | exact Or.inr rfl))) (fun _ _ => gt_name) (fun y hy _ _ _ _ _ => (xv_cmp op_in_seq v_inLI (xv_var 7) (xv_var 6))) (by have := hsl i x; omega) (blkOk_by (N := n_law_so) (sc := relS _ (defScope s_law_so)) (by decide +kernel)) sc_law_so.nd).frz)) (fun x hx px _ _ _ _ _ => (xv_var 5)) (by omega) (blkOk_by (N := n_law_so) (sc := defScope s_law_so) (by decide +kernel)) sc_law_so.nd).frz (congrArg (lT D.int) (so_filter (s := .box i a) fun x hx => by rw [no_false]; exact all_congr fun y hy => in_soL (sees_in hok hy)))) hΦ)
  | some i a =>
    have hi : 0 ≤ i := hnn.1
    have hda : a.dep < n := by simp only [My.dep] at hdep; omega
    refine xs_cons (xs_asgV 4 (xv_ix ix_tup (v_ixT (f := .str "some") rfl) (xv_var 3) xv_int) ?_ sc_law_so.nd)
    refine xs_no (XB.is (xb_cmp op_eq v_eqS (xv_var 4) xv_str) (by decide +kernel)) ?_
    refine xs_no (XB.is (xb_cmp op_eq v_eqS (xv_var 4) xv_str) (by decide +kernel)) ?_
    refine xs_cons (xs_if (XB.is (xb_cmp (op_inU hu65) (v_inUS (x := "some") (l := ["box", "some"])) (xv_var 4) (xv_tup (xl_cons xv_str (xl_cons xv_str xa_nil)))) (show _ = true by decide +kernel)) (fun _ => ?_) (fun h => nomatch h))
    refine xs_cons (xs_asgV 6 (xv_call G hr2 (xl_cons (xv_var 0) (xl_cons (xv_var 1) (xl_cons (xv_var 2) (xl_cons (xv_ix ix_tup (v_ixT (f := eM a) rfl) (xv_var 3) xv_int) xa_nil)))) ⟨m, a, rfl, ⟨hok, hnn.2, hda⟩, rfl⟩) ?_ sc_law_so.nd)
    have hal := soL_len (m := m) (s := a)
    refine xs_no (XB.is (xb_cmp op_eq v_eqS (xv_var 4) xv_str) (by decide +kernel)) ?_
    exact xs_cons (xs_retV (XV.is (xo_lc (f := D.int) (xs := rng 0 (m.fr.many : Int)) [5] (fun x => [D.int x]) (fun x => (decide (true ∈ ((seesA m.fr.arrows i x).map fun y => (decide (y ∈ soL m a)))))) D.int (fun x => x) [("x", 5)] (xw_range1 (xl_cons (xv_var 0) xa_nil) (by omega) m_range (by omega)) (fun _ _ _ _ _ => (pg_name (i := 5) sc_law_so.nd rfl (by first | exact Or.inl rfl | exact Or.inr rfl))) (fun _ _ => gt_name) .one (fun x hx => jt_wb fun _ _ _ _ _ => (xb_cmp (op_inD hu65) (v_inL (f := D.bl) (x := true)) xv_bl (xo_map (f := D.int) (xs := seesA m.fr.arrows i x) [7] (fun y => [D.int y]) D.bl (fun y => (decide (y ∈ soL m a))) [("y", 7)] (xw_listT (f := D.int) (xv_call c_law_sees (hr.mono (by omega)) (xl_cons (xv_var 1) (xl_cons (xv_ix ix_tup (v_ixT (f := .int i) rfl) (xv_var 3) xv_int) (xl_cons (xv_var 5) xa_nil))) ⟨m.fr.arrows, i, x, rfl, ⟨hi, hra⟩, rfl⟩)) (fun _ _ _ _ _ => (pg_name (i := 7) sc_law_so.nd rfl (by first | exact Or.inl rfl | exact Or.inr rfl))) (fun _ _ => gt_name) (fun y hy _ _ _ _ _ => (xv_cmp op_in_seq v_inLI (xv_var 7) (xv_var 6))) (by have := hsl i x; omega) (blkOk_by (N := n_law_so) (sc := relS _ (defScope s_law_so)) (by decide +kernel)) sc_law_so.nd).frz)) (fun x hx px _ _ _ _ _ => (xv_var 5)) (by omega) (blkOk_by (N := n_law_so) (sc := defScope s_law_so) (by decide +kernel)) sc_law_so.nd).frz (congrArg (lT D.int) (so_filter (s := .some i a) fun x hx => by rw [is_true]; exact any_congr fun y hy => in_soL (sees_in hok hy)))) hΦ)
  | neg a =>
    have hda : a.dep < n := by simp only [My.dep] at hdep; omega
    refine xs_cons (xs_asgV 4 (xv_ix ix_tup (v_ixT (f := .str "not") rfl) (xv_var 3) xv_int) ?_ sc_law_so.nd)
    refine xs_no (XB.is (xb_cmp op_eq v_eqS (xv_var 4) xv_str) (by decide +kernel)) ?_
    refine xs_no (XB.is (xb_cmp op_eq v_eqS (xv_var 4) xv_str) (by decide +kernel)) ?_
    refine xs_no (XB.is (xb_cmp (op_inU hu65) (v_inUS (x := "not") (l := ["box", "some"])) (xv_var 4) (xv_tup (xl_cons xv_str (xl_cons xv_str xa_nil)))) (by decide +kernel)) ?_
    refine xs_cons (xs_asgV 8 (xv_call G hr2 (xl_cons (xv_var 0) (xl_cons (xv_var 1) (xl_cons (xv_var 2) (xl_cons (xv_ix ix_tup (v_ixT (f := eM a) rfl) (xv_var 3) xv_int) xa_nil)))) ⟨m, a, rfl, ⟨hok, hnn, hda⟩, rfl⟩) ?_ sc_law_so.nd)
    refine xs_cons (xs_if (xb_cmp op_eq v_eqS (xv_var 4) xv_str) (fun _ => ?_) (fun h => absurd h (by decide +kernel)))
    exact xs_cons (xs_retV (XV.is (xo_lc (f := D.int) (xs := rng 0 (m.fr.many : Int)) [5] (fun x => [D.int x]) (fun x => (!decide (x ∈ soL m a))) D.int (fun x => x) [("x", 5)] (xw_range1 (xl_cons (xv_var 0) xa_nil) (by omega) m_range (by omega)) (fun _ _ _ _ _ => (pg_name (i := 5) sc_law_so.nd rfl (by first | exact Or.inl rfl | exact Or.inr rfl))) (fun _ _ => gt_name) .one (fun x hx => jt_wb fun _ _ _ _ _ => (xb_cmp op_notIn_seq v_niLI (xv_var 5) (xv_var 8))) (fun x hx px _ _ _ _ _ => (xv_var 5)) (by omega) (blkOk_by (N := n_law_so) (sc := defScope s_law_so) (by decide +kernel)) sc_law_so.nd).frz (congrArg (lT D.int) (so_filter (s := .neg a) fun x hx => by rw [in_soL hx]; rfl))) hΦ)
  | and a b =>
    have hda : a.dep < n := by simp only [My.dep] at hdep; omega
    have hdb : b.dep < n := by simp only [My.dep] at hdep; omega
    refine xs_cons (xs_asgV 4 (xv_ix ix_tup (v_ixT (f := .str "and") rfl) (xv_var 3) xv_int) ?_ sc_law_so.nd)
    refine xs_no (XB.is (xb_cmp op_eq v_eqS (xv_var 4) xv_str) (by decide +kernel)) ?_
    refine xs_no (XB.is (xb_cmp op_eq v_eqS (xv_var 4) xv_str) (by decide +kernel)) ?_
    refine xs_no (XB.is (xb_cmp (op_inU hu65) (v_inUS (x := "and") (l := ["box", "some"])) (xv_var 4) (xv_tup (xl_cons xv_str (xl_cons xv_str xa_nil)))) (by decide +kernel)) ?_
    refine xs_cons (xs_asgV 8 (xv_call G hr2 (xl_cons (xv_var 0) (xl_cons (xv_var 1) (xl_cons (xv_var 2) (xl_cons (xv_ix ix_tup (v_ixT (f := eM a) rfl) (xv_var 3) xv_int) xa_nil)))) ⟨m, a, rfl, ⟨hok, hnn.1, hda⟩, rfl⟩) ?_ sc_law_so.nd)
    refine xs_no (XB.is (xb_cmp op_eq v_eqS (xv_var 4) xv_str) (by decide +kernel)) ?_
    refine xs_cons (xs_asgV 9 (xv_call G hr2 (xl_cons (xv_var 0) (xl_cons (xv_var 1) (xl_cons (xv_var 2) (xl_cons (xv_ix ix_tup (v_ixT (f := eM b) rfl) (xv_var 3) xv_int) xa_nil)))) ⟨m, b, rfl, ⟨hok, hnn.2, hdb⟩, rfl⟩) ?_ sc_law_so.nd)
    have hal := soL_len (m := m) (s := a)
    have hbl := soL_len (m := m) (s := b)
    refine xs_cons (xs_if (xb_cmp op_eq v_eqS (xv_var 4) xv_str) (fun _ => ?_) (fun h => absurd h (by decide +kernel)))
    exact xs_cons (xs_retV (XV.is (xo_lc (f := D.int) (xs := soL m a) [5] (fun x => [D.int x]) (fun x => (decide (x ∈ soL m b))) D.int (fun x => x) [("x", 5)] (xw_listT (f := D.int) (xv_var 8)) (fun _ _ _ _ _ => (pg_name (i := 5) sc_law_so.nd rfl (by first | exact Or.inl rfl | exact Or.inr rfl))) (fun _ _ => gt_name) .one (fun x hx => jt_wb fun _ _ _ _ _ => (xb_cmp op_in_seq v_inLI (xv_var 5) (xv_var 9))) (fun x hx px _ _ _ _ _ => (xv_var 5)) (by omega) (blkOk_by (N := n_law_so) (sc := defScope s_law_so) (by decide +kernel)) sc_law_so.nd).frz (congrArg (lT D.int) so_and)) hΦ)
  | or a b =>
    have hda : a.dep < n := by simp only [My.dep] at hdep; omega
    have hdb : b.dep < n := by simp only [My.dep] at hdep; omega
    refine xs_cons (xs_asgV 4 (xv_ix ix_tup (v_ixT (f := .str "or") rfl) (xv_var 3) xv_int) ?_ sc_law_so.nd)
    refine xs_no (XB.is (xb_cmp op_eq v_eqS (xv_var 4) xv_str) (by decide +kernel)) ?_
    refine xs_no (XB.is (xb_cmp op_eq v_eqS (xv_var 4) xv_str) (by decide +kernel)) ?_
    refine xs_no (XB.is (xb_cmp (op_inU hu65) (v_inUS (x := "or") (l := ["box", "some"])) (xv_var 4) (xv_tup (xl_cons xv_str (xl_cons xv_str xa_nil)))) (by decide +kernel)) ?_
    refine xs_cons (xs_asgV 8 (xv_call G hr2 (xl_cons (xv_var 0) (xl_cons (xv_var 1) (xl_cons (xv_var 2) (xl_cons (xv_ix ix_tup (v_ixT (f := eM a) rfl) (xv_var 3) xv_int) xa_nil)))) ⟨m, a, rfl, ⟨hok, hnn.1, hda⟩, rfl⟩) ?_ sc_law_so.nd)
    refine xs_no (XB.is (xb_cmp op_eq v_eqS (xv_var 4) xv_str) (by decide +kernel)) ?_
    refine xs_cons (xs_asgV 9 (xv_call G hr2 (xl_cons (xv_var 0) (xl_cons (xv_var 1) (xl_cons (xv_var 2) (xl_cons (xv_ix ix_tup (v_ixT (f := eM b) rfl) (xv_var 3) xv_int) xa_nil)))) ⟨m, b, rfl, ⟨hok, hnn.2, hdb⟩, rfl⟩) ?_ sc_law_so.nd)
    have hal := soL_len (m := m) (s := a)
    have hbl := soL_len (m := m) (s := b)
    refine xs_no (XB.is (xb_cmp op_eq v_eqS (xv_var 4) xv_str) (by decide +kernel)) ?_
    refine xs_cons (xs_if (xb_cmp op_eq v_eqS (xv_var 4) xv_str) (fun _ => ?_) (fun h => absurd h (by decide +kernel)))
    exact xs_cons (xs_retV (XV.is (xo_lc (f := D.int) (xs := rng 0 (m.fr.many : Int)) [5] (fun x => [D.int x]) (fun x => ((decide (x ∈ soL m a)) || (decide (x ∈ soL m b)))) D.int (fun x => x) [("x", 5)] (xw_range1 (xl_cons (xv_var 0) xa_nil) (by omega) m_range (by omega)) (fun _ _ _ _ _ => (pg_name (i := 5) sc_law_so.nd rfl (by first | exact Or.inl rfl | exact Or.inr rfl))) (fun _ _ => gt_name) .one (fun x hx => jt_wb fun _ _ _ _ _ => (xt_w (xb_or (xb_cmp op_in_seq v_inLI (xv_var 5) (xv_var 8)) (fun _ => xw_or1 (xb_cmp op_in_seq v_inLI (xv_var 5) (xv_var 9)))))) (fun x hx px _ _ _ _ _ => (xv_var 5)) (by omega) (blkOk_by (N := n_law_so) (sc := defScope s_law_so) (by decide +kernel)) sc_law_so.nd).frz (congrArg (lT D.int) (so_filter (s := .or a b) fun x hx => by rw [in_soL hx, in_soL hx]; rfl))) hΦ)
  | imp a b =>
    have hda : a.dep < n := by simp only [My.dep] at hdep; omega
    have hdb : b.dep < n := by simp only [My.dep] at hdep; omega
    refine xs_cons (xs_asgV 4 (xv_ix ix_tup (v_ixT (f := .str "if") rfl) (xv_var 3) xv_int) ?_ sc_law_so.nd)
    refine xs_no (XB.is (xb_cmp op_eq v_eqS (xv_var 4) xv_str) (by decide +kernel)) ?_
    refine xs_no (XB.is (xb_cmp op_eq v_eqS (xv_var 4) xv_str) (by decide +kernel)) ?_
    refine xs_no (XB.is (xb_cmp (op_inU hu65) (v_inUS (x := "if") (l := ["box", "some"])) (xv_var 4) (xv_tup (xl_cons xv_str (xl_cons xv_str xa_nil)))) (by decide +kernel)) ?_
    refine xs_cons (xs_asgV 8 (xv_call G hr2 (xl_cons (xv_var 0) (xl_cons (xv_var 1) (xl_cons (xv_var 2) (xl_cons (xv_ix ix_tup (v_ixT (f := eM a) rfl) (xv_var 3) xv_int) xa_nil)))) ⟨m, a, rfl, ⟨hok, hnn.1, hda⟩, rfl⟩) ?_ sc_law_so.nd)
    refine xs_no (XB.is (xb_cmp op_eq v_eqS (xv_var 4) xv_str) (by decide +kernel)) ?_
    refine xs_cons (xs_asgV 9 (xv_call G hr2 (xl_cons (xv_var 0) (xl_cons (xv_var 1) (xl_cons (xv_var 2) (xl_cons (xv_ix ix_tup (v_ixT (f := eM b) rfl) (xv_var 3) xv_int) xa_nil)))) ⟨m, b, rfl, ⟨hok, hnn.2, hdb⟩, rfl⟩) ?_ sc_law_so.nd)
    have hal := soL_len (m := m) (s := a)
    have hbl := soL_len (m := m) (s := b)
    refine xs_no (XB.is (xb_cmp op_eq v_eqS (xv_var 4) xv_str) (by decide +kernel)) ?_
    refine xs_no (XB.is (xb_cmp op_eq v_eqS (xv_var 4) xv_str) (by decide +kernel)) ?_
    exact xs_cons (xs_retV (XV.is (xo_lc (f := D.int) (xs := rng 0 (m.fr.many : Int)) [5] (fun x => [D.int x]) (fun x => ((!decide (x ∈ soL m a)) || (decide (x ∈ soL m b)))) D.int (fun x => x) [("x", 5)] (xw_range1 (xl_cons (xv_var 0) xa_nil) (by omega) m_range (by omega)) (fun _ _ _ _ _ => (pg_name (i := 5) sc_law_so.nd rfl (by first | exact Or.inl rfl | exact Or.inr rfl))) (fun _ _ => gt_name) .one (fun x hx => jt_wb fun _ _ _ _ _ => (xt_w (xb_or (xb_cmp op_notIn_seq v_niLI (xv_var 5) (xv_var 8)) (fun _ => xw_or1 (xb_cmp op_in_seq v_inLI (xv_var 5) (xv_var 9)))))) (fun x hx px _ _ _ _ _ => (xv_var 5)) (by omega) (blkOk_by (N := n_law_so) (sc := defScope s_law_so) (by decide +kernel)) sc_law_so.nd).frz (congrArg (lT D.int) (so_filter (s := .imp a b) fun x hx => by rw [in_soL hx, in_soL hx]; rfl))) hΦ)
theorem cal_law_so (D : Dd K mg "_law_so" s_law_so ["many", "arrows", "marks", "saying"]) (c_law_sees : Cal P w K mg base 1 "_law_sees" ["arrows", "i", "x"] (spP K cLSees)) (m_len : mg "len" = none) (m_range : mg "range" = none) : ∀ n, Cal P w K mg base (n + 2) "_law_so" ["many", "arrows", "marks", "saying"] (spP K (cLSo n))
  | 0 => Cal.of D fun _ => fn_absurd fun vs H Q E ⟨ds, Φ, Hb, ⟨m, s, _, ⟨_, _, h⟩, _⟩, _⟩ => absurd h (Nat.not_lt_zero _)
  | n + 1 => Cal.of D fun F => ok_law_so F (cal_law_so D c_law_sees m_len m_range n) c_law_sees m_len m_range

end
end K36

namespace WF
open PySem PySem.Spec PyProof.Rows L2 Evl DL
/-! ### worlds that are followed -/
section
variable {m m2 : Mo} {x y : Int} {P : List (Int × Int)}
abbrev marked (m : Mo) (k x : Int) : Bool := ((decide (k < (m.marks.length : Int))) && (decide (x ∈ (m.marks.getD (k).toNat []))))
abbrev lettersL (m : Mo) (x : Int) : List Int := (rng 0 (m.marks.length : Int)).filter fun k => (decide (x ∈ (m.marks.getD (k).toNat [])))
def hasL (m : Mo) (x : Int) (m2 : Mo) (y : Int) : Bool := (((lettersL m x).map fun k => (marked m2 k y)).all id)
abbrev worldsP (m m2 : Mo) : List (Int × Int) := ((rng 0 (m.fr.many : Int)).flatMap fun x => (rng 0 (m2.fr.many : Int)).map fun y => (x, y))
def pairs0 (m m2 : Mo) : List (Int × Int) := (worldsP m m2).filter fun p => hasL m p.1 m2 p.2
def metB (m m2 : Mo) (P : List (Int × Int)) (p : Int × Int) : Bool := (rng 0 (m.fr.arrows.length : Int)).all fun i => (seesL m.fr i p.1).all fun x => (((seesL m2.fr i p.2).map fun y => (decide ((x, y) ∈ P))).any id)
def stepL (m m2 : Mo) (P : List (Int × Int)) : List (Int × Int) := P.filter (metB m m2 P)
def iterL (m m2 : Mo) : Nat → List (Int × Int)
  | 0 => pairs0 m m2
  | n + 1 => stepL m m2 (iterL m m2 n)
def simP (m m2 : Mo) : List (Int × Int) := iterL m m2 ((pairs0 m m2).length + 1)
theorem mem_worlds : (x, y) ∈ worldsP m m2 ↔ (0 ≤ x ∧ x < (m.fr.many : Int)) ∧ 0 ≤ y ∧ y < (m2.fr.many : Int) := by
  rw [List.mem_flatMap]
  constructor
  · rintro ⟨a, ha, h⟩
    obtain ⟨b, hb, e⟩ := List.mem_map.mp h
    cases e
    exact ⟨mem_rng.mp ha, mem_rng.mp hb⟩
  · rintro ⟨h1, h2⟩
    exact ⟨x, mem_rng.mpr h1, List.mem_map.mpr ⟨y, mem_rng.mpr h2, rfl⟩⟩
theorem iter_sub : ∀ {n : Nat} {p : Int × Int}, p ∈ iterL m m2 (n + 1) → p ∈ iterL m m2 n := fun h => (List.mem_filter.mp h).1
theorem iter_worlds : ∀ {n : Nat} {p : Int × Int}, p ∈ iterL m m2 n → p ∈ worldsP m m2
  | 0, p, h => (List.mem_filter.mp h).1
  | n + 1, p, h => iter_worlds (iter_sub h)
theorem iter_len : ∀ {n : Nat}, (iterL m m2 n).length ≤ (worldsP m m2).length
  | 0 => List.length_filter_le _ _
  | n + 1 => Nat.le_trans (List.length_filter_le _ _) iter_len
theorem worlds_len : (worldsP m m2).length = m.fr.many * m2.fr.many := by
  have : ∀ l : List Int, (l.flatMap fun x => (rng 0 (m2.fr.many : Int)).map fun y => (x, y)).length = l.length * m2.fr.many := fun l => by
    induction l with
    | nil => simp
    | cons x l ih =>
      rw [List.flatMap_cons, List.length_append, ih, List.length_map, rng_len, List.length_cons, Nat.succ_mul]
      omega
  rw [this, rng_len]
  have : ((m.fr.many : Int) - 0).toNat = m.fr.many := by omega
  rw [this]
theorem fix_on {n : Nat} (h : stepL m m2 (iterL m m2 n) = iterL m m2 n) : ∀ k, iterL m m2 (n + k) = iterL m m2 n
  | 0 => rfl
  | k + 1 => by
    show stepL m m2 (iterL m m2 (n + k)) = _
    rw [fix_on h k, h]
/-- either it stands, or it has lost a pair each time -/
theorem fix_or : ∀ n, stepL m m2 (iterL m m2 n) = iterL m m2 n ∨ (iterL m m2 n).length + n ≤ (pairs0 m m2).length
  | 0 => .inr (by show (pairs0 m m2).length + 0 ≤ _; omega)
  | n + 1 => by
    rcases fix_or n with h | h
    · left
      have : iterL m m2 (n + 1) = iterL m m2 n := h
      rw [this]
      exact h
    · by_cases c : stepL m m2 (iterL m m2 n) = iterL m m2 n
      · left
        have : iterL m m2 (n + 1) = iterL m m2 n := c
        rw [this]
        exact c
      · right
        have hl : (iterL m m2 (n + 1)).length < (iterL m m2 n).length := by
          refine Nat.lt_of_le_of_ne (List.length_filter_le _ _) fun e => c ?_
          exact List.Sublist.eq_of_length List.filter_sublist e
        omega
theorem fix_at : stepL m m2 (simP m m2) = simP m m2 := by
  rcases fix_or (m := m) (m2 := m2) ((pairs0 m m2).length + 1) with h | h
  · exact h
  · omega
theorem fix_eq {n : Nat} (h : stepL m m2 (iterL m m2 n) = iterL m m2 n) : iterL m m2 n = simP m m2 := by
  by_cases c : n ≤ (pairs0 m m2).length + 1
  · have := fix_on h ((pairs0 m m2).length + 1 - n)
    rw [show n + ((pairs0 m m2).length + 1 - n) = (pairs0 m m2).length + 1 by omega] at this
    exact this.symm
  · have := fix_on (m := m) (m2 := m2) (n := (pairs0 m m2).length + 1) fix_at (n - ((pairs0 m m2).length + 1))
    rw [show (pairs0 m m2).length + 1 + (n - ((pairs0 m m2).length + 1)) = n by omega] at this
    exact this
theorem sim_iff {n : Nat} (hn : (pairs0 m m2).length ≤ n) : iterL m m2 n = simP m m2 := by
  rcases fix_or (m := m) (m2 := m2) n with h | h
  · exact fix_eq h
  · have e0 : iterL m m2 n = [] := List.length_eq_zero_iff.mp (by omega)
    exact fix_eq (by rw [e0]; rfl)
theorem met_iff {p : Int × Int} : metB m m2 P p = true ↔ ∀ i, 0 ≤ i ∧ i < (m.fr.arrows.length : Int) → ∀ x ∈ seesL m.fr i p.1, ∃ y ∈ seesL m2.fr i p.2, (x, y) ∈ P := by
  unfold metB
  rw [List.all_eq_true]
  constructor
  · intro h i hi x hx
    have h1 := List.all_eq_true.mp (h i (mem_rng.mpr hi)) x hx
    obtain ⟨b, hb, e⟩ := List.any_eq_true.mp h1
    obtain ⟨y, hy, rfl⟩ := List.mem_map.mp hb
    exact ⟨y, hy, of_decide_eq_true e⟩
  · intro h i hi
    rw [List.all_eq_true]
    intro x hx
    obtain ⟨y, hy, hp⟩ := h i (mem_rng.mp hi) x hx
    exact List.any_eq_true.mpr ⟨_, List.mem_map.mpr ⟨y, hy, rfl⟩, decide_eq_true hp⟩
theorem has_iff : hasL m x m2 y = true ↔ ∀ k, 0 ≤ k ∧ k < (m.marks.length : Int) → x ∈ m.marks.getD k.toNat [] → marked m2 k y = true := by
  unfold hasL
  rw [List.all_eq_true]
  constructor
  · intro h k hk hx
    exact h _ (List.mem_map.mpr ⟨k, List.mem_filter.mpr ⟨mem_rng.mpr hk, decide_eq_true hx⟩, rfl⟩)
  · intro h b hb
    obtain ⟨k, hk, rfl⟩ := List.mem_map.mp hb
    obtain ⟨h1, h2⟩ := List.mem_filter.mp hk
    exact h k (mem_rng.mp h1) (of_decide_eq_true h2)
/-! sayings of letters, and, some -/
def fwd : My → Prop
  | .letter _ => True
  | .neg .fls => True
  | .some _ a => fwd a
  | .and a b => fwd a ∧ fwd b
  | _ => False
theorem sees_eq {f : Fr} {i x : Int} : seesL f i x = seesA f.arrows i x := rfl
theorem seesL_in (h : m.ok) {i z w : Int} (hy : w ∈ seesL m.fr i z) : 0 ≤ w ∧ w < (m.fr.many : Int) := sees_in h hy
theorem seesL_ix {f : Fr} {i z w : Int} (h : w ∈ seesL f i z) : i < (f.arrows.length : Int) := by
  unfold seesL at h
  by_cases c : (f.arrows.length : Int) ≤ i
  · rw [if_pos c] at h; exact nomatch h
  · omega
/-- what is so is so at those that follow -/
theorem sim_keep (hm : m.ok) : ∀ (s : My), fwd s → s.nn → ∀ {x y : Int}, (x, y) ∈ simP m m2 → soB m s x = true → soB m2 s y = true
  | .letter k, _, hk, x, y, hp, h => by
    have hk : 0 ≤ k := hk
    have h2 := Bool.and_eq_true_iff.mp h
    have hkl := of_decide_eq_true h2.1
    have hmem := of_decide_eq_true h2.2
    have hp0 : (x, y) ∈ pairs0 m m2 := by
      have : ∀ n, (x, y) ∈ iterL m m2 n → (x, y) ∈ pairs0 m m2 := fun n => by
        induction n with
        | zero => exact id
        | succ n ih => exact fun z => ih (iter_sub z)
      exact this _ hp
    exact has_iff.mp (List.mem_filter.mp hp0).2 k ⟨hk, hkl⟩ hmem
  | .neg .fls, _, _, x, y, hp, h => rfl
  | .and a b, hf, hn, x, y, hp, h => by
    have h2 := Bool.and_eq_true_iff.mp h
    exact Bool.and_eq_true_iff.mpr ⟨sim_keep hm a hf.1 hn.1 hp h2.1, sim_keep hm b hf.2 hn.2 hp h2.2⟩
  | .some i a, hf, hn, x, y, hp, h => by
    obtain ⟨x', hx', hs⟩ := List.any_eq_true.mp h
    have hp2 := hp
    rw [← fix_at] at hp2
    have hmet := met_iff.mp (List.mem_filter.mp hp2).2
    have hix : i < (m.fr.arrows.length : Int) := seesL_ix (f := m.fr) hx'
    obtain ⟨y', hy', hq⟩ := hmet i ⟨hn.1, hix⟩ x' hx'
    exact List.any_eq_true.mpr ⟨y', hy', sim_keep hm a hf hn.2 hq hs⟩
  | .fls, hf, _, _, _, _, _ => absurd hf id
  | .or _ _, hf, _, _, _, _, _ => absurd hf id
  | .imp _ _, hf, _, _, _, _, _ => absurd hf id
  | .box _ _, hf, _, _, _, _, _ => absurd hf id
  | .neg (.letter _), hf, _, _, _, _, _ => absurd hf id
  | .neg (.neg _), hf, _, _, _, _, _ => absurd hf id
  | .neg (.and _ _), hf, _, _, _, _, _ => absurd hf id
  | .neg (.or _ _), hf, _, _, _, _, _ => absurd hf id
  | .neg (.imp _ _), hf, _, _, _, _, _ => absurd hf id
  | .neg (.box _ _), hf, _, _, _, _, _ => absurd hf id
  | .neg (.some _ _), hf, _, _, _, _, _ => absurd hf id
/-! tied -/
def tiedM : List My → My
  | [] => .neg .fls
  | s :: r => r.foldl My.and s
theorem tied_so {m : Mo} {z : Int} : ∀ {l : List My}, soB m (tiedM l) z = l.all fun s => soB m s z
  | [] => rfl
  | s :: r => by
    show soB m (r.foldl My.and s) z = _
    induction r generalizing s with
    | nil => simp
    | cons t r ih =>
      rw [List.foldl_cons, ih]
      simp only [List.all_cons]
      show ((soB m s z && soB m t z) && _) = _
      rw [Bool.and_assoc]
theorem tied_fwd : ∀ {l : List My}, (∀ s ∈ l, fwd s) → fwd (tiedM l)
  | [], _ => trivial
  | s :: r, h => by
    show fwd (r.foldl My.and s)
    induction r generalizing s with
    | nil => exact h s (List.mem_cons_self ..)
    | cons t r ih =>
      rw [List.foldl_cons]
      refine ih (s := .and s t) fun u hu => ?_
      rcases List.mem_cons.mp hu with rfl | hu
      · exact ⟨h s (List.mem_cons_self ..), h t (List.mem_cons_of_mem _ (List.mem_cons_self ..))⟩
      · exact h u (List.mem_cons_of_mem _ (List.mem_cons_of_mem _ hu))
theorem tied_nn : ∀ {l : List My}, (∀ s ∈ l, s.nn) → (tiedM l).nn
  | [], _ => trivial
  | s :: r, h => by
    show (r.foldl My.and s).nn
    induction r generalizing s with
    | nil => exact h s (List.mem_cons_self ..)
    | cons t r ih =>
      rw [List.foldl_cons]
      refine ih (s := .and s t) fun u hu => ?_
      rcases List.mem_cons.mp hu with rfl | hu
      · exact ⟨h s (List.mem_cons_self ..), h t (List.mem_cons_of_mem _ (List.mem_cons_self ..))⟩
      · exact h u (List.mem_cons_of_mem _ (List.mem_cons_of_mem _ hu))
theorem tied_dep {b : Nat} : ∀ {l : List My}, (∀ s ∈ l, s.dep ≤ b) → (tiedM l).dep ≤ b + l.length + 1
  | [], _ => by show 1 ≤ b + 0 + 1; omega
  | s :: r, h => by
    show (r.foldl My.and s).dep ≤ _
    have : ∀ (r : List My) (s : My) (c : Nat), s.dep ≤ c → b ≤ c → (∀ t ∈ r, t.dep ≤ b) → (r.foldl My.and s).dep ≤ c + r.length := fun r => by
      induction r with
      | nil => intro s c h _ _; exact h
      | cons t r ih =>
        intro s c h1 h2 h3
        rw [List.foldl_cons]
        have ht := h3 t (List.mem_cons_self ..)
        have := ih (.and s t) (c + 1) (by simp only [My.dep]; omega) (by omega) fun u hu => h3 u (List.mem_cons_of_mem _ hu)
        rw [List.length_cons]
        omega
    have := this r s b (h s (List.mem_cons_self ..)) (Nat.le_refl _) fun t ht => h t (List.mem_cons_of_mem _ ht)
    rw [List.length_cons]
    omega
end
end WF

namespace WF
open PySem PySem.Spec PyProof.Rows L2 Evl DL
section
variable (CF CM : Addr)
def cMarked : Con := fun ds Φ => ∃ (m : Mo) (k x : Int), ds = [eMo CF CM m, .int k, .int x] ∧ (m.ok ∧ 0 ≤ k) ∧ Φ (.bl (marked m k x))
def cHasL : Con := fun ds Φ => ∃ (m : Mo) (x : Int) (m2 : Mo) (y : Int), ds = [eMo CF CM m, .int x, eMo CF CM m2, .int y] ∧ (m.ok ∧ m2.ok) ∧ Φ (.bl (hasL m x m2 y))
def cMet : Con := fun ds Φ => ∃ (m m2 : Mo) (P : List (Int × Int)) (p : Int × Int), ds = [eMo CF CM m, eMo CF CM m2, lT tP P, tP p] ∧ (m.ok ∧ m2.ok ∧ P.length ≤ 1000) ∧ Φ (.bl (metB m m2 P p))
def cSim : Con := fun ds Φ => ∃ (m m2 : Mo), ds = [eMo CF CM m, eMo CF CM m2] ∧ (m.ok ∧ m2.ok) ∧ Φ (lT tP (simP m m2))
def cFol : Con := fun ds Φ => ∃ (m m2 : Mo) (d : Int), ds = [eMo CF CM m, eMo CF CM m2, .int d] ∧ (m.ok ∧ m2.ok ∧ 0 ≤ d ∧ d ≤ 1000) ∧ Φ (lT tP (iterL m m2 d.toNat))
end
def cTied : Con := fun ds Φ => ∃ l : List My, ds = [.str "and", lT eM l] ∧ l.length ≤ 100 ∧ Φ (eM (tiedM l))
section
variable {m m2 : Mo}
theorem worlds_400 (h : m.ok) (h2 : m2.ok) : (worldsP m m2).length ≤ 400 := by
  rw [worlds_len]
  have := Nat.mul_le_mul h.fr.n2 h2.fr.n2
  omega
theorem iter_400 (h : m.ok) (h2 : m2.ok) {n : Nat} : (iterL m m2 n).length ≤ 400 := Nat.le_trans iter_len (worlds_400 h h2)
theorem seesL_len (h : m.ok) {i x : Int} : (seesL m.fr i x).length ≤ 100 := sees_len fun r hr => (h.fr.arr r hr).2.2
theorem marks_len (h : m.ok) {k : Int} : (m.marks.getD k.toNat []).length ≤ 100 := by
  rw [List.getD_eq_getElem?_getD]
  cases e : m.marks[k.toNat]? with
  | none => exact Nat.zero_le _
  | some r => exact (h.mks r (List.mem_of_getElem? e)).2.2
theorem met_at {P : List (Int × Int)} {p : Int × Int} {i : Int} (h : ∀ x ∈ seesL m.fr i p.1, (((seesL m2.fr i p.2).map fun y => (decide ((x, y) ∈ P))).any id) = true) : ((seesL m.fr i p.1).all fun x => (((seesL m2.fr i p.2).map fun y => (decide ((x, y) ∈ P))).any id)) = true := List.all_eq_true.mpr h
theorem met_no {P : List (Int × Int)} {p : Int × Int} {i x : Int} (hi : i ∈ rng 0 (m.fr.arrows.length : Int)) (hx : x ∈ seesL m.fr i p.1) (h : (((seesL m2.fr i p.2).map fun y => (decide ((x, y) ∈ P))).any id) = false) : metB m m2 P p = false := by
  unfold metB
  rw [List.all_eq_false]
  refine ⟨i, hi, ?_⟩
  rw [Bool.not_eq_true, List.all_eq_false]
  exact ⟨x, hx, by rw [h]; exact Bool.false_ne_true⟩
end
end WF

namespace K36
open PySem PySem.Spec PyProof.Rows L2 Evl DL WF
section
variable {P : Program} {w : World} {K : PySem.W.Frag} {mg : Str → Option Value} {base : Heap}
abbrev s_is_marked : Stmt := topS 2
abbrev n_is_marked : List Str := ["model", "k", "world"]
theorem sc_is_marked : FnScope n_is_marked ["model", "k", "world"] (defScope s_is_marked) := ⟨rfl, rfl, rfl, by decide +kernel, rfl, by decide +kernel, by decide +kernel⟩
theorem ok_is_marked {CF CM : Addr} {f : Addr} {fd : FuncData} (F : Fun K "is_marked" "is_marked" s_is_marked f fd) (kM : MoK K mg CM) (m_len : mg "len" = none) : FnOk P w K mg base CX0 (0 + 1) f fd ["model", "k", "world"] (spP K (cMarked CF CM)) := by
  refine fn_pure F sc_is_marked (fun ds Φ ⟨m, k, x, hd, ⟨hok, hk⟩, hΦ⟩ => by rw [hd]; rfl) fun cdv A outer s0 H E hr ds Φ ⟨m, k, x, hd, ⟨hok, hk⟩, hΦ⟩ => ?_
  subst hd
  exact xs_cons (xs_retV (xv_and (xv_cmp op_lt v_lt (xv_var 1) (xv_lenTT (f := (tT D.int)) (xv_fld (d := (tT (tT D.int)) m.marks) (xv_var 0) kM.dc.cl kM.marks) m_len)) (fun hk2 => (xv_one (xv_cmp op_in_seq v_inT (xv_var 2) (xv_ix ix_tup (v_ixTT (f := (tT D.int)) (atI_getD (d := []) hk (of_decide_eq_true hk2))) (xv_fld (d := (tT (tT D.int)) m.marks) (xv_var 0) kM.dc.cl kM.marks) (xv_var 1)))))) hΦ)
abbrev s_has_letters : Stmt := topS 5
abbrev n_has_letters : List Str := ["first", "one", "second", "other", "k"]
theorem sc_has_letters : FnScope n_has_letters ["first", "one", "second", "other"] (defScope s_has_letters) := ⟨rfl, rfl, rfl, by decide +kernel, rfl, by decide +kernel, by decide +kernel⟩
theorem ok_has_letters {CF CM : Addr} {f : Addr} {fd : FuncData} (F : Fun K "has_letters" "has_letters" s_has_letters f fd) (kM : MoK K mg CM) (c_is_marked : Cal P w K mg base 1 "is_marked" ["model", "k", "world"] (spP K (cMarked CF CM))) (m_len : mg "len" = none) (m_range : mg "range" = none) (m_all : mg "all" = none) : FnOk P w K mg base CX0 (1 + 1) f fd ["first", "one", "second", "other"] (spP K (cHasL CF CM)) := by
  refine fn_pure F sc_has_letters (fun ds Φ ⟨m, x, m2, y, hd, ⟨ho1, ho2⟩, hΦ⟩ => by rw [hd]; rfl) fun cdv A outer s0 H E hr ds Φ ⟨m, x, m2, y, hd, ⟨ho1, ho2⟩, hΦ⟩ => ?_
  subst hd
  have hml := ho1.len
  exact xs_cons (xs_retV (xv_all (xo_lc (f := D.int) (xs := (rng 0 (m.marks.length : Int))) [4] (fun k => [D.int k]) (fun k => (decide (x ∈ (m.marks.getD (k).toNat [])))) D.bl (fun k => (marked m2 k y)) [("k", 4)] (xw_range1 (xl_cons (xv_lenTT (f := (tT D.int)) (xv_fld (d := (tT (tT D.int)) m.marks) (xv_var 0) kM.dc.cl kM.marks) m_len) xa_nil) (by omega) m_range (by omega)) (fun _ _ _ _ _ => pg_name (i := 4) sc_has_letters.nd rfl (by first | exact Or.inl rfl | exact Or.inr rfl)) (fun _ _ => gt_name) .one (fun k hk => jt_wb fun _ _ _ _ _ => (xb_cmp op_in_seq v_inT (xv_var 1) (xv_ix ix_tup (v_ixTT (f := (tT D.int)) (atI_getD (d := []) (by have mk := mem_rng.mp hk; omega) (by have mk := mem_rng.mp hk; omega))) (xv_fld (d := (tT (tT D.int)) m.marks) (xv_var 0) kM.dc.cl kM.marks) (xv_var 4)))) (fun k hk pk _ _ _ _ _ => (xv_call c_is_marked (hr.mono (by decide)) (xl_cons (xv_var 2) (xl_cons (xv_var 4) (xl_cons (xv_var 3) xa_nil))) ⟨m2, k, y, rfl, ⟨ho2, (mem_rng.mp hk).1⟩, rfl⟩)) (by rw [rng_len]; omega) (blkOk_by (N := n_has_letters) (sc := defScope s_has_letters) (by decide +kernel)) sc_has_letters.nd).frz m_all) hΦ)
abbrev s_steps_met : Stmt := topS 6
abbrev n_steps_met : List Str := ["first", "second", "pairs", "pair", "i", "x", "y"]
theorem sc_steps_met : FnScope n_steps_met ["first", "second", "pairs", "pair"] (defScope s_steps_met) := ⟨rfl, rfl, rfl, by decide +kernel, rfl, by decide +kernel, by decide +kernel⟩
theorem ok_steps_met {CF CM : Addr} {f : Addr} {fd : FuncData} (F : Fun K "steps_met" "steps_met" s_steps_met f fd) (kF : FrK K mg CF) (kM : MoK K mg CM) (c_Frame_sees : Mth P w K mg base 1 CF "sees" ["self", "index", "world"] (spP K (cSees CF))) (m_len : mg "len" = none) (m_range : mg "range" = none) (m_any : mg "any" = none) : FnOk P w K mg base CX0 (1 + 1) f fd ["first", "second", "pairs", "pair"] (spP K (cMet CF CM)) := by
  refine fn_pure F sc_steps_met (fun ds Φ ⟨m, m2, P, p, hd, ⟨ho1, ho2, hpl⟩, hΦ⟩ => by rw [hd]; rfl) fun cdv A outer s0 H E hr ds Φ ⟨m, m2, P, p, hd, ⟨ho1, ho2, hpl⟩, hΦ⟩ => ?_
  subst hd
  have hu64 := hu_64 hr
  have hu65 := hu_65 hr
  have hu0 : (A.deeper (envOfC "steps_met" (defScope s_steps_met) s0.heap.objs.size f cdv)).units < cLine := by omega
  have hal := ho1.fr.len
  have s1 := fun i x => seesL_len ho1 (i := i) (x := x)
  have s2 := fun i x => seesL_len ho2 (i := i) (x := x)
  refine xs_loopP (f := D.int) (xs := (rng 0 (m.fr.arrows.length : Int))) (js := [4]) (fun i => [D.int i]) (fun _ : Unit => [.pd (eMo CF CM m), .pd (eMo CF CM m2), .pd (lT tP P), .pd (tP p), .un, .un, .un]) (fun _ => ()) (fun pre => ∀ i ∈ pre, ((seesL m.fr i p.1).all fun x => (((seesL m2.fr i p.2).map fun y => (decide ((x, y) ∈ P))).any id)) = true) (xw_range1 (xl_cons (xv_lenTT (f := (tT (pT D.int D.int))) (xv_fld (d := (tT (tT (pT D.int D.int))) m.fr.arrows) (xv_fld (d := (eFr CF) m.fr) (xv_var 0) kM.dc.cl kM.frame) kF.dc.cl kF.arrows) m_len) xa_nil) (by omega) m_range (by omega)) (pg_name (i := 4) sc_steps_met.nd rfl (by first | exact Or.inl rfl | exact Or.inr rfl)) (fun _ _ => gt_name) (by repeat (first | exact le_nil | refine le_eq ?_ | refine le_un ?_)) (fun p hp => nomatch hp) (fun pre i post hx hiv => ?_) (fun hiv => ?_) PassesOwn.never
  ·
    have him : i ∈ rng 0 (m.fr.arrows.length : Int) := by rw [hx]; simp
    have hi0 := (mem_rng.mp him).1
    refine xs_loopP (f := D.int) (xs := (seesL m.fr i p.1)) (js := [5]) (fun x => [D.int x]) (fun _ : Unit => [.pd (eMo CF CM m), .pd (eMo CF CM m2), .pd (lT tP P), .pd (tP p), .pd (.int i), .un, .un]) (fun _ => ()) (fun pre2 => ∀ x ∈ pre2, (((seesL m2.fr i p.2).map fun y => (decide ((x, y) ∈ P))).any id) = true) (xw_tupT (f := D.int) (xv_meth c_Frame_sees kF.dc.cl (hr.mono (by decide)) (xv_fld (d := (eFr CF) m.fr) (xv_var 0) kM.dc.cl kM.frame) (xl_cons (xv_var 4) (xl_cons (xv_ix ix_tup (v_ixT (f := D.int p.1) rfl) (xv_var 3) xv_int) xa_nil)) ⟨m.fr, i, p.1, rfl, ⟨ho1.fr, hi0⟩, rfl⟩)) (pg_name (i := 5) sc_steps_met.nd rfl (by first | exact Or.inl rfl | exact Or.inr rfl)) (fun _ _ => gt_name) (by repeat (first | exact le_nil | refine le_eq ?_ | refine le_un ?_)) (fun p hp => nomatch hp) (fun pre2 x post2 hx2 hiv2 => ?_) (fun hiv2 => ?_) PassesOwn.never
    ·
      refine xs_cons (xs_if (xb_not (xb_val (xv_any (xo_map (f := D.int) (xs := (seesL m2.fr i p.2)) [6] (fun y => [D.int y]) D.bl (fun y => (decide ((x, y) ∈ P))) [("y", 6)] (xw_tupT (f := D.int) (xv_meth c_Frame_sees kF.dc.cl (hr.mono (by decide)) (xv_fld (d := (eFr CF) m2.fr) (xv_var 1) kM.dc.cl kM.frame) (xl_cons (xv_var 4) (xl_cons (xv_ix ix_tup (v_ixT (f := D.int p.2) rfl) (xv_var 3) xv_int) xa_nil)) ⟨m2.fr, i, p.2, rfl, ⟨ho2.fr, hi0⟩, rfl⟩)) (fun _ _ _ _ _ => pg_name (i := 6) sc_steps_met.nd rfl (by first | exact Or.inl rfl | exact Or.inr rfl)) (fun _ _ => gt_name) (fun y hy _ _ _ _ _ => (xv_cmp (op_inD hu65) (v_inL (f := (pT D.int D.int)) (x := (x, y))) (xv_tup (hl := by simp) (xl_cons (xv_var 5) (xl_cons (xv_var 6) xa_nil))) (xv_var 2))) (by have := s2 i p.2; omega) (blkOk_by (N := n_steps_met) (sc := defScope s_steps_met) (by decide +kernel)) sc_steps_met.nd).frz m_any))) (fun h1 => ?_) (fun h1 => ?_))
      ·
        exact xs_cons (xs_retV xv_bl (by rw [met_no him (show x ∈ seesL m.fr i p.1 by rw [hx2]; simp) (by
          have h1 := h1.symm
          rwa [Bool.not_eq_true'] at h1)] at hΦ; exact hΦ))
      ·
        refine xs_nil ?_
        exact xs_nil ⟨(by repeat (first | exact le_nil | refine le_eq ?_ | refine le_un ?_)), fun q hq => by
          rcases List.mem_append.mp hq with hq | hq
          · exact hiv2 q hq
          · rw [List.mem_singleton.mp hq]
            have h1 := h1.symm
            rwa [Bool.not_eq_false'] at h1⟩
    ·
      exact xs_nil ⟨(by repeat (first | exact le_nil | refine le_eq ?_ | refine le_un ?_)), fun q hq => by
        rcases List.mem_append.mp hq with hq | hq
        · exact hiv q hq
        · rw [List.mem_singleton.mp hq]; exact met_at hiv2⟩
  ·
    exact xs_cons (xs_retV xv_bl (by rw [show metB m m2 P p = true from List.all_eq_true.mpr hiv] at hΦ; exact hΦ))
end
end K36

namespace K36
open PySem PySem.Spec PyProof.Rows L2 Evl DL WF
section
variable {P : Program} {w : World} {K : PySem.W.Frag} {mg : Str → Option Value} {base : Heap}
abbrev s_similar_pairs : Stmt := topS 4
abbrev n_similar_pairs : List Str := ["first", "second", "worlds", "x", "y", "pairs", "pair", "less"]
theorem sc_similar_pairs : FnScope n_similar_pairs ["first", "second"] (defScope s_similar_pairs) := ⟨rfl, rfl, rfl, by decide +kernel, rfl, by decide +kernel, by decide +kernel⟩
theorem ok_similar_pairs {CF CM : Addr} {f : Addr} {fd : FuncData} (F : Fun K "similar_pairs" "similar_pairs" s_similar_pairs f fd) (kF : FrK K mg CF) (kM : MoK K mg CM) (c_has_letters : Cal P w K mg base 2 "has_letters" ["first", "one", "second", "other"] (spP K (cHasL CF CM))) (c_steps_met : Cal P w K mg base 2 "steps_met" ["first", "second", "pairs", "pair"] (spP K (cMet CF CM))) (m_range : mg "range" = none) : FnOk P w K mg base CX0 (2 + 1) f fd ["first", "second"] (spP K (cSim CF CM)) := by
  refine fn_pure F sc_similar_pairs (fun ds Φ ⟨m, m2, hd, ⟨ho1, ho2⟩, hΦ⟩ => by rw [hd]; rfl) fun cdv A outer s0 H E hr ds Φ ⟨m, m2, hd, ⟨ho1, ho2⟩, hΦ⟩ => ?_
  subst hd
  have hu64 := hu_64 hr
  have hu65 := hu_65 hr
  have hu0 : (A.deeper (envOfC "similar_pairs" (defScope s_similar_pairs) s0.heap.objs.size f cdv)).units < cLine := by omega
  have n1 := ho1.fr.n2
  have n2 := ho2.fr.n2
  have w4 := worlds_400 ho1 ho2
  have i4 := fun n => iter_400 ho1 ho2 (n := n)
  refine xs_cons (xs_asgMap2 (f := D.int) (xs := (rng 0 (m.fr.many : Int))) 2 [3] [4] (fun x => [D.int x]) (fun y => [D.int y]) D.int (fun x => (rng 0 (m2.fr.many : Int))) (pT D.int D.int) (fun x y => (x, y)) [("x", 3), ("y", 4)] [4] (xw_range1 (xl_cons (xv_fld (d := D.int (m.fr.many : Int)) (xv_fld (d := (eFr CF) m.fr) (xv_var 0) kM.dc.cl kM.frame) kF.dc.cl kF.many) xa_nil) (by omega) m_range (by omega)) (fun _ _ _ _ _ => pg_name (i := 3) sc_similar_pairs.nd rfl (by first | exact Or.inl rfl | exact Or.inr rfl)) (fun _ _ => gt_name) (fun x hx _ _ _ _ _ => (xw_range1 (xl_cons (xv_fld (d := D.int (m2.fr.many : Int)) (xv_fld (d := (eFr CF) m2.fr) (xv_var 1) kM.dc.cl kM.frame) kF.dc.cl kF.many) xa_nil) (by have mx := mem_rng.mp hx; omega) m_range (by have mx := mem_rng.mp hx; omega))) (fun _ _ _ _ _ => pg_name (i := 4) sc_similar_pairs.nd rfl (by first | exact Or.inl rfl | exact Or.inr rfl)) (fun _ _ => (fun _ _ => gt_name)) (fun x hx y hy _ _ _ _ _ => (xv_tup (hl := by simp) (xl_cons (xv_var 3) (xl_cons (xv_var 4) xa_nil)))) (by have e := congrArg List.length (rfl : worldsP m m2 = worldsP m m2); show (worldsP m m2).length < 100000; omega) ?_ (blkOk_by (N := n_similar_pairs) (sc := defScope s_similar_pairs) (by decide +kernel)) sc_similar_pairs.nd (sw_true rfl rfl rfl (by decide +kernel)))
  refine xs_freeze 2 ?_
  refine xs_cons (xs_asgV 5 (d := lT tP (iterL m m2 0)) (XV.is (xo_lc (f := (pT D.int D.int)) (xs := (worldsP m m2)) [6] (fun pair => [(pT D.int D.int) pair]) (fun pair => (hasL m pair.1 m2 pair.2)) (pT D.int D.int) (fun pair => pair) [("pair", 6)] (xw_listT (f := (pT D.int D.int)) (xv_var 2)) (fun _ _ _ _ _ => pg_name (i := 6) sc_similar_pairs.nd rfl (by first | exact Or.inl rfl | exact Or.inr rfl)) (fun _ _ => gt_name) .one (fun pair hpair => jt_wb fun _ _ _ _ _ => (xb_val (xv_call c_has_letters (hr.mono (by decide)) (xl_cons (xv_var 0) (xl_cons (xv_ix ix_tup (v_ixT (f := D.int pair.1) rfl) (xv_var 6) xv_int) (xl_cons (xv_var 1) (xl_cons (xv_ix ix_tup (v_ixT (f := D.int pair.2) rfl) (xv_var 6) xv_int) xa_nil)))) ⟨m, pair.1, m2, pair.2, rfl, ⟨ho1, ho2⟩, rfl⟩))) (fun pair hpair ppair _ _ _ _ _ => (xv_var 6)) (by omega) (blkOk_by (N := n_similar_pairs) (sc := defScope s_similar_pairs) (by decide +kernel)) sc_similar_pairs.nd).frz (by rw [List.map_id']; rfl)) ?_ sc_similar_pairs.nd)
  refine xs_cons (xs_asgLc (f := tP) (xs := (iterL m m2 (0))) 7 [6] (fun pair => [tP pair]) (fun pair => (metB m m2 (iterL m m2 (0)) pair)) tP (fun pair => pair) [("pair", 6)] (xw_listT (f := tP) (xv_var 5)) (fun _ _ _ _ _ => (pg_name (i := 6) sc_similar_pairs.nd rfl (by first | exact Or.inl rfl | exact Or.inr rfl))) (fun _ _ => gt_name) .one (fun pair hpair => jt_wb fun _ _ _ _ _ => (xb_val (xv_call c_steps_met (hr.mono (by decide)) (xl_cons (xv_var 0) (xl_cons (xv_var 1) (xl_cons (xv_var 5) (xl_cons (xv_var 6) xa_nil)))) ⟨m, m2, (iterL m m2 (0)), pair, rfl, ⟨ho1, ho2, by have := i4 (0); omega⟩, rfl⟩))) (fun pair hpair ppair _ _ _ _ _ => (xv_var 6)) (by have := i4 (0); omega) ?_ (blkOk_by (N := n_similar_pairs) (sc := defScope s_similar_pairs) (by decide +kernel)) sc_similar_pairs.nd (sw_true rfl rfl rfl (by decide +kernel)))
  refine xs_freeze 7 ?_
  rw [show (((iterL m m2 (0)).filter fun pair => metB m m2 (iterL m m2 (0)) pair).map fun pair => pair) = stepL m m2 (iterL m m2 (0)) from List.map_id' _]
  refine xs_whl (fun j : Nat => [.pd (eMo CF CM m), .pd (eMo CF CM m2), .un, .un, .un, .pd (lT tP (iterL m m2 j)), .un, .pd (lT tP (stepL m m2 (iterL m m2 j)))]) (fun j => (iterL m m2 j).length) (fun _ => True) 0 (by repeat (first | exact le_nil | refine le_eq ?_ | refine le_un ?_)) trivial ?_ PassesOwn.never
  intro j _
  refine ⟨_, (xb_cmp (op_neD hu64) (v_ne (f := lT tP) (x := stepL m m2 (iterL m m2 j)) (y := iterL m m2 j)) (xv_var 7) (xv_var 5)), fun hW => ?_, fun hW => ?_⟩
  · have hW : ¬ stepL m m2 (iterL m m2 j) = iterL m m2 j := fun e => by rw [decide_eq_true e] at hW; cases hW
    refine xs_cons (xs_asgV 5 (xv_var 7) ?_ sc_similar_pairs.nd)
    refine xs_cons (xs_asgLc (f := tP) (xs := (iterL m m2 (j + 1))) 7 [6] (fun pair => [tP pair]) (fun pair => (metB m m2 (iterL m m2 (j + 1)) pair)) tP (fun pair => pair) [("pair", 6)] (xw_listT (f := tP) (xv_var 5)) (fun _ _ _ _ _ => (pg_name (i := 6) sc_similar_pairs.nd rfl (by first | exact Or.inl rfl | exact Or.inr rfl))) (fun _ _ => gt_name) .one (fun pair hpair => jt_wb fun _ _ _ _ _ => (xb_val (xv_call c_steps_met (hr.mono (by decide)) (xl_cons (xv_var 0) (xl_cons (xv_var 1) (xl_cons (xv_var 5) (xl_cons (xv_var 6) xa_nil)))) ⟨m, m2, (iterL m m2 (j + 1)), pair, rfl, ⟨ho1, ho2, by have := i4 (j + 1); omega⟩, rfl⟩))) (fun pair hpair ppair _ _ _ _ _ => (xv_var 6)) (by have := i4 (j + 1); omega) ?_ (blkOk_by (N := n_similar_pairs) (sc := defScope s_similar_pairs) (by decide +kernel)) sc_similar_pairs.nd (sw_true rfl rfl rfl (by decide +kernel)))
    refine xs_freeze 7 ?_
    rw [show (((iterL m m2 (j + 1)).filter fun pair => metB m m2 (iterL m m2 (j + 1)) pair).map fun pair => pair) = stepL m m2 (iterL m m2 (j + 1)) from List.map_id' _]
    refine xs_nil ⟨j + 1, Nat.lt_of_le_of_ne (List.length_filter_le _ _) fun e => hW (List.Sublist.eq_of_length List.filter_sublist e), trivial, (by repeat (first | exact le_nil | refine le_eq ?_ | refine le_un ?_))⟩
  · have hW : stepL m m2 (iterL m m2 j) = iterL m m2 j := by
      apply Classical.byContradiction
      intro z
      rw [decide_eq_false z] at hW
      cases hW
    exact xs_cons (xs_retV (xv_var 5) (by rw [fix_eq hW]; exact hΦ))
abbrev s_followed_to : Stmt := topS 7
abbrev n_followed_to : List Str := ["first", "second", "depth", "worlds", "x", "y", "pairs", "pair", "turn"]
theorem sc_followed_to : FnScope n_followed_to ["first", "second", "depth"] (defScope s_followed_to) := ⟨rfl, rfl, rfl, by decide +kernel, rfl, by decide +kernel, by decide +kernel⟩
theorem ok_followed_to {CF CM : Addr} {f : Addr} {fd : FuncData} (F : Fun K "followed_to" "followed_to" s_followed_to f fd) (kF : FrK K mg CF) (kM : MoK K mg CM) (c_has_letters : Cal P w K mg base 2 "has_letters" ["first", "one", "second", "other"] (spP K (cHasL CF CM))) (c_steps_met : Cal P w K mg base 2 "steps_met" ["first", "second", "pairs", "pair"] (spP K (cMet CF CM))) (m_range : mg "range" = none) : FnOk P w K mg base CX0 (2 + 1) f fd ["first", "second", "depth"] (spP K (cFol CF CM)) := by
  refine fn_pure F sc_followed_to (fun ds Φ ⟨m, m2, d, hd, ⟨ho1, ho2, hd0, hd1⟩, hΦ⟩ => by rw [hd]; rfl) fun cdv A outer s0 H E hr ds Φ ⟨m, m2, d, hd, ⟨ho1, ho2, hd0, hd1⟩, hΦ⟩ => ?_
  subst hd
  have hu64 := hu_64 hr
  have hu65 := hu_65 hr
  have hu0 : (A.deeper (envOfC "followed_to" (defScope s_followed_to) s0.heap.objs.size f cdv)).units < cLine := by omega
  have n1 := ho1.fr.n2
  have n2 := ho2.fr.n2
  have w4 := worlds_400 ho1 ho2
  have i4 := fun n => iter_400 ho1 ho2 (n := n)
  refine xs_cons (xs_asgMap2 (f := D.int) (xs := (rng 0 (m.fr.many : Int))) 3 [4] [5] (fun x => [D.int x]) (fun y => [D.int y]) D.int (fun x => (rng 0 (m2.fr.many : Int))) (pT D.int D.int) (fun x y => (x, y)) [("x", 4), ("y", 5)] [5] (xw_range1 (xl_cons (xv_fld (d := D.int (m.fr.many : Int)) (xv_fld (d := (eFr CF) m.fr) (xv_var 0) kM.dc.cl kM.frame) kF.dc.cl kF.many) xa_nil) (by omega) m_range (by omega)) (fun _ _ _ _ _ => pg_name (i := 4) sc_followed_to.nd rfl (by first | exact Or.inl rfl | exact Or.inr rfl)) (fun _ _ => gt_name) (fun x hx _ _ _ _ _ => (xw_range1 (xl_cons (xv_fld (d := D.int (m2.fr.many : Int)) (xv_fld (d := (eFr CF) m2.fr) (xv_var 1) kM.dc.cl kM.frame) kF.dc.cl kF.many) xa_nil) (by have mx := mem_rng.mp hx; omega) m_range (by have mx := mem_rng.mp hx; omega))) (fun _ _ _ _ _ => pg_name (i := 5) sc_followed_to.nd rfl (by first | exact Or.inl rfl | exact Or.inr rfl)) (fun _ _ => (fun _ _ => gt_name)) (fun x hx y hy _ _ _ _ _ => (xv_tup (hl := by simp) (xl_cons (xv_var 4) (xl_cons (xv_var 5) xa_nil)))) (by have e := congrArg List.length (rfl : worldsP m m2 = worldsP m m2); show (worldsP m m2).length < 100000; omega) ?_ (blkOk_by (N := n_followed_to) (sc := defScope s_followed_to) (by decide +kernel)) sc_followed_to.nd (sw_true rfl rfl rfl (by decide +kernel)))
  refine xs_freeze 3 ?_
  refine xs_cons (xs_asgV 6 (d := lT tP (iterL m m2 0)) (XV.is (xo_lc (f := (pT D.int D.int)) (xs := (worldsP m m2)) [7] (fun pair => [(pT D.int D.int) pair]) (fun pair => (hasL m pair.1 m2 pair.2)) (pT D.int D.int) (fun pair => pair) [("pair", 7)] (xw_listT (f := (pT D.int D.int)) (xv_var 3)) (fun _ _ _ _ _ => pg_name (i := 7) sc_followed_to.nd rfl (by first | exact Or.inl rfl | exact Or.inr rfl)) (fun _ _ => gt_name) .one (fun pair hpair => jt_wb fun _ _ _ _ _ => (xb_val (xv_call c_has_letters (hr.mono (by decide)) (xl_cons (xv_var 0) (xl_cons (xv_ix ix_tup (v_ixT (f := D.int pair.1) rfl) (xv_var 7) xv_int) (xl_cons (xv_var 1) (xl_cons (xv_ix ix_tup (v_ixT (f := D.int pair.2) rfl) (xv_var 7) xv_int) xa_nil)))) ⟨m, pair.1, m2, pair.2, rfl, ⟨ho1, ho2⟩, rfl⟩))) (fun pair hpair ppair _ _ _ _ _ => (xv_var 7)) (by omega) (blkOk_by (N := n_followed_to) (sc := defScope s_followed_to) (by decide +kernel)) sc_followed_to.nd).frz (by rw [List.map_id']; rfl)) ?_ sc_followed_to.nd)
  refine xs_loop (f := D.int) (xs := (rng 0 d)) (js := [8]) (fun turn => [D.int turn]) (fun n : Nat => [.pd (eMo CF CM m), .pd (eMo CF CM m2), .pd (.int d), .un, .un, .un, .pd (lT tP (iterL m m2 n)), .un, .un]) (fun pre => pre.length) (xw_range1 (xl_cons (xv_var 2) xa_nil) (by omega) m_range (by omega)) (pg_name (i := 8) sc_followed_to.nd rfl (by first | exact Or.inl rfl | exact Or.inr rfl)) (fun _ _ => gt_name) (by repeat (first | exact le_nil | refine le_eq ?_ | refine le_un ?_)) (fun pre turn post hx => ?_) ?_ PassesOwn.never
  · refine xs_cons (xs_asgV 6 (d := lT tP (iterL m m2 (pre.length + 1))) (XV.is (xo_lc (f := tP) (xs := iterL m m2 pre.length) [7] (fun pair => [tP pair]) (fun pair => (metB m m2 (iterL m m2 pre.length) pair)) tP (fun pair => pair) [("pair", 7)] (xw_listT (f := tP) (xv_var 6)) (fun _ _ _ _ _ => (pg_name (i := 7) sc_followed_to.nd rfl (by first | exact Or.inl rfl | exact Or.inr rfl))) (fun _ _ => gt_name) .one (fun pair hpair => jt_wb fun _ _ _ _ _ => (xb_val (xv_call c_steps_met (hr.mono (by decide)) (xl_cons (xv_var 0) (xl_cons (xv_var 1) (xl_cons (xv_var 6) (xl_cons (xv_var 7) xa_nil)))) ⟨m, m2, iterL m m2 pre.length, pair, rfl, ⟨ho1, ho2, by have := i4 pre.length; omega⟩, rfl⟩))) (fun pair hpair ppair _ _ _ _ _ => (xv_var 7)) (by have := i4 pre.length; omega) (blkOk_by (N := n_followed_to) (sc := defScope s_followed_to) (by decide +kernel)) sc_followed_to.nd).frz (by rw [List.map_id']; rfl)) ?_ sc_followed_to.nd)
    refine xs_nil ?_
    rw [List.length_append]
    exact (by repeat (first | exact le_nil | refine le_eq ?_ | refine le_un ?_))
  · refine xs_cons (xs_retV (xv_var 6) ?_)
    rw [rng_len, Int.sub_zero]
    exact hΦ
end
end K36

namespace WF
open PySem PySem.Spec PyProof.Rows L2 Evl DL
/-! ### the law's own followed worlds, forward sayings -/
def cForw (n : Nat) : Con := fun ds Φ => ∃ (ns : List Int) (depth : Int), ds = [.sc ns, .int depth] ∧ (0 ≤ depth ∧ depth < n) ∧ ∀ s : My, fwd s → s.nn → (s.dep : Int) ≤ depth → Φ (eM s)
def cIsF (n : Nat) : Con := fun ds Φ => ∃ s : My, ds = [eM s] ∧ (fwd s ∧ s.dep < n) ∧ Φ (.bl true)
abbrev eLot (m : Mo) : D := .tup [.int m.fr.many, tT (tT tP) m.fr.arrows, tT (tT D.int) m.marks]
def cLFol : Con := fun ds Φ => ∃ m m2 : Mo, ds = [eLot m, eLot m2] ∧ (m.ok ∧ m2.ok ∧ m.fr.many ≤ 10 ∧ m2.fr.many ≤ 10) ∧ Φ (lT tP (simP m m2))
/-- what forward_saying may tell -/
def Good (m m2 : Mo) (x y depth : Int) : Option My → Prop
  | none => ∀ d : Nat, (d : Int) ≤ depth → (x, y) ∈ iterL m m2 d
  | some s => (∃ d : Nat, (d : Int) ≤ depth ∧ (x, y) ∉ iterL m m2 d) ∧ fwd s ∧ s.nn ∧ soB m s x = true ∧ soB m2 s y = false ∧ (s.dep : Int) ≤ 12 * depth
def cFwd (CF CM : Addr) (n : Nat) : Con := fun ds Φ => ∃ (m m2 : Mo) (x y depth : Int), ds = [eMo CF CM m, .int x, eMo CF CM m2, .int y, .int depth] ∧ (m.ok ∧ m2.ok ∧ m.fr.many ≤ 10 ∧ m2.fr.many ≤ 10 ∧ (0 ≤ x ∧ x < (m.fr.many : Int)) ∧ (0 ≤ y ∧ y < (m2.fr.many : Int)) ∧ (0 ≤ depth ∧ depth ≤ 100) ∧ depth < n) ∧ ∀ o, Good m m2 x y depth o → Φ (oT eM o)
section
variable {m m2 : Mo} {x y : Int} {P : List (Int × Int)}
theorem ok_eM : ∀ (s : My), (eM s).ok (s.dep + 1) = true
  | .letter k => by
    show (D.tup [.str "letter", .int k]).ok 1 = true
    show ((D.str "letter").ok 0 && ((D.int k).ok 0 && true)) = true
    rw [show (D.str "letter").ok 0 = true by decide +kernel]
    rfl
  | .fls => by decide +kernel
  | .neg a => by
    show ((D.str "not").ok (a.dep + 1) && ((eM a).ok (a.dep + 1) && true)) = true
    rw [ok_eM a, show (D.str "not").ok (a.dep + 1) = true from (by decide +kernel : PyData.strOk "not" = true)]
    rfl
  | .and a b => by
    show ((D.str "and").ok (max a.dep b.dep + 1) && ((eM a).ok (max a.dep b.dep + 1) && ((eM b).ok (max a.dep b.dep + 1) && true))) = true
    rw [ok_up (ok_eM a) (by omega), ok_up (ok_eM b) (by omega), show (D.str "and").ok (max a.dep b.dep + 1) = true from (by decide +kernel : PyData.strOk "and" = true)]
    rfl
  | .or a b => by
    show ((D.str "or").ok (max a.dep b.dep + 1) && ((eM a).ok (max a.dep b.dep + 1) && ((eM b).ok (max a.dep b.dep + 1) && true))) = true
    rw [ok_up (ok_eM a) (by omega), ok_up (ok_eM b) (by omega), show (D.str "or").ok (max a.dep b.dep + 1) = true from (by decide +kernel : PyData.strOk "or" = true)]
    rfl
  | .imp a b => by
    show ((D.str "if").ok (max a.dep b.dep + 1) && ((eM a).ok (max a.dep b.dep + 1) && ((eM b).ok (max a.dep b.dep + 1) && true))) = true
    rw [ok_up (ok_eM a) (by omega), ok_up (ok_eM b) (by omega), show (D.str "if").ok (max a.dep b.dep + 1) = true from (by decide +kernel : PyData.strOk "if" = true)]
    rfl
  | .box i a => by
    show ((D.str "box").ok (a.dep + 1) && ((D.int i).ok (a.dep + 1) && ((eM a).ok (a.dep + 1) && true))) = true
    rw [ok_eM a, show (D.str "box").ok (a.dep + 1) = true from (by decide +kernel : PyData.strOk "box" = true)]
    rfl
  | .some i a => by
    show ((D.str "some").ok (a.dep + 1) && ((D.int i).ok (a.dep + 1) && ((eM a).ok (a.dep + 1) && true))) = true
    rw [ok_eM a, show (D.str "some").ok (a.dep + 1) = true from (by decide +kernel : PyData.strOk "some" = true)]
    rfl
theorem iter_down {n k : Nat} (h : (x, y) ∈ iterL m m2 (n + k)) : (x, y) ∈ iterL m m2 n := by
  induction k with
  | zero => exact h
  | succ k ih => exact ih (iter_sub h)
theorem iter_mono {n k : Nat} (hk : n ≤ k) (h : (x, y) ∈ iterL m m2 k) : (x, y) ∈ iterL m m2 n := by
  rw [show k = n + (k - n) by omega] at h
  exact iter_down h
/-- not among the first: some letter parts them -/
theorem no_pair0 (hx : 0 ≤ x ∧ x < (m.fr.many : Int)) (hy : 0 ≤ y ∧ y < (m2.fr.many : Int)) (h : (x, y) ∉ iterL m m2 0) : ((rng 0 (m.marks.length : Int)).filter fun k => ((decide (x ∈ (m.marks.getD (k).toNat []))) && (!(marked m2 k y)))).map (fun k => k) ≠ [] := fun e => by
  rw [List.map_id'] at e
  refine h (List.mem_filter.mpr ⟨mem_worlds.mpr ⟨hx, hy⟩, has_iff.mpr fun k hk hxk => ?_⟩)
  have := List.filter_eq_nil_iff.mp e k (mem_rng.mpr hk)
  rw [decide_eq_true hxk, Bool.true_and, Bool.not_eq_true', Bool.not_eq_false] at this
  exact this
theorem met_of {n : Nat} (hin : (x, y) ∈ iterL m m2 n) (hno : (x, y) ∉ iterL m m2 (n + 1)) : metB m m2 (iterL m m2 n) (x, y) = false := by
  cases e : metB m m2 (iterL m m2 n) (x, y) with
  | false => rfl
  | true => exact absurd (List.mem_filter.mpr ⟨hin, e⟩) hno
theorem simP_down {n : Nat} (h : (x, y) ∈ simP m m2) : (x, y) ∈ iterL m m2 n := by
  by_cases c : n ≤ (pairs0 m m2).length + 1
  · exact iter_mono c h
  · have := fix_on (m := m) (m2 := m2) (n := (pairs0 m m2).length + 1) fix_at (n - ((pairs0 m m2).length + 1))
    rw [show (pairs0 m m2).length + 1 + (n - ((pairs0 m m2).length + 1)) = n by omega] at this
    rw [this]
    exact h
theorem pairs0_len : (pairs0 m m2).length ≤ m.fr.many * m2.fr.many := Nat.le_trans (List.length_filter_le _ _) (Nat.le_of_eq worlds_len)
/-- told is none exactly for those that follow -/
theorem good_none {o : Option My} {depth : Int} (hd : ((m.fr.many * m2.fr.many : Nat) : Int) ≤ depth) (h : Good m m2 x y depth o) : (o.isNone != decide ((x, y) ∈ simP m m2)) = false := by
  have e : o.isNone = decide ((x, y) ∈ simP m m2) := by
    cases o with
    | none =>
      have : (x, y) ∈ iterL m m2 (m.fr.many * m2.fr.many) := h _ hd
      rw [sim_iff pairs0_len] at this
      rw [decide_eq_true this]
      rfl
    | some s =>
      obtain ⟨⟨d, _, hd2⟩, _⟩ := h
      rw [decide_eq_false fun z => hd2 (simP_down z)]
      rfl
  rw [e]
  simp
end
end WF

namespace K36
open PySem PySem.Spec PyProof.Rows L2 Evl DL WF
section
variable {P : Program} {w : World} {K : PySem.W.Frag} {mg : Str → Option Value} {base : Heap}
abbrev s_tied : Stmt := topS 3
abbrev n_tied : List Str := ["word", "rows", "found", "one"]
theorem sc_tied : FnScope n_tied ["word", "rows"] (defScope s_tied) := ⟨rfl, rfl, rfl, by decide +kernel, rfl, by decide +kernel, by decide +kernel⟩
theorem ok_tied {f : Addr} {fd : FuncData} (F : Fun K "tied" "tied" s_tied f fd) (m_len : mg "len" = none) : FnOk P w K mg base CX0 (0 + 1) f fd ["word", "rows"] (spP K cTied) := by
  refine fn_pure F sc_tied (fun ds Φ ⟨l, hd, hl, hΦ⟩ => by rw [hd]; rfl) fun cdv A outer s0 H E hr ds Φ ⟨l, hd, hl, hΦ⟩ => ?_
  subst hd
  refine xs_cons (xs_if (xb_cmp op_eq v_eqI (xv_lenLT (f := eM) (xv_var 1) m_len) xv_int) (fun h => ?_) (fun h => ?_))
  · have e : l = [] := List.length_eq_zero_iff.mp (by have := of_decide_eq_true h.symm; omega)
    subst e
    exact xs_cons (xs_retV (XV.is (d := eM (if true = true then My.neg .fls else .fls)) (d' := eM (tiedM [])) (xv_ifT (f := eM) (k := true) (x := .neg .fls) (y := .fls) (XB.is (xb_cmp op_eq v_eqS (xv_var 0) xv_str) (show _ = true by decide +kernel)) (fun _ => (xv_tup (xl_cons xv_str (xl_cons (xv_tup (xl_cons xv_str xa_nil)) xa_nil)))) (fun _ => (xv_tup (xl_cons xv_str xa_nil)))) rfl) hΦ)
  · cases l with
    | nil => exact absurd h (by decide +kernel)
    | cons s r =>
      refine xs_nil ?_
      refine xs_cons (xs_asgV 2 (xv_ix ix_list (v_ixLT (f := eM) (l := s :: r) (x := s) (atI_getD (l := s :: r) (d := s) (i := 0) (by omega) (by simp only [List.length_cons]; omega))) (xv_var 1) xv_int) ?_ sc_tied.nd)
      refine xs_loop (f := eM) (xs := r) (js := [3]) (fun t => [eM t]) (fun acc : My => [.pd (.str "and"), .pd (lT eM (s :: r)), .pd (eM acc), .un]) (fun pre => pre.foldl My.and s) (xw_listT (f := eM) (XV.is (xv_slL (f := eM) (l := s :: r) (xv_var 1) (xp_some xv_int) xp_none) (congrArg (lT eM) (cutD_from (xs := s :: r) (k := 1))))) (pg_name (i := 3) sc_tied.nd rfl (by first | exact Or.inl rfl | exact Or.inr rfl)) (fun _ _ => gt_name) (by repeat (first | exact le_nil | refine le_eq ?_ | refine le_un ?_)) (fun pre t post hx => ?_) ?_ PassesOwn.never
      · refine xs_cons (xs_asgV 2 (xv_tup (hl := by simp) (xl_cons (xv_var 0) (xl_cons (xv_var 2) (xl_cons (xv_var 3) xa_nil)))) ?_ sc_tied.nd)
        refine xs_nil ?_
        rw [List.foldl_append]
        exact (by repeat (first | exact le_nil | refine le_eq ?_ | refine le_un ?_))
      · exact xs_cons (xs_retV (xv_var 2) hΦ)

abbrev s_law_is_forward : Stmt := topS 31
abbrev n_law_is_forward : List Str := ["saying"]
theorem sc_law_is_forward : FnScope n_law_is_forward ["saying"] (defScope s_law_is_forward) := ⟨rfl, rfl, rfl, by decide +kernel, rfl, by decide +kernel, by decide +kernel⟩
theorem ok_law_is_forward {f : Addr} {fd : FuncData} {n : Nat} (F : Fun K "_law_is_forward" "_law_is_forward" s_law_is_forward f fd) (G : Cal P w K mg base n "_law_is_forward" ["saying"] (spP K (cIsF n))) : FnOk P w K mg base CX0 (n + 1) f fd ["saying"] (spP K (cIsF (n + 1))) := by
  refine fn_pure F sc_law_is_forward (fun ds Φ ⟨s, hd, _, hΦ⟩ => by rw [hd]; rfl) fun cdv A outer s0 H E hr ds Φ ⟨s, hd, ⟨hf, hdep⟩, hΦ⟩ => ?_
  subst hd
  have hu65 := hu_65 hr
  cases s with
  | letter k => exact xs_cons (xs_if (XB.is (xt_w (xb_or (xb_cmp (op_eqW hu65) (v_eqW (d := eM (My.letter k)) (e := eM (.neg .fls)) (ok_eM (My.letter k)) (ok_eM (.neg .fls)) (by decide)) (xv_var 0) (xv_tup (xl_cons xv_str (xl_cons (xv_tup (xl_cons xv_str xa_nil)) xa_nil)))) (fun _ => xw_or1 (xb_cmp op_eq v_eqS (xv_ix ix_tup (v_ixT (f := .str "letter") rfl) (xv_var 0) xv_int) xv_str)))) (show _ = true from Bool.or_true _)) (fun _ => xs_cons (xs_retV xv_bl hΦ)) (fun h => nomatch h))
  | neg a =>
    cases a with
    | fls => exact xs_cons (xs_if (XB.is (xt_w (xb_or (xb_cmp (op_eqW hu65) (v_eqW (d := eM (My.neg My.fls)) (e := eM (.neg .fls)) (ok_eM (My.neg My.fls)) (ok_eM (.neg .fls)) (by decide)) (xv_var 0) (xv_tup (xl_cons xv_str (xl_cons (xv_tup (xl_cons xv_str xa_nil)) xa_nil)))) (fun _ => xw_or1 (xb_cmp op_eq v_eqS (xv_ix ix_tup (v_ixT (f := .str "not") rfl) (xv_var 0) xv_int) xv_str)))) (show _ = true by decide +kernel)) (fun _ => xs_cons (xs_retV xv_bl hΦ)) (fun h => nomatch h))
    | _ => exact absurd hf id
  | some i a =>
    have hda : a.dep < n := by simp only [My.dep] at hdep; omega
    refine xs_no (XB.is (xt_w (xb_or (xb_cmp (op_eqW hu65) (v_eqW (d := eM (My.some i a)) (e := eM (.neg .fls)) (ok_eM (My.some i a)) (ok_eM (.neg .fls)) (by decide)) (xv_var 0) (xv_tup (xl_cons xv_str (xl_cons (xv_tup (xl_cons xv_str xa_nil)) xa_nil)))) (fun _ => xw_or1 (xb_cmp op_eq v_eqS (xv_ix ix_tup (v_ixT (f := .str "some") rfl) (xv_var 0) xv_int) xv_str)))) rfl) ?_
    refine xs_cons (xs_if (xb_cmp op_eq v_eqS (xv_ix ix_tup (v_ixT (f := .str "some") rfl) (xv_var 0) xv_int) xv_str) (fun _ => ?_) (fun h => absurd h (by decide +kernel)))
    exact xs_cons (xs_retV (xv_call G hr (xl_cons (xv_ix ix_tup (v_ixT (f := eM a) rfl) (xv_var 0) xv_int) xa_nil) ⟨a, rfl, ⟨hf, hda⟩, rfl⟩) hΦ)
  | and a b =>
    have hda : a.dep < n := by simp only [My.dep] at hdep; omega
    have hdb : b.dep < n := by simp only [My.dep] at hdep; omega
    refine xs_no (XB.is (xt_w (xb_or (xb_cmp (op_eqW hu65) (v_eqW (d := eM (My.and a b)) (e := eM (.neg .fls)) (ok_eM (My.and a b)) (ok_eM (.neg .fls)) (by decide)) (xv_var 0) (xv_tup (xl_cons xv_str (xl_cons (xv_tup (xl_cons xv_str xa_nil)) xa_nil)))) (fun _ => xw_or1 (xb_cmp op_eq v_eqS (xv_ix ix_tup (v_ixT (f := .str "and") rfl) (xv_var 0) xv_int) xv_str)))) rfl) ?_
    refine xs_no (XB.is (xb_cmp op_eq v_eqS (xv_ix ix_tup (v_ixT (f := .str "and") rfl) (xv_var 0) xv_int) xv_str) (by decide +kernel)) ?_
    exact xs_cons (xs_retV (xv_and (xv_cmp op_eq v_eqS (xv_ix ix_tup (v_ixT (f := .str "and") rfl) (xv_var 0) xv_int) xv_str) (fun _ => (xv_and (xv_call G hr (xl_cons (xv_ix ix_tup (v_ixT (f := eM a) rfl) (xv_var 0) xv_int) xa_nil) ⟨a, rfl, ⟨hf.1, hda⟩, rfl⟩) (fun _ => (xv_one (xv_call G hr (xl_cons (xv_ix ix_tup (v_ixT (f := eM b) rfl) (xv_var 0) xv_int) xa_nil) ⟨b, rfl, ⟨hf.2, hdb⟩, rfl⟩)))))) hΦ)
  | _ => exact absurd hf id

abbrev s_law_forward : Stmt := topS 30
abbrev n_law_forward : List Str := ["state", "script", "depth", "kind"]
theorem sc_law_forward : FnScope n_law_forward ["state", "script", "depth"] (defScope s_law_forward) := ⟨rfl, rfl, rfl, by decide +kernel, rfl, by decide +kernel, by decide +kernel⟩
theorem ok_law_forward {f : Addr} {fd : FuncData} {n : Nat} (F : Fun K "_law_forward" "_law_forward" s_law_forward f fd) (G : Cal P w K mg base (n + 1) "_law_forward" ["state", "script", "depth"] (spE K dwO (cForw n))) (c_law_draw : Cal P w K mg base 1 "_law_draw" ["state", "script", "size"] (spE K dwO cDraw)) : FnOk P w K mg base CX0 (n + 2) f fd ["state", "script", "depth"] (spE K dwO (cForw (n + 1))) := by
  refine fn_eff (o := dwO) (fun o => o = dwO) (fun Hb u o' h r => h ▸ r) F sc_law_forward (fun ds Φ ⟨_, _, h, _⟩ => by rw [h]; rfl) fun cdv A outer s0 H E hr ds Φ ⟨ns, depth, hd, ⟨hd0, hd1⟩, hΦ⟩ => ?_
  subst hd
  have hr1 := hr.mono (by omega : 1 ≤ n + 1)
  refine xs_cons (xs_asg 3 (xe_draw (L := 3) 0 c_law_draw hr1 (xv_var 1) xv_int ⟨by omega, by omega⟩) (fun d ⟨kind, hd, k0, k8⟩ => ?_) sc_law_forward.nd)
  subst hd
  refine xs_cons (xs_if (xt_w (xb_or (xb_cmp op_eq v_eqI (xv_var 2) xv_int) (fun _ => xw_or1 (xb_cmp op_eq v_eqI (xv_var 3) xv_int)))) (fun _ => ?_) (fun c0 => xs_nil ?_))
  · exact xs_cons (xs_ret (xe_pair (A := fun d => d = .str "letter") (B := fun d => ∃ v, d = .int v ∧ 0 ≤ v ∧ v < 2) xv_str.up (xe_draw (L := 2) 0 c_law_draw hr1 (xv_var 1) xv_int ⟨by omega, by omega⟩)) (fun d ⟨x, y, h, hx, v, hv, v0, v1⟩ => by
      refine ⟨?_, dwO, rfl, rfl⟩
      subst hx hv h
      exact hΦ (.letter v) trivial v0 (by show ((0 : Nat) : Int) ≤ depth; omega)))
  have c1 : ¬ depth = 0 := fun z => by
    have := (Bool.or_eq_false_iff.mp c0.symm).1
    exact of_decide_eq_false this z
  refine xs_cons (xs_if (xb_cmp op_eq v_eqI (xv_var 3) xv_int) (fun _ => ?_) (fun _ => xs_nil ?_))
  · exact xs_cons (xs_ret (xe_trip (A := fun d => d = .str "some") (B := fun d => ∃ v, d = .int v ∧ 0 ≤ v ∧ v < 2) xv_str.up (xe_draw (L := 2) 0 c_law_draw hr1 (xv_var 1) xv_int ⟨by omega, by omega⟩) (xe_callE 0 (Φ := fun d => ∃ a : My, d = eM a ∧ fwd a ∧ a.nn ∧ (a.dep : Int) ≤ depth - 1) G hr (xl_cons (xv_var 1) (xl_cons (xv_bin op_sub v_sub (xv_var 2) xv_int) xa_nil)).up (fun ds h => ⟨ns, depth - 1, h, ⟨by omega, by omega⟩, fun s h1 h2 h3 => ⟨s, rfl, h1, h2, h3⟩⟩))) (fun d ⟨x, y, z, h, hx, ⟨v, hv, v0, v1⟩, s, hs, h1, h2, h3⟩ => by
      refine ⟨?_, dwO, rfl, rfl⟩
      subst hx hv hs h
      exact hΦ (.some v s) h1 ⟨v0, h2⟩ (by simp only [My.dep]; omega)))
  · exact xs_cons (xs_ret (xe_trip (A := fun d => d = .str "and") xv_str.up (xe_callE 0 (Φ := fun d => ∃ a : My, d = eM a ∧ fwd a ∧ a.nn ∧ (a.dep : Int) ≤ depth - 1) G hr (xl_cons (xv_var 1) (xl_cons (xv_bin op_sub v_sub (xv_var 2) xv_int) xa_nil)).up (fun ds h => ⟨ns, depth - 1, h, ⟨by omega, by omega⟩, fun s h1 h2 h3 => ⟨s, rfl, h1, h2, h3⟩⟩)) (xe_callE 0 (Φ := fun d => ∃ a : My, d = eM a ∧ fwd a ∧ a.nn ∧ (a.dep : Int) ≤ depth - 1) G hr (xl_cons (xv_var 1) (xl_cons (xv_bin op_sub v_sub (xv_var 2) xv_int) xa_nil)).up (fun ds h => ⟨ns, depth - 1, h, ⟨by omega, by omega⟩, fun s h1 h2 h3 => ⟨s, rfl, h1, h2, h3⟩⟩))) (fun d ⟨x, y, z, h, hx, ⟨s, hs, h1, h2, h3⟩, t, ht, g1, g2, g3⟩ => by
      refine ⟨?_, dwO, rfl, rfl⟩
      subst hx hs ht h
      exact hΦ (.and s t) ⟨h1, g1⟩ ⟨h2, g2⟩ (by simp only [My.dep]; omega)))
theorem cal_law_forward (D : Dd K mg "_law_forward" s_law_forward ["state", "script", "depth"]) (c_law_draw : Cal P w K mg base 1 "_law_draw" ["state", "script", "size"] (spE K dwO cDraw)) : ∀ n, Cal P w K mg base (n + 1) "_law_forward" ["state", "script", "depth"] (spE K dwO (cForw n))
  | 0 => Cal.of D fun {f fd} F => fn_eff (o := dwO) (fun o => o = dwO) (fun Hb u o' h r => h ▸ r) F sc_law_forward (fun ds Φ ⟨_, _, h, _⟩ => by rw [h]; rfl) fun cdv A outer s0 H E hr ds Φ ⟨_, _, _, ⟨h0, h1⟩, _⟩ => absurd h1 (by omega)
  | n + 1 => Cal.of D fun F => ok_law_forward F (cal_law_forward D c_law_draw n) c_law_draw

end
end K36

namespace WF
open PySem PySem.Spec PyProof.Rows L2 Evl DL
theorem asc_len : ∀ {l : List Int} {lo hi : Int}, l.Pairwise (· < ·) → (∀ x ∈ l, lo ≤ x ∧ x < hi) → (l.length : Int) ≤ max (hi - lo) 0
  | [], lo, hi, _, _ => by simp only [List.length_nil]; omega
  | x :: l, lo, hi, h, hm => by
    have h2 := List.pairwise_cons.mp h
    have hx := hm x (List.mem_cons_self ..)
    have := asc_len (lo := x + 1) (hi := hi) h2.2 fun y hy => ⟨by have := h2.1 y hy; omega, (hm y (List.mem_cons_of_mem _ hy)).2⟩
    simp only [List.length_cons]
    omega
section
variable {m m2 : Mo} {a b : Int}
theorem sees_asc (h : m.ok) {i x : Int} : (seesL m.fr i x).Pairwise (· < ·) := by
  unfold seesL
  split
  · exact .nil
  · rw [List.pairwise_map]
    have hr : (m.fr.arrows.getD i.toNat []).Pairwise lessP := by
      rw [List.getD_eq_getElem?_getD]
      cases e : m.fr.arrows[i.toNat]? with
      | none => exact .nil
      | some r => exact (h.fr.arr r (List.mem_of_getElem? e)).2.1
    refine (List.Pairwise.and_mem.mp (hr.filter _)).imp fun {p q} h => ?_
    have h1 := of_decide_eq_true (List.mem_filter.mp h.1).2
    have h2 := of_decide_eq_true (List.mem_filter.mp h.2.1).2
    rcases h.2.2 with z | z
    · omega
    · exact z.2
theorem sees_lenN (h : m.ok) {i x : Int} : (seesL m.fr i x).length ≤ m.fr.many := by
  have := asc_len (sees_asc h) (fun y hy => seesL_in h (i := i) (z := x) (w := y) hy)
  omega
theorem told_head {n d0 : Int} {p : Int → Bool} {r : List Int} (e : (rng 0 n).filter p = d0 :: r) : (0 ≤ d0 ∧ d0 < n) ∧ p d0 = true ∧ ∀ d, 0 ≤ d → d < d0 → p d = false := by
  have h0 : d0 ∈ (rng 0 n).filter p := by rw [e]; exact List.mem_cons_self ..
  have h1 := List.mem_filter.mp h0
  refine ⟨mem_rng.mp h1.1, h1.2, fun d hd hd2 => ?_⟩
  cases c : p d with
  | false => rfl
  | true =>
    have hm := mem_rng.mp h1.1
    have : d ∈ (rng 0 n).filter p := List.mem_filter.mpr ⟨mem_rng.mpr (by omega), c⟩
    have hs : ((rng 0 n).filter p).Pairwise (· < ·) := rng_asc.filter _
    rw [e] at this hs
    rcases List.mem_cons.mp this with rfl | q
    · omega
    · have := (List.pairwise_cons.mp hs).1 d q
      omega
theorem good_non {depth : Int} (e : (rng 0 (depth + 1)).filter (fun d => !decide ((a, b) ∈ iterL m m2 d.toNat)) = []) : Good m m2 a b depth none := fun d hd => by
  have := List.filter_eq_nil_iff.mp e d (mem_rng.mpr (by omega))
  rw [Bool.not_eq_true, Bool.not_eq_false', decide_eq_true_iff] at this
  exact this
theorem good_letter {depth k : Int} (hd : 0 ≤ depth) (h0 : (a, b) ∉ iterL m m2 0) (hk : k ∈ (rng 0 (m.marks.length : Int)).filter fun k => ((decide (a ∈ (m.marks.getD (k).toNat []))) && (!(marked m2 k b)))) : Good m m2 a b depth (some (.letter k)) := by
  obtain ⟨h1, h2⟩ := List.mem_filter.mp hk
  have h1 := mem_rng.mp h1
  have h2 := Bool.and_eq_true_iff.mp h2
  refine ⟨⟨0, by omega, h0⟩, trivial, h1.1, ?_, ?_, by show ((0 : Nat) : Int) ≤ 12 * depth; omega⟩
  · show (decide (k < (m.marks.length : Int)) && decide (a ∈ m.marks.getD k.toNat [])) = true
    rw [decide_eq_true h1.2, h2.1]
    rfl
  · show (decide (k < (m2.marks.length : Int)) && decide (b ∈ m2.marks.getD k.toNat [])) = false
    have := h2.2
    rw [Bool.not_eq_true'] at this
    exact this
def Row (m m2 : Mo) (x : Int) (d : Int) (y : Int) (s : My) : Prop := fwd s ∧ s.nn ∧ soB m s x = true ∧ soB m2 s y = false ∧ (s.dep : Int) ≤ 12 * d
theorem row_of {x y d : Int} {o : Option My} (hd : 0 ≤ d) (h : Good m m2 x y d o) (hn : (x, y) ∉ iterL m m2 d.toNat) : ∃ s, o = some s ∧ Row m m2 x d y s := by
  cases o with
  | none => exact absurd (h d.toNat (by omega)) hn
  | some s => exact ⟨s, rfl, h.2⟩
theorem good_some {depth d0 i x : Int} {bs : List My} (hm2 : m2.ok) (h10 : m2.fr.many ≤ 10) (hd : 1 ≤ d0 ∧ d0 ≤ depth) (h0 : (a, b) ∉ iterL m m2 d0.toNat) (hi : 0 ≤ i) (hx : x ∈ seesL m.fr i a) (hl : bs.length = (seesL m2.fr i b).length)
    (hr : ∀ (j : Nat) y s, (seesL m2.fr i b)[j]? = some y → bs[j]? = some s → Row m m2 x (d0 - 1) y s) : Good m m2 a b depth (some (.some i (tiedM bs))) := by
  have all : ∀ s ∈ bs, ∃ y, Row m m2 x (d0 - 1) y s := fun s hs => by
    obtain ⟨j, hj, e⟩ := List.mem_iff_getElem.mp hs
    exact ⟨_, hr j _ s (List.getElem?_eq_getElem (by omega)) (by rw [List.getElem?_eq_getElem hj, e])⟩
  have hlen := sees_lenN hm2 (i := i) (x := b)
  refine ⟨⟨d0.toNat, by omega, h0⟩, tied_fwd fun s hs => (all s hs).elim fun _ z => z.1, ⟨hi, tied_nn fun s hs => (all s hs).elim fun _ z => z.2.1⟩, ?_, ?_, ?_⟩
  · refine List.any_eq_true.mpr ⟨x, hx, ?_⟩
    rw [tied_so, List.all_eq_true]
    exact fun s hs => (all s hs).elim fun _ z => z.2.2.1
  · refine List.any_eq_false.mpr fun y hy => ?_
    obtain ⟨j, hj, e⟩ := List.mem_iff_getElem.mp hy
    rw [tied_so, Bool.not_eq_true, List.all_eq_false]
    have hj2 : j < bs.length := by rw [hl]; exact hj
    refine ⟨bs[j], List.getElem_mem hj2, ?_⟩
    have := hr j y bs[j] (by rw [← e]; exact List.getElem?_eq_getElem hj) (List.getElem?_eq_getElem hj2)
    rw [this.2.2.2.1]
    exact Bool.false_ne_true
  · have := tied_dep (b := (12 * (d0 - 1)).toNat) (l := bs) fun s hs => by
      obtain ⟨_, z⟩ := all s hs
      have := z.2.2.2.2
      omega
    show (((tiedM bs).dep + 1 : Nat) : Int) ≤ _
    omega
theorem any_no2 {x : Int} {P : List (Int × Int)} {l : List Int} (h : ((l.map fun y => (decide ((x, y) ∈ P))).any id) = false) : ∀ y ∈ l, (x, y) ∉ P := fun y hy hp => by
  rw [List.any_eq_false] at h
  exact h _ (List.mem_map.mpr ⟨y, hy, rfl⟩) (by simpa using hp)
end
end WF

namespace DL
open PySem PySem.Spec PyProof.Rows L2 Evl
section
variable {X : Cx} {kp : Nat} {elt tg iter : Expr} {scope : Scope} {Γ : List Sl} {pos pos' st2 : Pos} {x : Str} {g : TG} {G : Dn}
/-- y = [e(x) for x in xs], e(x) one of several, where the text swaps -/
theorem xs_asgLcR {α β : Type} {f : α → D} {xs : List α} {R : α → β → Prop} (i : Nat) (js : List Nat) (es : α → List D) (f' : β → D) (own : List (Str × Nat)) (hi : XW X tg iter Γ (xs.map f)) (hg : Bk X scope fun Y => PG Y tg g) (gt : ∀ x ∈ xs, XGt X.K g (f x) js (es x))
    (he : ∀ x ∈ xs, Bk X scope fun Y => XE Y false elt (setG Γ js (es x)) fun d => ∃ b, d = f' b ∧ R x b) (hl : xs.length ≤ 100000) (k : ∀ bs : List β, bs.length = xs.length → (∀ (i : Nat) x b, xs[i]? = some x → bs[i]? = some b → R x b) → G.nx (Γ.set i (.ow (.ml (bs.map f'))))) (ok : BlkOk X.N X.env.scope scope own) (hN : X.N.Nodup) (hsw : swapsWith (.ListComp elt [⟨tg, iter, [], 0⟩] scope pos) (some (.Name x pos')) st2.line X.env = pure true)
    (hw : wipeG Γ (own.map (·.2)) = Γ := by rfl) (hv : ∀ j ∈ js, j ∈ own.map (·.2) := by decide) (hk : kp ≤ i := by decide) (hy : X.N[i]? = some x := by rfl) (hyl : X.env.scope.names.lookup x = some .local := by rfl)
    (hc : X.calm = true := by rfl) (hs : ∀ x, foldedSetIterable iter X.env x = pure x := by intro _; rfl) : XS X kp (.Assign [.Name x pos'] (.ListComp elt [⟨tg, iter, [], 0⟩] scope pos) st2) Γ G := by
  refine xs_asgLcN (m := false) (Φ := fun z => z = xs.map f) i js (fun _ i => (xs[i]?.map es).getD []) (fun _ i acc => ∃ bs : List β, acc = bs.map f' ∧ bs.length = i ∧ ∀ (j : Nat) x b, xs[j]? = some x → bs[j]? = some b → R x b) own hi hg (fun ds e i d hd => ?_) .no (fun ds e => ⟨[], rfl, rfl, fun j x b _ hb => by simp at hb⟩) (fun ds e i d acc hd hp => ?_) (fun ds e => by rw [e, List.length_map]; exact hl) (fun ds acc e ⟨bs, h1, h2, h3⟩ => ?_) ok hN hsw hw hv hk hy hyl hc hs
  · subst e
    rw [List.getElem?_map] at hd
    cases hx : xs[i]? with
    | none => rw [hx] at hd; cases hd
    | some x =>
      rw [hx] at hd
      cases hd
      exact gt x (List.mem_of_getElem? hx)
  · subst e
    rw [List.getElem?_map] at hd
    cases hx : xs[i]? with
    | none => rw [hx] at hd; cases hd
    | some x =>
      have z := he x (List.mem_of_getElem? hx)
      refine jt_yes ⟨fun _ s H C cl fp => ?_, fun h => nomatch h⟩
      show XE _ false elt (setG Γ js (es x)) _
      refine (z s H C cl fp).imp fun d hb => ?_
      obtain ⟨b, h1, h2⟩ := hb
      obtain ⟨bs, k1, k2, k3⟩ := hp
      refine ⟨bs ++ [b], by rw [k1, h1, List.map_append]; rfl, by rw [List.length_append, k2]; rfl, fun j x' c hx' hc => ?_⟩
      by_cases hj : j < bs.length
      · rw [List.getElem?_append_left hj] at hc
        exact k3 j x' c hx' hc
      · rw [List.getElem?_append_right (by omega)] at hc
        have hji : j = i := by
          have := (List.getElem?_eq_some_iff.mp hc).1
          simp only [List.length_cons, List.length_nil] at this
          omega
        subst hji
        rw [hx] at hx'
        cases hx'
        rw [k2, Nat.sub_self] at hc
        cases hc
        exact h2
  · rw [h1]
    rw [e, List.length_map] at h2
    exact k bs h2 h3
end
end DL

namespace K36
open PySem PySem.Spec PyProof.Rows L2 Evl DL WF
section
variable {P : Program} {w : World} {K : PySem.W.Frag} {mg : Str → Option Value} {base : Heap}
abbrev s_forward_saying : Stmt := topS 8
abbrev n_forward_saying : List Str := ["first", "one", "second", "other", "depth", "told", "d", "rows", "k", "less", "i", "x", "here", "y"]
theorem sc_forward_saying : FnScope n_forward_saying ["first", "one", "second", "other", "depth"] (defScope s_forward_saying) := ⟨rfl, rfl, rfl, by decide +kernel, rfl, by decide +kernel, by decide +kernel⟩
theorem ok_forward_saying {CF CM : Addr} {f : Addr} {fd : FuncData} {n : Nat} (F : Fun K "forward_saying" "forward_saying" s_forward_saying f fd) (G : Cal P w K mg base (n + 3) "forward_saying" ["first", "one", "second", "other", "depth"] (spP K (cFwd CF CM n))) (kF : FrK K mg CF) (kM : MoK K mg CM) (c_followed_to : Cal P w K mg base 3 "followed_to" ["first", "second", "depth"] (spP K (cFol CF CM))) (c_is_marked : Cal P w K mg base 1 "is_marked" ["model", "k", "world"] (spP K (cMarked CF CM))) (c_Frame_sees : Mth P w K mg base 1 CF "sees" ["self", "index", "world"] (spP K (cSees CF))) (c_tied : Cal P w K mg base 1 "tied" ["word", "rows"] (spP K cTied)) (m_len : mg "len" = none) (m_range : mg "range" = none) (m_any : mg "any" = none) : FnOk P w K mg base CX0 (n + 3 + 1) f fd ["first", "one", "second", "other", "depth"] (spP K (cFwd CF CM (n + 1))) := by
  refine fn_pure F sc_forward_saying (fun ds Φ ⟨m, m2, a, b, depth, hd, _, hΦ⟩ => by rw [hd]; rfl) fun cdv A outer s0 H E hr ds Φ ⟨m, m2, a, b, depth, hd, ⟨ho1, ho2, hm1, hm2, ha, hb, ⟨hd0, hd1⟩, hdn⟩, hΦ⟩ => ?_
  subst hd
  have hu64 := hu_64 hr
  have hu65 := hu_65 hr
  have hr3 : Room (n + 3) (A.deeper (envOfC "forward_saying" (defScope s_forward_saying) s0.heap.objs.size f cdv)) := hr
  have hu0 : (A.deeper (envOfC "forward_saying" (defScope s_forward_saying) s0.heap.objs.size f cdv)).units < cLine := by omega
  have n1 := ho1.fr.n2
  have n2 := ho2.fr.n2
  have l1 := ho1.len
  have l2 := ho1.fr.len
  have s2 := fun i => seesL_len ho2 (i := i) (x := b)
  refine xs_cons (xs_asgV 5 (d := lT D.int ((rng 0 (depth + 1)).filter fun d => (!decide ((a, b) ∈ (iterL m m2 d.toNat))))) (XV.is (xo_lc (f := D.int) (xs := (rng 0 (depth + 1))) [6] (fun d => [D.int d]) (fun d => (!decide ((a, b) ∈ (iterL m m2 d.toNat)))) D.int (fun d => d) [("d", 6)] (xw_range1 (xl_cons (xv_bin op_add v_add (xv_var 4) xv_int) xa_nil) (by omega) m_range (by omega)) (fun _ _ _ _ _ => pg_name (i := 6) sc_forward_saying.nd rfl (by first | exact Or.inl rfl | exact Or.inr rfl)) (fun _ _ => gt_name) .one (fun d hd => jt_wb fun _ _ _ _ _ => (xb_cmp (op_notInD hu65) (v_niL (f := (pT D.int D.int)) (x := (a, b))) (xv_tup (hl := by simp) (xl_cons (xv_var 1) (xl_cons (xv_var 3) xa_nil))) (xv_call c_followed_to (hr.mono (by omega)) (xl_cons (xv_var 0) (xl_cons (xv_var 2) (xl_cons (xv_var 6) xa_nil))) ⟨m, m2, d, rfl, ⟨ho1, ho2, by have := mem_rng.mp hd; omega, by have := mem_rng.mp hd; omega⟩, rfl⟩))) (fun d hd pd _ _ _ _ _ => (xv_var 6)) (by rw [rng_len]; omega) (blkOk_by (N := n_forward_saying) (sc := defScope s_forward_saying) (by decide +kernel)) sc_forward_saying.nd).frz (by rw [List.map_id']; rfl)) ?_ sc_forward_saying.nd)
  cases e : ((rng 0 (depth + 1)).filter fun d => (!decide ((a, b) ∈ (iterL m m2 d.toNat)))) with
  | nil =>
    refine xs_cons (xs_if (XB.is (xb_cmp op_eq v_eqI (xv_lenLT (f := D.int) (xv_var 5) m_len) xv_int) (show _ = true from rfl)) (fun _ => ?_) (fun h => nomatch h))
    exact xs_cons (xs_retV xv_non (hΦ none (good_non e)))
  | cons d0 r =>
    obtain ⟨⟨q0, q1⟩, q2, q3⟩ := told_head e
    have q2 : (a, b) ∉ iterL m m2 d0.toNat := by
      have := q2
      rwa [Bool.not_eq_true', decide_eq_false_iff_not] at this
    have h0 : atI (d0 :: r) 0 = some d0 := atI_getD (l := d0 :: r) (d := d0) (i := 0) (by omega) (by simp only [List.length_cons]; omega)
    refine xs_no (XB.is (xb_cmp op_eq v_eqI (xv_lenLT (f := D.int) (xv_var 5) m_len) xv_int) (decide_eq_false (by simp only [List.length_cons]; omega))) ?_
    refine xs_cons (xs_if (xb_cmp op_eq v_eqI (xv_ix ix_list (v_ixLT (f := D.int) (l := d0 :: r) (x := d0) h0) (xv_var 5) xv_int) xv_int) (fun hz => ?_) (fun hz => ?_))
    · have hz := of_decide_eq_true hz.symm
      subst hz
      refine xs_cons (xs_asgLc (f := D.int) (xs := (rng 0 (m.marks.length : Int))) 7 [8] (fun k => [D.int k]) (fun k => ((decide (a ∈ (m.marks.getD (k).toNat []))) && (!(marked m2 k b)))) D.int (fun k => k) [("k", 8)] (xw_range1 (xl_cons (xv_lenTT (f := (tT D.int)) (xv_fld (d := (tT (tT D.int)) m.marks) (xv_var 0) kM.dc.cl kM.marks) m_len) xa_nil) (by omega) m_range (by omega)) (fun _ _ _ _ _ => pg_name (i := 8) sc_forward_saying.nd rfl (by first | exact Or.inl rfl | exact Or.inr rfl)) (fun _ _ => gt_name) .one (fun k hk => jt_wb fun _ _ _ _ _ => (xt_w (xb_and (xb_cmp op_in_seq v_inT (xv_var 1) (xv_ix ix_tup (v_ixTT (f := (tT D.int)) (atI_getD (d := []) (by have mk := mem_rng.mp hk; omega) (by have mk := mem_rng.mp hk; omega))) (xv_fld (d := (tT (tT D.int)) m.marks) (xv_var 0) kM.dc.cl kM.marks) (xv_var 8))) (fun _ => (xw_and1 (xb_not (xb_val (xv_call c_is_marked (hr.mono (by omega)) (xl_cons (xv_var 2) (xl_cons (xv_var 8) (xl_cons (xv_var 3) xa_nil))) ⟨m2, k, b, rfl, ⟨ho2, (mem_rng.mp hk).1⟩, rfl⟩)))))))) (fun k hk pk _ _ _ _ _ => (xv_var 8)) (by rw [rng_len]; omega) ?_ (blkOk_by (N := n_forward_saying) (sc := defScope s_forward_saying) (by decide +kernel)) sc_forward_saying.nd (sw_true rfl rfl rfl (by decide +kernel)))
      refine xs_freeze 7 ?_
      rw [show (((rng 0 (m.marks.length : Int)).filter fun k => ((decide (a ∈ (m.marks.getD (k).toNat []))) && (!(marked m2 k b)))).map fun k => k) = ((rng 0 (m.marks.length : Int)).filter fun k => ((decide (a ∈ (m.marks.getD (k).toNat []))) && (!(marked m2 k b)))) from List.map_id' _]
      have hne := no_pair0 ha hb q2
      rw [List.map_id'] at hne
      cases ek : ((rng 0 (m.marks.length : Int)).filter fun k => ((decide (a ∈ (m.marks.getD (k).toNat []))) && (!(marked m2 k b)))) with
      | nil => exact absurd ek hne
      | cons k0 rk =>
        have hk0 : atI (k0 :: rk) 0 = some k0 := atI_getD (l := k0 :: rk) (d := k0) (i := 0) (by omega) (by simp only [List.length_cons]; omega)
        exact xs_cons (xs_retV (xv_tup (hl := by simp) (xl_cons xv_str (xl_cons (xv_ix ix_list (v_ixLT (f := D.int) (l := k0 :: rk) (x := k0) hk0) (xv_var 7) xv_int) xa_nil))) (hΦ (some (.letter k0)) (good_letter hd0 q2 (by rw [ek]; exact List.mem_cons_self ..))))
    · have hz := of_decide_eq_false hz.symm
      refine xs_nil ?_
      refine xs_cons (xs_asgV 9 (xv_call c_followed_to (hr.mono (by omega)) (xl_cons (xv_var 0) (xl_cons (xv_var 2) (xl_cons (xv_bin op_sub v_sub (xv_ix ix_list (v_ixLT (f := D.int) (l := d0 :: r) (x := d0) h0) (xv_var 5) xv_int) xv_int) xa_nil))) ⟨m, m2, d0 - 1, rfl, ⟨ho1, ho2, by omega, by omega⟩, rfl⟩) ?_ sc_forward_saying.nd)
      have hin : (a, b) ∈ iterL m m2 (d0 - 1).toNat := by
        have := q3 (d0 - 1) (by omega) (by omega)
        rwa [Bool.not_eq_false', decide_eq_true_iff] at this
      have hmet := met_of hin (show (a, b) ∉ iterL m m2 ((d0 - 1).toNat + 1) by rw [show (d0 - 1).toNat + 1 = d0.toNat by omega]; exact q2)
      refine xs_loopP (f := D.int) (xs := (rng 0 (m.fr.arrows.length : Int))) (js := [10]) (fun i => [D.int i]) (fun _ : Unit => [.pd (eMo CF CM m), .pd (.int a), .pd (eMo CF CM m2), .pd (.int b), .pd (.int depth), .pd (lT D.int (d0 :: r)), .un, .un, .un, .pd (lT tP (iterL m m2 (d0 - 1).toNat)), .un, .un, .un, .un]) (fun _ => ()) (fun pre => ∀ i ∈ pre, ((seesL m.fr i a).all fun x => (((seesL m2.fr i b).map fun y => (decide ((x, y) ∈ iterL m m2 (d0 - 1).toNat))).any id)) = true) (xw_range1 (xl_cons (xv_lenTT (f := (tT (pT D.int D.int))) (xv_fld (d := (tT (tT (pT D.int D.int))) m.fr.arrows) (xv_fld (d := (eFr CF) m.fr) (xv_var 0) kM.dc.cl kM.frame) kF.dc.cl kF.arrows) m_len) xa_nil) (by omega) m_range (by omega)) (pg_name (i := 10) sc_forward_saying.nd rfl (by first | exact Or.inl rfl | exact Or.inr rfl)) (fun _ _ => gt_name) (by repeat (first | exact le_nil | refine le_eq ?_ | refine le_un ?_)) (fun p hp => nomatch hp) (fun pre i post hx hiv => ?_) (fun hiv => ?_) PassesOwn.never
      · have him : i ∈ rng 0 (m.fr.arrows.length : Int) := by rw [hx]; simp
        have hi0 := (mem_rng.mp him).1
        refine xs_loopP (f := D.int) (xs := seesL m.fr i a) (js := [11]) (fun x => [D.int x]) (fun _ : Unit => [.pd (eMo CF CM m), .pd (.int a), .pd (eMo CF CM m2), .pd (.int b), .pd (.int depth), .pd (lT D.int (d0 :: r)), .un, .un, .un, .pd (lT tP (iterL m m2 (d0 - 1).toNat)), .pd (.int i), .un, .un, .un]) (fun _ => ()) (fun pre2 => ∀ x ∈ pre2, (((seesL m2.fr i b).map fun y => (decide ((x, y) ∈ iterL m m2 (d0 - 1).toNat))).any id) = true) (xw_tupT (f := D.int) (xv_meth c_Frame_sees kF.dc.cl (hr.mono (by omega)) (xv_fld (d := (eFr CF) m.fr) (xv_var 0) kM.dc.cl kM.frame) (xl_cons (xv_var 10) (xl_cons (xv_var 1) xa_nil)) ⟨m.fr, i, a, rfl, ⟨ho1.fr, hi0⟩, rfl⟩)) (pg_name (i := 11) sc_forward_saying.nd rfl (by first | exact Or.inl rfl | exact Or.inr rfl)) (fun _ _ => gt_name) (by repeat (first | exact le_nil | refine le_eq ?_ | refine le_un ?_)) (fun p hp => nomatch hp) (fun pre2 x post2 hx2 hiv2 => ?_) (fun hiv2 => ?_) PassesOwn.never
        · have hxs : x ∈ seesL m.fr i a := by rw [hx2]; simp
          have s2i := s2 i
          refine xs_cons (xs_asgV 12 (xv_meth c_Frame_sees kF.dc.cl (hr.mono (by omega)) (xv_fld (d := (eFr CF) m2.fr) (xv_var 2) kM.dc.cl kM.frame) (xl_cons (xv_var 10) (xl_cons (xv_var 3) xa_nil)) ⟨m2.fr, i, b, rfl, ⟨ho2.fr, hi0⟩, rfl⟩) ?_ sc_forward_saying.nd)
          refine xs_cons (xs_if (xb_not (xb_val (xv_any (xo_map (f := D.int) (xs := (seesL m2.fr i b)) [13] (fun y => [D.int y]) D.bl (fun y => (decide ((x, y) ∈ (iterL m m2 (d0 - 1).toNat)))) [("y", 13)] (xw_tupT (f := D.int) (xv_var 12)) (fun _ _ _ _ _ => pg_name (i := 13) sc_forward_saying.nd rfl (by first | exact Or.inl rfl | exact Or.inr rfl)) (fun _ _ => gt_name) (fun y hy _ _ _ _ _ => (xv_cmp (op_inD hu65) (v_inL (f := (pT D.int D.int)) (x := (x, y))) (xv_tup (hl := by simp) (xl_cons (xv_var 11) (xl_cons (xv_var 13) xa_nil))) (xv_var 9))) (by omega) (blkOk_by (N := n_forward_saying) (sc := defScope s_forward_saying) (by decide +kernel)) sc_forward_saying.nd).frz m_any))) (fun hany => ?_) (fun hany => ?_))
          · have hany : (((seesL m2.fr i b).map fun y => (decide ((x, y) ∈ iterL m m2 (d0 - 1).toNat))).any id) = false := by
              have := hany.symm
              rwa [Bool.not_eq_true'] at this
            refine xs_cons (xs_asgLcR (f := D.int) (xs := seesL m2.fr i b) (R := fun y s => Row m m2 x (d0 - 1) y s) 7 [13] (fun y => [D.int y]) eM [("y", 13)] (xw_tupT (f := D.int) (xv_var 12)) (fun _ _ _ _ _ => (pg_name (i := 13) sc_forward_saying.nd rfl (by first | exact Or.inl rfl | exact Or.inr rfl))) (fun _ _ => gt_name) (fun y hy _ _ _ _ _ => (xe_call (Φ := fun d => ∃ s, d = eM s ∧ Row m m2 x (d0 - 1) y s) G hr3 (xl_cons (xv_var 0) (xl_cons (xv_var 11) (xl_cons (xv_var 2) (xl_cons (xv_var 13) (xl_cons (xv_bin op_sub v_sub (xv_ix ix_list (v_ixLT (f := D.int) (l := d0 :: r) (x := d0) h0) (xv_var 5) xv_int) xv_int) xa_nil))))) (fun ds h => ⟨m, m2, x, y, d0 - 1, h, ⟨ho1, ho2, hm1, hm2, seesL_in ho1 hxs, seesL_in ho2 hy, ⟨by omega, by omega⟩, by omega⟩, fun o ho => by
            obtain ⟨s, rfl, h⟩ := row_of (by omega) ho (any_no2 hany y hy)
            exact ⟨s, rfl, h⟩⟩))) (by omega) (fun bs hbl hbr => ?_) (blkOk_by (N := n_forward_saying) (sc := defScope s_forward_saying) (by decide +kernel)) sc_forward_saying.nd (sw_true rfl rfl rfl (by decide +kernel)))
            refine xs_freeze 7 ?_
            exact xs_cons (xs_retV (xv_tup (hl := by simp) (xl_cons xv_str (xl_cons (xv_var 10) (xl_cons (xv_call c_tied (hr.mono (by omega)) (xl_cons xv_str (xl_cons (xv_var 7) xa_nil)) ⟨bs, rfl, by rw [hbl]; omega, rfl⟩) xa_nil)))) (hΦ (some (.some i (tiedM bs))) (good_some ho2 hm2 ⟨by omega, by omega⟩ q2 hi0 hxs hbl hbr)))
          · have hany : (((seesL m2.fr i b).map fun y => (decide ((x, y) ∈ iterL m m2 (d0 - 1).toNat))).any id) = true := by
              have := hany.symm
              rwa [Bool.not_eq_false'] at this
            refine xs_nil ?_
            exact xs_nil ⟨(by repeat (first | exact le_nil | refine le_eq ?_ | refine le_un ?_)), fun q hq => by
              rcases List.mem_append.mp hq with hq | hq
              · exact hiv2 q hq
              · rw [List.mem_singleton.mp hq]; exact hany⟩
        · exact xs_nil ⟨(by repeat (first | exact le_nil | refine le_eq ?_ | refine le_un ?_)), fun q hq => by
            rcases List.mem_append.mp hq with hq | hq
            · exact hiv q hq
            · rw [List.mem_singleton.mp hq]; exact List.all_eq_true.mpr hiv2⟩
      · exact absurd (show metB m m2 (iterL m m2 (d0 - 1).toNat) (a, b) = true from List.all_eq_true.mpr hiv) (by rw [hmet]; exact Bool.false_ne_true)
theorem cal_forward_saying {CF CM : Addr} (D : Dd K mg "forward_saying" s_forward_saying ["first", "one", "second", "other", "depth"]) (kF : FrK K mg CF) (kM : MoK K mg CM) (c_followed_to : Cal P w K mg base 3 "followed_to" ["first", "second", "depth"] (spP K (cFol CF CM))) (c_is_marked : Cal P w K mg base 1 "is_marked" ["model", "k", "world"] (spP K (cMarked CF CM))) (c_Frame_sees : Mth P w K mg base 1 CF "sees" ["self", "index", "world"] (spP K (cSees CF))) (c_tied : Cal P w K mg base 1 "tied" ["word", "rows"] (spP K cTied)) (m_len : mg "len" = none) (m_range : mg "range" = none) (m_any : mg "any" = none) : ∀ n, Cal P w K mg base (n + 3) "forward_saying" ["first", "one", "second", "other", "depth"] (spP K (cFwd CF CM n))
  | 0 => Cal.of D fun {f fd} F => fn_pure F sc_forward_saying (fun ds Φ ⟨m, m2, a, b, depth, hd, _, hΦ⟩ => by rw [hd]; rfl) fun cdv A outer s0 H E hr ds Φ ⟨m, m2, a, b, depth, hd, ⟨_, _, _, _, _, _, ⟨h0, _⟩, h1⟩, hΦ⟩ => absurd h1 (by omega)
  | n + 1 => Cal.of D fun F => ok_forward_saying F (cal_forward_saying D kF kM c_followed_to c_is_marked c_Frame_sees c_tied m_len m_range m_any n) kF kM c_followed_to c_is_marked c_Frame_sees c_tied m_len m_range m_any

end
end K36

namespace WF
open PySem PySem.Spec PyProof.Rows L2 Evl DL
section
variable {m m2 : Mo}
def rowP (m m2 : Mo) (x : Int) (ys : List Int) : List (Int × Int) := (ys.map fun y => (x, y)).filter fun p => hasL m p.1 m2 p.2
def accP (m m2 : Mo) (xs : List Int) : List (Int × Int) := xs.flatMap fun x => rowP m m2 x (rng 0 (m2.fr.many : Int))
theorem rowP_len {x : Int} {ys : List Int} : (rowP m m2 x ys).length ≤ ys.length := by
  have := List.length_filter_le (fun p : Int × Int => hasL m p.1 m2 p.2) (ys.map fun y => (x, y))
  rw [List.length_map] at this
  exact this
theorem accP_len : ∀ {xs : List Int}, (accP m m2 xs).length ≤ xs.length * m2.fr.many
  | [] => by simp [accP]
  | x :: xs => by
    have h1 := rowP_len (m := m) (m2 := m2) (x := x) (ys := rng 0 (m2.fr.many : Int))
    have h2 := accP_len (xs := xs)
    rw [rng_len] at h1
    have e : accP m m2 (x :: xs) = rowP m m2 x (rng 0 (m2.fr.many : Int)) ++ accP m m2 xs := List.flatMap_cons ..
    rw [e, List.length_append, List.length_cons, Nat.succ_mul]
    omega
theorem rowP_snoc {x y : Int} {ys : List Int} : rowP m m2 x (ys ++ [y]) = if hasL m x m2 y = true then rowP m m2 x ys ++ [(x, y)] else rowP m m2 x ys := by
  unfold rowP
  rw [List.map_append, List.filter_append]
  cases e : hasL m x m2 y <;> simp [e]
theorem accP_snoc {x : Int} {xs : List Int} : accP m m2 (xs ++ [x]) = accP m m2 xs ++ rowP m m2 x (rng 0 (m2.fr.many : Int)) := by
  unfold accP
  rw [List.flatMap_append]
  simp
theorem accP_all : accP m m2 (rng 0 (m.fr.many : Int)) = pairs0 m m2 := by
  unfold accP pairs0 rowP worldsP
  rw [List.filter_flatMap]
theorem has_no {x y : Int} : (!decide (false ∈ (lettersL m x).map fun k => marked m2 k y)) = hasL m x m2 y := by
  rw [no_false]
  unfold hasL
  rw [List.all_map]
  rfl
def condP (m m2 : Mo) (P : List (Int × Int)) (p : Int × Int) (i : Int) : Bool := (seesA m.fr.arrows i p.1).all fun x => (((seesA m2.fr.arrows i p.2).map fun y => (decide ((x, y) ∈ P))).any id)
theorem cond_no {P : List (Int × Int)} {p : Int × Int} {i : Int} : (!(decide (false ∈ ((seesA m.fr.arrows i p.1).map fun a => (decide (true ∈ ((seesA m2.fr.arrows i p.2).map fun b => (decide ((a, b) ∈ P))))))))) = condP m m2 P p i := by
  rw [no_false]
  unfold condP
  refine all_congr fun a _ => ?_
  rw [is_true, List.any_map]
  rfl
theorem met_cond {P : List (Int × Int)} {p : Int × Int} : ((rng 0 (m.fr.arrows.length : Int)).all (condP m m2 P p)) = metB m m2 P p := rfl
theorem all_snoc {α : Type} {l : List α} {x : α} {p : α → Bool} : (l ++ [x]).all p = (l.all p && p x) := by simp
theorem filter_snoc {α : Type} {l : List α} {x : α} {p : α → Bool} : (l ++ [x]).filter p = if p x = true then l.filter p ++ [x] else l.filter p := by
  rw [List.filter_append]
  cases e : p x <;> simp [e]
end
end WF

namespace K36
open PySem PySem.Spec PyProof.Rows L2 Evl DL WF
section
variable {P : Program} {w : World} {K : PySem.W.Frag} {mg : Str → Option Value} {base : Heap}
abbrev s_law_followed : Stmt := topS 29
abbrev n_law_followed : List Str := ["one", "other", "pairs", "x", "y", "letters", "k", "turn", "kept", "good", "i", "b", "a"]
theorem sc_law_followed : FnScope n_law_followed ["one", "other"] (defScope s_law_followed) := ⟨rfl, rfl, rfl, by decide +kernel, rfl, by decide +kernel, by decide +kernel⟩
theorem ok_law_followed {f : Addr} {fd : FuncData} (F : Fun K "_law_followed" "_law_followed" s_law_followed f fd) (c_law_sees : Cal P w K mg base 1 "_law_sees" ["arrows", "i", "x"] (spP K cLSees)) (m_len : mg "len" = none) (m_range : mg "range" = none) : FnOk P w K mg base CX0 (1 + 1) f fd ["one", "other"] (spP K cLFol) := by
  refine fn_pure F sc_law_followed (fun ds Φ ⟨m, m2, hd, _, hΦ⟩ => by rw [hd]; rfl) fun cdv A outer s0 H E hr ds Φ ⟨m, m2, hd, ⟨ho1, ho2, hm1, hm2⟩, hΦ⟩ => ?_
  subst hd
  have hu65 := hu_65 hr
  have l1 := ho1.len
  have l2 := ho1.fr.len
  have hr1 : ∀ r ∈ m.fr.arrows, r.length ≤ 100 := fun r hr => (ho1.fr.arr r hr).2.2
  have hr2 : ∀ r ∈ m2.fr.arrows, r.length ≤ 100 := fun r hr => (ho2.fr.arr r hr).2.2
  have g1 := fun i x => sees_len hr1 (i := i) (x := x)
  have g2 := fun i x => sees_len hr2 (i := i) (x := x)
  have i4 := fun n => iter_400 ho1 ho2 (n := n)
  have w4 : (pairs0 m m2).length ≤ 400 := i4 0
  refine xs_cons (xs_asgO 2 (xo_lst xa_nil) ?_ sc_law_followed.nd)
  refine xs_loop (f := D.int) (xs := (rng 0 (m.fr.many : Int))) (js := [3]) (fun x => [D.int x]) (fun l : List (Int × Int) => [.pd (eLot m), .pd (eLot m2), .ow (.ml (l.map tP)), .un, .un, .un, .un, .un, .un, .un, .un, .un, .un]) (fun pre => accP m m2 pre) (xw_range1 (xl_cons (xv_ix ix_tup (v_ixT (f := D.int (m.fr.many : Int)) rfl) (xv_var 0) xv_int) xa_nil) (by omega) m_range (by omega)) (pg_name (i := 3) sc_law_followed.nd rfl (by first | exact Or.inl rfl | exact Or.inr rfl)) (fun _ _ => gt_name) (by repeat (first | exact le_nil | refine le_eq ?_ | refine le_un ?_)) (fun pre x post hx => ?_) ?_ PassesOwn.never
  · have hpl : pre.length ≤ 10 := by
      have := congrArg List.length hx
      rw [rng_len, List.length_append] at this
      omega
    have hal := accP_len (m := m) (m2 := m2) (xs := pre)
    have hmul := Nat.mul_le_mul hpl hm2
    refine xs_loop (f := D.int) (xs := (rng 0 (m2.fr.many : Int))) (js := [4]) (fun y => [D.int y]) (fun l : List (Int × Int) => [.pd (eLot m), .pd (eLot m2), .ow (.ml (l.map tP)), .pd (.int x), .un, .un, .un, .un, .un, .un, .un, .un, .un]) (fun pre2 => accP m m2 pre ++ rowP m m2 x pre2) (xw_range1 (xl_cons (xv_ix ix_tup (v_ixT (f := D.int (m2.fr.many : Int)) rfl) (xv_var 1) xv_int) xa_nil) (by omega) m_range (by omega)) (pg_name (i := 4) sc_law_followed.nd rfl (by first | exact Or.inl rfl | exact Or.inr rfl)) (fun _ _ => gt_name) (by rw [show rowP m m2 x [] = [] from rfl, List.append_nil]; exact (by repeat (first | exact le_nil | refine le_eq ?_ | refine le_un ?_))) (fun pre2 y post2 hx2 => ?_) ?_ PassesOwn.never
    · have hpl2 : pre2.length ≤ 10 := by
        have := congrArg List.length hx2
        rw [rng_len, List.length_append] at this
        omega
      have hrl := rowP_len (m := m) (m2 := m2) (x := x) (ys := pre2)
      refine xs_cons (xs_asgLc (f := D.int) (xs := (rng 0 (m.marks.length : Int))) 5 [6] (fun k => [D.int k]) (fun k => (decide (x ∈ (m.marks.getD (k).toNat [])))) D.int (fun k => k) [("k", 6)] (xw_range1 (xl_cons (xv_lenTT (f := (tT D.int)) (xv_ix ix_tup (v_ixT (f := (tT (tT D.int)) m.marks) rfl) (xv_var 0) xv_int) m_len) xa_nil) (by omega) m_range (by omega)) (fun _ _ _ _ _ => pg_name (i := 6) sc_law_followed.nd rfl (by first | exact Or.inl rfl | exact Or.inr rfl)) (fun _ _ => gt_name) .one (fun k hk => jt_wb fun _ _ _ _ _ => (xb_cmp op_in_seq v_inT (xv_var 3) (xv_ix ix_tup (v_ixTT (f := (tT D.int)) (atI_getD (d := []) (by have mk := mem_rng.mp hk; omega) (by have mk := mem_rng.mp hk; omega))) (xv_ix ix_tup (v_ixT (f := (tT (tT D.int)) m.marks) rfl) (xv_var 0) xv_int) (xv_var 6)))) (fun k hk pk _ _ _ _ _ => (xv_var 6)) (by rw [rng_len]; omega) ?_ (blkOk_by (N := n_law_followed) (sc := defScope s_law_followed) (by decide +kernel)) sc_law_followed.nd (sw_true rfl rfl rfl (by decide +kernel)))
      refine xs_freeze 5 ?_
      rw [show (((rng 0 (m.marks.length : Int)).filter fun k => (decide (x ∈ (m.marks.getD (k).toNat [])))).map fun k => k) = lettersL m x from List.map_id' _]
      have hll : (lettersL m x).length ≤ 20 := by
        have := List.length_filter_le (fun k : Int => (decide (x ∈ (m.marks.getD (k).toNat [])))) (rng 0 (m.marks.length : Int))
        rw [rng_len] at this
        show ((rng 0 (m.marks.length : Int)).filter _).length ≤ 20
        omega
      refine xs_cons (xs_if (XB.is (xb_cmp (op_notInD hu65) (v_niL (f := D.bl)) xv_bl (xo_map (f := D.int) (xs := (lettersL m x)) [6] (fun k => [D.int k]) D.bl (fun k => ((decide (k < (m2.marks.length : Int))) && (decide (y ∈ (m2.marks.getD (k).toNat []))))) [("k", 6)] (xw_listT (f := D.int) (xv_var 5)) (fun _ _ _ _ _ => pg_name (i := 6) sc_law_followed.nd rfl (by first | exact Or.inl rfl | exact Or.inr rfl)) (fun _ _ => gt_name) (fun k hk _ _ _ _ _ => (xv_and (xv_cmp op_lt v_lt (xv_var 6) (xv_lenTT (f := (tT D.int)) (xv_ix ix_tup (v_ixT (f := (tT (tT D.int)) m2.marks) rfl) (xv_var 1) xv_int) m_len)) (fun hk2 => (xv_one (xv_cmp op_in_seq v_inT (xv_var 4) (xv_ix ix_tup (v_ixTT (f := (tT D.int)) (atI_getD (d := []) (mem_rng.mp (List.mem_filter.mp hk).1).1 (of_decide_eq_true hk2))) (xv_ix ix_tup (v_ixT (f := (tT (tT D.int)) m2.marks) rfl) (xv_var 1) xv_int) (xv_var 6))))))) (by omega) (blkOk_by (N := n_law_followed) (sc := defScope s_law_followed) (by decide +kernel)) sc_law_followed.nd).frz) has_no) (fun h1 => ?_) (fun h1 => ?_))
      · refine xs_cons (xs_app 2 (ds := (accP m m2 pre ++ rowP m m2 x pre2).map tP) (xv_tup (hl := by simp) (xl_cons (xv_var 3) (xl_cons (xv_var 4) xa_nil))) (fun d hd => ?_) (by rw [List.length_map, List.length_append]; omega))
        subst hd
        refine xs_nil ?_
        refine xs_nil ?_
        rw [rowP_snoc, if_pos h1.symm, ← List.append_assoc, List.map_append (l₁ := _ ++ _)]
        exact (by repeat (first | exact le_nil | refine le_eq ?_ | refine le_un ?_))
      · refine xs_nil ?_
        refine xs_nil ?_
        rw [rowP_snoc, if_neg (by rw [← h1]; exact Bool.false_ne_true)]
        exact (by repeat (first | exact le_nil | refine le_eq ?_ | refine le_un ?_))
    · refine xs_nil ?_
      rw [accP_snoc]
      exact (by repeat (first | exact le_nil | refine le_eq ?_ | refine le_un ?_))
  · rw [accP_all]
    refine xs_freeze 2 ?_
    refine xs_loop (f := D.int) (xs := (rng 0 (((pairs0 m m2).length : Int) + 1))) (js := [7]) (fun turn => [D.int turn]) (fun n : Nat => [.pd (eLot m), .pd (eLot m2), .pd (lT tP (iterL m m2 n)), .un, .un, .un, .un, .un, .un, .un, .un, .un, .un]) (fun pre => pre.length) (xw_range1 (xl_cons (xv_bin op_add v_add (xv_lenLT (f := tP) (l := pairs0 m m2) (xv_var 2) m_len) xv_int) xa_nil) (by omega) m_range (by omega)) (pg_name (i := 7) sc_law_followed.nd rfl (by first | exact Or.inl rfl | exact Or.inr rfl)) (fun _ _ => gt_name) (by repeat (first | exact le_nil | refine le_eq ?_ | refine le_un ?_)) (fun pre turn post hx => ?_) ?_ PassesOwn.never
    · generalize hn : pre.length = n
      have i4n := i4 n
      refine xs_cons (xs_asgO 8 (xo_lst xa_nil) ?_ sc_law_followed.nd)
      refine xs_loop (f := tP) (xs := iterL m m2 n) (js := [3, 4]) (fun p => [D.int p.1, D.int p.2]) (fun l : List (Int × Int) => [.pd (eLot m), .pd (eLot m2), .pd (lT tP (iterL m m2 n)), .un, .un, .un, .un, .un, .ow (.ml (l.map tP)), .un, .un, .un, .un]) (fun pre2 => pre2.filter (metB m m2 (iterL m m2 n))) (xw_listT (f := tP) (xv_var 2)) (pg_tup rfl (pgs_cons (pg_name (i := 3) sc_law_followed.nd rfl (by first | exact Or.inl rfl | exact Or.inr rfl)) (pgs_cons (pg_name (i := 4) sc_law_followed.nd rfl (by first | exact Or.inl rfl | exact Or.inr rfl)) pgs_nil))) (fun _ _ => gt_pair) (by repeat (first | exact le_nil | refine le_eq ?_ | refine le_un ?_)) (fun pre2 p post2 hx2 => ?_) ?_ PassesOwn.never
      · have hpl : (pre2.filter (metB m m2 (iterL m m2 n))).length ≤ 400 := by
          have := congrArg List.length hx2
          rw [List.length_append] at this
          have := List.length_filter_le (metB m m2 (iterL m m2 n)) pre2
          omega
        refine xs_cons (xs_asgV 9 xv_bl ?_ sc_law_followed.nd)
        refine xs_loop (f := D.int) (xs := (rng 0 (m.fr.arrows.length : Int))) (js := [10]) (fun i => [D.int i]) (fun g : Bool => [.pd (eLot m), .pd (eLot m2), .pd (lT tP (iterL m m2 n)), .pd (.int p.1), .pd (.int p.2), .un, .un, .un, .ow (.ml ((pre2.filter (metB m m2 (iterL m m2 n))).map tP)), .pd (.bl g), .un, .un, .un]) (fun pre3 => pre3.all (condP m m2 (iterL m m2 n) p)) (xw_range1 (xl_cons (xv_lenTT (f := (tT (pT D.int D.int))) (xv_ix ix_tup (v_ixT (f := (tT (tT (pT D.int D.int))) m.fr.arrows) rfl) (xv_var 0) xv_int) m_len) xa_nil) (by omega) m_range (by omega)) (pg_name (i := 10) sc_law_followed.nd rfl (by first | exact Or.inl rfl | exact Or.inr rfl)) (fun _ _ => gt_name) (by repeat (first | exact le_nil | refine le_eq ?_ | refine le_un ?_)) (fun pre3 i post3 hx3 => ?_) ?_ PassesOwn.never
        · have him : i ∈ rng 0 (m.fr.arrows.length : Int) := by rw [hx3]; simp
          have hi0 := (mem_rng.mp him).1
          refine xs_cons (xs_asgV 9 (d := .bl ((pre3 ++ [i]).all (condP m m2 (iterL m m2 n) p))) (XV.is (xv_and (xv_var 9) (fun _ => (xv_one (xv_cmp (op_notInD hu65) (v_niL (f := D.bl)) xv_bl (xo_map (f := D.int) (xs := (seesA m.fr.arrows i p.1)) [12] (fun a => [D.int a]) D.bl (fun a => (decide (true ∈ ((seesA m2.fr.arrows i p.2).map fun b1 => (decide ((a, b1) ∈ (iterL m m2 n))))))) [("a", 12)] (xw_listT (f := D.int) (xv_call c_law_sees (hr.mono (by decide)) (xl_cons (xv_ix ix_tup (v_ixT (f := (tT (tT (pT D.int D.int))) m.fr.arrows) rfl) (xv_var 0) xv_int) (xl_cons (xv_var 10) (xl_cons (xv_var 3) xa_nil))) ⟨m.fr.arrows, i, p.1, rfl, ⟨hi0, hr1⟩, rfl⟩)) (fun _ _ _ _ _ => pg_name (i := 12) sc_law_followed.nd rfl (by first | exact Or.inl rfl | exact Or.inr rfl)) (fun _ _ => gt_name) (fun a ha _ _ _ _ _ => (xv_cmp (op_inD hu65) (v_inL (f := D.bl)) xv_bl (xo_map (f := D.int) (xs := (seesA m2.fr.arrows i p.2)) [11] (fun b1 => [D.int b1]) D.bl (fun b1 => (decide ((a, b1) ∈ (iterL m m2 n)))) [("b", 11)] (xw_listT (f := D.int) (xv_call c_law_sees (hr.mono (by decide)) (xl_cons (xv_ix ix_tup (v_ixT (f := (tT (tT (pT D.int D.int))) m2.fr.arrows) rfl) (xv_var 1) xv_int) (xl_cons (xv_var 10) (xl_cons (xv_var 4) xa_nil))) ⟨m2.fr.arrows, i, p.2, rfl, ⟨hi0, hr2⟩, rfl⟩)) (fun _ _ _ _ _ => pg_name (i := 11) sc_law_followed.nd rfl (by first | exact Or.inl rfl | exact Or.inr rfl)) (fun _ _ => gt_name) (fun b1 hb1 _ _ _ _ _ => (xv_cmp (op_inD hu65) (v_inL (f := (pT D.int D.int)) (x := (a, b1))) (xv_tup (hl := by simp) (xl_cons (xv_var 12) (xl_cons (xv_var 11) xa_nil))) (xv_var 2))) (by have := g2 i p.2; omega) (blkOk_by (N := n_law_followed) (sc := (relS _ (defScope s_law_followed))) (by decide +kernel)) sc_law_followed.nd).frz)) (by have := g1 i p.1; omega) (blkOk_by (N := n_law_followed) (sc := defScope s_law_followed) (by decide +kernel)) sc_law_followed.nd).frz)))) (by rw [all_snoc, ← cond_no])) ?_ sc_law_followed.nd)
          exact xs_nil (by repeat (first | exact le_nil | refine le_eq ?_ | refine le_un ?_))
        · rw [met_cond]
          refine xs_cons (xs_if (xb_val (xv_var 9)) (fun h1 => ?_) (fun h1 => ?_))
          · refine xs_cons (xs_app 8 (ds := (pre2.filter (metB m m2 (iterL m m2 n))).map tP) (xv_tup (hl := by simp) (xl_cons (xv_var 3) (xl_cons (xv_var 4) xa_nil))) (fun d hd => ?_) (by rw [List.length_map]; omega))
            subst hd
            refine xs_nil ?_
            refine xs_nil ?_
            rw [filter_snoc, if_pos h1.symm, List.map_append (l₁ := List.filter _ _)]
            exact (by repeat (first | exact le_nil | refine le_eq ?_ | refine le_un ?_))
          · refine xs_nil ?_
            refine xs_nil ?_
            rw [filter_snoc, if_neg (by rw [← h1]; exact Bool.false_ne_true)]
            exact (by repeat (first | exact le_nil | refine le_eq ?_ | refine le_un ?_))
      · refine xs_freeze 8 ?_
        refine xs_cons (xs_asgV 2 (xv_var 8) ?_ sc_law_followed.nd)
        refine xs_nil ?_
        rw [List.length_append, hn]
        exact (by repeat (first | exact le_nil | refine le_eq ?_ | refine le_un ?_))
    · refine xs_cons (xs_retV (xv_var 2) ?_)
      rw [rng_len, show (((pairs0 m m2).length : Int) + 1 - 0).toNat = (pairs0 m m2).length + 1 by omega]
      exact hΦ

end
end K36

namespace DL
open PySem PySem.Spec PyProof.Rows L2 Evl
/-! ### set(xs), xs a tuple of tuples of ints (the walk of the library's rule for lists, turned to tuples) -/
section
variable {P : Program} {w : World} {A : Around} {E : Value → Shared → Prop} {s : Shared}
abbrev S0 (w : World) : Obj := { cls := .type "set", dict := none, data := .set #[] 0 (.fresh 0 0 (!w.params.followText "set-order")) }
set_option maxHeartbeats 3200000 in
theorem call_set_tupsT {l : Addr} {items : Array Value} (ks : List (Addr × List Int)) {Q : Value → Shared → Prop} (hh : A.handled = none) (hl : s.heap.IsTuple l items) (hit : items.toList = ks.map fun p => Value.ref p.1)
    (hk : ∀ p ∈ ks, IsT P w s.heap p.2 p.1) (hfew : ks.length < 64) (hu : A.units + 3 < cLine)
    (h : ∀ (h' : Heap) (tk : Nat) L es ep t, SetTR P w h' s.heap.objs.size L es ep t → Got ks ks.length L → (∀ b o, s.heap.get? b = some o → h'.get? b = some o) → Q (.ref s.heap.objs.size) { s with heap := h', toks := tk }) :
    wpAny (model P w) A (call (.type "set") [.ref l]) Q E s := by
  have hisz : items.size = ks.length := by
    have q := congrArg List.length hit
    rw [Array.length_toList, List.length_map] at q
    exact q
  obtain ⟨c, tl, hmro⟩ := F.called_set.mro
  have hmade := F.called_set.made
  have hsub := F.called_set.sub
  refine wpAny_call (codeAny_of_tree ?_)
  show wpAny _ _ (callAny (.type "set") _) _ _ _
  refine wpAny_pure ⟨Code.quiet_builtin _ (by decide +kernel), codeAny_builtin F.entry_type_call ?_⟩
  rw [Around.under_plain (weight_type_call_type "set" [.ref l] []) rfl]
  have h1 := F.called_set.notType
  have h2 := F.called_set.canCreate
  have hct := F.typeCall_set_1 (.ref l)
  repeat (any_goals (first | assumption | wp_step))

  refine codeAny_mono (code_set_led1 (.ref l) (E := E) (Q₁ := fun obj s₁ => obj = .ref s.heap.objs.size ∧ s₁ = { s with heap := s.heap.push (S0 w) }) ⟨rfl, rfl⟩) fun r s₁ hr => ?_
  cases r with
  | error e => exact hr
  | ok fl =>
    cases fl with
    | ret obj =>
      obtain ⟨rfl, rfl⟩ := hr
      have hS : (s.heap.push (S0 w)).get? s.heap.objs.size = some (S0 w) := Heap.get?_push_size _ rfl
      have hT : Shared.TypeIs { s with heap := s.heap.push (S0 w) } (.ref s.heap.objs.size) "set" := ⟨_, hS, rfl⟩
      have hli := F.called_set.init.lookup
      have hbi := F.called_set.init.bind (.ref s.heap.objs.size)
      repeat (any_goals (first | assumption | wp_step))

      refine codeAny_mono (codeAny_call_builtin (R := wants (fun r s₂ => r = .none ∧ ∃ h' tk L es ep t, s₂ = { s with heap := h', toks := tk } ∧ SetTR P w h' s.heap.objs.size L es ep t ∧ Got ks ks.length L ∧
          (∀ b o, s.heap.get? b = some o → h'.get? b = some o)) E) F.called_set.init.plain F.entry_set_init (check_set_init_1 hT ?_)) fun r₂ s₂ hr₂ => ?_
      · obtain ⟨ol, hol, hcl, nl, hdl⟩ := hl
        obtain ⟨ocls, odict, odata, oslots⟩ := ol
        simp only at hcl hdl
        subst hcl; subst hdl
        have hol' : (s.heap.push (S0 w)).get? l = some { cls := .type "tuple", dict := odict, data := .seq items nl, slots := oslots } := Heap.get?_push_of_some _ hol
        have hsls := F.sub_tuple_set
        have hslf := F.sub_tuple_frozenset
        have hne : (Value.type "tuple" == Value.type "dict") = false := by decide
        have hl1 : (s.heap.push (S0 w)).IsTuple l items := ⟨_, hol', rfl, nl, rfl⟩
        unfold Builtin.«set.__init__» noKeywords Builtin.Frozenset.updateFrom
        generalize hPI : pyIter = PI
        wp_walk
        subst hPI

        refine wpAny_pyIter_tuple hl1 ?_
        refine wpAny_bind (wpAny_runValue ?_)
        have hlS : l < s.heap.objs.size := Heap.lt_size hol
        have hh3 : A.in1.in1.in1.handled = none := by simp [hh]
        have hz1 : (s.heap.push (S0 w)).objs.size = s.heap.objs.size + 1 := Heap.size_push ..
        have hneI : l ≠ (s.heap.push (S0 w)).objs.size := by
          rw [Heap.size_push]; exact Nat.ne_of_lt (Nat.lt_succ_of_lt hlS)
        have hSf : s.heap.objs.size ∉ [(s.heap.push (S0 w)).objs.size, l] := by
          rw [Heap.size_push]; simp only [List.mem_cons, List.mem_singleton, List.not_mem_nil, or_false, not_or]
          exact ⟨Nat.ne_of_lt (Nat.lt_succ_self _), Nat.ne_of_gt hlS⟩
        have hval : ∀ (i : Nat) (v : Value), items[i]? = some v → ∃ p, ks[i]? = some p ∧ v = .ref p.1 := fun i v hv => by
          have q : items.toList[i]? = some v := by rw [Array.getElem?_toList]; exact hv
          rw [hit, List.getElem?_map] at q
          cases hq : ks[i]? with
          | none => rw [hq] at q; cases q
          | some p =>
            rw [hq] at q
            exact ⟨p, rfl, (Option.some.inj q).symm⟩
        have none_of : ∀ b, s.heap.objs.size ≤ b → s.heap.get? b = none := fun b hb => by
          cases q : s.heap.get? b with
          | none => rfl
          | some o => exact absurd (Nat.lt_of_lt_of_le (Heap.lt_size q) hb) (Nat.lt_irrefl _)
        refine set_update_tups ((Walks.tuple hh3 _ l hneI items).toS) s.heap.objs.size
          hSf ks hisz hfew hval s.heap hk (none_of _ (Nat.le_refl _)) (fun b hb => none_of b (by
            rw [List.mem_singleton.mp hb, Heap.size_push]
            exact Nat.le_succ _)) hu (items.size - 0) 0 _ (by omega) (Nat.zero_le _)
          ⟨⟨_, Heap.get?_push_size _ rfl, rfl, rfl⟩, (hl1.push _)⟩ (fun b o e => Heap.get?_push_of_some _ (Heap.get?_push_of_some _ e)) ?hS0 ?hR
        case hS0 =>
          have hget : ((s.heap.push (S0 w)).push { cls := .type "tuple_iterator", data := .fields #[.ref l, .int 0 0] }).get? s.heap.objs.size
              = some (S0 w) := Heap.get?_push_of_some _ hS
          exact ⟨[], #[], 0, _, setTR_fresh hget, Got.zero ks⟩
        case hR =>
          intro s' L es ep t hm hS' g' hkp
          obtain ⟨h', g2, d', tk', os'⟩ := s'
          have eg : g2 = s.gens := hm.gens
          have ed : d' = s.drawn := hm.drawn
          have eo : os' = s.os := hm.os
          subst eg; subst ed; subst eo
          show wpAny _ _ _ _ _ _
          refine wpAny_pure ?_
          show wpAny _ _ (ret Value.none) _ _ _
          rw [hisz] at g'
          exact wpAny_pure ⟨rfl, h', tk', L, es, ep, t, rfl, hS', g', hkp⟩

      · cases r₂ with
        | error e => exact hr₂
        | ok fl₂ =>
          cases fl₂ with
          | ret r =>
            obtain ⟨rfl, h', tk, L, es, ep, t, rfl, hS', g', hk'⟩ := hr₂
            repeat (any_goals (first | assumption | wp_step))
            exact h _ _ _ _ _ _ hS' g' hk'
          | _ => exact hr₂.elim
    | _ => exact hr.elim
end
end DL

namespace DL
open PySem PySem.Spec PyProof.Rows L2 Evl
section
variable {X : Cx} {Γ : List Sl} {m : Bool} {a b e : Expr} {pos p p1 pos1 apos : Pos}
def rSetOfTT (K : PySem.W.Frag) (P : Program) (w : World) : List V → Hp → VK → Prop := fun xs H Q => ∃ (l : Addr) (ks : List (Addr × List Int)), xs = [V.ref l] ∧ SqT K H l (ks.map fun p => V.ref p.1) ∧ (∀ p ∈ ks, SqT K H p.1 (p.2.map V.int)) ∧ ks.length < 64 ∧
  ∀ a L, H a = none → (∀ p ∈ L, p ∈ ks) → (∀ p ∈ ks, p.2 ∈ L.map (·.2)) → Q (.ref a) (upd H a (SetTO P w a L))
theorem cr_setOfTT (hc : X.calm = true) (hu : X.A.units + 64 < cLine) : CallR X (.type "set") (rSetOfTT X.K X.prog X.w) := by
  intro pins s σ H xs us Q I r h
  obtain ⟨l, ks, rfl, hl, hk, hf, q⟩ := h
  rw [Vals.ref1 r]
  obtain ⟨its, rv, pl, hz⟩ := I.tuple hl
  have hn : H s.heap.objs.size = none := I.hok.fresh (Nat.le_refl _)
  refine call_set_tupsT (P := X.prog) (w := X.w) ks (I.ok.hd hc) (show s.heap.IsTuple l its.toArray from pl) (by simpa using refs_of_vals rv) (fun p hp => I.isT (hk p hp)) hf (by omega) fun h' tk L es ep t R g k => ?_
  refine ⟨.ref s.heap.objs.size, upd H s.heap.objs.size (SetTO X.prog X.w s.heap.objs.size L), I.laid (t' := tk) k (Nat.le_refl _) (setTO_new R.t0), rfl, q _ L hn (fun p hp => ?_) fun p hp => ?_⟩
  · exact List.mem_of_mem_take (g.sub p hp)
  · exact g.all p (by rw [List.take_length]; exact hp)
/-- sorted(set(xs)), xs a tuple of pairs in [0, 64) -/
theorem xn_sortedSetPT {l : List (Int × Int)} (h : XV X e Γ (tT (pT D.int D.int) l)) (hz : l.length ≤ 60) (hl : ∀ x ∈ l, (0 ≤ x.1 ∧ x.1 < 64) ∧ 0 ≤ x.2 ∧ x.2 < 64) (hu : X.A.units + 65 < cLine) (hm : X.mg "sorted" = none) (hm1 : X.mg "set" = none) (hc : X.calm = true := by rfl) (hg : Gl X "sorted" := by rfl) (hg1 : Gl X "set" := by rfl)
    (he : starEach (e :: []) X.env = (false, eval e X.env) :: starEach [] X.env := by rfl) (hpl : (backTo pos1 (starEach [] X.env)).any (·.1) = false := by rfl) (he2 : starEach (.Call (.Name "set" p1) [e] [] pos1 :: []) X.env = (false, eval (.Call (.Name "set" p1) [e] [] pos1) X.env) :: starEach [] X.env := by rfl) (hpl2 : (backTo pos (starEach [] X.env)).any (·.1) = false := by rfl) :
    XN X false (.Call (.Name "sorted" p) [.Call (.Name "set" p1) [e] [] pos1] [] pos) Γ fun o => ∃ r : List (Int × Int), o = .ml (r.map (pT D.int D.int)) ∧ (∀ x, x ∈ r ↔ x ∈ l) ∧ r.Pairwise fun x y => x.1 < y.1 ∨ (x.1 = y.1 ∧ x.2 < y.2) := by
  have hs : PE X (.Call (.Name "set" p1) [e] [] pos1) (tCB (rSetOfTT X.K X.prog X.w) (tCons (wpE X e) tNil)) := pe_callTy (cr_setOfTT hc (by omega)) hg1 hm1 PyProof.Rows.boot_set (pa_cons pe_wp pa_nil he) (by decide) (by decide) he hpl
  refine xn_of (pe_callB (cr_sortedT hc) hg hm (by decide +kernel) (pa_cons hs pa_nil he2) (by decide) (by decide) he2 hpl2) fun σ Hb H E Q q => h σ Hb H E _ fun v d2 Hb1 H1 p1 g1 E1 r1 => ?_
  subst p1
  let tw : Int × Int → List Int := fun x => [x.1, x.2]
  have em : l.map (pT D.int D.int) = (l.map tw).map (tT D.int) := by rw [List.map_map]; rfl
  rw [show tT (pT D.int D.int) l = tT (tT D.int) (l.map tw) from congrArg D.tup em] at r1
  cases r1 with
  | @tup a vs _ ha k =>
    obtain ⟨ks, e1, e2, e3⟩ := tups_of k
    subst e1
    have hkl : ks.length = l.length := by rw [← List.length_map (as := l) tw, ← e2, List.length_map]
    have hof : ∀ p ∈ ks, ∃ x ∈ l, p.2 = tw x := fun p hp => by
      have : p.2 ∈ l.map tw := by rw [← e2]; exact List.mem_map.mpr ⟨p, hp, rfl⟩
      obtain ⟨x, hx, e⟩ := List.mem_map.mp this
      exact ⟨x, hx, e.symm⟩
    refine ⟨a, ks, rfl, xt E1.ex ha, fun p hp => xt E1.ex (e3 p hp), by omega, fun c L hcn hL1 hL2 => ?_⟩
    have n1 := New.side (o := SetTO X.prog X.w c L) E1.ex hcn
    have E2 := E1.new n1
    refine ⟨c, L, 2, 64, rfl, upd_same, fun p hp => xt E2.ex (e3 p (hL1 p hp)), by omega, fun p hp => ?_, fun L' p2 pm nd hfew pw hp2 => ?_⟩
    · obtain ⟨x, hx, e⟩ := hof p (hL1 p hp)
      rw [e]
      refine ⟨rfl, fun z hz => ?_⟩
      have := hl x hx
      rcases List.mem_cons.mp hz with rfl | hz
      · exact this.1
      · rw [List.mem_singleton.mp hz]; exact this.2
    · have n2 := New.side (o := .lst (L'.map fun q => V.ref q.1)) E2.ex hp2
      let bk : List Int → Int × Int := fun k => (k.getD 0 0, k.getD 1 0)
      have hbk : ∀ q ∈ L', tw (bk q.2) = q.2 := fun q hq => by
        obtain ⟨x, _, e⟩ := hof q (hL1 q (pm.mem_iff.mp hq))
        rw [e]
        rfl
      have hmem : ∀ x, x ∈ L'.map (fun q => bk q.2) ↔ x ∈ l := fun x => by
        rw [List.mem_map]
        constructor
        · rintro ⟨q, hq, rfl⟩
          obtain ⟨y, hy, e⟩ := hof q (hL1 q (pm.mem_iff.mp hq))
          rw [e]
          exact hy
        · intro hx
          have : tw x ∈ ks.map fun p => p.2 := by rw [e2]; exact List.mem_map.mpr ⟨x, hx, rfl⟩
          obtain ⟨q, hq, e⟩ := List.mem_map.mp this
          obtain ⟨q', hq', e'⟩ := List.mem_map.mp (hL2 q hq)
          refine ⟨q', pm.mem_iff.mpr hq', ?_⟩
          show bk q'.2 = x
          rw [e', e]
          rfl
      refine q p2 _ _ Hb1 _ ⟨L'.map (fun q => bk q.2), rfl, hmem, ?_⟩ (new_none g1 (new_none n1 hp2)) (gwn (gwn g1 n1) n2) (E2.new n2) (fresh_back E2.ex hp2) upd_same ⟨_, rfl, ?_⟩
      · rw [List.pairwise_map]
        have nd2 := List.pairwise_map.mp nd
        refine (List.Pairwise.and_mem.mp (pw.and nd2)).imp fun {x y} ⟨hx, hy, h1, h2⟩ => ?_
        have bx := hl _ ((hmem _).mp (List.mem_map.mpr ⟨x, hx, rfl⟩))
        have by_ := hl _ ((hmem _).mp (List.mem_map.mpr ⟨y, hy, rfl⟩))
        rw [← hbk x hx, ← hbk y hy] at h1 h2
        exact pair_lt h1 h2 bx.1 bx.2 by_.1 by_.2
      · have e4 : (L'.map fun q => bk q.2).map (pT D.int D.int) = (L'.map fun q => q.2).map (tT D.int) := by
          rw [List.map_map, List.map_map]
          refine List.map_congr_left fun q hq => ?_
          show tT D.int (tw (bk q.2)) = tT D.int q.2
          rw [hbk q hq]
        rw [e4]
        exact drs_tups fun q hq => e3 q (hL1 q (pm.mem_iff.mp hq))
end
end DL

namespace DL
open PySem PySem.Spec PyProof.Rows L2 Evl
/-! ### a, b, c = tuple; a, b = list -/
section
variable {K : PySem.W.Frag}
theorem three_inv {Hb : Hp} {vs : List V} {a b c : D} (h : DRs K Hb vs [a, b, c]) : ∃ x y z, vs = [x, y, z] ∧ DR K Hb x a ∧ DR K Hb y b ∧ DR K Hb z c := by
  cases h with
  | cons h1 h2 =>
    obtain ⟨y, z, rfl, h3, h4⟩ := h2.two_inv
    exact ⟨_, y, z, rfl, h1, h3, h4⟩
theorem gt_trip {i j l : Nat} {d e f : D} : XGt K (gTup K 3 (gCons (gName i) (gCons (gName j) (gCons (gName l) gNil)))) (.tup [d, e, f]) [i, j, l] [d, e, f] := fun v Hb H σ Q ex r q => by
  cases r with
  | @tup a vs _ h k =>
    obtain ⟨x, y, z, rfl, r1, r2, r3⟩ := three_inv k
    exact ⟨a, [x, y, z], rfl, xt ex h, rfl, x, [y, z], rfl, y, [z], rfl, z, [], rfl, rfl, q [x, y, z] (.cons r1 (.cons r2 (.cons r3 .nil)))⟩
theorem gt_lst2 {i j : Nat} {d e : D} : XGt K (gLst K 2 (gCons (gName i) (gCons (gName j) gNil))) (.lst [d, e]) [i, j] [d, e] := fun v Hb H σ Q ex r q => by
  cases r with
  | @lst a vs _ h k =>
    obtain ⟨x, y, rfl, r1, r2⟩ := k.two_inv
    exact ⟨a, [x, y], rfl, SqL.of (ex _ _ h), rfl, x, [y], rfl, y, [], rfl, rfl, q [x, y] (.cons r1 (.cons r2 .nil))⟩
end
/-! ### or, and, of drawn truth values -/
section
variable {X : Cx} {m : Bool} {a b : Expr} {es : List Expr} {Γ : List Sl} {pos : Pos} {Φ : D → Prop} {P : Bool → Prop}
theorem xe_orB (h : XE X m a Γ fun z => ∃ b, z = .bl b ∧ P b) (ht : P true → Φ (.bl true)) (h2 : P false → XE X m (.BoolOp .Or (b :: es) pos) Γ Φ) : XE X m (.BoolOp .Or (a :: b :: es) pos) Γ Φ :=
  xe_of (pe_or pe_wp pe_wp) fun σ Hb H E Q q => h σ Hb H E _ fun v d Hb1 H1 p1 g1 E1 r1 => by
    obtain ⟨k, rfl, pb⟩ := p1
    cases r1
    cases k with
    | true => exact ⟨true, rfl, iteT (q _ _ Hb1 H1 (ht pb) g1 E1 (.bl true))⟩
    | false => exact ⟨false, rfl, iteF (h2 pb σ Hb1 H1 E1 Q fun v2 d2 Hb2 H2 p2 g2 E2 r2 => q v2 d2 Hb2 H2 p2 (gww g1 g2) E2 r2)⟩
theorem xe_andB (h : XE X m a Γ fun z => ∃ b, z = .bl b ∧ P b) (ht : P false → Φ (.bl false)) (h2 : P true → XE X m (.BoolOp .And (b :: es) pos) Γ Φ) : XE X m (.BoolOp .And (a :: b :: es) pos) Γ Φ :=
  xe_of (pe_and pe_wp pe_wp) fun σ Hb H E Q q => h σ Hb H E _ fun v d Hb1 H1 p1 g1 E1 r1 => by
    obtain ⟨k, rfl, pb⟩ := p1
    cases r1
    cases k with
    | false => exact ⟨false, rfl, iteF (q _ _ Hb1 H1 (ht pb) g1 E1 (.bl false))⟩
    | true => exact ⟨true, rfl, iteT (h2 pb σ Hb1 H1 E1 Q fun v2 d2 Hb2 H2 p2 g2 E2 r2 => q v2 d2 Hb2 H2 p2 (gww g1 g2) E2 r2)⟩
theorem xe_isNone {Φa : D → Prop} (h : XE X m a Γ Φa) (hb : XV X b Γ .non) (hm : behindInMarks .Is b = false := by first | exact nobehind _ (by decide) (by decide) | rfl) : XE X m (.Compare a [.Is] [b] pos) Γ fun z => ∃ k, z = .bl k ∧ ∃ d, Φa d ∧ k = d.isN :=
  xe_cmp op_isN hm h (fun _ _ => hb.up) fun d e hd q => by
    subst q
    intro x y Hb H ex r1 r2 Q w
    exact v_isN x y Hb H ex r1 r2 Q fun z d' Hb' H' f => w z d' Hb' H' ⟨_, f, d, hd, rfl⟩
end
end DL

namespace WF
open PySem PySem.Spec PyProof.Rows L2 Evl DL
section
variable {m m2 : Mo} {x y : Int}
theorem okA_4 {n : Nat} {r : List (Int × Int)} (hn : n ≤ 4) (h : okA n r) : r.length ≤ 16 := by
  have hp : (r.map fun p => p.1 * 4 + p.2).Pairwise (· < ·) := by
    rw [List.pairwise_map]
    refine (List.Pairwise.and_mem.mp h.2.1).imp fun {p q} ⟨hp, hq, z⟩ => ?_
    have h1 := h.1 p hp
    have h2 := h.1 q hq
    rcases z with z | z <;> omega
  have := asc_len (lo := 0) (hi := 16) hp fun z hz => by
    obtain ⟨p, hp, rfl⟩ := List.mem_map.mp hz
    have h1 := h.1 p hp
    omega
  rw [List.length_map] at this
  omega
theorem okS_4 {n : Nat} {s : List Int} (h : okS n s) : s.length ≤ n := by
  have := asc_len h.2.1 h.1
  omega
/-- a row with one pair more -/
theorem okA_more {n : Nat} {r r' : List (Int × Int)} {p : Int × Int} (hn : n ≤ 4) (h : okA n r) (hp : (0 ≤ p.1 ∧ p.1 < (n : Int)) ∧ 0 ≤ p.2 ∧ p.2 < (n : Int)) (hm : ∀ x, x ∈ r' ↔ x ∈ r ++ [p]) (hs : r'.Pairwise lessP) : okA n r' := by
  have hin : ∀ q ∈ r', (0 ≤ q.1 ∧ q.1 < (n : Int)) ∧ 0 ≤ q.2 ∧ q.2 < (n : Int) := fun q hq => by
    rcases List.mem_append.mp ((hm q).mp hq) with hq | hq
    · exact h.1 q hq
    · rw [List.mem_singleton.mp hq]; exact hp
  have hp : (r'.map fun p => p.1 * 4 + p.2).Pairwise (· < ·) := by
    rw [List.pairwise_map]
    refine (List.Pairwise.and_mem.mp hs).imp fun {p q} ⟨hp, hq, z⟩ => ?_
    have h1 := hin p hp
    have h2 := hin q hq
    rcases z with z | z <;> omega
  have := asc_len (lo := 0) (hi := 16) hp fun z hz => by
    obtain ⟨p, hp, rfl⟩ := List.mem_map.mp hz
    have h1 := hin p hp
    omega
  rw [List.length_map] at this
  exact ⟨hin, hs, by omega⟩
theorem okS_more {n : Nat} {s : List Int} {k : Int} (hn : n ≤ 20) (h : okS n s) (hk : 0 ≤ k ∧ k < (n : Int)) : okS n (setI (s ++ [k])) := by
  have hin : ∀ q ∈ setI (s ++ [k]), 0 ≤ q ∧ q < (n : Int) := fun q hq => by
    rcases List.mem_append.mp (mem_setI.mp hq) with hq | hq
    · exact h.1 q hq
    · rw [List.mem_singleton.mp hq]; exact hk
  have := asc_len (setI_asc _) hin
  exact ⟨hin, setI_asc _, by omega⟩
/-- the second has all of the first, and more -/
theorem ok_more {more : Int} {rs : List (List (Int × Int))} (h : m.ok) (hm : m.fr.many ≤ 4) (hk : 0 ≤ more ∧ more < (m.fr.many : Int)) (hl : rs.length = m.fr.arrows.length)
    (hr : ∀ (i : Nat) r r', m.fr.arrows[i]? = some r → rs[i]? = some r' → (∀ x, x ∈ r' ↔ x ∈ r ++ [(more, 0)]) ∧ r'.Pairwise lessP) : (Mo.mk ⟨m.fr.many, rs⟩ (m.marks.map fun s => setI (s ++ [more]))).ok := by
  refine ⟨⟨h.fr.n1, h.fr.n2, by show rs.length ≤ 20; rw [hl]; exact h.fr.len, fun r' hr' => ?_⟩, by show (m.marks.map _).length ≤ 20; rw [List.length_map]; exact h.len, fun s hs => ?_⟩
  · obtain ⟨i, hi, e⟩ := List.mem_iff_getElem.mp hr'
    have hi2 : i < m.fr.arrows.length := by rw [← hl]; exact hi
    obtain ⟨h1, h2⟩ := hr i m.fr.arrows[i] r' (List.getElem?_eq_getElem hi2) (by rw [List.getElem?_eq_getElem hi, e])
    have := h.fr.n1
    exact okA_more hm (h.fr.arr _ (List.getElem_mem hi2)) (p := (more, 0)) ⟨hk, by show (0 : Int) ≤ 0; omega, by show (0 : Int) < (m.fr.many : Int); omega⟩ h1 h2
  · obtain ⟨s0, hs0, rfl⟩ := List.mem_map.mp hs
    exact okS_more (Nat.le_trans hm (by decide)) (h.mks s0 hs0) hk
theorem follows_so {s : My} (hm : m.ok) (hx : 0 ≤ x ∧ x < (m.fr.many : Int)) (hy : 0 ≤ y ∧ y < (m2.fr.many : Int)) (hf : fwd s) (hn : s.nn) : (decide ((x, y) ∈ simP m m2) && (decide (x ∈ soL m s) && !decide (y ∈ soL m2 s))) = false := by
  by_cases hp : (x, y) ∈ simP m m2
  · rw [in_soL hx, in_soL hy]
    cases e : soB m s x with
    | false => simp
    | true => rw [sim_keep hm s hf hn hp e]; simp
  · rw [decide_eq_false hp]; rfl
theorem told_ok {s : My} {d : Int} (hx : 0 ≤ x ∧ x < (m.fr.many : Int)) (hy : 0 ≤ y ∧ y < (m2.fr.many : Int)) (h : Good m m2 x y d (some s)) : ((!decide (x ∈ soL m s)) || decide (y ∈ soL m2 s)) = false := by
  rw [in_soL hx, in_soL hy, h.2.2.2.1, h.2.2.2.2.1]
  rfl
theorem last_marks {s : My} (hx : 0 ≤ x ∧ x < (m.fr.many : Int)) (hy : 0 ≤ y ∧ y < (m2.fr.many : Int)) (h : Good m m2 x y 0 (some s)) : (0 : Int) < (m.marks.length : Int) := by
  obtain ⟨⟨d, hd, h0⟩, _⟩ := h
  have e : d = 0 := by omega
  subst e
  have hne := no_pair0 hx hy h0
  rw [List.map_id'] at hne
  obtain ⟨k, hk⟩ := List.exists_mem_of_ne_nil _ hne
  have := mem_rng.mp (List.mem_filter.mp hk).1
  omega
theorem eM_isN {s : My} : (eM s).isN = false := by cases s <;> rfl
end
end WF

namespace DL
open PySem PySem.Spec PyProof.Rows L2 Evl
/-! ### x, y = a, b -/
section
variable {K : PySem.W.Frag} {kp : Nat} {Γ : List Sl} {G : Dn} {m : Bool}
theorem js_par {i j : Nat} {ta : TA} {Φ : List D → Prop} (h : JA K m ta Γ Φ) (hl : ∀ ds, Φ ds → ds.length = 2) (hk : ∀ x ∈ [i, j], kp ≤ x) (k : ∀ ds, Φ ds → G.nx (setG Γ [i, j] ds)) : JS K kp (tPar i j ta) Γ G := fun σ Hb H E F a b c d => h σ Hb H E _ fun vs ds Hb1 H1 p g1 E1 r => by
  have hlen := hl ds p
  obtain ⟨d1, d2, rfl⟩ : ∃ d1 d2, ds = [d1, d2] := by
    match ds, hlen with
    | [d1, d2], _ => exact ⟨d1, d2, rfl⟩
  obtain ⟨v, w, rfl, r1, r2⟩ := r.two_inv
  have rv : DRs K Hb1 [v, w] [d1, d2] := .cons r1 (.cons r2 .nil)
  exact ⟨v, w, rfl, a (setG Γ [i, j] [d1, d2]) (setL σ [i, j] [v, w]) Hb1 H1 (k _ p) ((GS.of g1 E1).trans ⟨Gr.refl E1.ex, E1.setL rv, fun q y => .inl (Own.setL rv.len y), fun x hx => setL_ne fun y => by have := hk x y; omega⟩)⟩
end
section
variable {X : Cx} {kp : Nat} {Γ : List Sl} {G : Dn} {m : Bool} {x y : Str} {a b : Expr} {px py pt pos pt2 : Pos} {kt k2 : Nat} {A B : D → Prop}
theorem xs_par (i j : Nat) (ha : XE X m a Γ A) (hb : XE X m b Γ B) (k : ∀ d e, A d → B e → G.nx (setG Γ [i, j] [d, e])) (hN : X.N.Nodup) (hw : swappedStores [.Tuple [.Name x px, .Name y py] kt pt] (.Tuple [a, b] k2 pt2) X.env = pure (some [x, y])) (hk : ∀ x ∈ [i, j], kp ≤ x := by decide) (hij : i ≠ j := by decide) (hi : X.N[i]? = some x := by rfl) (hj : X.N[j]? = some y := by rfl)
    (hx : X.env.scope.names.lookup x = some .local := by rfl) (hy : X.env.scope.names.lookup y = some .local := by rfl) (hc : X.calm = true := by rfl) (hs : swapsWithSole [.Tuple [.Name x px, .Name y py] kt pt] (.Tuple [a, b] k2 pt2) pos.line X.env = pure false := by rfl)
    (hs1 : starEach [a, b] X.env = (false, eval a X.env) :: starEach [b] X.env := by rfl) (hs2 : starEach [b] X.env = (false, eval b X.env) :: starEach [] X.env := by rfl) : XS X kp (.Assign [.Tuple [.Name x px, .Name y py] kt pt] (.Tuple [a, b] k2 pt2) pos) Γ G :=
  xs_of (ps_par hc hN hi hj hij hx hy pa_wp hw hs) (js_par (Φ := fun ds => ∃ d e, ds = [d, e] ∧ A d ∧ B e) (xa_cons (Φb := fun _ ds => ∃ e, ds = [e] ∧ B e) ha (fun d _ => xa_one hb (fun e he => ⟨e, rfl, he⟩) hs2) (fun d ds hd ⟨e, h1, h2⟩ => ⟨d, e, by rw [h1], hd, h2⟩) hs1) (fun ds ⟨d, e, h, _⟩ => by rw [h]; rfl) hk fun ds ⟨d, e, h, h1, h2⟩ => by rw [h]; exact k d e h1 h2)
end
end DL
namespace DL
open PySem PySem.Spec PyProof.Rows L2 Evl
/-! ### l[n], l an owned list -/
section
variable {X : Cx} {Γ : List Sl} {x : Str} {b : Expr} {pos pos' : Pos}
theorem xv_ixO (i : Nat) {ds : List D} {n : Int} {f : D} (hb : XV X b Γ (.int n)) (h : atI ds n = some f) (hi : Γ[i]? = some (.ow (.ml ds)) := by rfl) (hN : X.N[i]? = some x := by rfl) (hv : Vis X.env.scope x := by first | exact Or.inl rfl | exact Or.inr (Or.inl rfl) | exact Or.inr (Or.inr rfl)) (hd : (x == ("__debug__" : Str)) = false := by decide)
    (hcd : (x == ("__classdict__" : Str)) = false := by decide) (hs : PlainIx b := by exact fun _ _ => rfl) : XV X (.Subscript (.Name x pos') b pos) Γ f :=
  xe_of (pe_ix ix_list (pe_var hN hv hd hcd) pe_wp hs) fun σ Hb H E Q q => by
    obtain ⟨p, u, k1, _, _, _⟩ := E.own i _ hi
    refine ⟨.ref p, k1, hb σ Hb H E _ fun v2 d2 Hb2 H2 p2 g2 E2 r2 => ?_⟩
    subst p2
    cases r2
    obtain ⟨p', u', k1', k2, k3, vs, rfl, r⟩ := E2.own i _ hi
    rw [k1] at k1'
    cases k1'
    obtain ⟨w, e1, e2⟩ := r.atI h
    exact ⟨p, vs, n, w, rfl, rfl, SqL.of k3, e1, q w f Hb2 H2 rfl g2 E2 e2⟩
end
end DL


namespace K36
open PySem PySem.Spec PyProof.Rows L2 Evl DL WF
section
variable {P : Program} {w : World} {K : PySem.W.Frag} {mg : Str → Option Value} {base : Heap}
abbrev s_law : Stmt := topS 32
abbrev n_law : List Str := ["script", "state", "lots", "turn", "many", "arrows", "marks", "more", "row", "one", "other", "first", "second", "told", "pairs", "x", "y", "saying"]
theorem sc_law : FnScope n_law ["script"] (defScope s_law) := ⟨rfl, rfl, rfl, by decide +kernel, rfl, by decide +kernel, by decide +kernel⟩
abbrev GL (Φ : D → Prop) : Dn := { nx := fun _ => Φ .non, rt := fun d _ => Φ d }
section
variable {CF CM : Addr} {f : Addr} {cdv : Value} {A : Around} {outer : List Env} {s0 : Shared} {H : Hp} {E : XK} (hr : Room 200 (A.deeper (envOfC "law" (defScope s_law) s0.heap.objs.size f cdv)))
variable (kF : FrK K mg CF) (kM : MoK K mg CM) (c_Frame_init : Clk P w K mg base 4 CF ["self", "many", "arrows"] (spI K CF (cFrI CF))) (c_Model_init : Clk P w K mg base 4 CM ["self", "frame", "marks"] (spI K CM (cMoI CF CM))) (c_law_draw : Cal P w K mg base 1 "_law_draw" ["state", "script", "size"] (spE K dwO cDraw)) (c_law_frame : Cal P w K mg base 2 "_law_frame" ["state", "script", "most", "relations"] (spE K dwO cLFrame)) (c_law_marks : Cal P w K mg base 2 "_law_marks" ["state", "script", "many", "letters"] (spE K dwO cLMarks)) (c_law_followed : Cal P w K mg base 2 "_law_followed" ["one", "other"] (spP K cLFol)) (c_similar_pairs : Cal P w K mg base 3 "similar_pairs" ["first", "second"] (spP K (cSim CF CM))) (c_law_forward : Cal P w K mg base 5 "_law_forward" ["state", "script", "depth"] (spE K dwO (cForw 4))) (c_law_so : Cal P w K mg base 195 "_law_so" ["many", "arrows", "marks", "saying"] (spP K (cLSo 193))) (c_forward_saying : Cal P w K mg base 20 "forward_saying" ["first", "one", "second", "other", "depth"] (spP K (cFwd CF CM 17))) (c_law_is_forward : Cal P w K mg base 193 "_law_is_forward" ["saying"] (spP K (cIsF 193))) (m_len : mg "len" = none) (m_range : mg "range" = none) (m_tuple : mg "tuple" = none) (m_sorted : mg "sorted" = none) (m_set : mg "set" = none)
include hr kF kM c_Frame_init c_Model_init c_law_draw c_law_frame c_law_marks c_law_followed c_similar_pairs c_law_forward c_law_so c_forward_saying c_law_is_forward m_len m_range m_tuple m_sorted m_set
theorem law_b (ns : List Int) (Φ : D → Prop) (hΦ : Φ (.bl true)) (m m2 : Mo) (ho1 : m.ok) (ho2 : m2.ok) (h1 : m.fr.many ≤ 4) (h2 : m2.fr.many ≤ 4) : XSs (cxF P w K mg base n_law "law" s_law f cdv A outer s0 H E) 0 ((defBody s_law).drop 4) [.pd (.sc ns), .ow dwO, .pd (lT eLot [m, m2]), .un, .un, .un, .un, .un, .un, .un, .un, .un, .un, .un, .un, .un, .un, .un] (GL Φ) := by
  have hu64 := hu_64 hr
  have hu65 := hu_65 hr
  have n1 := ho1.fr.n1
  have n2 := ho2.fr.n1
  have hoq : ∀ q ∈ [m, m2], q.ok := fun q hq => by
    rcases List.mem_cons.mp hq with rfl | hq
    · exact ho1
    · rw [List.mem_singleton.mp hq]; exact ho2
  have hN : ((m.fr.many * m2.fr.many : Nat) : Int) = ((m.fr.many : Int) * (m2.fr.many : Int)) := by push_cast; rfl
  have hmul := Nat.mul_le_mul h1 h2
  have hD : 0 ≤ ((m.fr.many : Int) * (m2.fr.many : Int)) ∧ ((m.fr.many : Int) * (m2.fr.many : Int)) ≤ 16 := by rw [← hN]; omega
  refine xs_cons (xs_asgG (js := [9, 10]) (fun d => match d with | .lst l => l | _ => []) (xv_var 2) (pg_lst rfl (pgs_cons (pg_name (i := 9) sc_law.nd rfl (by first | exact Or.inl rfl | exact Or.inr rfl)) (pgs_cons (pg_name (i := 10) sc_law.nd rfl (by first | exact Or.inl rfl | exact Or.inr rfl)) pgs_nil))) (fun d hd => by rw [hd]; exact gt_lst2) (fun d hd => ?_))
  subst hd
  refine xs_cons (xs_asgG (js := [11, 12]) (fun d => match d with | .lst l => l | _ => []) (xo_map (f := eLot) (xs := [m, m2]) [13] (fun q => [eLot q]) (eMo CF CM) (fun q => q) [("told", 13)] (xw_listT (f := eLot) (xv_var 2)) (fun _ _ _ _ _ => pg_name (i := 13) sc_law.nd rfl (by first | exact Or.inl rfl | exact Or.inr rfl)) (fun _ _ => gt_name) (fun q hq _ _ _ _ _ => (xv_make c_Model_init kM.dc.gl (hr.mono (by decide)) (xl_cons (xv_make c_Frame_init kF.dc.gl (hr.mono (by decide)) (xl_cons (xv_ix ix_tup (v_ixT (f := D.int (q.fr.many : Int)) rfl) (xv_var 13) xv_int) (xl_cons (xv_ix ix_tup (v_ixT (f := tT (tT tP) q.fr.arrows) rfl) (xv_var 13) xv_int) xa_nil)) ⟨q.fr, rfl, (hoq q hq).fr, rfl⟩) (xl_cons (xv_ix ix_tup (v_ixT (f := tT (tT D.int) q.marks) rfl) (xv_var 13) xv_int) xa_nil)) ⟨q, rfl, hoq q hq, rfl⟩)) (by simp) (blkOk_by (N := n_law) (sc := defScope s_law) (by decide +kernel)) sc_law.nd).frz (pg_lst rfl (pgs_cons (pg_name (i := 11) sc_law.nd rfl (by first | exact Or.inl rfl | exact Or.inr rfl)) (pgs_cons (pg_name (i := 12) sc_law.nd rfl (by first | exact Or.inl rfl | exact Or.inr rfl)) pgs_nil))) (fun d hd => by rw [hd]; exact gt_lst2) (fun d hd => ?_))
  subst hd
  refine xs_cons (xs_asgV 14 (xv_call c_law_followed (hr.mono (by decide)) (xl_cons (xv_var 9) (xl_cons (xv_var 10) xa_nil)) ⟨m, m2, rfl, ⟨ho1, ho2, by omega, by omega⟩, rfl⟩) ?_ sc_law.nd)
  refine xs_no (XB.is (xb_cmp (op_neD hu64) (v_ne (f := lT tP) (x := simP m m2) (y := simP m m2)) (xv_call c_similar_pairs (hr.mono (by decide)) (xl_cons (xv_var 11) (xl_cons (xv_var 12) xa_nil)) ⟨m, m2, rfl, ⟨ho1, ho2⟩, rfl⟩) (xv_var 14)) (by simp)) ?_
  refine xs_loop (f := D.int) (xs := rng 0 3) (js := [3]) (fun turn => [D.int turn]) (fun _ : Unit => [.pd (.sc ns), .ow dwO, .pd (lT eLot [m, m2]), .un, .un, .un, .un, .un, .un, .pd (eLot m), .pd (eLot m2), .pd (eMo CF CM m), .pd (eMo CF CM m2), .un, .pd (lT tP (simP m m2)), .un, .un, .un]) (fun _ => ()) (xw_range1 (xl_cons xv_int xa_nil) (by omega) m_range (by omega)) (pg_name (i := 3) sc_law.nd rfl (by first | exact Or.inl rfl | exact Or.inr rfl)) (fun _ _ => gt_name) (by repeat (first | exact le_nil | refine le_eq ?_ | refine le_un ?_)) (fun pre turn post hx => ?_) ?_ PassesOwn.never
  · refine xs_cons (xs_par 15 16 (A := fun d => ∃ v, d = .int v ∧ 0 ≤ v ∧ v < (m.fr.many : Int)) (B := fun d => ∃ v, d = .int v ∧ 0 ≤ v ∧ v < (m2.fr.many : Int)) (xe_draw (L := (m.fr.many : Int)) 1 c_law_draw (hr.mono (by decide)) (xv_var 0) (xv_ix ix_tup (v_ixT (f := D.int (m.fr.many : Int)) rfl) (xv_var 9) xv_int) ⟨by omega, by omega⟩) (xe_draw (L := (m2.fr.many : Int)) 1 c_law_draw (hr.mono (by decide)) (xv_var 0) (xv_ix ix_tup (v_ixT (f := D.int (m2.fr.many : Int)) rfl) (xv_var 10) xv_int) ⟨by omega, by omega⟩) (fun d e ⟨x, hx, x0, x1⟩ ⟨y, hy, y0, y1⟩ => ?_) sc_law.nd rfl)
    subst hx hy
    refine xs_cons (xs_asg 17 (xe_callE 1 (Φ := fun d => ∃ s : My, d = eM s ∧ fwd s ∧ s.nn ∧ (s.dep : Int) ≤ 3) c_law_forward (hr.mono (by decide)) (xl_cons (xv_var 0) (xl_cons xv_int xa_nil)).up (fun ds h => ⟨ns, 3, h, ⟨by omega, by omega⟩, fun s g1 g2 g3 => ⟨s, rfl, g1, g2, g3⟩⟩)) (fun d ⟨s, hd, hf, hn, hdep⟩ => ?_) sc_law.nd)
    subst hd
    refine xs_no (XB.is (xt_w (xb_and (xb_cmp (op_inD hu65) (v_inL (f := tP) (x := (x, y))) (xv_tup (hl := by simp) (xl_cons (xv_var 15) (xl_cons (xv_var 16) xa_nil))) (xv_var 14)) (fun _ => xb_and (xb_cmp op_in_seq v_inLI (xv_var 15) (xv_call c_law_so (hr.mono (by decide)) (xl_cons (xv_ix ix_tup (v_ixT (f := D.int (m.fr.many : Int)) rfl) (xv_var 9) xv_int) (xl_cons (xv_ix ix_tup (v_ixT (f := tT (tT tP) m.fr.arrows) rfl) (xv_var 9) xv_int) (xl_cons (xv_ix ix_tup (v_ixT (f := tT (tT D.int) m.marks) rfl) (xv_var 9) xv_int) (xl_cons (xv_var 17) xa_nil)))) ⟨m, s, rfl, ⟨ho1, hn, by omega⟩, rfl⟩)) (fun _ => xw_and1 (xb_cmp op_notIn_seq v_niLI (xv_var 16) (xv_call c_law_so (hr.mono (by decide)) (xl_cons (xv_ix ix_tup (v_ixT (f := D.int (m2.fr.many : Int)) rfl) (xv_var 10) xv_int) (xl_cons (xv_ix ix_tup (v_ixT (f := tT (tT tP) m2.fr.arrows) rfl) (xv_var 10) xv_int) (xl_cons (xv_ix ix_tup (v_ixT (f := tT (tT D.int) m2.marks) rfl) (xv_var 10) xv_int) (xl_cons (xv_var 17) xa_nil)))) ⟨m2, s, rfl, ⟨ho2, hn, by omega⟩, rfl⟩)))))) (follows_so ho1 ⟨x0, x1⟩ ⟨y0, y1⟩ hf hn)) ?_
    refine xs_cons (xs_asg 13 (xe_call (Φ := fun d => ∃ o, d = oT eM o ∧ Good m m2 x y ((m.fr.many : Int) * (m2.fr.many : Int)) o) c_forward_saying (hr.mono (by decide)) (xl_cons (xv_var 11) (xl_cons (xv_var 15) (xl_cons (xv_var 12) (xl_cons (xv_var 16) (xl_cons (xv_bin op_mul (v_mul (.inr (by omega))) (xv_ix ix_tup (v_ixT (f := D.int (m.fr.many : Int)) rfl) (xv_var 9) xv_int) (xv_ix ix_tup (v_ixT (f := D.int (m2.fr.many : Int)) rfl) (xv_var 10) xv_int)) xa_nil))))) (fun ds h => ⟨m, m2, x, y, ((m.fr.many : Int) * (m2.fr.many : Int)), h, ⟨ho1, ho2, by omega, by omega, ⟨by omega, by omega⟩, ⟨by omega, by omega⟩, ⟨by omega, by omega⟩, by omega⟩, fun o ho => ⟨o, rfl, ho⟩⟩)) (fun d ⟨o, hd, hg⟩ => ?_) sc_law.nd)
    subst hd
    refine xs_no (XB.is (xb_cmp op_ne v_neB (xv_cmp op_isN v_isN (xv_var 13) xv_non) (xv_cmp (op_inD hu65) (v_inL (f := tP) (x := (x, y))) (xv_tup (hl := by simp) (xl_cons (xv_var 15) (xl_cons (xv_var 16) xa_nil))) (xv_var 14))) (by
      have e : (oT eM o).isN = o.isNone := by cases o with
        | none => rfl
        | some t => exact eM_isN
      rw [e]
      exact good_none (by rw [hN]; omega) hg)) ?_
    cases o with
    | none =>
      refine xs_no (xt_w (xb_and (k := false) (XB.is (xb_cmp op_notN v_notN (xv_var 13) xv_non) rfl) (l := false) (fun h => nomatch h))) ?_
      exact xs_nil (by repeat (first | exact le_nil | refine le_eq ?_ | refine le_un ?_))
    | some t =>
      have hg2 := hg.2
      have htd : t.dep < 193 := by have := hg2.2.2.2.2; omega
      refine xs_no (XB.is (xt_w (xb_and (XB.is (xb_cmp op_notN v_notN (xv_var 13) xv_non) (show _ = true by rw [show (oT eM (some t)).isN = false from eM_isN]; rfl)) (fun _ => xw_and1 (xt_w (xb_or (xb_not (xb_val (xv_call c_law_is_forward (hr.mono (by decide)) (xl_cons (xv_var 13 : XV _ _ _ (eM t)) xa_nil) ⟨t, rfl, ⟨hg2.1, htd⟩, rfl⟩))) (fun _ => xb_or (xb_cmp op_notIn_seq v_niLI (xv_var 15) (xv_call c_law_so (hr.mono (by decide)) (xl_cons (xv_ix ix_tup (v_ixT (f := D.int (m.fr.many : Int)) rfl) (xv_var 9) xv_int) (xl_cons (xv_ix ix_tup (v_ixT (f := tT (tT tP) m.fr.arrows) rfl) (xv_var 9) xv_int) (xl_cons (xv_ix ix_tup (v_ixT (f := tT (tT D.int) m.marks) rfl) (xv_var 9) xv_int) (xl_cons (xv_var 13 : XV _ _ _ (eM t)) xa_nil)))) ⟨m, t, rfl, ⟨ho1, hg2.2.1, htd⟩, rfl⟩)) (fun _ => xw_or1 (xb_cmp op_in_seq v_inLI (xv_var 16) (xv_call c_law_so (hr.mono (by decide)) (xl_cons (xv_ix ix_tup (v_ixT (f := D.int (m2.fr.many : Int)) rfl) (xv_var 10) xv_int) (xl_cons (xv_ix ix_tup (v_ixT (f := tT (tT tP) m2.fr.arrows) rfl) (xv_var 10) xv_int) (xl_cons (xv_ix ix_tup (v_ixT (f := tT (tT D.int) m2.marks) rfl) (xv_var 10) xv_int) (xl_cons (xv_var 13 : XV _ _ _ (eM t)) xa_nil)))) ⟨m2, t, rfl, ⟨ho2, hg2.2.1, htd⟩, rfl⟩))))))))) (by rw [told_ok ⟨x0, x1⟩ ⟨y0, y1⟩ hg]; rfl)) ?_
      exact xs_nil (by repeat (first | exact le_nil | refine le_eq ?_ | refine le_un ?_))
  · refine xs_cons (xs_ret (xe_orB (Φ := fun d => d = .bl true) (P := fun k => k = true ∨ 0 < (m.marks.length : Int)) ((xe_isNone (xe_call (Φ := fun d => ∃ o, d = oT eM o ∧ Good m m2 0 0 0 o) c_forward_saying (hr.mono (by decide)) (xl_cons (xv_var 11) (xl_cons xv_int (xl_cons (xv_var 12) (xl_cons xv_int (xl_cons xv_int xa_nil))))) (fun ds h => ⟨m, m2, 0, 0, 0, h, ⟨ho1, ho2, by omega, by omega, ⟨by omega, by omega⟩, ⟨by omega, by omega⟩, ⟨by omega, by omega⟩, by omega⟩, fun o ho => ⟨o, rfl, ho⟩⟩)) xv_non).imp fun z ⟨k, e, d, ⟨o, hd, hg⟩, hk⟩ => ⟨k, e, ?_⟩) (fun _ => rfl) (fun hp => XV.is (xv_one (xv_cmp op_gt v_gt (xv_lenTT (f := tT D.int) (xv_ix ix_tup (v_ixT (f := tT (tT D.int) m.marks) rfl) (xv_var 9) xv_int) m_len) xv_int)) ?_)) fun d hd => by rw [hd]; exact hΦ)
    · subst hd
      cases o with
      | none => exact .inl hk
      | some s => exact .inr (last_marks ⟨by omega, by omega⟩ ⟨by omega, by omega⟩ hg)
    · rcases hp with hp | hp
      · cases hp
      · rw [decide_eq_true hp]

end
end
end K36

namespace K36
open PySem PySem.Spec PyProof.Rows L2 Evl DL WF
section
variable {P : Program} {w : World} {K : PySem.W.Frag} {mg : Str → Option Value} {base : Heap}
theorem ok_law {CF CM : Addr} {f : Addr} {fd : FuncData} (F : Fun K "law" "law" s_law f fd) (kF : FrK K mg CF) (kM : MoK K mg CM) (c_Frame_init : Clk P w K mg base 4 CF ["self", "many", "arrows"] (spI K CF (cFrI CF))) (c_Model_init : Clk P w K mg base 4 CM ["self", "frame", "marks"] (spI K CM (cMoI CF CM))) (c_law_draw : Cal P w K mg base 1 "_law_draw" ["state", "script", "size"] (spE K dwO cDraw)) (c_law_frame : Cal P w K mg base 2 "_law_frame" ["state", "script", "most", "relations"] (spE K dwO cLFrame)) (c_law_marks : Cal P w K mg base 2 "_law_marks" ["state", "script", "many", "letters"] (spE K dwO cLMarks)) (c_law_followed : Cal P w K mg base 2 "_law_followed" ["one", "other"] (spP K cLFol)) (c_similar_pairs : Cal P w K mg base 3 "similar_pairs" ["first", "second"] (spP K (cSim CF CM))) (c_law_forward : Cal P w K mg base 5 "_law_forward" ["state", "script", "depth"] (spE K dwO (cForw 4))) (c_law_so : Cal P w K mg base 195 "_law_so" ["many", "arrows", "marks", "saying"] (spP K (cLSo 193))) (c_forward_saying : Cal P w K mg base 20 "forward_saying" ["first", "one", "second", "other", "depth"] (spP K (cFwd CF CM 17))) (c_law_is_forward : Cal P w K mg base 193 "_law_is_forward" ["saying"] (spP K (cIsF 193))) (m_len : mg "len" = none) (m_range : mg "range" = none) (m_tuple : mg "tuple" = none) (m_sorted : mg "sorted" = none) (m_set : mg "set" = none) : FnOk P w K mg base CX0 (200 + 1) f fd ["script"] (spP K (cLaw 63)) := by
  refine fn_pure F sc_law (fun ds Φ ⟨_, h, _⟩ => by rw [h]; rfl) fun cdv A outer s0 H E hr ds Φ ⟨ns, hd, hns, hΦ⟩ => ?_
  subst hd
  have hu64 := hu_64 hr
  have hu65 := hu_65 hr
  refine xs_cons (xs_asgO 1 (xo_lst (xl_cons xv_int (xl_cons xv_int xa_nil))) ?_ sc_law.nd)
  refine xs_fold 1 (o' := dwO) (fun Hb u r => dw_in ⟨0, 0, ⟨by omega, by omega⟩, rfl⟩ r) ?_
  refine xs_cons (xs_asgO 2 (xo_lst xa_nil) ?_ sc_law.nd)
  refine xs_loopI (f := D.int) (xs := rng 0 2) (js := [3]) (fun i => [D.int i]) (fun s : List Mo => [.pd (.sc ns), .ow dwO, .ow (.ml (s.map eLot)), .un, .un, .un, .un, .un, .un, .un, .un, .un, .un, .un, .un, .un, .un, .un]) (fun i s => s.length = i ∧ ∀ m ∈ s, m.ok ∧ m.fr.many ≤ 4) [] (xw_range1 (xl_cons xv_int xa_nil) (by omega) m_range (by omega)) (pg_name (i := 3) sc_law.nd rfl (by first | exact Or.inl rfl | exact Or.inr rfl)) (fun _ _ => gt_name) (by repeat (first | exact le_nil | refine le_eq ?_ | refine le_un ?_)) ⟨rfl, fun r h => nomatch h⟩ (fun i x s hi ⟨hl, hok⟩ => ?_) (fun s ⟨hl, hok⟩ => ?_) PassesOwn.never
  · have hlt : i < 2 := by have := (List.getElem?_eq_some_iff.mp hi).1; rw [rng_len] at this; omega
    refine xs_cons (xs_asgG (js := [4, 5]) (Φ := fun d => ∃ f : Fr, d = .tup [.int f.many, tT (tT tP) f.arrows] ∧ f.ok ∧ f.many ≤ 4) (fun d => match d with | .tup l => l | _ => []) (xe_callE 1 (Φa := fun ds => ∃ r : Int, ds = [.sc ns, .int 4, .int r] ∧ 0 ≤ r ∧ r ≤ 20) c_law_frame (hr.mono (by decide)) (xa_then (Φ := fun ds => ∃ r : Int, ds = [.int 4, .int r] ∧ 0 ≤ r ∧ r ≤ 20) (xv_var 0) (xa_then (Φ := fun ds => ∃ r : Int, ds = [.int r] ∧ 0 ≤ r ∧ r ≤ 20) xv_int (xa_one (xe_addD xv_int (xe_draw (L := 2) 1 c_law_draw (hr.mono (by decide)) (xv_var 0) xv_int ⟨by omega, by omega⟩)) (fun d ⟨v, h, h0, h1⟩ => ⟨1 + v, by rw [h], by omega, by omega⟩)) (fun ds ⟨r, h, h0⟩ => ⟨r, by rw [h], h0⟩)) (fun ds ⟨r, h, h0⟩ => ⟨r, by rw [h], h0⟩)) (fun ds ⟨r, h, h0⟩ => ⟨ns, 4, r, h, ⟨⟨by omega, by omega⟩, h0⟩, fun f g1 g2 g3 => ⟨f, rfl, g1, by omega⟩⟩)) (pg_tup rfl (pgs_cons (pg_name (i := 4) sc_law.nd rfl (by first | exact Or.inl rfl | exact Or.inr rfl)) (pgs_cons (pg_name (i := 5) sc_law.nd rfl (by first | exact Or.inl rfl | exact Or.inr rfl)) pgs_nil))) (fun d ⟨f, hd, _⟩ => by rw [hd]; exact gt_pair) (fun d ⟨f, hd, hf, hf4⟩ => ?_))
    subst hd
    refine xs_cons (xs_app 2 (ds := s.map eLot) (Φ := fun d => ∃ m : Mo, d = eLot m ∧ m.ok ∧ m.fr.many ≤ 4) (xe_tup (Φ := fun ds => ∃ ms : List (List Int), ds = [.int f.many, tT (tT tP) f.arrows, tT (tT D.int) ms] ∧ ms.length ≤ 20 ∧ ∀ s ∈ ms, okS f.many s) (xa_then (Φ := fun ds => ∃ ms : List (List Int), ds = [tT (tT tP) f.arrows, tT (tT D.int) ms] ∧ ms.length ≤ 20 ∧ ∀ s ∈ ms, okS f.many s) (xv_var 4) (xa_then (Φ := fun ds => ∃ ms : List (List Int), ds = [tT (tT D.int) ms] ∧ ms.length ≤ 20 ∧ ∀ s ∈ ms, okS f.many s) (xv_var 5) (xa_one (xe_callE 1 (Φ := fun d => ∃ ms : List (List Int), d = tT (tT D.int) ms ∧ ms.length ≤ 20 ∧ ∀ s ∈ ms, okS f.many s) (Φa := fun ds => ∃ r : Int, ds = [.sc ns, .int f.many, .int r] ∧ 0 ≤ r ∧ r ≤ 20) c_law_marks (hr.mono (by decide)) (xa_then (Φ := fun ds => ∃ r : Int, ds = [.int f.many, .int r] ∧ 0 ≤ r ∧ r ≤ 20) (xv_var 0) (xa_then (Φ := fun ds => ∃ r : Int, ds = [.int r] ∧ 0 ≤ r ∧ r ≤ 20) (xv_var 4) (xa_one (xe_draw (L := 3) 1 c_law_draw (hr.mono (by decide)) (xv_var 0) xv_int ⟨by omega, by omega⟩) (fun d ⟨v, h, h0, h1⟩ => ⟨v, by rw [h], by omega, by omega⟩)) (fun ds ⟨r, h, h0⟩ => ⟨r, by rw [h], h0⟩)) (fun ds ⟨r, h, h0⟩ => ⟨r, by rw [h], h0⟩)) (fun ds ⟨r, h, h0⟩ => ⟨ns, f.many, r, h, ⟨by omega, h0⟩, fun ms g1 g2 => ⟨ms, rfl, by omega, g2⟩⟩)) (fun d ⟨ms, h, h0⟩ => ⟨ms, by rw [h], h0⟩)) (fun ds ⟨ms, h, h0⟩ => ⟨ms, by rw [h], h0⟩)) (fun ds ⟨ms, h, h0⟩ => ⟨ms, by rw [h], h0⟩)) (fun ds ⟨ms, h, h0, h1⟩ => ⟨⟨f, ms⟩, by rw [h], ⟨hf, h0, h1⟩, hf4⟩) (by decide) (fun ds ⟨ms, h, _⟩ => by rw [h]; simp)) (fun d ⟨m, hd, hm, hm4⟩ => ?_) (by rw [List.length_map]; omega))
    subst hd
    refine xs_nil ⟨s ++ [m], ⟨by rw [List.length_append, hl]; rfl, fun q hq => ?_⟩, by rw [List.map_append]; exact (by repeat (first | exact le_nil | refine le_eq ?_ | refine le_un ?_))⟩
    rcases List.mem_append.mp hq with hq | hq
    · exact hok q hq
    · rw [List.mem_singleton.mp hq]; exact ⟨hm, hm4⟩
  · have hl : s.length = 2 := hl
    match s, hl with
    | [m, m2], _ =>
      obtain ⟨ho1, h1⟩ := hok m (List.mem_cons_self ..)
      obtain ⟨ho2, h2⟩ := hok m2 (List.mem_cons_of_mem _ (List.mem_cons_self ..))
      have n1 := ho1.fr.n1
      have l1 := ho1.len
      have l2 := ho1.fr.len
      refine xs_cons (xs_if (Φ := fun _ => True) (xt_eqI (xe_draw (L := 3) 1 c_law_draw (hr.mono (by decide)) (xv_var 0) xv_int ⟨by omega, by omega⟩) xv_int (fun _ _ _ => trivial)) (fun _ => ?_) (fun _ => xs_nil ?_))
      · refine xs_cons (xs_asgG (js := [4, 5, 6]) (Φ := fun d => d = eLot m) (fun d => match d with | .tup l => l | _ => []) (xv_ixO 2 (ds := [eLot m, eLot m2]) (f := eLot m) xv_int rfl) (pg_tup rfl (pgs_cons (pg_name (i := 4) sc_law.nd rfl (by first | exact Or.inl rfl | exact Or.inr rfl)) (pgs_cons (pg_name (i := 5) sc_law.nd rfl (by first | exact Or.inl rfl | exact Or.inr rfl)) (pgs_cons (pg_name (i := 6) sc_law.nd rfl (by first | exact Or.inl rfl | exact Or.inr rfl)) pgs_nil)))) (fun d hd => by rw [hd]; exact gt_trip) (fun d hd => ?_))
        subst hd
        refine xs_cons (xs_asg 7 (xe_draw (L := (m.fr.many : Int)) 1 c_law_draw (hr.mono (by decide)) (xv_var 0) (xv_var 4) ⟨by omega, by omega⟩) (fun d ⟨more, hd, k0, k1⟩ => ?_) sc_law.nd)
        subst hd
        refine xs_cons (xs_setO 2 1 (Φ := fun d => ∃ m3 : Mo, d = eLot m3 ∧ m3.ok ∧ m3.fr.many ≤ 4) (XE.imp (xe_trip (m := false) (A := fun d => d = .int m.fr.many) (C := fun d => d = tT (tT D.int) (m.marks.map fun row => setI (row ++ [more]))) (xv_var 4) (xe_tupN (xn_lcR (f := tT tP) (xs := m.fr.arrows) (R := fun r r' => (∀ x, x ∈ r' ↔ x ∈ r ++ [(more, 0)]) ∧ r'.Pairwise lessP) [8] (fun row => [tT tP row]) (tT tP) [("row", 8)] (xw_tupT (f := tT tP) (xv_var 5)) (fun _ _ _ _ _ => pg_name (i := 8) sc_law.nd rfl (by first | exact Or.inl rfl | exact Or.inr rfl)) (fun _ _ => gt_name) (fun row hrow _ _ _ _ _ => (xe_tupN (xn_sortedSetPT (l := row ++ [(more, 0)]) (xv_catT (f := tP) (l := row) (l' := [(more, 0)]) (xv_var 8) (XV.is (xv_tup (hl := by simp) (xl_cons (xv_tup (hl := by simp) (xl_cons (xv_var 7) (xl_cons xv_int xa_nil))) xa_nil)) rfl) (by have := okA_4 h1 (ho1.fr.arr row hrow); show row.length + 1 ≤ 100000; omega)) (by have := okA_4 h1 (ho1.fr.arr row hrow); rw [List.length_append]; show row.length + 1 ≤ 60; omega) (fun q hq => by
              rcases List.mem_append.mp hq with hq | hq
              · have := (ho1.fr.arr row hrow).1 q hq
                omega
              · rw [List.mem_singleton.mp hq]
                show (0 ≤ more ∧ more < 64) ∧ (0 : Int) ≤ 0 ∧ (0 : Int) < 64
                omega) hu65 m_sorted m_set) m_tuple)) (by omega) (blkOk_by (N := n_law) (sc := defScope s_law) (by decide +kernel)) sc_law.nd) m_tuple) (xv_tupleL (f := tT D.int) (xo_map (f := tT D.int) (xs := m.marks) [8] (fun row => [tT D.int row]) (tT D.int) (fun row => setI (row ++ [more])) [("row", 8)] (xw_tupT (f := tT D.int) (xv_var 6)) (fun _ _ _ _ _ => pg_name (i := 8) sc_law.nd rfl (by first | exact Or.inl rfl | exact Or.inr rfl)) (fun _ _ => gt_name) (fun row hrow _ _ _ _ _ => (xv_tupleL (f := D.int) (xo_sortedSetT (ns := row ++ [more]) (xv_catT (f := D.int) (l := row) (l' := [more]) (xv_var 8) (XV.is (xv_tup (hl := by simp) (xl_cons (xv_var 7) xa_nil)) rfl) (by have := okS_4 (ho1.mks row hrow); show row.length + 1 ≤ 100000; omega)) (by have := okS_4 (ho1.mks row hrow); rw [List.length_append]; show row.length + 1 ≤ 60; omega) m_sorted m_set).frz m_tuple)) (by omega) (blkOk_by (N := n_law) (sc := defScope s_law) (by decide +kernel)) sc_law.nd).frz m_tuple)) fun d ⟨a, b, c, e, ha, ⟨rs, hb, hbl, hbr⟩, hc⟩ => ⟨⟨⟨m.fr.many, rs⟩, m.marks.map fun row => setI (row ++ [more])⟩, by rw [e, ha, hb, hc], ok_more ho1 h1 ⟨k0, k1⟩ hbl hbr, h1⟩) xv_int rfl fun d ⟨m3, hd, ho3, h3⟩ => ?_)
        subst hd
        refine xs_nil ?_
        refine xs_freeze 2 ?_
        exact (law_b (P := P) (w := w) (K := K) (mg := mg) (base := base) (outer := outer) (H := H) (E := E) hr kF kM c_Frame_init c_Model_init c_law_draw c_law_frame c_law_marks c_law_followed c_similar_pairs c_law_forward c_law_so c_forward_saying c_law_is_forward m_len m_range m_tuple m_sorted m_set ns Φ hΦ m m3 ho1 ho3 h1 h3).le (by repeat (first | exact le_nil | refine le_eq ?_ | refine le_un ?_))
      · refine xs_freeze 2 ?_
        exact (law_b (P := P) (w := w) (K := K) (mg := mg) (base := base) (outer := outer) (H := H) (E := E) hr kF kM c_Frame_init c_Model_init c_law_draw c_law_frame c_law_marks c_law_followed c_similar_pairs c_law_forward c_law_so c_forward_saying c_law_is_forward m_len m_range m_tuple m_sorted m_set ns Φ hΦ m m2 ho1 ho2 h1 h2).le (by repeat (first | exact le_nil | refine le_eq ?_ | refine le_un ?_))

end
end K36

namespace K36
open PySem PySem.Spec PyProof.Rows L2 Evl DL WF
section
variable {P : Program} {w : World} {K : PySem.W.Frag} {mg : Str → Option Value} {base : Heap}
abbrev s_law_frame : Stmt := topS 23
abbrev n_law_frame : List Str := ["state", "script", "most", "relations", "many", "arrows", "i", "wide", "row", "x", "y"]
theorem sc_law_frame : FnScope n_law_frame ["state", "script", "most", "relations"] (defScope s_law_frame) := ⟨rfl, rfl, rfl, by decide +kernel, rfl, by decide +kernel, by decide +kernel⟩
theorem ok_law_frame {f : Addr} {fd : FuncData} (F : Fun K "_law_frame" "_law_frame" s_law_frame f fd) (c_law_draw : Cal P w K mg base 1 "_law_draw" ["state", "script", "size"] (spE K dwO cDraw)) (m_range : mg "range" = none) (m_tuple : mg "tuple" = none) : FnOk P w K mg base CX0 (1 + 1) f fd ["state", "script", "most", "relations"] (spE K dwO cLFrame) := by
  refine fn_eff (o := dwO) (fun z => z = dwO) (fun Hb u o' h r => by rw [← h]; exact r) F sc_law_frame (fun ds Φ ⟨ns, l, r, h, _⟩ => by rw [h]; rfl) fun cdv A outer s0 H E hr ds Φ ⟨ns, most, rels, hd, ⟨⟨hm1, hm2⟩, hr0, hr20⟩, hΦ⟩ => ?_
  subst hd
  refine xs_cons (xs_asg 4 (xe_addD xv_int (xe_draw (L := most) 0 c_law_draw (hr.mono (by decide)) (xv_var 1) (xv_var 2) ⟨by omega, by omega⟩)) (fun d ⟨m1, hd, h0, h1⟩ => ?_) sc_law_frame.nd)
  subst hd
  obtain ⟨n, hne⟩ : ∃ n : Nat, 1 + m1 = (n : Int) := ⟨(1 + m1).toNat, by omega⟩
  rw [hne]
  have hn1 : 1 ≤ n := by omega
  have hn10 : n ≤ 10 := by omega
  have hrl : (rng 0 (n : Int)).length = n := by rw [rng_len]; omega
  refine xs_cons (xs_asgO 5 (xo_lst xa_nil) ?_ sc_law_frame.nd)
  refine xs_loopI (f := D.int) (xs := rng 0 rels) (js := [6]) (fun i => [D.int i]) (fun ar : List (List (Int × Int)) => [.ow dwO, .pd (.sc ns), .pd (.int most), .pd (.int rels), .pd (.int (n : Int)), .ow (.ml (ar.map (tT tP))), .un, .un, .un, .un, .un]) (fun i ar => ar.length = i ∧ ∀ r ∈ ar, okA n r) [] (xw_range1 (xl_cons (xv_var 3) xa_nil) (by omega) m_range (by omega)) (pg_name (i := 6) sc_law_frame.nd rfl (by first | exact Or.inl rfl | exact Or.inr rfl)) (fun _ _ => gt_name) (by repeat (first | exact le_nil | refine le_eq ?_ | refine le_un ?_)) ⟨rfl, fun r h => nomatch h⟩ (fun i x ar hi ⟨hl, hok⟩ => ?_) (fun ar ⟨hl, hok⟩ => ?_) PassesOwn.never
  · have hlt : i < 20 := by have := (List.getElem?_eq_some_iff.mp hi).1; rw [rng_len] at this; omega
    refine xs_cons (xs_asg 7 (xe_addD xv_int (xe_draw (L := 3) 0 c_law_draw (hr.mono (by decide)) (xv_var 1) xv_int ⟨by omega, by omega⟩)) (fun d ⟨w1, hd, hw0, hw1⟩ => ?_) sc_law_frame.nd)
    subst hd
    refine xs_cons (xs_asgV 8 (d := lT tP []) xv_nilL ?_ sc_law_frame.nd)
    refine xs_loopI (f := D.int) (xs := rng 0 (n : Int)) (js := [9]) (fun x => [D.int x]) (fun row : List (Int × Int) => [.ow dwO, .pd (.sc ns), .pd (.int most), .pd (.int rels), .pd (.int (n : Int)), .ow (.ml (ar.map (tT tP))), .un, .pd (.int (2 + w1)), .pd (lT tP row), .un, .un]) (fun j row => row.Sublist (((rng 0 (n : Int)).take j).flatMap fun x => (rng 0 (n : Int)).map fun y => (x, y))) [] (xw_range1 (xl_cons (xv_var 4) xa_nil) (by omega) m_range (by omega)) (pg_name (i := 9) sc_law_frame.nd rfl (by first | exact Or.inl rfl | exact Or.inr rfl)) (fun _ _ => gt_name) (by repeat (first | exact le_nil | refine le_eq ?_ | refine le_un ?_)) (List.nil_sublist _) (fun j x row hj hs => ?_) (fun row hs => ?_) PassesOwn.never
    · have hrw : row.length ≤ 100 := by
        have h2 : row.Sublist ((rng 0 (n : Int)).flatMap fun x => (rng 0 (n : Int)).map fun y => (x, y)) := hs.trans flat_take
        exact (okA_sub hn10 h2).2.2
      refine xs_cons (xs_asg 8 (xe_catR (f := tP) (l := row) (Φ := fun l => ∃ ys : List Int, l = ys.map (fun y => (x, y)) ∧ ys.Sublist (rng 0 (n : Int))) (xv_var 8) (((xn_lcFm (f := D.int) (f' := tP) (xs := rng 0 (n : Int)) (fun y => (x, y)) [10] (fun y => [D.int y]) [("y", 10)] (xw_range1 (xl_cons (xv_var 4) xa_nil) (by omega) m_range (by omega)) (fun _ _ _ _ _ => (pg_name (i := 10) sc_law_frame.nd rfl (by first | exact Or.inl rfl | exact Or.inr rfl))) (fun _ _ => gt_name) (fun y hy => jt_wb fun _ _ _ _ _ => xt_eqI (xe_draw (L := 2 + w1) 0 c_law_draw (hr.mono (by decide)) (xv_var 1) (xv_var 7) ⟨by omega, by omega⟩) xv_int (fun _ _ _ => trivial)) (fun y hy _ _ _ _ _ => (xv_tup (hl := by simp) (xl_cons (xv_var 9) (xl_cons (xv_var 10) xa_nil)))) (by omega) (blkOk_by (N := n_law_frame) (sc := defScope s_law_frame) (by decide +kernel)) sc_law_frame.nd).imp fun o ⟨ys, h1, h2⟩ => ⟨_, h1, _, rfl, ys, rfl, h2⟩ : XN _ _ _ _ fun o => ∃ ds, o = .ml ds ∧ ∃ l : List (Int × Int), ds = l.map tP ∧ ∃ ys : List Int, l = ys.map (fun y => (x, y)) ∧ ys.Sublist (rng 0 (n : Int))).frzP.imp fun d ⟨ds, h1, l, h2, h3⟩ => ⟨l, by rw [h1, h2]; rfl, h3⟩) (fun l ⟨ys, h1, h2⟩ => by have := h2.length_le; rw [h1, List.length_map]; omega)) (fun d ⟨l, hd, ys, hl2, hys⟩ => ?_) sc_law_frame.nd)
      subst hd
      refine xs_nil ⟨row ++ l, ?_, (by repeat (first | exact le_nil | refine le_eq ?_ | refine le_un ?_))⟩
      rw [List.take_add_one, hj]
      show (row ++ l).Sublist ((((rng 0 (n : Int)).take j) ++ [x]).flatMap fun x => (rng 0 (n : Int)).map fun y => (x, y))
      rw [List.flatMap_append]
      refine hs.append ?_
      rw [hl2, List.flatMap_cons, List.flatMap_nil, List.append_nil]
      exact hys.map _
    · rw [List.take_length] at hs
      refine xs_cons (xs_app 5 (ds := ar.map (tT tP)) (xv_tupleL (f := tP) (xv_var 8) m_tuple) (fun d hd => ?_) (by rw [List.length_map]; omega))
      subst hd
      refine xs_nil ⟨ar ++ [row], ⟨by rw [List.length_append, hl]; rfl, fun r hr => ?_⟩, by rw [List.map_append]; exact (by repeat (first | exact le_nil | refine le_eq ?_ | refine le_un ?_))⟩
      rcases List.mem_append.mp hr with hr | hr
      · exact hok r hr
      · rw [List.mem_singleton.mp hr]; exact okA_sub hn10 hs
  · rw [rng_len] at hl
    refine xs_freeze 5 ?_
    exact xs_cons (xs_retV (xv_tup (hl := by simp) (xl_cons (xv_var 4) (xl_cons (xv_tupleL (f := tT tP) (l := ar) (xv_var 5) m_tuple) xa_nil))) ⟨hΦ ⟨n, ar⟩ ⟨hn1, by show n ≤ 20; omega, by show ar.length ≤ 20; omega, hok⟩ (by show (n : Int) ≤ most; omega) (by show (ar.length : Int) = rels; omega), dwO, rfl, rfl⟩)
abbrev s_law_marks : Stmt := topS 24
abbrev n_law_marks : List Str := ["state", "script", "many", "letters", "found", "k", "x"]
theorem sc_law_marks : FnScope n_law_marks ["state", "script", "many", "letters"] (defScope s_law_marks) := ⟨rfl, rfl, rfl, by decide +kernel, rfl, by decide +kernel, by decide +kernel⟩
theorem ok_law_marks {f : Addr} {fd : FuncData} (F : Fun K "_law_marks" "_law_marks" s_law_marks f fd) (c_law_draw : Cal P w K mg base 1 "_law_draw" ["state", "script", "size"] (spE K dwO cDraw)) (m_range : mg "range" = none) (m_tuple : mg "tuple" = none) : FnOk P w K mg base CX0 (1 + 1) f fd ["state", "script", "many", "letters"] (spE K dwO cLMarks) := by
  refine fn_eff (o := dwO) (fun z => z = dwO) (fun Hb u o' h r => by rw [← h]; exact r) F sc_law_marks (fun ds Φ ⟨ns, l, r, h, _⟩ => by rw [h]; rfl) fun cdv A outer s0 H E hr ds Φ ⟨ns, n, letters, hd, ⟨hn, hl0, hl20⟩, hΦ⟩ => ?_
  subst hd
  have hrl : (rng 0 (n : Int)).length = n := by rw [rng_len]; omega
  refine xs_cons (xs_asgO 4 (xo_lst xa_nil) ?_ sc_law_marks.nd)
  refine xs_loopI (f := D.int) (xs := rng 0 letters) (js := [5]) (fun i => [D.int i]) (fun ms : List (List Int) => [.ow dwO, .pd (.sc ns), .pd (.int (n : Int)), .pd (.int letters), .ow (.ml (ms.map (tT D.int))), .un, .un]) (fun i ms => ms.length = i ∧ ∀ s ∈ ms, okS n s) [] (xw_range1 (xl_cons (xv_var 3) xa_nil) (by omega) m_range (by omega)) (pg_name (i := 5) sc_law_marks.nd rfl (by first | exact Or.inl rfl | exact Or.inr rfl)) (fun _ _ => gt_name) (by repeat (first | exact le_nil | refine le_eq ?_ | refine le_un ?_)) ⟨rfl, fun r h => nomatch h⟩ (fun i x ms hi ⟨hl, hok⟩ => ?_) (fun ms ⟨hl, hok⟩ => ?_) PassesOwn.never
  · have hlt : i < 20 := by have := (List.getElem?_eq_some_iff.mp hi).1; rw [rng_len] at this; omega
    refine xs_cons (xs_app 4 (ds := ms.map (tT D.int)) (xe_tupN (xn_lcF (f := D.int) (xs := rng 0 (n : Int)) [6] (fun x => [D.int x]) [("x", 6)] (xw_range1 (xl_cons (xv_var 2) xa_nil) (by omega) m_range (by omega)) (fun _ _ _ _ _ => (pg_name (i := 6) sc_law_marks.nd rfl (by first | exact Or.inl rfl | exact Or.inr rfl))) (fun _ _ => gt_name) (fun x hx => jt_wb fun _ _ _ _ _ => xt_eqI (xe_draw (L := 2) 0 c_law_draw (hr.mono (by decide)) (xv_var 1) xv_int ⟨by omega, by omega⟩) xv_int (fun _ _ _ => trivial)) (fun x hx _ _ _ _ _ => xv_var 6) (by omega) (blkOk_by (N := n_law_marks) (sc := defScope s_law_marks) (by decide +kernel)) sc_law_marks.nd) m_tuple) (fun d ⟨ys, hd, hys⟩ => ?_) (by rw [List.length_map]; omega))
    subst hd
    refine xs_nil ⟨ms ++ [ys], ⟨by rw [List.length_append, hl]; rfl, fun s hs => ?_⟩, by rw [List.map_append]; exact (by repeat (first | exact le_nil | refine le_eq ?_ | refine le_un ?_))⟩
    rcases List.mem_append.mp hs with hs | hs
    · exact hok s hs
    · rw [List.mem_singleton.mp hs]; exact okS_sub hn hys
  · rw [rng_len] at hl
    refine xs_freeze 4 ?_
    exact xs_cons (xs_retV (xv_tupleL (f := tT D.int) (l := ms) (xv_var 4) m_tuple) ⟨hΦ ms (by omega) hok, dwO, rfl, rfl⟩)
end
end K36

namespace DL
open PySem PySem.Spec PyProof.Rows L2 Evl
/-! ### classes and methods of the text, as facts -/
section
variable {K : PySem.W.Frag} {mg : Str → Option Value} {h : Heap} {C : Addr} {x qual : Str} {st : Stmt} {ps : List Str}
theorem dc_mk (X : K.In h) (G : h.Ns mainGlobals mg) (a : PySem.W.nsIn K mainGlobals x = some (some (.ref C))) (pg : PySem.W.plainGet K C Str.empty = true) (hd : PySem.W.hasDictIn K C = true) (po : PySem.W.plainOver K C = true) (sa : PySem.W.findIn K (.ref C) "__setattr__" = some (some (.builtin "object.__setattr__"))) (mk : PySem.W.makesIn K C = true) (kc : PySem.W.keepIn K (.ref C) = true)
    (ha : PySem.W.findIn K (.ref C) "__class__" = some (some (.builtin "object.__class__"))) (hn : PySem.W.specialIn K (.builtin "object.__class__") "__get__" = some (some (.builtin "getset_descriptor.__get__"))) (htk : PySem.W.takesIn K (.builtin "object.__class__") = some true) (hm : PySem.W.mroIn K C (.type "object") = some true) : Dc K mg x C :=
  ⟨PySem.W.mg_of X G a, ⟨pg, hd, po, sa⟩, mk, kc, ha, hn, htk, hm⟩
theorem na_mk (a : PySem.W.findIn K (.ref C) x = some none) : NoAttr K C x := a
/-- a def in a class -/
structure Dm (K : PySem.W.Frag) (x qual : Str) (st : Stmt) (ps : List Str) (C : Addr) : Prop where
  ex : ∃ (f : Addr) (fd : FuncData), Fun K x qual st f fd ∧ PySem.W.findIn K (.ref C) x = some (some (.ref f)) ∧ PySem.W.isFn K (.ref f) = true ∧ PySem.W.keepIn K (.ref f) = true ∧ Binds K fd ps []
def BndM (x qual : Str) (st : Stmt) (ps : List Str) : Prop := ∀ (kV doc pm : Value) (an : Option Addr) (cdv ct : Value) (us : List Value), us.length = ps.length → bindArgs (PySem.W.fnOf x qual (defArgs st) (defBody st) (defScope st) .none kV doc pm an cdv ct) ⟨us, []⟩ = pure (ps.zip us)
theorem dm_mk (b : BndM x qual st ps) {f : Addr} {oc : Value} {od an : Option Addr} {osl : Array (Option Value)} {kV doc pm cdv ct : Value} (a : PySem.W.findIn K (.ref C) x = some (some (.ref f))) (i : PySem.W.isFn K (.ref f) = true)
    (l : K.lookup f = some ⟨oc, od, .func (PySem.W.fnOf x qual (defArgs st) (defBody st) (defScope st) .none kV doc pm an cdv ct), osl⟩) (c : PySem.W.codeIn K cdv qual = true) (k : PySem.W.keepIn K (.ref f) = true) : Dm K x qual st ps C := by
  have F := fun_mk (st := st) l c k
  exact ⟨f, _, F, a, i, k, F.binds fun kV doc pm an cdv ct us hl => b kV doc pm an cdv ct us hl⟩
variable {P : Program} {w : World} {base : Heap} {k : Nat} {sp : Sp} {cn : Str}
theorem Clk.of (D : Dm K "__init__" qual st ps C) (dc : Dc K mg cn C) (ok : ∀ {f : Addr} {fd : FuncData}, Fun K "__init__" qual st f fd → FnOk P w K mg base CX0 k f fd ps sp) : Clk P w K mg base k C ps sp := by
  obtain ⟨f, fd, F, h1, h2, h3, h4⟩ := D.ex
  exact ⟨f, fd, ok F, ⟨dc.mks, h1, h2, dc.kp⟩, h4⟩
theorem Mth.of (D : Dm K x qual st ps C) (ok : ∀ {f : Addr} {fd : FuncData}, Fun K x qual st f fd → FnOk P w K mg base CX0 k f fd ps sp) : Mth P w K mg base k C x ps sp := by
  obtain ⟨f, fd, F, h1, h2, h3, h4⟩ := D.ex
  exact ⟨f, fd, ok F, ⟨h1, h2, h3⟩, h4⟩
end
end DL

namespace K36
open PySem PySem.Spec PyProof.Rows L2 Evl DL WF
theorem b_law_draw : Bnd "_law_draw" s_draw ["state", "script", "size"] := fun _ _ _ _ _ _ us hl => match us, hl with | [_, _, _], _ => rfl
theorem b_is_index : Bnd "is_index" s_is_index ["value"] := fun _ _ _ _ _ _ us hl => match us, hl with | [_], _ => rfl
theorem b_is_world : Bnd "is_world" s_is_world ["value", "many"] := fun _ _ _ _ _ _ us hl => match us, hl with | [_, _], _ => rfl
theorem b_is_world_set : Bnd "is_world_set" s_is_world_set ["value", "many"] := fun _ _ _ _ _ _ us hl => match us, hl with | [_, _], _ => rfl
theorem b_is_relation : Bnd "is_relation" s_is_relation ["value", "many"] := fun _ _ _ _ _ _ us hl => match us, hl with | [_, _], _ => rfl
theorem b_Frame_sees : BndM "sees" "Frame.sees" s_Frame_sees ["self", "index", "world"] := fun _ _ _ _ _ _ us hl => match us, hl with | [_, _, _], _ => rfl
theorem b_Frame_init : BndM "__init__" "Frame.__init__" s_Frame_init ["self", "many", "arrows"] := fun _ _ _ _ _ _ us hl => match us, hl with | [_, _, _], _ => rfl
theorem b_Model_init : BndM "__init__" "Model.__init__" s_Model_init ["self", "frame", "marks"] := fun _ _ _ _ _ _ us hl => match us, hl with | [_, _, _], _ => rfl
theorem b_law_sees : Bnd "_law_sees" s_law_sees ["arrows", "i", "x"] := fun _ _ _ _ _ _ us hl => match us, hl with | [_, _, _], _ => rfl
theorem b_law_so : Bnd "_law_so" s_law_so ["many", "arrows", "marks", "saying"] := fun _ _ _ _ _ _ us hl => match us, hl with | [_, _, _, _], _ => rfl
theorem b_law_frame : Bnd "_law_frame" s_law_frame ["state", "script", "most", "relations"] := fun _ _ _ _ _ _ us hl => match us, hl with | [_, _, _, _], _ => rfl
theorem b_law_marks : Bnd "_law_marks" s_law_marks ["state", "script", "many", "letters"] := fun _ _ _ _ _ _ us hl => match us, hl with | [_, _, _, _], _ => rfl
theorem b_is_marked : Bnd "is_marked" s_is_marked ["model", "k", "world"] := fun _ _ _ _ _ _ us hl => match us, hl with | [_, _, _], _ => rfl
theorem b_has_letters : Bnd "has_letters" s_has_letters ["first", "one", "second", "other"] := fun _ _ _ _ _ _ us hl => match us, hl with | [_, _, _, _], _ => rfl
theorem b_steps_met : Bnd "steps_met" s_steps_met ["first", "second", "pairs", "pair"] := fun _ _ _ _ _ _ us hl => match us, hl with | [_, _, _, _], _ => rfl
theorem b_similar_pairs : Bnd "similar_pairs" s_similar_pairs ["first", "second"] := fun _ _ _ _ _ _ us hl => match us, hl with | [_, _], _ => rfl
theorem b_followed_to : Bnd "followed_to" s_followed_to ["first", "second", "depth"] := fun _ _ _ _ _ _ us hl => match us, hl with | [_, _, _], _ => rfl
theorem b_tied : Bnd "tied" s_tied ["word", "rows"] := fun _ _ _ _ _ _ us hl => match us, hl with | [_, _], _ => rfl
theorem b_law_is_forward : Bnd "_law_is_forward" s_law_is_forward ["saying"] := fun _ _ _ _ _ _ us hl => match us, hl with | [_], _ => rfl
theorem b_law_forward : Bnd "_law_forward" s_law_forward ["state", "script", "depth"] := fun _ _ _ _ _ _ us hl => match us, hl with | [_, _, _], _ => rfl
theorem b_forward_saying : Bnd "forward_saying" s_forward_saying ["first", "one", "second", "other", "depth"] := fun _ _ _ _ _ _ us hl => match us, hl with | [_, _, _, _, _], _ => rfl
theorem b_law_followed : Bnd "_law_followed" s_law_followed ["one", "other"] := fun _ _ _ _ _ _ us hl => match us, hl with | [_, _], _ => rfl
theorem b_law : Bnd "law" s_law ["script"] := fun _ _ _ _ _ _ us hl => match us, hl with | [_], _ => rfl
theorem law_of {P : Program} {w : World} {K : PySem.W.Frag} {mg : Str → Option Value} {CF CM : Addr} (kF : FrK K mg CF) (kM : MoK K mg CM) (d_law_draw : Dd K mg "_law_draw" s_draw ["state", "script", "size"]) (d_is_index : Dd K mg "is_index" s_is_index ["value"]) (d_is_world : Dd K mg "is_world" s_is_world ["value", "many"]) (d_is_world_set : Dd K mg "is_world_set" s_is_world_set ["value", "many"]) (d_is_relation : Dd K mg "is_relation" s_is_relation ["value", "many"]) (d_Frame_sees : Dm K "sees" "Frame.sees" s_Frame_sees ["self", "index", "world"] CF) (d_Frame_init : Dm K "__init__" "Frame.__init__" s_Frame_init ["self", "many", "arrows"] CF) (d_Model_init : Dm K "__init__" "Model.__init__" s_Model_init ["self", "frame", "marks"] CM) (d_law_sees : Dd K mg "_law_sees" s_law_sees ["arrows", "i", "x"]) (d_law_so : Dd K mg "_law_so" s_law_so ["many", "arrows", "marks", "saying"]) (d_law_frame : Dd K mg "_law_frame" s_law_frame ["state", "script", "most", "relations"]) (d_law_marks : Dd K mg "_law_marks" s_law_marks ["state", "script", "many", "letters"]) (d_is_marked : Dd K mg "is_marked" s_is_marked ["model", "k", "world"]) (d_has_letters : Dd K mg "has_letters" s_has_letters ["first", "one", "second", "other"]) (d_steps_met : Dd K mg "steps_met" s_steps_met ["first", "second", "pairs", "pair"]) (d_similar_pairs : Dd K mg "similar_pairs" s_similar_pairs ["first", "second"]) (d_followed_to : Dd K mg "followed_to" s_followed_to ["first", "second", "depth"]) (d_tied : Dd K mg "tied" s_tied ["word", "rows"]) (d_law_is_forward : Dd K mg "_law_is_forward" s_law_is_forward ["saying"]) (d_law_forward : Dd K mg "_law_forward" s_law_forward ["state", "script", "depth"]) (d_forward_saying : Dd K mg "forward_saying" s_forward_saying ["first", "one", "second", "other", "depth"]) (d_law_followed : Dd K mg "_law_followed" s_law_followed ["one", "other"]) (m_len : mg "len" = none) (m_int : mg "int" = none) (m_isinstance : mg "isinstance" = none) (m_bool : mg "bool" = none) (m_tuple : mg "tuple" = none) (m_all : mg "all" = none) (m_any : mg "any" = none) (m_range : mg "range" = none) (m_list : mg "list" = none) (m_sorted : mg "sorted" = none) (m_set : mg "set" = none) (base : Heap) (f : Addr) (fd : FuncData) (F : Fun K "law" "law" s_law f fd) : FnOk P w K mg base CX0 201 f fd ["script"] (spP K (cLaw 63)) := by
  have c_law_draw := Cal.of (P := P) (w := w) (base := base) d_law_draw fun F => ok_draw F m_len m_int
  have c_is_index := Cal.of (P := P) (w := w) (base := base) d_is_index fun F => ok_is_index F m_isinstance m_int m_bool
  have c_is_world := Cal.of (P := P) (w := w) (base := base) d_is_world fun F => ok_is_world F c_is_index
  have c_is_world_set := Cal.of (P := P) (w := w) (base := base) d_is_world_set fun F => ok_is_world_set F c_is_world m_isinstance m_tuple m_all m_any m_len m_range
  have c_is_relation := Cal.of (P := P) (w := w) (base := base) d_is_relation fun F => ok_is_relation F c_is_world m_isinstance m_tuple m_all m_any m_len m_range
  have c_Frame_sees := Mth.of (P := P) (w := w) (base := base) d_Frame_sees fun F => ok_Frame_sees F kF m_len m_tuple
  have c_Frame_init := Clk.of (P := P) (w := w) (base := base) d_Frame_init kF.dc fun F => ok_Frame_init F kF c_is_index c_is_relation m_isinstance m_tuple m_list m_len m_range
  have c_Model_init := Clk.of (P := P) (w := w) (base := base) d_Model_init kM.dc fun F => ok_Model_init F kF kM c_is_world_set m_isinstance m_tuple m_list m_len m_range
  have c_law_sees := Cal.of (P := P) (w := w) (base := base) d_law_sees fun F => ok_law_sees F m_len
  have c_law_so := cal_law_so (P := P) (w := w) (base := base) d_law_so c_law_sees m_len m_range 193
  have c_law_frame := Cal.of (P := P) (w := w) (base := base) d_law_frame fun F => ok_law_frame F c_law_draw m_range m_tuple
  have c_law_marks := Cal.of (P := P) (w := w) (base := base) d_law_marks fun F => ok_law_marks F c_law_draw m_range m_tuple
  have c_is_marked := Cal.of (P := P) (w := w) (base := base) d_is_marked fun F => ok_is_marked (CF := CF) F kM m_len
  have c_has_letters := Cal.of (P := P) (w := w) (base := base) d_has_letters fun F => ok_has_letters F kM c_is_marked m_len m_range m_all
  have c_steps_met := Cal.of (P := P) (w := w) (base := base) d_steps_met fun F => ok_steps_met F kF kM c_Frame_sees m_len m_range m_any
  have c_similar_pairs := Cal.of (P := P) (w := w) (base := base) d_similar_pairs fun F => ok_similar_pairs F kF kM c_has_letters c_steps_met m_range
  have c_followed_to := Cal.of (P := P) (w := w) (base := base) d_followed_to fun F => ok_followed_to F kF kM c_has_letters c_steps_met m_range
  have c_tied := Cal.of (P := P) (w := w) (base := base) d_tied fun F => ok_tied F m_len
  have c_law_is_forward := cal_rec (P := P) (w := w) (base := base) d_law_is_forward (fun ds Φ ⟨_, _, ⟨_, h⟩, _⟩ => by omega) (fun n c => fun F => ok_law_is_forward F c) 193
  have c_law_forward := cal_law_forward (P := P) (w := w) (base := base) d_law_forward c_law_draw 4
  have c_forward_saying := cal_forward_saying (P := P) (w := w) (base := base) d_forward_saying kF kM c_followed_to c_is_marked c_Frame_sees c_tied m_len m_range m_any 17
  have c_law_followed := Cal.of (P := P) (w := w) (base := base) d_law_followed fun F => ok_law_followed F c_law_sees m_len m_range
  exact ok_law F kF kM c_Frame_init c_Model_init c_law_draw c_law_frame c_law_marks c_law_followed c_similar_pairs c_law_forward c_law_so c_forward_saying c_law_is_forward m_len m_range m_tuple m_sorted m_set
end K36
open PySem PySem.W PyProof.Rows
set_option maxRecDepth 100000 in
set_option maxHeartbeats 0 in
theorem PySem.Challenge.cw_worldwright_k36_whole_worlds_that_are_fo_holds : PySem.Challenge.rw_worldwright_k36_whole_worlds_that_are_fo.Holds := by
  w_on; o_law; k_head; (case hw => w_witness2)
  k_fill
  refine DL.law_walk (l := PySem.Challenge.rw_worldwright_k36_whole_worlds_that_are_fo) (x := "script") (st := K36.s_law) 63 201 rfl (by decide) rfl ⟨rfl, by decide, by decide⟩ rfl (fun w h Y => PySem.W.kIn_of Y) ?F
  case F =>
    intro w mg h KX G
    refine' ⟨DL.dl_mk K36.b_law KX G ?a0 ?l0 ?c0 ?k0, K36.law_of (WF.FrK.mk (DL.dc_mk KX G ?ua0 ?up0 ?uh0 ?uo0 ?us0 ?um0 ?uk0 ?uc0 ?un0 ?ut0 ?ur0) (DL.na_mk ?uf0_0) (DL.na_mk ?uf0_1) (if_pos (beq_self_eq_true _))) (WF.MoK.mk (DL.dc_mk KX G ?ua1 ?up1 ?uh1 ?uo1 ?us1 ?um1 ?uk1 ?uc1 ?un1 ?ut1 ?ur1) (DL.na_mk ?uf1_0) (DL.na_mk ?uf1_1) (if_pos (beq_self_eq_true _))) (DL.dd_mk K36.b_law_draw KX G ?a1 ?l1 ?c1 ?k1) (DL.dd_mk K36.b_is_index KX G ?a2 ?l2 ?c2 ?k2) (DL.dd_mk K36.b_is_world KX G ?a3 ?l3 ?c3 ?k3) (DL.dd_mk K36.b_is_world_set KX G ?a4 ?l4 ?c4 ?k4) (DL.dd_mk K36.b_is_relation KX G ?a5 ?l5 ?c5 ?k5) (DL.dm_mk K36.b_Frame_sees ?a6 ?i6 ?l6 ?c6 ?k6) (DL.dm_mk K36.b_Frame_init ?a7 ?i7 ?l7 ?c7 ?k7) (DL.dm_mk K36.b_Model_init ?a8 ?i8 ?l8 ?c8 ?k8) (DL.dd_mk K36.b_law_sees KX G ?a9 ?l9 ?c9 ?k9) (DL.dd_mk K36.b_law_so KX G ?a10 ?l10 ?c10 ?k10) (DL.dd_mk K36.b_law_frame KX G ?a11 ?l11 ?c11 ?k11) (DL.dd_mk K36.b_law_marks KX G ?a12 ?l12 ?c12 ?k12) (DL.dd_mk K36.b_is_marked KX G ?a13 ?l13 ?c13 ?k13) (DL.dd_mk K36.b_has_letters KX G ?a14 ?l14 ?c14 ?k14) (DL.dd_mk K36.b_steps_met KX G ?a15 ?l15 ?c15 ?k15) (DL.dd_mk K36.b_similar_pairs KX G ?a16 ?l16 ?c16 ?k16) (DL.dd_mk K36.b_followed_to KX G ?a17 ?l17 ?c17 ?k17) (DL.dd_mk K36.b_tied KX G ?a18 ?l18 ?c18 ?k18) (DL.dd_mk K36.b_law_is_forward KX G ?a19 ?l19 ?c19 ?k19) (DL.dd_mk K36.b_law_forward KX G ?a20 ?l20 ?c20 ?k20) (DL.dd_mk K36.b_forward_saying KX G ?a21 ?l21 ?c21 ?k21) (DL.dd_mk K36.b_law_followed KX G ?a22 ?l22 ?c22 ?k22) (PySem.W.mg_none_of KX G ?z0) (PySem.W.mg_none_of KX G ?z1) (PySem.W.mg_none_of KX G ?z2) (PySem.W.mg_none_of KX G ?z3) (PySem.W.mg_none_of KX G ?z4) (PySem.W.mg_none_of KX G ?z5) (PySem.W.mg_none_of KX G ?z6) (PySem.W.mg_none_of KX G ?z7) (PySem.W.mg_none_of KX G ?z8) (PySem.W.mg_none_of KX G ?z9) (PySem.W.mg_none_of KX G ?z10)⟩
    (case a0 => k_is)
    (case l0 => k_is)
    (case c0 => k_is)
    (case k0 => k_is)
    (case ua0 => k_is)
    (case up0 => k_is)
    (case uh0 => k_is)
    (case uo0 => k_is)
    (case us0 => k_is)
    (case um0 => k_is)
    (case uk0 => k_is)
    (case uc0 => k_is)
    (case un0 => k_is)
    (case ut0 => k_is)
    (case ur0 => k_is)
    (case uf0_0 => k_is)
    (case uf0_1 => k_is)
    (case ua1 => k_is)
    (case up1 => k_is)
    (case uh1 => k_is)
    (case uo1 => k_is)
    (case us1 => k_is)
    (case um1 => k_is)
    (case uk1 => k_is)
    (case uc1 => k_is)
    (case un1 => k_is)
    (case ut1 => k_is)
    (case ur1 => k_is)
    (case uf1_0 => k_is)
    (case uf1_1 => k_is)
    (case a1 => k_is)
    (case l1 => k_is)
    (case c1 => k_is)
    (case k1 => k_is)
    (case a2 => k_is)
    (case l2 => k_is)
    (case c2 => k_is)
    (case k2 => k_is)
    (case a3 => k_is)
    (case l3 => k_is)
    (case c3 => k_is)
    (case k3 => k_is)
    (case a4 => k_is)
    (case l4 => k_is)
    (case c4 => k_is)
    (case k4 => k_is)
    (case a5 => k_is)
    (case l5 => k_is)
    (case c5 => k_is)
    (case k5 => k_is)
    (case a6 => k_is)
    (case i6 => k_is)
    (case l6 => k_is)
    (case c6 => k_is)
    (case k6 => k_is)
    (case a7 => k_is)
    (case i7 => k_is)
    (case l7 => k_is)
    (case c7 => k_is)
    (case k7 => k_is)
    (case a8 => k_is)
    (case i8 => k_is)
    (case l8 => k_is)
    (case c8 => k_is)
    (case k8 => k_is)
    (case a9 => k_is)
    (case l9 => k_is)
    (case c9 => k_is)
    (case k9 => k_is)
    (case a10 => k_is)
    (case l10 => k_is)
    (case c10 => k_is)
    (case k10 => k_is)
    (case a11 => k_is)
    (case l11 => k_is)
    (case c11 => k_is)
    (case k11 => k_is)
    (case a12 => k_is)
    (case l12 => k_is)
    (case c12 => k_is)
    (case k12 => k_is)
    (case a13 => k_is)
    (case l13 => k_is)
    (case c13 => k_is)
    (case k13 => k_is)
    (case a14 => k_is)
    (case l14 => k_is)
    (case c14 => k_is)
    (case k14 => k_is)
    (case a15 => k_is)
    (case l15 => k_is)
    (case c15 => k_is)
    (case k15 => k_is)
    (case a16 => k_is)
    (case l16 => k_is)
    (case c16 => k_is)
    (case k16 => k_is)
    (case a17 => k_is)
    (case l17 => k_is)
    (case c17 => k_is)
    (case k17 => k_is)
    (case a18 => k_is)
    (case l18 => k_is)
    (case c18 => k_is)
    (case k18 => k_is)
    (case a19 => k_is)
    (case l19 => k_is)
    (case c19 => k_is)
    (case k19 => k_is)
    (case a20 => k_is)
    (case l20 => k_is)
    (case c20 => k_is)
    (case k20 => k_is)
    (case a21 => k_is)
    (case l21 => k_is)
    (case c21 => k_is)
    (case k21 => k_is)
    (case a22 => k_is)
    (case l22 => k_is)
    (case c22 => k_is)
    (case k22 => k_is)
    (case z0 => k_is)
    (case z1 => k_is)
    (case z2 => k_is)
    (case z3 => k_is)
    (case z4 => k_is)
    (case z5 => k_is)
    (case z6 => k_is)
    (case z7 => k_is)
    (case z8 => k_is)
    (case z9 => k_is)
    (case z10 => k_is)

