import PyProof.Rows.All
import Wide.All
import OpenK.AllK
import Wide.FinOn
import HandS.ForMost
import HandS.Evl
import HandS.Deep
import HandS.Defaults
import HandS.Wide
import HandS.Flow
import HandS.TupAny
import HandS.IsInst
import HandS.SortInts
import HandS.TupSets
import HandS.Strs
import HandS.SetFor
import HandS.SortKw
import HandS.TupLe
import KE.SortData
import KE.DataMinMax
import KE.DatumOrd
import HandS.Conv
import HandS.Small
import HandS.Iter
import HandS.DictEq
import KE.KDictSum
import KE.KDictKeyed
import PyProof.Laws
import PySem.Challenge.RW_worldwright_k83_whole_defaults_and_belie
set_option Elab.async false
set_option linter.all false
set_option maxRecDepth 100000
set_option maxHeartbeats 4000000
/-! Data layer: values as data (D), what owns a changing object, judgements without heaps. -/
namespace DL
open PySem PySem.Spec PyProof.Rows L2 Evl

/-! ### data -/
inductive D where
  | non | bl (b : Bool) | int (i : Int) | str (s : Str) | lst (l : List D) | tup (l : List D)
  | ins (C : Addr) (ns : List Str) (l : List D)
  | dic (ks : List (List Key)) (l : List D)
  | sc (ns : List Int)

def D.isN : D → Bool
  | .non => true
  | _ => false

section
variable (K : PySem.W.Frag) (H : Hp)
mutual
inductive DR : V → D → Prop
  | non : DR .non .non
  | bl (b : Bool) : DR (.bl b) (.bl b)
  | int (i : Int) : DR (.int i) (.int i)
  | str (s : Str) : DR (.str s) (.str s)
  | lst {a : Addr} {vs : List V} {ds : List D} : H a = some (.lst vs) → DRs vs ds → DR (.ref a) (.lst ds)
  | tup {a : Addr} {vs : List V} {ds : List D} : H a = some (.tup vs) → DRs vs ds → DR (.ref a) (.tup ds)
  | ins {a C dx : Addr} {fs : List (Str × V)} {vs : List V} {ns : List Str} {ds : List D} : H a = some (.ins C dx fs) → fs.map (·.1) = ns → fs.map (·.2) = vs → DRs vs ds → DR (.ref a) (.ins C ns ds)
  | dic {a : Addr} {ob : Obj} {kvs : List (List Key × V)} {vs : List V} {ks : List (List Key)} {ds : List D} : H a = some (.frz ob (.dT kvs)) → kvs.map (·.1) = ks → kvs.map (·.2) = vs → DRs vs ds → DR (.ref a) (.dic ks ds)
  | sc {a : Addr} {ns : List Int} : SqL K H a (ns.map V.int) → DR (.ref a) (.sc ns)
inductive DRs : List V → List D → Prop
  | nil : DRs [] []
  | cons {v : V} {d : D} {vs : List V} {ds : List D} : DR v d → DRs vs ds → DRs (v :: vs) (d :: ds)
end
end

section
variable {K : PySem.W.Frag} {H H' : Hp}
mutual
theorem DR.mono (e : Ex H H') : ∀ {v : V} {d : D}, DR K H v d → DR K H' v d
  | _, _, .non => .non
  | _, _, .bl b => .bl b
  | _, _, .int i => .int i
  | _, _, .str s => .str s
  | _, _, .lst h r => .lst (e _ _ h) (DRs.mono e r)
  | _, _, .tup h r => .tup (e _ _ h) (DRs.mono e r)
  | _, _, .ins h p q r => .ins (e _ _ h) p q (DRs.mono e r)
  | _, _, .dic h p q r => .dic (e _ _ h) p q (DRs.mono e r)
  | _, _, .sc h => .sc (ex_l e h)
theorem DRs.mono (e : Ex H H') : ∀ {vs : List V} {ds : List D}, DRs K H vs ds → DRs K H' vs ds
  | _, _, .nil => .nil
  | _, _, .cons h t => .cons (DR.mono e h) (DRs.mono e t)
end
theorem DRs.len : ∀ {vs : List V} {ds : List D}, DRs K H vs ds → vs.length = ds.length
  | _, _, .nil => rfl
  | _, _, .cons _ t => by rw [List.length_cons, List.length_cons, DRs.len t]
theorem DRs.get : ∀ {vs : List V} {ds : List D} {i : Nat} {d : D}, DRs K H vs ds → ds[i]? = some d → ∃ v, vs[i]? = some v ∧ DR K H v d
  | _, _, _, _, .nil, e => by simp at e
  | _, _, 0, _, .cons r _, e => by simp at e; subst e; exact ⟨_, rfl, r⟩
  | _, _, i + 1, d, .cons _ t, e => by
    obtain ⟨u, h1, h2⟩ := DRs.get (i := i) (d := d) t (by simpa using e)
    exact ⟨u, by simpa using h1, h2⟩
theorem DRs.get' : ∀ {vs : List V} {ds : List D} {i : Nat} {v : V}, DRs K H vs ds → vs[i]? = some v → ∃ d, ds[i]? = some d ∧ DR K H v d
  | _, _, _, _, .nil, e => by simp at e
  | _, _, 0, _, .cons r _, e => by simp at e; subst e; exact ⟨_, rfl, r⟩
  | _, _, i + 1, v, .cons _ t, e => by
    obtain ⟨u, h1, h2⟩ := DRs.get' (i := i) (v := v) t (by simpa using e)
    exact ⟨u, by simpa using h1, h2⟩
theorem DRs.app : ∀ {vs ws : List V} {ds es : List D}, DRs K H vs ds → DRs K H ws es → DRs K H (vs ++ ws) (ds ++ es)
  | _, _, _, _, .nil, s => s
  | _, _, _, _, .cons r t, s => .cons r (DRs.app t s)
theorem DRs.one {v : V} {d : D} (h : DR K H v d) : DRs K H [v] [d] := .cons h .nil
theorem DRs.drop : ∀ {vs : List V} {ds : List D} (n : Nat), DRs K H vs ds → DRs K H (vs.drop n) (ds.drop n)
  | _, _, 0, r => r
  | _, _, _ + 1, .nil => .nil
  | _, _, n + 1, .cons _ t => DRs.drop n t
theorem DRs.take : ∀ {vs : List V} {ds : List D} (n : Nat), DRs K H vs ds → DRs K H (vs.take n) (ds.take n)
  | _, _, 0, _ => .nil
  | _, _, _ + 1, .nil => .nil
  | _, _, n + 1, .cons r t => .cons r (DRs.take n t)
theorem DRs.set {v : V} {d : D} (h : DR K H v d) : ∀ {vs : List V} {ds : List D} (n : Nat), DRs K H vs ds → DRs K H (vs.set n v) (ds.set n d)
  | _, _, _, .nil => .nil
  | _, _, 0, .cons _ t => .cons h t
  | _, _, n + 1, .cons r t => .cons r (DRs.set h n t)
theorem DRs.split : ∀ {vs : List V} {ds es : List D}, DRs K H vs (ds ++ es) → ∃ us ws, vs = us ++ ws ∧ DRs K H us ds ∧ DRs K H ws es
  | vs, [], es, h => ⟨[], vs, rfl, .nil, h⟩
  | _, d :: ds, es, .cons r t => by
    obtain ⟨us, ws, e, h1, h2⟩ := DRs.split (ds := ds) t
    subst e
    exact ⟨_ :: us, ws, rfl, .cons r h1, h2⟩
theorem dr_non {v : V} {d : D} (h : DR K H v d) : decide (v = .non) = d.isN := by
  cases h with
  | non => rfl
  | bl b => rfl
  | int i => rfl
  | str s => rfl
  | lst _ _ => rfl
  | tup _ _ => rfl
  | ins _ _ _ _ => rfl
  | dic _ _ _ _ => rfl
  | sc _ => rfl
end

/-! ### the steps of a heap: Hb, what stands for data; H, all that is tracked; W, what may be changed -/
structure Gr (W : Addr → Prop) (Hb H Hb' H' : Hp) : Prop where
  b : Ex Hb Hb'
  h : ∀ a o, H a = some o → ¬ W a → H' a = some o
  al : ∀ a, H a ≠ none → H' a ≠ none
  s : Ex Hb' H'
  f : ∀ a, H a ≠ none → (∀ xs, H a ≠ some (.tup xs)) → ¬ W a → Hb' a = Hb a
abbrev New (Hb H Hb' H' : Hp) : Prop := Gr (fun _ => False) Hb H Hb' H'
section
variable {W W' : Addr → Prop} {Hb H Hb' H' Hb2 H2 : Hp}
theorem Gr.refl (e : Ex Hb H) : Gr W Hb H Hb H := ⟨Ex.refl _, fun _ _ h _ => h, fun _ h => h, e, fun _ _ _ _ => rfl⟩
theorem Gr.trans (x : Gr W Hb H Hb' H') (y : Gr W' Hb' H' Hb2 H2) (k : ∀ a, W' a → W a ∨ H a = none) : Gr W Hb H Hb2 H2 where
  b := x.b.trans y.b
  h := fun a o e n => y.h a o (x.h a o e n) fun w => (k a w).elim n fun z => by rw [z] at e; cases e
  al := fun a e => y.al a (x.al a e)
  s := y.s
  f := fun a e t n => (y.f a (x.al a e) (fun xs q => by
    cases z : H a with
    | none => exact e z
    | some u =>
      have := x.h a u z n
      rw [this] at q
      exact t xs (z.trans q)) fun w => (k a w).elim n e).trans (x.f a e t n)
theorem Gr.wk (x : Gr W Hb H Hb' H') (k : ∀ a, W a → W' a) : Gr W' Hb H Hb' H' := ⟨x.b, fun a o e n => x.h a o e fun w => n (k a w), x.al, x.s, fun a e t n => x.f a e t fun w => n (k a w)⟩
theorem New.gr (x : New Hb H Hb' H') : Gr W Hb H Hb' H' := x.wk fun _ z => z.elim
theorem New.ex (x : New Hb H Hb' H') : Ex H H' := fun a o e => x.h a o e fun z => z
theorem New.then (x : New Hb H Hb' H') (y : New Hb' H' Hb2 H2) : New Hb H Hb2 H2 := Gr.trans x y fun _ z => z.elim
/-- a new object, data -/
theorem New.mk {p : Addr} {o : HO} (e : Ex Hb H) (h : H p = none) : New Hb H (upd Hb p o) (upd H p o) where
  b := Ex.new (fresh_back e h)
  h := fun a u q _ => by rw [upd_ne (ne_of_none q h)]; exact q
  al := fun a q => by
    by_cases z : a = p
    · subst z; exact absurd h q
    · rw [upd_ne z]; exact q
  s := fun a u q => by
    by_cases z : a = p
    · subst z; rw [upd_same] at q ⊢; exact q
    · rw [upd_ne z] at q ⊢; exact e a u q
  f := fun a q _ _ => upd_ne fun z => by subst z; exact q h
/-- a new object, not data -/
theorem New.side {p : Addr} {o : HO} (e : Ex Hb H) (h : H p = none) : New Hb H Hb (upd H p o) where
  b := Ex.refl _
  h := fun a u q _ => by rw [upd_ne (ne_of_none q h)]; exact q
  al := fun a q => by
    by_cases z : a = p
    · subst z; exact absurd h q
    · rw [upd_ne z]; exact q
  s := fun a u q => by
    have hn := fresh_back e h
    rw [upd_ne (ne_of_none q hn)]
    exact e a u q
  f := fun _ _ _ _ => rfl
/-- an object that isn't data may change -/
theorem Gr.put {p : Addr} {o : HO} (e : Ex Hb H) (h : Hb p = none) (k : H p ≠ none) (w : W p) : Gr W Hb H Hb (upd H p o) where
  b := Ex.refl _
  h := fun a u q n => by rw [upd_ne fun z => n (by subst z; exact w)]; exact q
  al := fun a q => by
    by_cases z : a = p
    · subst z; rw [upd_same]; simp
    · rw [upd_ne z]; exact q
  s := fun a u q => by
    rw [upd_ne (ne_of_none q h)]
    exact e a u q
  f := fun _ _ _ _ => rfl
end

/-! ### slots -/
/-- what an owned object is -/
inductive MO where
  | ml (ds : List D)
  | dT (ks : List (List Key)) (ds : List D)
  | dK (ks : List Key) (ds : List D)
  | inv (φ : PySem.W.Frag → Hp → HO → Prop)
def MR (K : PySem.W.Frag) (Hb : Hp) (o : HO) : MO → Prop
  | .ml ds => ∃ vs, o = .lst vs ∧ DRs K Hb vs ds
  | .dT ks ds => ∃ kv : List (List Key × V), o = .dT kv ∧ kv.map (·.1) = ks ∧ DRs K Hb (kv.map (·.2)) ds
  | .dK ks ds => ∃ kv : List (Key × V), o = .dK kv ∧ kv.map (·.1) = ks ∧ DRs K Hb (kv.map (·.2)) ds
  | .inv φ => (∀ xs, o ≠ .tup xs) ∧ ∀ Hb', Ex Hb Hb' → φ K Hb' o
theorem MR.mono {K : PySem.W.Frag} {Hb Hb' : Hp} (e : Ex Hb Hb') {o : HO} : ∀ {m : MO}, MR K Hb o m → MR K Hb' o m
  | .ml _, ⟨vs, h, r⟩ => ⟨vs, h, r.mono e⟩
  | .dT _ _, ⟨vs, h, p, r⟩ => ⟨vs, h, p, r.mono e⟩
  | .dK _ _, ⟨vs, h, p, r⟩ => ⟨vs, h, p, r.mono e⟩
  | .inv _, h => ⟨h.1, fun H1 e1 => h.2 H1 (e.trans e1)⟩
theorem MR.nt {K : PySem.W.Frag} {Hb : Hp} {o : HO} : ∀ {m : MO}, MR K Hb o m → ∀ xs, some o ≠ some (HO.tup xs)
  | .ml _, ⟨vs, h, r⟩, xs => by rw [h]; simp
  | .dT _ _, ⟨vs, h, p, r⟩, xs => by rw [h]; simp
  | .dK _ _, ⟨vs, h, p, r⟩, xs => by rw [h]; simp
  | .inv _, h, xs => fun e => h.1 xs (Option.some.inj e)
theorem xt {K : PySem.W.Frag} {H H' : Hp} {a : Addr} {vs : List V} (e : Ex H H') (h : H a = some (.tup vs)) : SqT K H' a vs := SqT.of (e _ _ h)
/-- a slot: nothing known, data, an owned object -/
inductive Sl where
  | un | pd (d : D) | ow (o : MO)

structure En (K : PySem.W.Frag) (Hb H : Hp) (σ : L2.St) (Γ : List Sl) : Prop where
  ex : Ex Hb H
  val : ∀ (i : Nat) (d : D), Γ[i]? = some (.pd d) → ∃ v, σ[i]? = some (some v) ∧ DR K Hb v d
  own : ∀ (i : Nat) (m : MO), Γ[i]? = some (.ow m) → ∃ a u, σ[i]? = some (some (.ref a)) ∧ Hb a = none ∧ H a = some u ∧ MR K Hb u m
  sep : ∀ (i j : Nat) (a : Addr) (m m' : MO), Γ[i]? = some (.ow m) → Γ[j]? = some (.ow m') → σ[i]? = some (some (.ref a)) → σ[j]? = some (some (.ref a)) → i = j
  len : σ.length = Γ.length
def Own (σ : L2.St) (Γ : List Sl) (a : Addr) : Prop := ∃ (i : Nat) (m : MO), Γ[i]? = some (.ow m) ∧ σ[i]? = some (some (.ref a))
section
variable {K : PySem.W.Frag} {Hb H Hb' H' : Hp} {σ : L2.St} {Γ : List Sl}
theorem En.new (E : En K Hb H σ Γ) (x : New Hb H Hb' H') : En K Hb' H' σ Γ where
  ex := x.s
  val := fun i d h => by obtain ⟨v, h1, h2⟩ := E.val i d h; exact ⟨v, h1, h2.mono x.b⟩
  own := fun i m h => by
    obtain ⟨a, u, h1, h2, h3, h4⟩ := E.own i m h
    exact ⟨a, u, h1, (x.f a (by rw [h3]; simp) (by rw [h3]; exact h4.nt) fun z => z).trans h2, x.ex a u h3, h4.mono x.b⟩
  sep := E.sep
  len := E.len
theorem En.some_of (E : En K Hb H σ Γ) {i : Nat} {s : Sl} (h : Γ[i]? = some s) : i < σ.length := by
  rw [E.len]
  exact (List.getElem?_eq_some_iff.mp h).1
theorem set_at {α : Type} {l : List α} {i j : Nat} {x y : α} (h : (l.set i x)[j]? = some y) : (i = j ∧ x = y ∧ i < l.length) ∨ (i ≠ j ∧ l[j]? = some y) := by
  by_cases e : i = j
  · subst e
    by_cases hi : i < l.length
    · rw [List.getElem?_set_self hi] at h
      exact .inl ⟨rfl, Option.some.inj h, hi⟩
    · rw [List.getElem?_eq_none (by simpa using hi)] at h
      cases h
  · rw [List.getElem?_set_ne e] at h
    exact .inr ⟨e, h⟩
/-- a slot gets data -/
theorem En.set (E : En K Hb H σ Γ) {v : V} {d : D} (r : DR K Hb v d) (i : Nat) : En K Hb H (σ.set i (some v)) (Γ.set i (.pd d)) where
  ex := E.ex
  val := fun j e h => by
    rcases set_at h with ⟨rfl, h2, h3⟩ | ⟨h1, h2⟩
    · cases h2
      exact ⟨v, List.getElem?_set_self (by rw [E.len]; exact h3), r⟩
    · rw [List.getElem?_set_ne h1]
      exact E.val j e h2
  own := fun j m h => by
    rcases set_at h with ⟨rfl, h2, h3⟩ | ⟨h1, h2⟩
    · cases h2
    · rw [List.getElem?_set_ne h1]
      exact E.own j m h2
  sep := fun j k a m m' h h' e e' => by
    rcases set_at h with ⟨rfl, h2, h3⟩ | ⟨h1, h2⟩
    · cases h2
    · rcases set_at h' with ⟨rfl, h4, h5⟩ | ⟨h3, h4⟩
      · cases h4
      · rw [List.getElem?_set_ne h1] at e
        rw [List.getElem?_set_ne h3] at e'
        exact E.sep j k a m m' h2 h4 e e'
  len := by rw [List.length_set, List.length_set, E.len]
/-- a slot is forgotten -/
theorem En.un (E : En K Hb H σ Γ) (i : Nat) (o : Option V) : En K Hb H (σ.set i o) (Γ.set i .un) where
  ex := E.ex
  val := fun j e h => by
    rcases set_at h with ⟨rfl, h2, h3⟩ | ⟨h1, h2⟩
    · cases h2
    · rw [List.getElem?_set_ne h1]
      exact E.val j e h2
  own := fun j m h => by
    rcases set_at h with ⟨rfl, h2, h3⟩ | ⟨h1, h2⟩
    · cases h2
    · rw [List.getElem?_set_ne h1]
      exact E.own j m h2
  sep := fun j k a m m' h h' e e' => by
    rcases set_at h with ⟨rfl, h2, h3⟩ | ⟨h1, h2⟩
    · cases h2
    · rcases set_at h' with ⟨rfl, h4, h5⟩ | ⟨h3, h4⟩
      · cases h4
      · rw [List.getElem?_set_ne h1] at e
        rw [List.getElem?_set_ne h3] at e'
        exact E.sep j k a m m' h2 h4 e e'
  len := by rw [List.length_set, List.length_set, E.len]
theorem En.forget (E : En K Hb H σ Γ) (i : Nat) : En K Hb H σ (Γ.set i .un) where
  ex := E.ex
  val := fun j e h => by
    rcases set_at h with ⟨rfl, h2, h3⟩ | ⟨h1, h2⟩
    · cases h2
    · exact E.val j e h2
  own := fun j m h => by
    rcases set_at h with ⟨rfl, h2, h3⟩ | ⟨h1, h2⟩
    · cases h2
    · exact E.own j m h2
  sep := fun j k a m m' h h' e e' => by
    rcases set_at h with ⟨rfl, h2, h3⟩ | ⟨h1, h2⟩
    · cases h2
    · rcases set_at h' with ⟨rfl, h4, h5⟩ | ⟨h3, h4⟩
      · cases h4
      · exact E.sep j k a m m' h2 h4 e e'
  len := by rw [List.length_set, E.len]
/-- Γ' says less than Γ -/
def Le (Γ Γ' : List Sl) : Prop := Γ.length = Γ'.length ∧ ∀ (i : Nat) (s : Sl), Γ'[i]? = some s → s = .un ∨ Γ[i]? = some s
theorem En.le (E : En K Hb H σ Γ) {Γ' : List Sl} (l : Le Γ Γ') : En K Hb H σ Γ' where
  ex := E.ex
  val := fun i d h => E.val i d ((l.2 i _ h).elim (fun z => by cases z) id)
  own := fun i m h => E.own i m ((l.2 i _ h).elim (fun z => by cases z) id)
  sep := fun i j a m m' h h' e e' => E.sep i j a m m' ((l.2 i _ h).elim (fun z => by cases z) id) ((l.2 j _ h').elim (fun z => by cases z) id) e e'
  len := E.len.trans l.1
theorem Own.le {Γ' : List Sl} (l : Le Γ Γ') {a : Addr} (h : Own σ Γ' a) : Own σ Γ a := by
  obtain ⟨i, m, h1, h2⟩ := h
  exact ⟨i, m, (l.2 i _ h1).elim (fun z => by cases z) id, h2⟩
/-- an owned object changes -/
theorem En.put (E : En K Hb H σ Γ) {i : Nat} {m m' : MO} {a : Addr} {u : HO} (h : Γ[i]? = some (.ow m)) (ha : σ[i]? = some (some (.ref a))) (r : MR K Hb u m') : En K Hb (upd H a u) σ (Γ.set i (.ow m')) where
  ex := fun b o e => by
    obtain ⟨a', u', h1, h2, h3, h4⟩ := E.own i m h
    rw [ha] at h1
    cases h1
    rw [upd_ne (ne_of_none e h2)]
    exact E.ex b o e
  val := fun j e h' => by
    rcases set_at h' with ⟨rfl, h2, h3⟩ | ⟨h1, h2⟩
    · cases h2
    · exact E.val j e h2
  own := fun j n h' => by
    obtain ⟨a', u', h1', h2', h3', h4'⟩ := E.own i m h
    rw [ha] at h1'
    cases h1'
    rcases set_at h' with ⟨rfl, h2, h3⟩ | ⟨h1, h2⟩
    · cases h2
      exact ⟨a, u, ha, h2', upd_same, r⟩
    · obtain ⟨b, w, e1, e2, e3, e4⟩ := E.own j n h2
      refine ⟨b, w, e1, e2, ?_, e4⟩
      rw [upd_ne fun z => h1 ?_]
      · exact e3
      · subst z
        exact E.sep i j _ m n h h2 ha e1
  sep := fun j k b n n' h1 h2 e1 e2 => by
    have g : ∀ (j : Nat) (n : MO), (Γ.set i (.ow m'))[j]? = some (.ow n) → ∃ n2, Γ[j]? = some (.ow n2) := fun j n z => by
      rcases set_at z with ⟨rfl, z2, z3⟩ | ⟨z1, z2⟩
      · exact ⟨m, h⟩
      · exact ⟨n, z2⟩
    obtain ⟨n1, g1⟩ := g j n h1
    obtain ⟨n2, g2⟩ := g k n' h2
    exact E.sep j k b n1 n2 g1 g2 e1 e2
  len := by rw [List.length_set, E.len]
/-- a new owned object is bound -/
theorem En.take (E : En K Hb H σ Γ) {i : Nat} {m : MO} {a : Addr} {u : HO} (hn : Hb a = none) (hu : H a = some u) (r : MR K Hb u m) (no : ¬ Own σ Γ a) : En K Hb H (σ.set i (some (.ref a))) (Γ.set i (.ow m)) where
  ex := E.ex
  val := fun j e h' => by
    rcases set_at h' with ⟨rfl, h2, h3⟩ | ⟨h1, h2⟩
    · cases h2
    · rw [List.getElem?_set_ne h1]
      exact E.val j e h2
  own := fun j n h' => by
    rcases set_at h' with ⟨rfl, h2, h3⟩ | ⟨h1, h2⟩
    · cases h2
      exact ⟨a, u, List.getElem?_set_self (by rw [E.len]; exact h3), hn, hu, r⟩
    · rw [List.getElem?_set_ne h1]
      exact E.own j n h2
  sep := fun j k b n n' h1 h2 e1 e2 => by
    rcases set_at h1 with ⟨rfl, z2, z3⟩ | ⟨z1, z2⟩
    · rcases set_at h2 with ⟨y1, y2, y3⟩ | ⟨y1, y2⟩
      · exact y1
      · rw [List.getElem?_set_self (by rw [E.len]; exact z3)] at e1
        cases e1
        rw [List.getElem?_set_ne y1] at e2
        exact absurd ⟨k, n', y2, e2⟩ no
    · rcases set_at h2 with ⟨rfl, y2, y3⟩ | ⟨y1, y2⟩
      · rw [List.getElem?_set_self (by rw [E.len]; exact y3)] at e2
        cases e2
        rw [List.getElem?_set_ne z1] at e1
        exact absurd ⟨j, n, z2, e1⟩ no
      · rw [List.getElem?_set_ne z1] at e1
        rw [List.getElem?_set_ne y1] at e2
        exact E.sep j k b n n' z2 y2 e1 e2
  len := by rw [List.length_set, List.length_set, E.len]
/-- an owned list becomes data -/
theorem En.freeze (E : En K Hb H σ Γ) {i : Nat} {ds : List D} (h : Γ[i]? = some (.ow (.ml ds))) : ∃ a vs, σ[i]? = some (some (.ref a)) ∧ H a = some (.lst vs) ∧ DRs K Hb vs ds ∧ Hb a = none ∧ Own σ Γ a ∧ En K (upd Hb a (.lst vs)) H σ (Γ.set i (.pd (.lst ds))) := by
  obtain ⟨a, u, h1, h2, h3, vs, rfl, h5⟩ := E.own i _ h
  have eb : Ex Hb (upd Hb a (.lst vs)) := Ex.new h2
  refine ⟨a, vs, h1, h3, h5, h2, ⟨i, _, h, h1⟩, ?_⟩
  exact {
    ex := fun b o e => by
      by_cases z : b = a
      · subst z; rw [upd_same] at e; cases e; exact h3
      · rw [upd_ne z] at e; exact E.ex b o e
    val := fun j e h' => by
      rcases set_at h' with ⟨rfl, z2, z3⟩ | ⟨z1, z2⟩
      · cases z2
        exact ⟨_, h1, .lst upd_same (h5.mono eb)⟩
      · obtain ⟨v, e1, e2⟩ := E.val j e z2
        exact ⟨v, e1, e2.mono eb⟩
    own := fun j n h' => by
      rcases set_at h' with ⟨rfl, z2, z3⟩ | ⟨z1, z2⟩
      · cases z2
      · obtain ⟨b, w, e1, e2, e3, e4⟩ := E.own j n z2
        refine ⟨b, w, e1, ?_, e3, e4.mono eb⟩
        rw [upd_ne fun z => z1 ?_]
        · exact e2
        · subst z
          exact E.sep i j _ _ n h z2 h1 e1
    sep := fun j k b n n' y1 y2 e1 e2 => by
      rcases set_at y1 with ⟨rfl, z2, z3⟩ | ⟨z1, z2⟩
      · cases z2
      · rcases set_at y2 with ⟨rfl, z4, z5⟩ | ⟨z3, z4⟩
        · cases z4
        · exact E.sep j k b n n' z2 z4 e1 e2
    len := by rw [List.length_set, E.len] }
/-- .. and the way of the heap -/
theorem Gr.freeze {W : Addr → Prop} {a : Addr} {vs : List V} (x : Gr W Hb H Hb' H') (w : H a = none) (h : H' a = some (.lst vs)) (hb : Hb' a = none) : Gr W Hb H (upd Hb' a (.lst vs)) H' where
  b := x.b.trans (Ex.new hb)
  h := x.h
  al := x.al
  s := fun b o e => by
    by_cases z : b = a
    · subst z; rw [upd_same] at e; cases e; exact h
    · rw [upd_ne z] at e; exact x.s b o e
  f := fun b e t n => by rw [upd_ne fun z => by subst z; exact e w]; exact x.f b e t n
end
end DL

namespace DL
open PySem PySem.Spec PyProof.Rows L2 Evl

/-! ### what an expression's own run asks -/
def wpE (X : Cx) (e : Expr) : TE := fun σ H Q => ∀ (pins : List (Addr × Obj)) (s : Shared), Inv X pins σ H s → wpAny (model X.prog X.w) X.A (eval e X.env) (EP X pins σ Q) X.xe s
def wpT (X : Cx) (e : Expr) : TT := fun σ H Q => ∀ (pins : List (Addr × Obj)) (s : Shared), Inv X pins σ H s → wpAny (model X.prog X.w) X.A (isTrue e X.env (eval e X.env)) (TP X pins σ Q) X.xe s
def wpA (X : Cx) (es : List Expr) : TA := fun σ H Q => ∀ (pos : Pos) (pins : List (Addr × Obj)) (s : Shared), Inv X pins σ H s → wpAny (model X.prog X.w) X.A (spliced (backTo pos (starEach es X.env))) (AP X pins σ Q) X.xe s
def wpI (X : Cx) (tg iter : Expr) : TI := fun σ H R => ∀ (pins : List (Addr × Obj)) (s : Shared), Inv X pins σ H s → wpAny (model X.prog X.w) X.A (eval iter X.env) (fun v s1 => wpAny (model X.prog X.w) X.A (pyIter v) (PIE X pins σ tg R) X.xe s1) X.xe s
theorem pe_wp {X : Cx} {e : Expr} : PE X e (wpE X e) := ⟨fun pins s _ _ _ I h => h pins s I⟩
theorem pt_wp {X : Cx} {e : Expr} : PT X e (wpT X e) := ⟨fun pins s _ _ _ I h => h pins s I⟩
theorem pa_wp {X : Cx} {es : List Expr} : PA X es (wpA X es) := ⟨fun pos pins s _ _ _ I h => h pos pins s I⟩
theorem pi_wp {X : Cx} {tg iter : Expr} : PI X tg iter (wpI X tg iter) := ⟨fun pins s _ _ _ I h => h pins s I⟩

/-! ### judgements over readings; m: true where owned objects may be changed -/
abbrev WW (m : Bool) (σ : L2.St) (Γ : List Sl) : Addr → Prop := fun a => m = true ∧ Own σ Γ a
def JR (K : PySem.W.Frag) (m : Bool) (te : TE) (Γ : List Sl) (Φ : D → Prop) : Prop := ∀ (σ : L2.St) (Hb H : Hp), En K Hb H σ Γ → ∀ Q : VK,
  (∀ v d Hb' H', Φ d → Gr (WW m σ Γ) Hb H Hb' H' → En K Hb' H' σ Γ → DR K Hb' v d → Q v H') → te σ H Q
def JT (K : PySem.W.Frag) (m : Bool) (tt : TT) (Γ : List Sl) (Φ : Bool → Prop) : Prop := ∀ (σ : L2.St) (Hb H : Hp), En K Hb H σ Γ → ∀ Q : Bool → Hp → Prop,
  (∀ b Hb' H', Φ b → Gr (WW m σ Γ) Hb H Hb' H' → En K Hb' H' σ Γ → Q b H') → tt σ H Q
def JA (K : PySem.W.Frag) (m : Bool) (ta : TA) (Γ : List Sl) (Φ : List D → Prop) : Prop := ∀ (σ : L2.St) (Hb H : Hp), En K Hb H σ Γ → ∀ Q : List V → Hp → Prop,
  (∀ vs ds Hb' H', Φ ds → Gr (WW m σ Γ) Hb H Hb' H' → En K Hb' H' σ Γ → DRs K Hb' vs ds → Q vs H') → ta σ H Q
/-- a new object of its own -/
def JN (K : PySem.W.Frag) (m : Bool) (te : TE) (Γ : List Sl) (Φ : MO → Prop) : Prop := ∀ (σ : L2.St) (Hb H : Hp), En K Hb H σ Γ → ∀ Q : VK,
  (∀ p u o Hb' H', Φ o → H p = none → Gr (WW m σ Γ) Hb H Hb' H' → En K Hb' H' σ Γ → Hb' p = none → H' p = some u → MR K Hb' u o → Q (.ref p) H') → te σ H Q
def ItD (K : PySem.W.Frag) (J : It) (Hb : Hp) (ds : List D) : Prop := ∀ (Hb1 H1 : Hp), Ex Hb Hb1 → Ex Hb1 H1 → ∀ i : Nat,
  (i < ds.length → J.go i H1 ∧ ∀ x H2, J.yld i H1 x H2 → ∃ d Hb2, ds[i]? = some d ∧ New Hb1 H1 Hb2 H2 ∧ DR K Hb2 x d) ∧ (ds.length ≤ i → J.stop i H1)
def JI (K : PySem.W.Frag) (m : Bool) (wi : TI) (Γ : List Sl) (Φ : List D → Prop) : Prop := ∀ (σ : L2.St) (Hb H : Hp), En K Hb H σ Γ → ∀ R : It → Hp → Prop,
  (∀ J ds Hb' H', Φ ds → Gr (WW m σ Γ) Hb H Hb' H' → En K Hb' H' σ Γ → ItD K J Hb' ds → R J H') → wi σ H R

def XE (X : Cx) (m : Bool) (e : Expr) (Γ : List Sl) (Φ : D → Prop) : Prop := JR X.K m (wpE X e) Γ Φ
def XT (X : Cx) (m : Bool) (e : Expr) (Γ : List Sl) (Φ : Bool → Prop) : Prop := JT X.K m (wpT X e) Γ Φ
def XA (X : Cx) (m : Bool) (es : List Expr) (Γ : List Sl) (Φ : List D → Prop) : Prop := JA X.K m (wpA X es) Γ Φ
def XN (X : Cx) (m : Bool) (e : Expr) (Γ : List Sl) (Φ : MO → Prop) : Prop := JN X.K m (wpE X e) Γ Φ
def XI (X : Cx) (m : Bool) (tg e : Expr) (Γ : List Sl) (Φ : List D → Prop) : Prop := JI X.K m (wpI X tg e) Γ Φ
/-- pure, known -/
abbrev XV (X : Cx) (e : Expr) (Γ : List Sl) (d : D) : Prop := XE X false e Γ fun z => z = d
abbrev XB (X : Cx) (e : Expr) (Γ : List Sl) (b : Bool) : Prop := XT X false e Γ fun z => z = b
abbrev XL (X : Cx) (es : List Expr) (Γ : List Sl) (ds : List D) : Prop := XA X false es Γ fun z => z = ds
abbrev XO (X : Cx) (e : Expr) (Γ : List Sl) (o : MO) : Prop := XN X false e Γ fun z => z = o
abbrev XW (X : Cx) (tg e : Expr) (Γ : List Sl) (ds : List D) : Prop := XI X false tg e Γ fun z => z = ds

section
variable {X : Cx} {m : Bool} {e a b c : Expr} {es : List Expr} {Γ : List Sl} {te ta tb : TE} {tt tu : TT} {tl : TA} {Φ Ψ : D → Prop} {pos : Pos}
theorem xe_of (h : PE X e te) (r : JR X.K m te Γ Φ) : XE X m e Γ Φ := fun σ Hb H E Q q pins s I => h.run pins s σ H Q I (r σ Hb H E Q q)
theorem xt_of {Φ : Bool → Prop} (h : PT X e tt) (r : JT X.K m tt Γ Φ) : XT X m e Γ Φ := fun σ Hb H E Q q pins s I => h.run pins s σ H Q I (r σ Hb H E Q q)
theorem xn_of {Φ : MO → Prop} (h : PE X e te) (r : JN X.K m te Γ Φ) : XN X m e Γ Φ := fun σ Hb H E Q q pins s I => h.run pins s σ H Q I (r σ Hb H E Q q)
theorem xa_of {Φ : List D → Prop} (h : PA X es tl) (r : JA X.K m tl Γ Φ) : XA X m es Γ Φ := fun σ Hb H E Q q pos pins s I => h.run pos pins s σ H Q I (r σ Hb H E Q q)
theorem xi_of {tg : Expr} {wi : TI} {Φ : List D → Prop} (h : PI X tg e wi) (r : JI X.K m wi Γ Φ) : XI X m tg e Γ Φ := fun σ Hb H E Q q pins s I => h.run pins s σ H Q I (r σ Hb H E Q q)
theorem XE.imp (h : XE X m e Γ Φ) (k : ∀ d, Φ d → Ψ d) : XE X m e Γ Ψ := fun σ Hb H E Q q => h σ Hb H E Q fun v d Hb' H' p => q v d Hb' H' (k d p)
theorem XT.imp {Φ Ψ : Bool → Prop} (h : XT X m e Γ Φ) (k : ∀ d, Φ d → Ψ d) : XT X m e Γ Ψ := fun σ Hb H E Q q => h σ Hb H E Q fun v Hb' H' p => q v Hb' H' (k v p)
theorem XA.imp {Φ Ψ : List D → Prop} (h : XA X m es Γ Φ) (k : ∀ d, Φ d → Ψ d) : XA X m es Γ Ψ := fun σ Hb H E Q q => h σ Hb H E Q fun v d Hb' H' p => q v d Hb' H' (k d p)
theorem XN.imp {Φ Ψ : MO → Prop} (h : XN X m e Γ Φ) (k : ∀ d, Φ d → Ψ d) : XN X m e Γ Ψ := fun σ Hb H E Q q => h σ Hb H E Q fun p u o Hb' H' z => q p u o Hb' H' (k o z)
theorem ww_lift {σ : L2.St} {Hb H Hb' H' : Hp} (g : Gr (WW false σ Γ) Hb H Hb' H') : Gr (WW m σ Γ) Hb H Hb' H' := g.wk fun _ z => by cases z.1
theorem ww_new {σ : L2.St} {Hb H Hb' H' : Hp} (g : Gr (WW false σ Γ) Hb H Hb' H') : New Hb H Hb' H' := g.wk fun _ z => by cases z.1
/-- pure is also changing -/
theorem XE.up (h : XE X false e Γ Φ) : XE X m e Γ Φ := fun σ Hb H E Q q => h σ Hb H E Q fun v d Hb' H' p g => q v d Hb' H' p (ww_lift g)
theorem XT.up {Φ : Bool → Prop} (h : XT X false e Γ Φ) : XT X m e Γ Φ := fun σ Hb H E Q q => h σ Hb H E Q fun v Hb' H' p g => q v Hb' H' p (ww_lift g)
theorem XA.up {Φ : List D → Prop} (h : XA X false es Γ Φ) : XA X m es Γ Φ := fun σ Hb H E Q q => h σ Hb H E Q fun v d Hb' H' p g => q v d Hb' H' p (ww_lift g)
theorem XN.up {Φ : MO → Prop} (h : XN X false e Γ Φ) : XN X m e Γ Φ := fun σ Hb H E Q q => h σ Hb H E Q fun p u o Hb' H' z z2 g => q p u o Hb' H' z z2 (ww_lift g)
theorem XI.up {tg : Expr} {Φ : List D → Prop} (h : XI X false tg e Γ Φ) : XI X m tg e Γ Φ := fun σ Hb H E Q q => h σ Hb H E Q fun J ds Hb' H' z g => q J ds Hb' H' z (ww_lift g)
theorem XV.is {d d' : D} (h : XV X e Γ d) (k : d = d') : XV X e Γ d' := by rw [← k]; exact h
theorem XB.is {d d' : Bool} (h : XB X e Γ d) (k : d = d') : XB X e Γ d' := by rw [← k]; exact h
theorem gww {σ : L2.St} {Hb H Hb' H' Hb2 H2 : Hp} (x : Gr (WW m σ Γ) Hb H Hb' H') (y : Gr (WW m σ Γ) Hb' H' Hb2 H2) : Gr (WW m σ Γ) Hb H Hb2 H2 := x.trans y fun _ w => .inl w
theorem gwn {σ : L2.St} {Hb H Hb' H' Hb2 H2 : Hp} (x : Gr (WW m σ Γ) Hb H Hb' H') (y : New Hb' H' Hb2 H2) : Gr (WW m σ Γ) Hb H Hb2 H2 := x.trans y fun _ w => w.elim

/-! ### names, constants -/
theorem jr_val {K : PySem.W.Frag} {d : D} {f : L2.St → Hp → VK → Prop} (h : ∀ σ Hb H, En K Hb H σ Γ → ∃ v, DR K Hb v d ∧ ∀ Q : VK, Q v H → f σ H Q) : JR K m f Γ fun z => z = d := fun σ Hb H E Q q => by
  obtain ⟨v, r, k⟩ := h σ Hb H E
  exact k Q (q v d Hb H rfl (Gr.refl E.ex) E r)
theorem xv_var (i : Nat) {x : Str} {d : D} (h : Γ[i]? = some (.pd d) := by rfl) (hN : X.N[i]? = some x := by rfl) (hv : Vis X.env.scope x := by first | exact Or.inl rfl | exact Or.inr (Or.inl rfl) | exact Or.inr (Or.inr rfl)) (hd : (x == ("__debug__" : Str)) = false := by decide)
    (hcd : (x == ("__classdict__" : Str)) = false := by decide) : XV X (.Name x pos) Γ d := xe_of (pe_var hN hv hd hcd) (jr_val fun σ Hb H E => by
  obtain ⟨v, h1, h2⟩ := E.val i d h
  exact ⟨v, h2, fun Q q => ⟨v, h1, q⟩⟩)
theorem xv_int {i : Int} {j : Nat} : XV X (.Constant (.int i) j pos) Γ (.int i) := xe_of pe_int (jr_val fun _ _ _ _ => ⟨.int i, .int i, fun _ q => q⟩)
theorem xv_bl {i : Bool} {j : Nat} : XV X (.Constant (.bool i) j pos) Γ (.bl i) := xe_of pe_bl (jr_val fun _ _ _ _ => ⟨.bl i, .bl i, fun _ q => q⟩)
theorem xv_non {j : Nat} : XV X (.Constant .none j pos) Γ .non := xe_of pe_non (jr_val fun _ _ _ _ => ⟨.non, .non, fun _ q => q⟩)
theorem xv_str {x : Str} {j : Nat} : XV X (.Constant (.str x) j pos) Γ (.str x) := xe_of pe_str (jr_val fun _ _ _ _ => ⟨.str x, .str x, fun _ q => q⟩)

/-! ### operators by what they give of data -/
def RR (K : PySem.W.Frag) (r : R2) (d e : D) (Φ : D → Prop) : Prop := ∀ x y Hb H, Ex Hb H → DR K Hb x d → DR K Hb y e → ∀ Q : VK, (∀ z d' Hb' H', Φ d' → New Hb H Hb' H' → DR K Hb' z d' → Q z H') → r x y H Q
abbrev RV2 (K : PySem.W.Frag) (r : R2) (d e f : D) : Prop := RR K r d e fun z => z = f
def RL (K : PySem.W.Frag) (r : List V → Hp → VK → Prop) (ds : List D) (Φ : D → Prop) : Prop := ∀ xs Hb H, Ex Hb H → DRs K Hb xs ds → ∀ Q : VK, (∀ z d' Hb' H', Φ d' → New Hb H Hb' H' → DR K Hb' z d' → Q z H') → r xs H Q
/-- .. to a new object -/
def RLN (K : PySem.W.Frag) (r : List V → Hp → VK → Prop) (ds : List D) (Φ : MO → Prop) : Prop := ∀ xs Hb H, Ex Hb H → DRs K Hb xs ds → ∀ Q : VK, (∀ p u o Hb' H', Φ o → H p = none → New Hb H Hb' H' → Hb' p = none → H' p = some u → MR K Hb' u o → Q (.ref p) H') → r xs H Q
def RRN (K : PySem.W.Frag) (r : R2) (d e : D) (Φ : MO → Prop) : Prop := ∀ x y Hb H, Ex Hb H → DR K Hb x d → DR K Hb y e → ∀ Q : VK, (∀ p u o Hb' H', Φ o → H p = none → New Hb H Hb' H' → Hb' p = none → H' p = some u → MR K Hb' u o → Q (.ref p) H') → r x y H Q
theorem jr_bin {K : PySem.W.Frag} {r : R2} {Φa : D → Prop} {Φb : D → D → Prop} (ha : JR K m ta Γ Φa) (hb : ∀ d, Φa d → JR K m tb Γ (Φb d)) (hr : ∀ d e, Φa d → Φb d e → RR K r d e Φ) : JR K m (tOp r ta tb) Γ Φ := fun σ Hb H E Q q =>
  ha σ Hb H E _ fun x d Hb1 H1 p1 g1 E1 r1 => hb d p1 σ Hb1 H1 E1 _ fun y e Hb2 H2 p2 g2 E2 r2 => hr d e p1 p2 x y Hb2 H2 E2.ex (r1.mono g2.b) r2 Q fun z d' Hb3 H3 p3 g3 r3 => q z d' Hb3 H3 p3 (gwn (gww g1 g2) g3) (E2.new g3) r3
theorem jn_bin {K : PySem.W.Frag} {r : R2} {Φa : D → Prop} {Φb : D → D → Prop} {Φ : MO → Prop} (ha : JR K m ta Γ Φa) (hb : ∀ d, Φa d → JR K m tb Γ (Φb d)) (hr : ∀ d e, Φa d → Φb d e → RRN K r d e Φ) : JN K m (tOp r ta tb) Γ Φ := fun σ Hb H E Q q =>
  ha σ Hb H E _ fun x d Hb1 H1 p1 g1 E1 r1 => hb d p1 σ Hb1 H1 E1 _ fun y e Hb2 H2 p2 g2 E2 r2 => hr d e p1 p2 x y Hb2 H2 E2.ex (r1.mono g2.b) r2 Q fun p u o Hb3 H3 p3 z0 g3 n3 h3 r3 => q p u o Hb3 H3 p3 (by
    cases z : H p with
    | none => rfl
    | some w => exact absurd z0 ((gww g1 g2).al p (by rw [z]; simp))) (gwn (gww g1 g2) g3) (E2.new g3) n3 h3 r3
theorem jr_l {K : PySem.W.Frag} {r : List V → Hp → VK → Prop} {Φa : List D → Prop} (ha : JA K m tl Γ Φa) (hr : ∀ ds, Φa ds → RL K r ds Φ) : JR K m (tCB r tl) Γ Φ := fun σ Hb H E Q q =>
  ha σ Hb H E _ fun xs ds Hb1 H1 p1 g1 E1 r1 => hr ds p1 xs Hb1 H1 E1.ex r1 Q fun z d' Hb3 H3 p3 g3 r3 => q z d' Hb3 H3 p3 (gwn g1 g3) (E1.new g3) r3
theorem jn_l {K : PySem.W.Frag} {r : List V → Hp → VK → Prop} {Φa : List D → Prop} {Φ : MO → Prop} (ha : JA K m tl Γ Φa) (hr : ∀ ds, Φa ds → RLN K r ds Φ) : JN K m (tCB r tl) Γ Φ := fun σ Hb H E Q q =>
  ha σ Hb H E _ fun xs ds Hb1 H1 p1 g1 E1 r1 => hr ds p1 xs Hb1 H1 E1.ex r1 Q fun p u o Hb3 H3 p3 z0 g3 n3 h3 r3 => q p u o Hb3 H3 p3 (by
    cases z : H p with
    | none => rfl
    | some w => exact absurd z0 (g1.al p (by rw [z]; simp))) (gwn g1 g3) (E1.new g3) n3 h3 r3
/-- a new list as data -/
theorem jr_frz {K : PySem.W.Frag} {Φ : D → Prop} (h : JN K m te Γ fun o => ∃ ds, o = .ml ds ∧ Φ (.lst ds)) : JR K m te Γ Φ := fun σ Hb H E Q q => h σ Hb H E Q fun p u o Hb' H' z n g E' nb hp r => by
  obtain ⟨ds, rfl, f⟩ := z
  obtain ⟨vs, rfl, r⟩ := r
  have E2 : En K (upd Hb' p (.lst vs)) H' σ Γ := {
    ex := (g.freeze n hp nb).s
    val := fun i d k => by obtain ⟨v, h1, h2⟩ := E'.val i d k; exact ⟨v, h1, h2.mono (Ex.new nb)⟩
    own := fun i m k => by
      obtain ⟨a, u, h1, h2, h3, h4⟩ := E'.own i m k
      obtain ⟨a', u', k1, k2, k3, k4⟩ := E.own i m k
      rw [h1] at k1
      cases k1
      refine ⟨a, u, h1, ?_, h3, h4.mono (Ex.new nb)⟩
      rw [upd_ne fun z => by subst z; rw [n] at k3; cases k3]
      exact h2
    sep := E'.sep
    len := E'.len }
  exact q (.ref p) (.lst ds) _ H' f (g.freeze n hp nb) E2 (.lst upd_same (r.mono (Ex.new nb)))
theorem XN.frz {ds : List D} (h : XN X m e Γ fun z => z = .ml ds) : XE X m e Γ fun z => z = .lst ds := jr_frz fun σ Hb H E Q q => h σ Hb H E Q fun p u o Hb' H' z => q p u o Hb' H' ⟨ds, z, rfl⟩
theorem XN.frzP {Φ : List D → Prop} (h : XN X m e Γ fun z => ∃ ds, z = .ml ds ∧ Φ ds) : XE X m e Γ fun z => ∃ ds, z = .lst ds ∧ Φ ds := jr_frz fun σ Hb H E Q q => h σ Hb H E Q fun p u o Hb' H' z => q p u o Hb' H' (by
  obtain ⟨ds, rfl, f⟩ := z
  exact ⟨ds, rfl, ds, rfl, f⟩)

theorem xe_bin {op : Operator} {r : R2} {Φa : D → Prop} {Φb : D → D → Prop} (ho : OpR X (binaryOp op) r) (ha : XE X m a Γ Φa) (hb : ∀ d, Φa d → XE X m b Γ (Φb d)) (hr : ∀ d e, Φa d → Φb d e → RR X.K r d e Φ) : XE X m (.BinOp a op b pos) Γ Φ := xe_of (pe_op ho pe_wp pe_wp) (jr_bin ha hb hr)
theorem xv_bin {op : Operator} {r : R2} {d d' f : D} (ho : OpR X (binaryOp op) r) (hr : RV2 X.K r d d' f) (ha : XV X a Γ d) (hb : XV X b Γ d') : XV X (.BinOp a op b pos) Γ f := xe_bin ho ha (fun _ _ => hb) fun _ _ p q => by subst p q; exact hr
theorem xe_cmp {op : CmpOp} {r : R2} {Φa : D → Prop} {Φb : D → D → Prop} (ho : OpR X (compareOp op) r) (hm : behindInMarks op b = false) (ha : XE X m a Γ Φa) (hb : ∀ d, Φa d → XE X m b Γ (Φb d)) (hr : ∀ d e, Φa d → Φb d e → RR X.K r d e Φ) : XE X m (.Compare a [op] [b] pos) Γ Φ := xe_of (pe_cmpR ho pe_wp pe_wp hm) (jr_bin ha hb hr)
theorem xv_cmp {op : CmpOp} {r : R2} {d d' f : D} (ho : OpR X (compareOp op) r) (hr : RV2 X.K r d d' f) (ha : XV X a Γ d) (hb : XV X b Γ d') (hm : behindInMarks op b = false := by first | exact nobehind _ (by decide) (by decide) | rfl) : XV X (.Compare a [op] [b] pos) Γ f := xe_cmp ho hm ha (fun _ _ => hb) fun _ _ p q => by subst p q; exact hr
theorem jt_test {K : PySem.W.Frag} {Φ : Bool → Prop} (h : JR K m te Γ fun z => ∃ b, z = .bl b ∧ Φ b) : JT K m (tTest te) Γ Φ := fun σ Hb H E Q q => h σ Hb H E _ fun v d Hb' H' z g E' r => by
  obtain ⟨b, rfl, f⟩ := z
  cases r
  exact ⟨b, rfl, q b Hb' H' f g E'⟩
theorem jt_B {K : PySem.W.Frag} {Φ : Bool → Prop} (h : JR K m te Γ fun z => ∃ b, z = .bl b ∧ Φ b) : JT K m (tB te) Γ Φ := jt_test h
theorem xt_cmp {op : CmpOp} {r : R2} {Φa : D → Prop} {Φb : D → D → Prop} {Φ : Bool → Prop} (ho : OpR X (compareOp op) r) (hm : behindInMarks op b = false) (ha : XE X m a Γ Φa) (hb : ∀ d, Φa d → XE X m b Γ (Φb d)) (hr : ∀ d e, Φa d → Φb d e → RR X.K r d e fun z => ∃ k, z = .bl k ∧ Φ k) : XT X m (.Compare a [op] [b] pos) Γ Φ := xt_of (pt_cmpR ho pe_wp pe_wp hm) (jt_test (jr_bin ha hb hr))
theorem xb_cmp {op : CmpOp} {r : R2} {d d' : D} {k : Bool} (ho : OpR X (compareOp op) r) (hr : RV2 X.K r d d' (.bl k)) (ha : XV X a Γ d) (hb : XV X b Γ d') (hm : behindInMarks op b = false := by first | exact nobehind _ (by decide) (by decide) | rfl) : XB X (.Compare a [op] [b] pos) Γ k := xt_cmp ho hm ha (fun _ _ => hb) fun _ _ p q x y Hb H e r1 r2 Q w => by
  subst p q
  exact hr x y Hb H e r1 r2 Q fun z d' Hb' H' f => w z d' Hb' H' ⟨k, f, rfl⟩
/-- a test by an expression's value -/
theorem xt_val {Φ : Bool → Prop} (h : XE X m e Γ fun z => ∃ b, z = .bl b ∧ Φ b) (he : ∀ whole, isTrue e X.env whole = (do let v ← whole; standAt e.pos; holding [v] (truthy v)) := by intro _; rfl) : XT X m e Γ Φ := xt_of (pt_val pe_wp he) (jt_B h)
theorem xb_val {k : Bool} (h : XV X e Γ (.bl k)) (he : ∀ whole, isTrue e X.env whole = (do let v ← whole; standAt e.pos; holding [v] (truthy v)) := by intro _; rfl) : XB X e Γ k := xt_val (h.imp fun _ z => ⟨k, z, rfl⟩) he
/-! ### and, or, not of tests -/
def XWt (X : Cx) (m : Bool) (e : Expr) (Γ : List Sl) (Φ : Bool → Prop) : Prop := ∃ tt, PW X e tt ∧ JT X.K m tt Γ Φ
theorem xt_w {Φ : Bool → Prop} (h : XWt X m e Γ Φ) : XT X m e Γ Φ := by obtain ⟨tt, h1, h2⟩ := h; exact xt_of h1.pt h2
theorem xw_and1 {Φ : Bool → Prop} (h : XT X m a Γ Φ) : XWt X m (.BoolOp .And [a] pos) Γ Φ := ⟨_, pw_and1 pt_wp, h⟩
theorem xw_or1 {Φ : Bool → Prop} (h : XT X m a Γ Φ) : XWt X m (.BoolOp .Or [a] pos) Γ Φ := ⟨_, pw_or1 pt_wp, h⟩
theorem xw_and {Φ : Bool → Prop} {Φa : Bool → Prop} (h : XT X m a Γ Φa) (k : Φa true → XWt X m (.BoolOp .And (b :: es) pos) Γ Φ) (f : Φa false → Φ false) : XWt X m (.BoolOp .And (a :: b :: es) pos) Γ Φ := by
  by_cases z : Φa true
  · obtain ⟨tt, h1, h2⟩ := k z
    refine ⟨_, pw_and pt_wp h1, fun σ Hb H E Q q => h σ Hb H E _ fun c Hb1 H1 p1 g1 E1 => ?_⟩
    cases c with
    | true => exact iteT (h2 σ Hb1 H1 E1 Q fun c2 Hb2 H2 p2 g2 E2 => q c2 Hb2 H2 p2 (gww g1 g2) E2)
    | false => exact iteF (q false Hb1 H1 (f p1) g1 E1)
  · refine ⟨_, pw_and (tB' := fun _ _ _ => False) pt_wp ⟨fun whole pins s σ H Q I hh => (show False from hh).elim⟩, fun σ Hb H E Q q => h σ Hb H E _ fun c Hb1 H1 p1 g1 E1 => ?_⟩
    cases c with
    | true => exact absurd p1 z
    | false => exact iteF (q false Hb1 H1 (f p1) g1 E1)
theorem xw_or {Φ : Bool → Prop} {Φa : Bool → Prop} (h : XT X m a Γ Φa) (k : Φa false → XWt X m (.BoolOp .Or (b :: es) pos) Γ Φ) (f : Φa true → Φ true) : XWt X m (.BoolOp .Or (a :: b :: es) pos) Γ Φ := by
  by_cases z : Φa false
  · obtain ⟨tt, h1, h2⟩ := k z
    refine ⟨_, pw_or pt_wp h1, fun σ Hb H E Q q => h σ Hb H E _ fun c Hb1 H1 p1 g1 E1 => ?_⟩
    cases c with
    | false => exact iteF (h2 σ Hb1 H1 E1 Q fun c2 Hb2 H2 p2 g2 E2 => q c2 Hb2 H2 p2 (gww g1 g2) E2)
    | true => exact iteT (q true Hb1 H1 (f p1) g1 E1)
  · refine ⟨_, pw_or (tB' := fun _ _ _ => False) pt_wp ⟨fun whole pins s σ H Q I hh => (show False from hh).elim⟩, fun σ Hb H E Q q => h σ Hb H E _ fun c Hb1 H1 p1 g1 E1 => ?_⟩
    cases c with
    | false => exact absurd p1 z
    | true => exact iteT (q true Hb1 H1 (f p1) g1 E1)
abbrev XBw (X : Cx) (e : Expr) (Γ : List Sl) (b : Bool) : Prop := XWt X false e Γ fun z => z = b
theorem xb_and {k l : Bool} (h : XB X a Γ k) (h2 : k = true → XBw X (.BoolOp .And (b :: es) pos) Γ l) : XBw X (.BoolOp .And (a :: b :: es) pos) Γ (k && l) := xw_and h (fun z => by
  subst z
  exact h2 rfl) fun z => by subst z; rfl
theorem xb_or {k l : Bool} (h : XB X a Γ k) (h2 : k = false → XBw X (.BoolOp .Or (b :: es) pos) Γ l) : XBw X (.BoolOp .Or (a :: b :: es) pos) Γ (k || l) := xw_or h (fun z => by
  subst z
  exact h2 rfl) fun z => by subst z; rfl
theorem xt_not {Φ : Bool → Prop} (h : XT X m a Γ fun z => Φ (!z)) : XT X m (.UnaryOp .Not a pos) Γ Φ := xt_of (pt_not pt_wp) fun σ Hb H E Q q => h σ Hb H E _ fun c Hb1 H1 p1 g1 E1 => q (!c) Hb1 H1 p1 g1 E1
theorem xb_not {k : Bool} (h : XB X a Γ k) : XB X (.UnaryOp .Not a pos) Γ (!k) := xt_not (h.imp fun _ z => by rw [z])
/-! .. of values -/
theorem xv_one {op : BoolOp} {d : D} (h : XV X a Γ d) : XV X (.BoolOp op [a] pos) Γ d := xe_of (pe_one pe_wp) h
theorem xv_and {k l : Bool} (h : XV X a Γ (.bl k)) (h2 : k = true → XV X (.BoolOp .And (b :: es) pos) Γ (.bl l)) : XV X (.BoolOp .And (a :: b :: es) pos) Γ (.bl (k && l)) := by
  cases k with
  | true =>
    exact xe_of (pe_and pe_wp pe_wp) fun σ Hb H E Q q => h σ Hb H E _ fun v d Hb1 H1 p1 g1 E1 r1 => by
      subst p1
      cases r1
      exact ⟨true, rfl, iteT (h2 rfl σ Hb1 H1 E1 Q fun v2 d2 Hb2 H2 p2 g2 E2 r2 => q v2 d2 Hb2 H2 p2 (gww g1 g2) E2 r2)⟩
  | false =>
    exact xe_of (pe_and pe_wp pe_wp) fun σ Hb H E Q q => h σ Hb H E _ fun v d Hb1 H1 p1 g1 E1 r1 => by
      subst p1
      cases r1
      exact ⟨false, rfl, iteF (q _ _ Hb1 H1 rfl g1 E1 (.bl false))⟩
theorem xv_or {k l : Bool} (h : XV X a Γ (.bl k)) (h2 : k = false → XV X (.BoolOp .Or (b :: es) pos) Γ (.bl l)) : XV X (.BoolOp .Or (a :: b :: es) pos) Γ (.bl (k || l)) := by
  cases k with
  | false =>
    exact xe_of (pe_or pe_wp pe_wp) fun σ Hb H E Q q => h σ Hb H E _ fun v d Hb1 H1 p1 g1 E1 r1 => by
      subst p1
      cases r1
      exact ⟨false, rfl, iteF (h2 rfl σ Hb1 H1 E1 Q fun v2 d2 Hb2 H2 p2 g2 E2 r2 => q v2 d2 Hb2 H2 p2 (gww g1 g2) E2 r2)⟩
  | true =>
    exact xe_of (pe_or pe_wp pe_wp) fun σ Hb H E Q q => h σ Hb H E _ fun v d Hb1 H1 p1 g1 E1 r1 => by
      subst p1
      cases r1
      exact ⟨true, rfl, iteT (q _ _ Hb1 H1 rfl g1 E1 (.bl true))⟩
theorem xv_not {k : Bool} (h : XV X a Γ (.bl k)) : XV X (.UnaryOp .Not a pos) Γ (.bl (!k)) := xe_of (pe_not pe_wp) fun σ Hb H E Q q => h σ Hb H E _ fun v d Hb1 H1 p1 g1 E1 r1 => by
  subst p1
  cases r1
  exact ⟨k, rfl, q _ _ Hb1 H1 rfl g1 E1 (.bl (!k))⟩
theorem xe_if {Φt : Bool → Prop} (ht : XT X m c Γ Φt) (ha : Φt true → XE X m a Γ Φ) (hb : Φt false → XE X m b Γ Φ) : XE X m (.IfExp c a b pos) Γ Φ := xe_of (pe_ifExp pt_wp pe_wp pe_wp) fun σ Hb H E Q q => ht σ Hb H E _ fun k Hb1 H1 p1 g1 E1 => by
  cases k with
  | true => exact iteT (ha p1 σ Hb1 H1 E1 Q fun v d Hb2 H2 p2 g2 E2 r2 => q v d Hb2 H2 p2 (gww g1 g2) E2 r2)
  | false => exact iteF (hb p1 σ Hb1 H1 E1 Q fun v d Hb2 H2 p2 g2 E2 r2 => q v d Hb2 H2 p2 (gww g1 g2) E2 r2)
theorem xv_if {k : Bool} {d d' : D} (ht : XB X c Γ k) (ha : k = true → XV X a Γ d) (hb : k = false → XV X b Γ d') : XV X (.IfExp c a b pos) Γ (if k = true then d else d') := xe_if ht (fun z => by
  rw [if_pos z.symm]
  exact ha z.symm) fun z => by
  rw [if_neg (by rw [← z]; exact Bool.false_ne_true)]
  exact hb z.symm

/-! ### arguments, tuples, lists -/
theorem xa_nil : XL X [] Γ [] := xa_of pa_nil fun σ Hb H E Q q => q [] [] Hb H rfl (Gr.refl E.ex) E .nil
theorem xa_cons {Φa : D → Prop} {Φb : D → List D → Prop} {Φ : List D → Prop} (ha : XE X m e Γ Φa) (hb : ∀ d, Φa d → XA X m es Γ (Φb d)) (k : ∀ d ds, Φa d → Φb d ds → Φ (d :: ds)) (hs : starEach (e :: es) X.env = (false, eval e X.env) :: starEach es X.env := by rfl) : XA X m (e :: es) Γ Φ := xa_of (pa_cons pe_wp pa_wp hs) fun σ Hb H E Q q =>
  ha σ Hb H E _ fun x d Hb1 H1 p1 g1 E1 r1 => hb d p1 σ Hb1 H1 E1 _ fun ys ds Hb2 H2 p2 g2 E2 r2 => q _ _ Hb2 H2 (k d ds p1 p2) (gww g1 g2) E2 (.cons (r1.mono g2.b) r2)
theorem xl_cons {d : D} {ds : List D} (ha : XV X e Γ d) (hb : XL X es Γ ds) (hs : starEach (e :: es) X.env = (false, eval e X.env) :: starEach es X.env := by rfl) : XL X (e :: es) Γ (d :: ds) := xa_cons ha (fun _ _ => hb) (fun _ _ p q => by rw [p, q]) hs
theorem xe_tup {j : Nat} {Φ : List D → Prop} {Ψ : D → Prop} (h : XA X m es Γ Φ) (k : ∀ ds, Φ ds → Ψ (.tup ds)) (hl : es.length ≤ 100000 := by decide) (hz : ∀ ds, Φ ds → ds.length ≤ 100000) : XE X m (.Tuple es j pos) Γ Ψ := xe_of (pe_tup pa_wp) fun σ Hb H E Q q => h σ Hb H E _ fun vs ds Hb1 H1 p1 g1 E1 r1 =>
  ⟨sz_of (by rw [r1.len]; exact hz ds p1), fun p hp => q (.ref p) (.tup ds) _ _ (k ds p1) (gwn g1 (New.mk E1.ex hp)) (E1.new (New.mk E1.ex hp)) (.tup upd_same (r1.mono (Ex.new (fresh_back E1.ex hp))))⟩
theorem xv_tup {j : Nat} {ds : List D} (h : XL X es Γ ds) (hl : ds.length ≤ 100000 := by decide) : XV X (.Tuple es j pos) Γ (.tup ds) := xe_of (pe_tup pa_wp) fun σ Hb H E Q q => h σ Hb H E _ fun vs ds' Hb1 H1 p1 g1 E1 r1 => by
  subst p1
  exact ⟨sz_of (by rw [r1.len]; exact hl), fun p hp => q (.ref p) (.tup ds') _ _ rfl (gwn g1 (New.mk E1.ex hp)) (E1.new (New.mk E1.ex hp)) (.tup upd_same (r1.mono (Ex.new (fresh_back E1.ex hp))))⟩
theorem new_none {W : Addr → Prop} {Hb H Hb' H' : Hp} {p : Addr} (g : Gr W Hb H Hb' H') (h : H' p = none) : H p = none := by
  cases z : H p with
  | none => rfl
  | some w => exact absurd h (g.al p (by rw [z]; simp))
theorem xo_lst {ds : List D} (h : XL X es Γ ds) (hl : ds.length ≤ 100000 := by decide) : XO X (.List es pos) Γ (.ml ds) := xn_of (pe_lst pa_wp) fun σ Hb H E Q q => h σ Hb H E _ fun vs ds' Hb1 H1 p1 g1 E1 r1 => by
  subst p1
  exact ⟨sz_of (by rw [r1.len]; exact hl), fun p hp => q p (.lst vs) (.ml ds') Hb1 _ rfl (new_none g1 hp) (gwn g1 (New.side E1.ex hp)) (E1.new (New.side E1.ex hp)) (fresh_back E1.ex hp) upd_same ⟨vs, rfl, r1⟩⟩
theorem xv_lst {ds : List D} (h : XL X es Γ ds) (hl : ds.length ≤ 100000 := by decide) : XV X (.List es pos) Γ (.lst ds) := (xo_lst h hl).frz
theorem xv_ix {r : R2} {d d' f : D} (ho : IxR X r) (hr : RV2 X.K r d d' f) (ha : XV X a Γ d) (hb : XV X b Γ d') (hs : PlainIx b := by exact fun _ _ => rfl) : XV X (.Subscript a b pos) Γ f := xe_of (pe_ix ho pe_wp pe_wp hs) (jr_bin ha (fun _ _ => hb) fun _ _ p q => by subst p q; exact hr)
theorem xe_ix {r : R2} {Φa : D → Prop} {Φb : D → D → Prop} (ho : IxR X r) (ha : XE X m a Γ Φa) (hb : ∀ d, Φa d → XE X m b Γ (Φb d)) (hr : ∀ d e, Φa d → Φb d e → RR X.K r d e Φ) (hs : PlainIx b := by exact fun _ _ => rfl) : XE X m (.Subscript a b pos) Γ Φ := xe_of (pe_ix ho pe_wp pe_wp hs) (jr_bin ha hb hr)
/-! ### calls of built-ins -/
variable {x : Str} {p : Pos} {r : List V → Hp → VK → Prop} {id T : String}
theorem xe_callB {Φa : List D → Prop} (hc : CallR X (.builtin id) r) (hm : X.mg x = none) (hv : bootBuiltins x = some (.builtin id)) (ha : XA X m (e :: es) Γ Φa) (hr : ∀ ds, Φa ds → RL X.K r ds Φ) (hg : Gl X x := by rfl) (hn : x ≠ "__name__" := by decide) (hdb : (x == ("__debug__" : Str)) = false := by decide)
    (hs : starEach (e :: es) X.env = (false, eval e X.env) :: starEach es X.env := by rfl) (hpl : (backTo pos (starEach es X.env)).any (·.1) = false := by rfl) : XE X m (.Call (.Name x p) (e :: es) [] pos) Γ Φ := xe_of (pe_callB hc hg hm hv pa_wp hn hdb hs hpl) (jr_l ha hr)
theorem xn_callB {Φa : List D → Prop} {Φ : MO → Prop} (hc : CallR X (.builtin id) r) (hm : X.mg x = none) (hv : bootBuiltins x = some (.builtin id)) (ha : XA X m (e :: es) Γ Φa) (hr : ∀ ds, Φa ds → RLN X.K r ds Φ) (hg : Gl X x := by rfl) (hn : x ≠ "__name__" := by decide) (hdb : (x == ("__debug__" : Str)) = false := by decide)
    (hs : starEach (e :: es) X.env = (false, eval e X.env) :: starEach es X.env := by rfl) (hpl : (backTo pos (starEach es X.env)).any (·.1) = false := by rfl) : XN X m (.Call (.Name x p) (e :: es) [] pos) Γ Φ := xn_of (pe_callB hc hg hm hv pa_wp hn hdb hs hpl) (jn_l ha hr)
theorem xe_callT {Φa : List D → Prop} (hc : CallR X (.type T) r) (hm : X.mg x = none) (hv : bootBuiltins x = some (.type T)) (ha : XA X m (e :: es) Γ Φa) (hr : ∀ ds, Φa ds → RL X.K r ds Φ) (hg : Gl X x := by rfl) (hn : x ≠ "__name__" := by decide) (hdb : (x == ("__debug__" : Str)) = false := by decide)
    (hs : starEach (e :: es) X.env = (false, eval e X.env) :: starEach es X.env := by rfl) (hpl : (backTo pos (starEach es X.env)).any (·.1) = false := by rfl) : XE X m (.Call (.Name x p) (e :: es) [] pos) Γ Φ := xe_of (pe_callTy hc hg hm hv pa_wp hn hdb hs hpl) (jr_l ha hr)
theorem xn_callT {Φa : List D → Prop} {Φ : MO → Prop} (hc : CallR X (.type T) r) (hm : X.mg x = none) (hv : bootBuiltins x = some (.type T)) (ha : XA X m (e :: es) Γ Φa) (hr : ∀ ds, Φa ds → RLN X.K r ds Φ) (hg : Gl X x := by rfl) (hn : x ≠ "__name__" := by decide) (hdb : (x == ("__debug__" : Str)) = false := by decide)
    (hs : starEach (e :: es) X.env = (false, eval e X.env) :: starEach es X.env := by rfl) (hpl : (backTo pos (starEach es X.env)).any (·.1) = false := by rfl) : XN X m (.Call (.Name x p) (e :: es) [] pos) Γ Φ := xn_of (pe_callTy hc hg hm hv pa_wp hn hdb hs hpl) (jn_l ha hr)
end
end DL

namespace DL
open PySem PySem.Spec PyProof.Rows L2 Evl

/-! ### data as the library's data, for == and in -/
mutual
def D.py : D → PyData
  | .non => .none | .bl b => .bool b | .int i => .int i | .str s => .str s
  | .lst l => .list (pyL l) | .tup l => .tuple (pyL l)
  | .ins _ _ _ => .dict [] | .dic _ _ => .dict [] | .sc _ => .dict []
def pyL : List D → List PyData
  | [] => []
  | d :: r => d.py :: pyL r
end
theorem pyL_map : ∀ l : List D, pyL l = l.map D.py
  | [] => rfl
  | d :: r => by rw [pyL, pyL_map r]; rfl
mutual
/-- plain data not deeper than n -/
def D.ok : D → Nat → Bool
  | .non, _ => true | .bl _, _ => true | .int _, _ => true
  | .str s, _ => PyData.strOk s
  | .lst l, n + 1 => okL l n
  | .tup l, n + 1 => okL l n
  | .lst _, 0 => false | .tup _, 0 => false
  | .ins _ _ _, _ => false | .dic _ _, _ => false | .sc _, _ => false
def okL : List D → Nat → Bool
  | [], _ => true
  | d :: r, n => d.ok n && okL r n
end
theorem okL_iff : ∀ {l : List D} {n : Nat}, okL l n = true ↔ ∀ d ∈ l, d.ok n = true
  | [], n => ⟨fun _ _ h => (List.not_mem_nil h).elim, fun _ => rfl⟩
  | d :: r, n => by
    rw [okL, Bool.and_eq_true, okL_iff (l := r)]
    exact ⟨fun h x hx => (List.mem_cons.mp hx).elim (fun e => e ▸ h.1) (h.2 x), fun h => ⟨h d (List.mem_cons_self ..), fun x hx => h x (List.mem_cons_of_mem _ hx)⟩⟩
section
variable {K : PySem.W.Frag} {H : Hp}
mutual
theorem DR.dp : ∀ {v : V} {d : D} {n : Nat}, DR K H v d → d.ok n = true → Dp K H v d.py
  | _, _, _, .non, _ => .non
  | _, _, _, .bl b, _ => .bl b
  | _, _, _, .int i, _ => .int i
  | _, _, _, .str s, _ => .str s
  | _, _, n + 1, .lst h r, k => .lst (SqL.of h) (DRs.dp r k)
  | _, _, n + 1, .tup h r, k => .tup (SqT.of h) (DRs.dp r k)
  | _, _, 0, .lst h r, k => by cases k
  | _, _, 0, .tup h r, k => by cases k
  | _, _, n, .ins _ _ _ _, k => by cases n <;> cases k
  | _, _, n, .dic _ _ _ _, k => by cases n <;> cases k
  | _, _, n, .sc _, k => by cases n <;> cases k
theorem DRs.dp : ∀ {vs : List V} {ds : List D} {n : Nat}, DRs K H vs ds → okL ds n = true → DpAll K H vs (pyL ds)
  | _, _, _, .nil, _ => .nil
  | _, _, n, .cons h t, k => by
    rw [okL, Bool.and_eq_true] at k
    exact .cons (DR.dp h k.1) (DRs.dp t k.2)
end
end
mutual
theorem ok_depth : ∀ {d : D} {n : Nat}, d.ok n = true → d.py.canLay0 = true ∧ d.py.depth ≤ n
  | .non, n, _ => ⟨rfl, Nat.zero_le _⟩
  | .bl b, n, _ => ⟨rfl, Nat.zero_le _⟩
  | .int i, n, _ => ⟨rfl, Nat.zero_le _⟩
  | .str s, n, h => ⟨h, Nat.zero_le _⟩
  | .lst l, n + 1, h => ⟨(okL_depth h).1, Nat.succ_le_succ (okL_depth h).2⟩
  | .tup l, n + 1, h => ⟨(okL_depth h).1, Nat.succ_le_succ (okL_depth h).2⟩
  | .lst l, 0, h => by cases h
  | .tup l, 0, h => by cases h
  | .ins _ _ _, n, h => by cases n <;> cases h
  | .dic _ _, n, h => by cases n <;> cases h
  | .sc _, n, h => by cases n <;> cases h
theorem okL_depth : ∀ {l : List D} {n : Nat}, okL l n = true → PyData.canLayAll0 (pyL l) = true ∧ PyData.depthAll (pyL l) ≤ n
  | [], n, _ => ⟨rfl, Nat.zero_le _⟩
  | d :: r, n, h => by
    rw [okL, Bool.and_eq_true] at h
    have h1 := ok_depth h.1
    have h2 := okL_depth h.2
    refine ⟨?_, ?_⟩
    · show (d.py.canLay0 && PyData.canLayAll0 (pyL r)) = true
      rw [h1.1, h2.1]; rfl
    · exact Nat.max_le.mpr ⟨h1.2, h2.2⟩
end
theorem ok_shaped {d : D} {n : Nat} (h : d.ok n = true) (k : n ≤ 64 := by decide) : SeqAt.shaped d.py = true := by
  have h1 := ok_depth h
  show (d.py.canLay0 && decide (d.py.depth ≤ 64)) = true
  rw [h1.1, decide_eq_true (by omega)]
  rfl

/-! ### how typed values stand as data -/
class Enc {α : Type} [DecidableEq α] (f : α → D) (n : outParam Nat) : Prop where
  ok : ∀ x, (f x).ok n = true
  eq : ∀ x y, PyData.eqv (f x).py (f y).py = decide (x = y)
def tT {α : Type} (f : α → D) (l : List α) : D := .tup (l.map f)
def lT {α : Type} (f : α → D) (l : List α) : D := .lst (l.map f)
def pT {α β : Type} (f : α → D) (g : β → D) (p : α × β) : D := .tup [f p.1, g p.2]
def oT {α : Type} (f : α → D) : Option α → D
  | none => .non
  | some x => f x
theorem eqvAll_map {α : Type} [DecidableEq α] {f : α → D} (h : ∀ x y, PyData.eqv (f x).py (f y).py = decide (x = y)) : ∀ l m : List α, PyData.eqvAll (pyL (l.map f)) (pyL (m.map f)) = decide (l = m)
  | [], [] => rfl
  | [], y :: m => rfl
  | x :: l, [] => rfl
  | x :: l, y :: m => by
    show (PyData.eqv (f x).py (f y).py && PyData.eqvAll (pyL (l.map f)) (pyL (m.map f))) = _
    rw [h x y, eqvAll_map h l m]
    by_cases e : x = y
    · by_cases e2 : l = m
      · rw [decide_eq_true e, decide_eq_true e2, decide_eq_true (by rw [e, e2])]; rfl
      · rw [decide_eq_false e2, Bool.and_false, decide_eq_false fun z => e2 (List.cons.inj z).2]
    · rw [decide_eq_false e, Bool.false_and, decide_eq_false fun z => e (List.cons.inj z).1]
theorem okL_map {α : Type} {f : α → D} {n : Nat} (h : ∀ x, (f x).ok n = true) (l : List α) : okL (l.map f) n = true := okL_iff.mpr fun d hd => by
  obtain ⟨x, _, rfl⟩ := List.mem_map.mp hd
  exact h x
mutual
theorem ok_up : ∀ {d : D} {n k : Nat}, d.ok n = true → n ≤ k → d.ok k = true
  | .non, _, k, _, _ => by cases k <;> rfl
  | .bl _, _, k, _, _ => by cases k <;> rfl
  | .int _, _, k, _, _ => by cases k <;> rfl
  | .str _, n, k, h, _ => by cases n <;> cases k <;> exact h
  | .lst l, n + 1, k + 1, h, e => okL_up (l := l) (n := n) (k := k) h (Nat.le_of_succ_le_succ e)
  | .tup l, n + 1, k + 1, h, e => okL_up (l := l) (n := n) (k := k) h (Nat.le_of_succ_le_succ e)
  | .lst _, 0, _, h, _ => by cases h
  | .tup _, 0, _, h, _ => by cases h
  | .lst _, n + 1, 0, _, e => by omega
  | .tup _, n + 1, 0, _, e => by omega
  | .ins _ _ _, n, _, h, _ => by cases n <;> cases h
  | .dic _ _, n, _, h, _ => by cases n <;> cases h
  | .sc _, n, _, h, _ => by cases n <;> cases h
theorem okL_up : ∀ {l : List D} {n k : Nat}, okL l n = true → n ≤ k → okL l k = true
  | [], _, _, _, _ => rfl
  | d :: r, n, k, h, e => by
    rw [okL, Bool.and_eq_true] at h ⊢
    exact ⟨ok_up h.1 e, okL_up h.2 e⟩
end
instance encI : Enc D.int 0 := ⟨fun _ => rfl, fun x y => by
  show (x == y) = decide (x = y)
  exact Bool.beq_eq_decide_eq x y⟩
instance encB : Enc D.bl 0 := ⟨fun _ => rfl, fun x y => by cases x <;> cases y <;> rfl⟩
instance encT {α : Type} [DecidableEq α] {f : α → D} {n : Nat} [h : Enc f n] : Enc (tT f) (n + 1) := ⟨fun l => okL_map h.ok l, fun l m => eqvAll_map h.eq l m⟩
instance encL {α : Type} [DecidableEq α] {f : α → D} {n : Nat} [h : Enc f n] : Enc (lT f) (n + 1) := ⟨fun l => okL_map h.ok l, fun l m => eqvAll_map h.eq l m⟩
instance encP {α β : Type} [DecidableEq α] [DecidableEq β] {f : α → D} {g : β → D} {n k : Nat} [h : Enc f n] [h2 : Enc g k] : Enc (pT f g) (max n k + 1) := ⟨fun p => by
  show ((f p.1).ok (max n k) && ((g p.2).ok (max n k) && true)) = true
  rw [ok_up (h.ok p.1) (Nat.le_max_left ..), ok_up (h2.ok p.2) (Nat.le_max_right ..)]
  rfl, fun p q => by
  show (PyData.eqv (f p.1).py (f q.1).py && (PyData.eqv (g p.2).py (g q.2).py && true)) = _
  rw [h.eq, h2.eq, Bool.and_true]
  by_cases e : p.1 = q.1
  · by_cases e2 : p.2 = q.2
    · rw [decide_eq_true e, decide_eq_true e2, decide_eq_true (Prod.ext e e2)]; rfl
    · rw [decide_eq_false e2, Bool.and_false, decide_eq_false fun z => e2 (by rw [z])]
  · rw [decide_eq_false e, Bool.false_and, decide_eq_false fun z => e (by rw [z])]⟩

/-! ### what operators give -/
section
variable {K : PySem.W.Frag}
theorem rv_scal {r : R2} {d e f : D} (h : ∀ x y Hb H, Ex Hb H → DR K Hb x d → DR K Hb y e → ∃ z, DR K Hb z f ∧ ∀ Q : VK, Q z H → r x y H Q) : RV2 K r d e f := fun x y Hb H ex h1 h2 Q q => by
  obtain ⟨z, r1, k⟩ := h x y Hb H ex h1 h2
  exact k Q (q z f Hb H rfl (Gr.refl ex) r1)
theorem rv_I0' {g : Int → Int → V} {i j : Int} {f : D} (h : ∀ Hb, DR K Hb (g i j) f) : RV2 K (rI0 g) (.int i) (.int j) f := rv_scal fun x y Hb H ex h1 h2 => by
  cases h1
  cases h2
  exact ⟨g i j, h Hb, fun Q q => ⟨i, j, rfl, rfl, q⟩⟩
theorem rv_I' {C : Int → Int → Prop} {g : Int → Int → V} {i j : Int} {f : D} (h : ∀ Hb, DR K Hb (g i j) f) (c : C i j) : RV2 K (rI C g) (.int i) (.int j) f := rv_scal fun x y Hb H ex h1 h2 => by
  cases h1
  cases h2
  exact ⟨g i j, h Hb, fun Q q => ⟨i, j, rfl, rfl, c, q⟩⟩
variable {i j : Int}
theorem v_add : RV2 K (rI0 fun i j => .int (i + j)) (.int i) (.int j) (.int (i + j)) := rv_I0' fun _ => .int _
theorem v_sub : RV2 K (rI0 fun i j => .int (i - j)) (.int i) (.int j) (.int (i - j)) := rv_I0' fun _ => .int _
theorem v_and : RV2 K (rI0 fun i j => .int (Builtin.bitAnd i j)) (.int i) (.int j) (.int (Builtin.bitAnd i j)) := rv_I0' fun _ => .int _
theorem v_mul (c : CMul i j) : RV2 K (rI CMul fun i j => .int (i * j)) (.int i) (.int j) (.int (i * j)) := rv_I' (fun _ => .int _) c
theorem v_fdiv (c : CDiv i j) : RV2 K (rI CDiv fun i j => .int (i / j)) (.int i) (.int j) (.int (i / j)) := rv_I' (fun _ => .int _) c
theorem v_mod (c : 0 < j) : RV2 K (rI (fun _ j => 0 < j) fun i j => .int (i % j)) (.int i) (.int j) (.int (i % j)) := rv_I' (fun _ => .int _) c
theorem v_pow (c : CPow i j) : RV2 K (rI CPow fun i j => .int (i ^ j.toNat)) (.int i) (.int j) (.int (i ^ j.toNat)) := rv_I' (fun _ => .int _) c
theorem v_shl (c : CPow i j) : RV2 K (rI CPow fun i j => .int (i * 2 ^ j.toNat)) (.int i) (.int j) (.int (i * 2 ^ j.toNat)) := rv_I' (fun _ => .int _) c
theorem v_shr (c : 0 ≤ j) : RV2 K (rI (fun _ j => 0 ≤ j) fun i j => .int (i / 2 ^ j.toNat)) (.int i) (.int j) (.int (i / 2 ^ j.toNat)) := rv_I' (fun _ => .int _) c
theorem v_lt : RV2 K (rI0 fun i j => .bl (decide (i < j))) (.int i) (.int j) (.bl (decide (i < j))) := rv_I0' fun _ => .bl _
theorem v_le : RV2 K (rI0 fun i j => .bl (decide (i ≤ j))) (.int i) (.int j) (.bl (decide (i ≤ j))) := rv_I0' fun _ => .bl _
theorem v_gt : RV2 K (rI0 fun i j => .bl (decide (j < i))) (.int i) (.int j) (.bl (decide (j < i))) := rv_I0' fun _ => .bl _
theorem v_ge : RV2 K (rI0 fun i j => .bl (decide (j ≤ i))) (.int i) (.int j) (.bl (decide (j ≤ i))) := rv_I0' fun _ => .bl _
/-- == of data -/
theorem v_eqD {d e : D} {n k : Nat} (hd : d.ok n = true) (he : e.ok k = true) (hn : n ≤ 64 := by decide) (hk : k ≤ 64 := by decide) : RV2 K (rEqD K) d e (.bl (PyData.eqv d.py e.py)) := rv_scal fun x y Hb H ex h1 h2 =>
  ⟨.bl _, .bl _, fun Q q => ⟨d.py, e.py, (h1.mono ex).dp hd, (h2.mono ex).dp he, ok_shaped hd hn, ok_shaped he hk, q⟩⟩
theorem v_neD {d e : D} {n k : Nat} (hd : d.ok n = true) (he : e.ok k = true) (hn : n ≤ 64 := by decide) (hk : k ≤ 64 := by decide) : RV2 K (rNeD K) d e (.bl (!PyData.eqv d.py e.py)) := rv_scal fun x y Hb H ex h1 h2 =>
  ⟨.bl _, .bl _, fun Q q => ⟨d.py, e.py, (h1.mono ex).dp hd, (h2.mono ex).dp he, ok_shaped hd hn, ok_shaped he hk, q⟩⟩
theorem v_eq {α : Type} [DecidableEq α] {f : α → D} {n : Nat} [h : Enc f n] {x y : α} (hn : n ≤ 64 := by decide) : RV2 K (rEqD K) (f x) (f y) (.bl (decide (x = y))) := by
  rw [← h.eq x y]
  exact v_eqD (h.ok x) (h.ok y) hn hn
theorem v_ne {α : Type} [DecidableEq α] {f : α → D} {n : Nat} [h : Enc f n] {x y : α} (hn : n ≤ 64 := by decide) : RV2 K (rNeD K) (f x) (f y) (.bl (!decide (x = y))) := by
  rw [← h.eq x y]
  exact v_neD (h.ok x) (h.ok y) hn hn
/-- == of scalars -/
def D.scal : D → D → Bool
  | .int _, .int _ => true
  | .str _, .str _ => true
  | .bl _, .bl _ => true
  | _, _ => false
theorem v_eqS {x y : Str} : RV2 K rEq (.str x) (.str y) (.bl (decide (x = y))) := rv_scal fun u w Hb H ex h1 h2 => by
  cases h1
  cases h2
  refine ⟨.bl (decide (V.str x = V.str y)), ?_, fun Q q => ⟨rfl, q⟩⟩
  have e : decide (V.str x = V.str y) = decide (x = y) := by
    by_cases z : x = y
    · rw [decide_eq_true z, decide_eq_true (by rw [z])]
    · rw [decide_eq_false z, decide_eq_false fun q => z (V.str.inj q)]
  rw [e]
  exact .bl _
theorem v_neS {x y : Str} : RV2 K rNe (.str x) (.str y) (.bl (!decide (x = y))) := rv_scal fun u w Hb H ex h1 h2 => by
  cases h1
  cases h2
  refine ⟨.bl (!decide (V.str x = V.str y)), ?_, fun Q q => ⟨rfl, q⟩⟩
  have e : decide (V.str x = V.str y) = decide (x = y) := by
    by_cases z : x = y
    · rw [decide_eq_true z, decide_eq_true (by rw [z])]
    · rw [decide_eq_false z, decide_eq_false fun q => z (V.str.inj q)]
  rw [e]
  exact .bl _
theorem v_eqI : RV2 K rEq (.int i) (.int j) (.bl (decide (i = j))) := rv_scal fun u w Hb H ex h1 h2 => by
  cases h1
  cases h2
  refine ⟨.bl (decide (V.int i = V.int j)), ?_, fun Q q => ⟨rfl, q⟩⟩
  have e : decide (V.int i = V.int j) = decide (i = j) := by
    by_cases z : i = j
    · rw [decide_eq_true z, decide_eq_true (by rw [z])]
    · rw [decide_eq_false z, decide_eq_false fun q => z (V.int.inj q)]
  rw [e]
  exact .bl _
theorem v_neI : RV2 K rNe (.int i) (.int j) (.bl (!decide (i = j))) := rv_scal fun u w Hb H ex h1 h2 => by
  cases h1
  cases h2
  refine ⟨.bl (!decide (V.int i = V.int j)), ?_, fun Q q => ⟨rfl, q⟩⟩
  have e : decide (V.int i = V.int j) = decide (i = j) := by
    by_cases z : i = j
    · rw [decide_eq_true z, decide_eq_true (by rw [z])]
    · rw [decide_eq_false z, decide_eq_false fun q => z (V.int.inj q)]
  rw [e]
  exact .bl _
theorem v_eqB {x y : Bool} : RV2 K rEq (.bl x) (.bl y) (.bl (x == y)) := rv_scal fun u w Hb H ex h1 h2 => by
  cases h1
  cases h2
  refine ⟨.bl (decide (V.bl x = V.bl y)), ?_, fun Q q => ⟨rfl, q⟩⟩
  have e : decide (V.bl x = V.bl y) = (x == y) := by cases x <;> cases y <;> rfl
  rw [e]
  exact .bl _
theorem v_neB {x y : Bool} : RV2 K rNe (.bl x) (.bl y) (.bl (x != y)) := rv_scal fun u w Hb H ex h1 h2 => by
  cases h1
  cases h2
  refine ⟨.bl (!decide (V.bl x = V.bl y)), ?_, fun Q q => ⟨rfl, q⟩⟩
  have e : (!decide (V.bl x = V.bl y)) = (x != y) := by cases x <;> cases y <;> rfl
  rw [e]
  exact .bl _
theorem v_isN {d : D} : RV2 K (fun x y H Q => y = .non ∧ Q (.bl (decide (x = .non))) H) d .non (.bl d.isN) := rv_scal fun x y Hb H ex h1 h2 => by
  cases h2
  refine ⟨.bl (decide (x = .non)), ?_, fun Q q => ⟨rfl, q⟩⟩
  rw [dr_non h1]
  exact .bl _
theorem v_notN {d : D} : RV2 K (fun x y H Q => y = .non ∧ Q (.bl (!decide (x = .non))) H) d .non (.bl (!d.isN)) := rv_scal fun x y Hb H ex h1 h2 => by
  cases h2
  refine ⟨.bl (!decide (x = .non)), ?_, fun Q q => ⟨rfl, q⟩⟩
  rw [dr_non h1]
  exact .bl _
/-! sequences -/
theorem atI_map {α : Type} {f : α → D} {l : List α} {i : Int} {x : α} (h : atI l i = some x) : atI (l.map f) i = some (f x) := by
  unfold atI at h ⊢
  rw [List.length_map]
  cases e : ixN l.length i with
  | none => rw [e] at h; cases h
  | some k =>
    rw [e] at h
    show (l.map f)[k]? = some (f x)
    rw [List.getElem?_map, show l[k]? = some x from h]
    rfl
theorem DRs.atI {Hb : Hp} {vs : List V} {ds : List D} {i : Int} {d : D} (r : DRs K Hb vs ds) (h : L2.atI ds i = some d) : ∃ v, L2.atI vs i = some v ∧ DR K Hb v d := by
  unfold L2.atI at h ⊢
  rw [r.len]
  cases e : ixN ds.length i with
  | none => rw [e] at h; cases h
  | some k =>
    rw [e] at h
    exact r.get (i := k) h
theorem v_ixL {ds : List D} {f : D} (h : atI ds i = some f) : RV2 K (rIxL K) (.lst ds) (.int i) f := rv_scal fun x y Hb H ex h1 h2 => by
  cases h1 with
  | lst ha r =>
    cases h2
    obtain ⟨v, e1, e2⟩ := r.atI h
    exact ⟨v, e2, fun Q q => ⟨_, _, i, v, rfl, rfl, SqL.of (ex _ _ ha), e1, q⟩⟩
theorem v_ixT {ds : List D} {f : D} (h : atI ds i = some f) : RV2 K (rIxT K) (.tup ds) (.int i) f := rv_scal fun x y Hb H ex h1 h2 => by
  cases h1 with
  | tup ha r =>
    cases h2
    obtain ⟨v, e1, e2⟩ := r.atI h
    exact ⟨v, e2, fun Q q => ⟨_, _, i, v, rfl, rfl, xt ex ha, e1, q⟩⟩
theorem v_ixLT {α : Type} {f : α → D} {l : List α} {x : α} (h : atI l i = some x) : RV2 K (rIxL K) (lT f l) (.int i) (f x) := v_ixL (atI_map h)
theorem v_ixTT {α : Type} {f : α → D} {l : List α} {x : α} (h : atI l i = some x) : RV2 K (rIxT K) (tT f l) (.int i) (f x) := v_ixT (atI_map h)
theorem v_catL {ds es : List D} (hz : ds.length + es.length ≤ 100000) : RRN K rCat (.lst ds) (.lst es) fun z => z = .ml (ds ++ es) := fun x y Hb H ex h1 h2 Q q => by
  cases h1 with
  | lst ha r1 =>
    cases h2 with
    | lst hb r2 =>
      exact ⟨_, _, _, _, rfl, rfl, ex _ _ ha, ex _ _ hb, sz_of (by rw [r1.len, r2.len]; exact hz), fun p hp => q p _ _ Hb _ rfl hp (New.side ex hp) (fresh_back ex hp) upd_same ⟨_, rfl, r1.app r2⟩⟩
theorem v_catT {ds es : List D} (hz : ds.length + es.length ≤ 100000) : RV2 K (rCatA K) (.tup ds) (.tup es) (.tup (ds ++ es)) := fun x y Hb H ex h1 h2 Q q => by
  cases h1 with
  | @tup a vs _ ha r1 =>
    cases h2 with
    | @tup b ws _ hb r2 =>
      refine ⟨a, b, vs, ws, rfl, rfl, xt ex ha, xt ex hb, sz_of (by rw [r1.len, r2.len]; exact hz), fun e => ?_, fun _ e => ?_, fun _ _ p hp => ?_⟩
      · subst e
        cases r1
        exact q _ _ Hb H rfl (Gr.refl ex) (.tup hb r2)
      · subst e
        cases r2
        rw [List.append_nil] at q
        exact q _ _ Hb H rfl (Gr.refl ex) (.tup ha r1)
      · exact q _ _ _ _ rfl (New.mk ex hp) (.tup upd_same ((r1.app r2).mono (Ex.new (fresh_back ex hp))))
theorem any_map {α : Type} [DecidableEq α] {f : α → D} {n : Nat} [h : Enc f n] {x : α} : ∀ l : List α, ((pyL (l.map f)).any fun z => PyData.eqv z (f x).py) = decide (x ∈ l)
  | [] => by
    rw [decide_eq_false (by simp)]
    rfl
  | y :: l => by
    show (PyData.eqv (f y).py (f x).py || (pyL (l.map f)).any fun z => PyData.eqv z (f x).py) = _
    rw [any_map l, h.eq]
    by_cases e : y = x
    · subst e
      rw [decide_eq_true rfl, decide_eq_true (List.mem_cons_self ..)]; rfl
    · by_cases e2 : x ∈ l
      · rw [decide_eq_true e2, Bool.or_true, decide_eq_true (List.mem_cons_of_mem _ e2)]
      · rw [decide_eq_false e, decide_eq_false e2, decide_eq_false fun z => (List.mem_cons.mp z).elim (fun q => e q.symm) e2]; rfl
theorem v_inL {α : Type} [DecidableEq α] {f : α → D} {n : Nat} [h : Enc f n] {x : α} {l : List α} (hn : n ≤ 63 := by decide) : RV2 K (rInD K) (f x) (lT f l) (.bl (decide (x ∈ l))) := by
  rw [← any_map (f := f) l]
  exact rv_scal fun u w Hb H ex h1 h2 => ⟨.bl _, .bl _, fun Q q => ⟨(f x).py, pyL (l.map f), (h1.mono ex).dp (h.ok x), (h2.mono ex).dp (n := n + 1) (okL_map h.ok l), ok_shaped (h.ok x) (by omega), ok_shaped (d := lT f l) (n := n + 1) (okL_map h.ok l) (by omega), q⟩⟩
theorem v_niL {α : Type} [DecidableEq α] {f : α → D} {n : Nat} [h : Enc f n] {x : α} {l : List α} (hn : n ≤ 63 := by decide) : RV2 K (rNotInD K) (f x) (lT f l) (.bl (!decide (x ∈ l))) := by
  rw [← any_map (f := f) l]
  exact rv_scal fun u w Hb H ex h1 h2 => ⟨.bl _, .bl _, fun Q q => ⟨(f x).py, pyL (l.map f), (h1.mono ex).dp (h.ok x), (h2.mono ex).dp (n := n + 1) (okL_map h.ok l), ok_shaped (h.ok x) (by omega), ok_shaped (d := lT f l) (n := n + 1) (okL_map h.ok l) (by omega), q⟩⟩
/-- ints in a tuple (or list) of ints -/
theorem DRs.ints {Hb : Hp} : ∀ {vs : List V} {ns : List Int}, DRs K Hb vs (ns.map D.int) → vs = ns.map V.int
  | _, [], h => by cases h; rfl
  | _, n :: ns, h => by
    cases h with
    | cons a b =>
      cases a
      rw [DRs.ints b]
      rfl
theorem DRs.bools {Hb : Hp} : ∀ {vs : List V} {ns : List Bool}, DRs K Hb vs (ns.map D.bl) → vs = ns.map V.bl
  | _, [], h => by cases h; rfl
  | _, n :: ns, h => by
    cases h with
    | cons a b =>
      cases a
      rw [DRs.bools b]
      rfl
theorem drs_ints {Hb : Hp} : ∀ ns : List Int, DRs K Hb (ns.map V.int) (ns.map D.int)
  | [] => .nil
  | n :: ns => .cons (.int n) (drs_ints ns)
theorem all_flat (ns : List Int) : (ns.map V.int).all flatV = true := List.all_eq_true.mpr fun x hx => by
  obtain ⟨n, _, rfl⟩ := List.mem_map.mp hx
  rfl
theorem inV_int {x : Int} : ∀ ns : List Int, inV (.int x) (ns.map V.int) = decide (x ∈ ns)
  | [] => by
    rw [decide_eq_false (by simp)]
    rfl
  | n :: ns => by
    show ((n == x) || inV (.int x) (ns.map V.int)) = _
    rw [inV_int ns]
    by_cases e : n = x
    · subst e; simp
    · have e' : ¬ x = n := fun z => e z.symm
      simp [e, e']
theorem v_inT {x : Int} {l : List Int} : RV2 K (rIn K false) (.int x) (tT D.int l) (.bl (decide (x ∈ l))) := rv_scal fun u w Hb H ex h1 h2 => by
  cases h1
  cases h2 with
  | @tup a vs _ ha r =>
    have e := r.ints
    subst e
    refine ⟨.bl (inV (.int x) (l.map V.int)), by rw [inV_int]; exact .bl _, fun Q q => ⟨a, _, rfl, .inr (xt ex ha), rfl, all_flat l, q⟩⟩
theorem v_niT {x : Int} {l : List Int} : RV2 K (rIn K true) (.int x) (tT D.int l) (.bl (!decide (x ∈ l))) := rv_scal fun u w Hb H ex h1 h2 => by
  cases h1
  cases h2 with
  | @tup a vs _ ha r =>
    have e := r.ints
    subst e
    refine ⟨.bl (!inV (.int x) (l.map V.int)), by rw [inV_int]; exact .bl _, fun Q q => ⟨a, _, rfl, .inr (xt ex ha), rfl, all_flat l, q⟩⟩
theorem v_inLI {x : Int} {l : List Int} : RV2 K (rIn K false) (.int x) (lT D.int l) (.bl (decide (x ∈ l))) := rv_scal fun u w Hb H ex h1 h2 => by
  cases h1
  cases h2 with
  | @lst a vs _ ha r =>
    have e := r.ints
    subst e
    refine ⟨.bl (inV (.int x) (l.map V.int)), by rw [inV_int]; exact .bl _, fun Q q => ⟨a, _, rfl, .inl (SqL.of (ex _ _ ha)), rfl, all_flat l, q⟩⟩
theorem v_niLI {x : Int} {l : List Int} : RV2 K (rIn K true) (.int x) (lT D.int l) (.bl (!decide (x ∈ l))) := rv_scal fun u w Hb H ex h1 h2 => by
  cases h1
  cases h2 with
  | @lst a vs _ ha r =>
    have e := r.ints
    subst e
    refine ⟨.bl (!inV (.int x) (l.map V.int)), by rw [inV_int]; exact .bl _, fun Q q => ⟨a, _, rfl, .inl (SqL.of (ex _ _ ha)), rfl, all_flat l, q⟩⟩

/-! ### what built-ins give -/
theorem rl_scal {r : List V → Hp → VK → Prop} {ds : List D} {f : D} (h : ∀ xs Hb H, Ex Hb H → DRs K Hb xs ds → ∃ z, DR K Hb z f ∧ ∀ Q : VK, Q z H → r xs H Q) : RL K r ds fun z => z = f := fun xs Hb H ex h1 Q q => by
  obtain ⟨z, r1, k⟩ := h xs Hb H ex h1
  exact k Q (q z f Hb H rfl (Gr.refl ex) r1)
theorem DRs.one_inv {Hb : Hp} {vs : List V} {d : D} (h : DRs K Hb vs [d]) : ∃ v, vs = [v] ∧ DR K Hb v d := by
  cases h with
  | cons a b => cases b; exact ⟨_, rfl, a⟩
theorem DRs.two_inv {Hb : Hp} {vs : List V} {d e : D} (h : DRs K Hb vs [d, e]) : ∃ v w, vs = [v, w] ∧ DR K Hb v d ∧ DR K Hb w e := by
  cases h with
  | cons a b =>
    cases b with
    | cons b c => cases c; exact ⟨_, _, rfl, a, b⟩
theorem l_len {d : D} {n : Nat} (h : d = .lst l ∧ l.length = n ∨ d = .tup l ∧ l.length = n) : RL K (fun xs H Q => ∃ p ys, xs = [.ref p] ∧ (SqL K H p ys ∨ SqT K H p ys) ∧ Q (.int ys.length) H) [d] fun z => z = .int n := rl_scal fun xs Hb H ex h1 => by
  obtain ⟨v, rfl, r⟩ := h1.one_inv
  rcases h with ⟨rfl, rfl⟩ | ⟨rfl, rfl⟩
  · cases r with
    | lst ha q => exact ⟨_, by rw [← q.len]; exact .int _, fun Q k => ⟨_, _, rfl, .inl (SqL.of (ex _ _ ha)), k⟩⟩
  · cases r with
    | tup ha q => exact ⟨_, by rw [← q.len]; exact .int _, fun Q k => ⟨_, _, rfl, .inr (xt ex ha), k⟩⟩
theorem l_lenL {l : List D} : RL K (fun xs H Q => ∃ p ys, xs = [.ref p] ∧ (SqL K H p ys ∨ SqT K H p ys) ∧ Q (.int ys.length) H) [.lst l] fun z => z = .int l.length := l_len (.inl ⟨rfl, rfl⟩)
theorem l_lenT {l : List D} : RL K (fun xs H Q => ∃ p ys, xs = [.ref p] ∧ (SqL K H p ys ∨ SqT K H p ys) ∧ Q (.int ys.length) H) [.tup l] fun z => z = .int l.length := l_len (.inr ⟨rfl, rfl⟩)
theorem l_tupleL {l : List D} : RL K (fun xs H Q => ∃ p ys, xs = [.ref p] ∧ ((SqL K H p ys ∧ ∀ l, H l = none → Q (.ref l) (upd H l (.tup ys))) ∨ (SqT K H p ys ∧ Q (.ref p) H))) [.lst l] fun z => z = .tup l := fun xs Hb H ex h1 Q q => by
  obtain ⟨v, rfl, r⟩ := h1.one_inv
  cases r with
  | lst ha k => exact ⟨_, _, rfl, .inl ⟨SqL.of (ex _ _ ha), fun p hp => q _ _ _ _ rfl (New.mk ex hp) (.tup upd_same (k.mono (Ex.new (fresh_back ex hp))))⟩⟩
theorem l_tupleT {l : List D} : RL K (fun xs H Q => ∃ p ys, xs = [.ref p] ∧ ((SqL K H p ys ∧ ∀ l, H l = none → Q (.ref l) (upd H l (.tup ys))) ∨ (SqT K H p ys ∧ Q (.ref p) H))) [.tup l] fun z => z = .tup l := fun xs Hb H ex h1 Q q => by
  obtain ⟨v, rfl, r⟩ := h1.one_inv
  cases r with
  | tup ha k => exact ⟨_, _, rfl, .inr ⟨xt ex ha, q _ _ Hb H rfl (Gr.refl ex) (.tup ha k)⟩⟩
theorem l_listL {l : List D} : RLN K (fun xs H Q => ∃ p ys, xs = [.ref p] ∧ (SqL K H p ys ∨ SqT K H p ys) ∧ ∀ l, H l = none → Q (.ref l) (upd H l (.lst ys))) [.lst l] fun z => z = .ml l := fun xs Hb H ex h1 Q q => by
  obtain ⟨v, rfl, r⟩ := h1.one_inv
  cases r with
  | lst ha k => exact ⟨_, _, rfl, .inl (SqL.of (ex _ _ ha)), fun p hp => q p _ _ Hb _ rfl hp (New.side ex hp) (fresh_back ex hp) upd_same ⟨_, rfl, k⟩⟩
theorem l_listT {l : List D} : RLN K (fun xs H Q => ∃ p ys, xs = [.ref p] ∧ (SqL K H p ys ∨ SqT K H p ys) ∧ ∀ l, H l = none → Q (.ref l) (upd H l (.lst ys))) [.tup l] fun z => z = .ml l := fun xs Hb H ex h1 Q q => by
  obtain ⟨v, rfl, r⟩ := h1.one_inv
  cases r with
  | tup ha k => exact ⟨_, _, rfl, .inr (xt ex ha), fun p hp => q p _ _ Hb _ rfl hp (New.side ex hp) (fresh_back ex hp) upd_same ⟨_, rfl, k⟩⟩
theorem l_all {bs : List Bool} : RL K (rAll K) [lT D.bl bs] fun z => z = .bl (bs.all id) := rl_scal fun xs Hb H ex h1 => by
  obtain ⟨v, rfl, r⟩ := h1.one_inv
  cases r with
  | @lst a vs _ ha k =>
    have e := k.bools
    subst e
    exact ⟨.bl _, .bl _, fun Q q => ⟨a, bs, rfl, SqL.of (ex _ _ ha), q⟩⟩
theorem l_any {bs : List Bool} : RL K (rAny K) [lT D.bl bs] fun z => z = .bl (bs.any id) := rl_scal fun xs Hb H ex h1 => by
  obtain ⟨v, rfl, r⟩ := h1.one_inv
  cases r with
  | @lst a vs _ ha k =>
    have e := k.bools
    subst e
    exact ⟨.bl _, .bl _, fun Q q => ⟨a, bs, rfl, SqL.of (ex _ _ ha), q⟩⟩
theorem l_abs {i : Int} : RL K (fun xs H Q => ∃ i, xs = [.int i] ∧ Q (.int (if i < 0 then -i else i)) H) [.int i] fun z => z = .int (if i < 0 then -i else i) := rl_scal fun xs Hb H ex h1 => by
  obtain ⟨v, rfl, r⟩ := h1.one_inv
  cases r
  exact ⟨.int _, .int _, fun Q q => ⟨i, rfl, q⟩⟩
theorem l_int {i : Int} : RL K (fun xs H Q => (∃ i, xs = [.int i] ∧ Q (.int i) H) ∨ ∃ k, xs = [.bl k] ∧ Q (.int (if k then 1 else 0)) H) [.int i] fun z => z = .int i := rl_scal fun xs Hb H ex h1 => by
  obtain ⟨v, rfl, r⟩ := h1.one_inv
  cases r
  exact ⟨.int _, .int _, fun Q q => .inl ⟨i, rfl, q⟩⟩
theorem l_intB {k : Bool} : RL K (fun xs H Q => (∃ i, xs = [.int i] ∧ Q (.int i) H) ∨ ∃ k, xs = [.bl k] ∧ Q (.int (if k then 1 else 0)) H) [.bl k] fun z => z = .int (if k then 1 else 0) := rl_scal fun xs Hb H ex h1 => by
  obtain ⟨v, rfl, r⟩ := h1.one_inv
  cases r
  exact ⟨.int _, .int _, fun Q q => .inr ⟨k, rfl, q⟩⟩
theorem l_min {ns : List Int} (h0 : 0 < ns.length) : RL K (rMin K) [lT D.int ns] fun z => ∃ m, z = .int m ∧ m ∈ ns ∧ ∀ y ∈ ns, m ≤ y := fun xs Hb H ex h1 Q q => by
  obtain ⟨v, rfl, r⟩ := h1.one_inv
  cases r with
  | @lst a vs _ ha k =>
    have e := k.ints
    subst e
    exact ⟨a, ns, rfl, SqL.of (ex _ _ ha), h0, fun m h2 h3 => q _ _ Hb H ⟨m, rfl, h2, h3⟩ (Gr.refl ex) (.int m)⟩
theorem l_max {ns : List Int} (h0 : 0 < ns.length) : RL K (rMax K) [lT D.int ns] fun z => ∃ m, z = .int m ∧ m ∈ ns ∧ ∀ y ∈ ns, y ≤ m := fun xs Hb H ex h1 Q q => by
  obtain ⟨v, rfl, r⟩ := h1.one_inv
  cases r with
  | @lst a vs _ ha k =>
    have e := k.ints
    subst e
    exact ⟨a, ns, rfl, SqL.of (ex _ _ ha), h0, fun m h2 h3 => q _ _ Hb H ⟨m, rfl, h2, h3⟩ (Gr.refl ex) (.int m)⟩
end
end DL

namespace DL
open PySem PySem.Spec PyProof.Rows L2 Evl

/-! ### several slots at once -/
def setL (σ : L2.St) : List Nat → List V → L2.St
  | j :: js, v :: vs => setL (σ.set j (some v)) js vs
  | _, _ => σ
def setG (Γ : List Sl) : List Nat → List D → List Sl
  | j :: js, d :: ds => setG (Γ.set j (.pd d)) js ds
  | _, _ => Γ
def wipeG (Γ : List Sl) : List Nat → List Sl
  | [] => Γ
  | v :: vs => (wipeG Γ vs).set v .un
section
variable {K : PySem.W.Frag} {Hb H Hb' H' : Hp} {σ : L2.St} {Γ : List Sl}
theorem En.setL : ∀ {js : List Nat} {vs : List V} {ds : List D} {σ : L2.St} {Γ : List Sl}, En K Hb H σ Γ → DRs K Hb vs ds → En K Hb H (DL.setL σ js vs) (setG Γ js ds)
  | [], _, _, _, _, E, _ => E
  | j :: js, _, _, _, _, E, .nil => E
  | j :: js, _, _, _, _, E, .cons h t => by
    have z := En.setL (js := js) (E.set h j) t
    exact z
theorem En.wipe (E : En K Hb H σ Γ) : ∀ vs : List Nat, En K Hb H (L2.wipe σ vs) (wipeG Γ vs)
  | [] => E
  | v :: vs => (En.wipe E vs).un v none
theorem Own.set {v : V} {d : D} {i : Nat} {a : Addr} (h : Own (σ.set i (some v)) (Γ.set i (.pd d)) a) : Own σ Γ a := by
  obtain ⟨j, m, h1, h2⟩ := h
  rcases set_at h1 with ⟨rfl, z2, z3⟩ | ⟨z1, z2⟩
  · cases z2
  · rw [List.getElem?_set_ne z1] at h2
    exact ⟨j, m, z2, h2⟩
theorem Own.unset {o : Option V} {i : Nat} {a : Addr} (h : Own (σ.set i o) (Γ.set i .un) a) : Own σ Γ a := by
  obtain ⟨j, m, h1, h2⟩ := h
  rcases set_at h1 with ⟨rfl, z2, z3⟩ | ⟨z1, z2⟩
  · cases z2
  · rw [List.getElem?_set_ne z1] at h2
    exact ⟨j, m, z2, h2⟩
theorem Own.setL : ∀ {js : List Nat} {vs : List V} {ds : List D} {σ : L2.St} {Γ : List Sl} {a : Addr}, vs.length = ds.length → Own (DL.setL σ js vs) (setG Γ js ds) a → Own σ Γ a
  | [], _, _, _, _, _, _, h => h
  | j :: js, [], [], _, _, _, _, h => h
  | j :: js, v :: vs, d :: ds, _, _, _, e, h => Own.set (Own.setL (Nat.succ.inj e) h)
theorem Own.wipe {a : Addr} : ∀ {vs : List Nat}, Own (L2.wipe σ vs) (wipeG Γ vs) a → Own σ Γ a
  | [], h => h
  | v :: vs, h => Own.wipe (Own.unset h)
theorem wipe_get : ∀ (vs : List Nat) (i : Nat), (L2.wipe σ vs)[i]? = if i ∈ vs ∧ i < σ.length then some none else σ[i]?
  | [], i => by rw [if_neg (by simp)]; rfl
  | v :: vs, i => by
    show ((L2.wipe σ vs).set v none)[i]? = _
    by_cases e : v = i
    · subst e
      by_cases h : v < σ.length
      · rw [List.getElem?_set_self (by rw [wipe_length]; exact h), if_pos ⟨List.mem_cons_self .., h⟩]
      · rw [if_neg fun z => h z.2, List.getElem?_eq_none (by rw [List.length_set, wipe_length]; omega), List.getElem?_eq_none (by omega)]
    · rw [List.getElem?_set_ne e, wipe_get vs i]
      have e' : ¬ i = v := fun z => e z.symm
      simp [e']
theorem wipe_set {vs : List Nat} {j : Nat} {x : Option V} (h : j ∈ vs) : L2.wipe (σ.set j x) vs = L2.wipe σ vs := by
  apply List.ext_getElem?
  intro i
  rw [wipe_get, wipe_get, List.length_set]
  by_cases z : i ∈ vs ∧ i < σ.length
  · rw [if_pos z, if_pos z]
  · rw [if_neg z, if_neg z]
    by_cases e : j = i
    · subst e
      have : ¬ j < σ.length := fun q => z ⟨h, q⟩
      rw [List.getElem?_eq_none (by rw [List.length_set]; omega), List.getElem?_eq_none (by omega)]
    · rw [List.getElem?_set_ne e]
theorem wipe_wipe {vs : List Nat} : L2.wipe (L2.wipe σ vs) vs = L2.wipe σ vs := by
  apply List.ext_getElem?
  intro i
  rw [wipe_get, wipe_length]
  by_cases z : i ∈ vs ∧ i < σ.length
  · rw [if_pos z, wipe_get, if_pos z]
  · rw [if_neg z]
theorem wipe_setL {vs : List Nat} : ∀ {js : List Nat} {ws : List V} {σ : L2.St}, (∀ j ∈ js, j ∈ vs) → L2.wipe (DL.setL σ js ws) vs = L2.wipe σ vs
  | [], _, _, _ => rfl
  | j :: js, [], _, _ => rfl
  | j :: js, w :: ws, _, h => (wipe_setL (js := js) fun i hi => h i (List.mem_cons_of_mem _ hi)).trans (wipe_set (h j (List.mem_cons_self ..)))
/-- nothing is known of the slots vs -/
theorem wipeG_un : ∀ {vs : List Nat} {i : Nat} {s : Sl}, i ∈ vs → (wipeG Γ vs)[i]? = some s → s = .un
  | v :: vs, i, s, hi, h => by
    rcases set_at (l := wipeG Γ vs) h with ⟨rfl, z2, z3⟩ | ⟨z1, z2⟩
    · exact z2.symm
    · exact wipeG_un ((List.mem_cons.mp hi).elim (fun q => absurd q.symm z1) id) z2
theorem setL_ne : ∀ {js : List Nat} {ws : List V} {σ : L2.St} {i : Nat}, i ∉ js → (DL.setL σ js ws)[i]? = σ[i]?
  | [], _, _, _, _ => rfl
  | j :: js, [], _, _, _ => rfl
  | j :: js, w :: ws, σ, i, h => (setL_ne (js := js) fun z => h (List.mem_cons_of_mem _ z)).trans (List.getElem?_set_ne fun z => h (by rw [z]; exact List.mem_cons_self ..))
theorem setG_ne : ∀ {js : List Nat} {ws : List D} {Γ : List Sl} {i : Nat}, i ∉ js → (setG Γ js ws)[i]? = Γ[i]?
  | [], _, _, _, _ => rfl
  | j :: js, [], _, _, _ => rfl
  | j :: js, w :: ws, σ, i, h => (setG_ne (js := js) fun z => h (List.mem_cons_of_mem _ z)).trans (List.getElem?_set_ne fun z => h (by rw [z]; exact List.mem_cons_self ..))
/-- behind a turn of a block: the def's own slots -/
theorem En.back {σ' : L2.St} {Γ' : List Sl} {W : Addr → Prop} (E : En K Hb H σ Γ) (g : Gr W Hb H Hb' H') (E' : En K Hb' H' σ' Γ') (k : ∀ (i : Nat) (m : MO), Γ[i]? = some (.ow m) → Γ'[i]? = some (.ow m) ∧ σ'[i]? = σ[i]?) : En K Hb' H' σ Γ where
  ex := E'.ex
  val := fun i d h => by obtain ⟨v, h1, h2⟩ := E.val i d h; exact ⟨v, h1, h2.mono g.b⟩
  own := fun i m h => by
    obtain ⟨a, u, h1, h2, h3, h4⟩ := E'.own i m (k i m h).1
    rw [(k i m h).2] at h1
    exact ⟨a, u, h1, h2, h3, h4⟩
  sep := E.sep
  len := E.len
theorem En.side (E : En K Hb H σ Γ) {p : Addr} {o : HO} (h : Hb p = none) (n : ¬ Own σ Γ p) : En K Hb (upd H p o) σ Γ where
  ex := fun a u e => by rw [upd_ne (ne_of_none e h)]; exact E.ex a u e
  val := E.val
  own := fun i m k => by
    obtain ⟨a, u, h1, h2, h3, h4⟩ := E.own i m k
    refine ⟨a, u, h1, h2, ?_, h4⟩
    rw [upd_ne fun z => n (by subst z; exact ⟨i, m, k, h1⟩)]
    exact h3
  sep := E.sep
  len := E.len
theorem En.own_some (E : En K Hb H σ Γ) {a : Addr} (h : Own σ Γ a) : H a ≠ none ∧ Hb a = none := by
  obtain ⟨i, m, h1, h2⟩ := h
  obtain ⟨b, u, k1, k2, k3, k4⟩ := E.own i m h1
  rw [h2] at k1
  cases k1
  exact ⟨by rw [k3]; simp, k2⟩
end

/-! ### targets -/
def XGt (K : PySem.W.Frag) (g : TG) (d : D) (js : List Nat) (es : List D) : Prop := ∀ (v : V) (Hb H : Hp) (σ : L2.St) (Q : L2.St → Hp → Prop), Ex Hb H → DR K Hb v d → (∀ vs, DRs K Hb vs es → Q (setL σ js vs) H) → g v σ H Q
section
variable {K : PySem.W.Frag}
theorem gt_name {j : Nat} {d : D} : XGt K (gName j) d [j] [d] := fun v Hb H σ Q _ r q => q [v] (.cons r .nil)
theorem gt_pair {i j : Nat} {d e : D} : XGt K (gTup K 2 (gCons (gName i) (gCons (gName j) gNil))) (.tup [d, e]) [i, j] [d, e] := fun v Hb H σ Q ex r q => by
  cases r with
  | @tup a vs _ h k =>
    obtain ⟨x, y, rfl, r1, r2⟩ := k.two_inv
    exact ⟨a, [x, y], rfl, xt ex h, rfl, x, [y], rfl, y, [], rfl, rfl, q [x, y] (.cons r1 (.cons r2 .nil))⟩
end

/-! ### what is walked -/
section
variable {X : Cx} {m : Bool} {e a b c tg : Expr} {es : List Expr} {Γ : List Sl} {pos p : Pos}
theorem itd_list {K : PySem.W.Frag} {Hb : Hp} {l : Addr} {vs : List V} {ds : List D} (h : SqL K Hb l vs) (r : DRs K Hb vs ds) : ItD K (Itl K l) Hb ds := fun Hb1 H1 e1 e2 i => by
  have h1 : SqL K H1 l vs := ex_l (e1.trans e2) h
  refine ⟨fun hi => ?_, fun hi => ⟨vs, h1, by rw [r.len]; exact hi⟩⟩
  obtain ⟨v, k1, k2⟩ := r.get (List.getElem?_eq_getElem hi)
  refine ⟨⟨vs, v, h1, k1⟩, fun x H2 y => ?_⟩
  obtain ⟨rfl, y⟩ := y
  have k3 := y vs h1
  rw [k1] at k3
  cases k3
  exact ⟨_, Hb1, List.getElem?_eq_getElem hi, Gr.refl e2, k2.mono e1⟩
theorem itd_tup {K : PySem.W.Frag} {Hb : Hp} {l : Addr} {vs : List V} {ds : List D} (h : Hb l = some (.tup vs)) (r : DRs K Hb vs ds) : ItD K (Itt K l) Hb ds := fun Hb1 H1 e1 e2 i => by
  have h1 : SqT K H1 l vs := xt (e1.trans e2) h
  refine ⟨fun hi => ?_, fun hi => ⟨vs, h1, by rw [r.len]; exact hi⟩⟩
  obtain ⟨v, k1, k2⟩ := r.get (List.getElem?_eq_getElem hi)
  refine ⟨⟨vs, v, h1, k1⟩, fun x H2 y => ?_⟩
  obtain ⟨rfl, y⟩ := y
  have k3 := y vs h1
  rw [k1] at k3
  cases k3
  exact ⟨_, Hb1, List.getElem?_eq_getElem hi, Gr.refl e2, k2.mono e1⟩
theorem xi_list {Φ : List D → Prop} (h : XE X m e Γ fun z => ∃ ds, z = .lst ds ∧ Φ ds) : XI X m tg e Γ Φ := xi_of (pi_list pe_wp) fun σ Hb H E R q => h σ Hb H E _ fun v d Hb1 H1 p1 g1 E1 r1 => by
  obtain ⟨ds, rfl, f⟩ := p1
  cases r1 with
  | lst ha r => exact ⟨_, rfl, ⟨_, SqL.of (E1.ex _ _ ha)⟩, q _ ds Hb1 H1 f g1 E1 (itd_list (SqL.of ha) r)⟩
theorem xi_tup {Φ : List D → Prop} (h : XE X m e Γ fun z => ∃ ds, z = .tup ds ∧ Φ ds) : XI X m tg e Γ Φ := xi_of (pi_tup pe_wp) fun σ Hb H E R q => h σ Hb H E _ fun v d Hb1 H1 p1 g1 E1 r1 => by
  obtain ⟨ds, rfl, f⟩ := p1
  cases r1 with
  | tup ha r => exact ⟨_, rfl, ⟨_, xt E1.ex ha⟩, q _ ds Hb1 H1 f g1 E1 (itd_tup ha r)⟩
theorem xw_list {ds : List D} (h : XV X e Γ (.lst ds)) : XW X tg e Γ ds := xi_list (h.imp fun _ z => ⟨ds, z, rfl⟩)
theorem xw_tup {ds : List D} (h : XV X e Γ (.tup ds)) : XW X tg e Γ ds := xi_tup (h.imp fun _ z => ⟨ds, z, rfl⟩)
/-- lo, lo + 1, .. below hi -/
def rng (lo hi : Int) : List Int := (List.range (hi - lo).toNat).map fun (k : Nat) => lo + (k : Int)
theorem mem_rng {lo hi x : Int} : x ∈ rng lo hi ↔ lo ≤ x ∧ x < hi := by
  unfold rng
  rw [List.mem_map]
  constructor
  · rintro ⟨k, h, rfl⟩
    have := List.mem_range.mp h
    omega
  · intro h
    exact ⟨(x - lo).toNat, List.mem_range.mpr (by omega), by omega⟩
theorem rng_len {lo hi : Int} : (rng lo hi).length = (hi - lo).toNat := by
  unfold rng
  rw [List.length_map, List.length_range]
theorem rng_get {lo hi : Int} {i : Nat} (h : i < (hi - lo).toNat) : (rng lo hi)[i]? = some (lo + (i : Int)) := by
  unfold rng
  rw [List.getElem?_map, List.getElem?_range h]
  rfl
theorem itd_rng {K : PySem.W.Frag} {Hb : Hp} {lo hi : Int} : ItD K (Itr lo (hi - lo).toNat) Hb ((rng lo hi).map D.int) := fun Hb1 H1 e1 e2 i => by
  rw [List.length_map, rng_len]
  refine ⟨fun hi' => ⟨hi', fun x H2 y => ?_⟩, fun hi' => hi'⟩
  obtain ⟨rfl, rfl⟩ := y
  exact ⟨.int (lo + (i : Int)), Hb1, by rw [List.getElem?_map, rng_get hi']; rfl, Gr.refl e2, .int _⟩
theorem xw_range1 {n : Int} (h : XL X [e] Γ [.int n]) (hn : n ≤ 100000) (hm : X.mg "range" = none) (hn0 : -100000 ≤ n) (hg : Gl X "range" := by rfl) (hs : starEach [e] X.env = [(false, eval e X.env)] := by rfl) : XW X tg (.Call (.Name "range" p) [e] [] pos) Γ ((rng 0 n).map D.int) := xi_of (pi_range1 hg hm pa_wp hs) fun σ Hb H E R q => h σ Hb H E _ fun vs ds Hb1 H1 p1 g1 E1 r1 => by
  subst p1
  obtain ⟨v, rfl, r⟩ := r1.one_inv
  cases r
  refine ⟨n, rfl, by omega, by omega, ?_⟩
  have z := q (Itr 0 (n - 0).toNat) _ Hb1 H1 rfl g1 E1 itd_rng
  rw [Int.sub_zero] at z
  exact z
theorem xw_range2 {lo n : Int} (h : XL X [a, b] Γ [.int lo, .int n]) (hn : n ≤ 100000) (hl : -100000 ≤ lo ∧ lo ≤ 100000) (hm : X.mg "range" = none) (hn0 : -100000 ≤ n) (hg : Gl X "range" := by rfl) (hs : starEach [a, b] X.env = [(false, eval a X.env), (false, eval b X.env)] := by rfl) (hs2 : starEach [b] X.env = [(false, eval b X.env)] := by rfl) : XW X tg (.Call (.Name "range" p) [a, b] [] pos) Γ ((rng lo n).map D.int) := xi_of (pi_range2 hg hm pa_wp hs hs2) fun σ Hb H E R q => h σ Hb H E _ fun vs ds Hb1 H1 p1 g1 E1 r1 => by
  subst p1
  obtain ⟨v, w, rfl, r, r'⟩ := r1.two_inv
  cases r
  cases r'
  exact ⟨lo, n, rfl, ⟨by omega, by omega, by omega, by omega⟩, q _ _ Hb1 H1 rfl g1 E1 itd_rng⟩
end

/-! ### comprehensions -/
section
variable {K : PySem.W.Frag} {m : Bool} {Γ : List Sl} {wi : TI} {g : TG} {tt : TT} {te : TE}
theorem jn_lc {vs js : List Nat} {Φ : List D → Prop} (es : List D → Nat → List D) (P : List D → Nat → List D → Prop) (hw : wipeG Γ vs = Γ) (hi : JI K m wi Γ Φ) (hv : ∀ j ∈ js, j ∈ vs) (hl : ∀ ds, Φ ds → ds.length ≤ 100000) (h0 : ∀ ds, Φ ds → P ds 0 [])
    (hg : ∀ ds, Φ ds → ∀ (i : Nat) d, ds[i]? = some d → XGt K g d js (es ds i))
    (hs : ∀ ds, Φ ds → ∀ (i : Nat) d acc, ds[i]? = some d → P ds i acc → JT K m tt (setG Γ js (es ds i)) fun b => (b = true → JR K m te (setG Γ js (es ds i)) fun e => P ds (i + 1) (acc ++ [e])) ∧ (b = false → P ds (i + 1) acc)) :
    JN K m (tLc wi g tt te vs) Γ fun o => ∃ ds acc, Φ ds ∧ o = .ml acc ∧ P ds ds.length acc := fun σ Hb H E Q q => by
  refine hi σ Hb H E _ fun J ds Hb1 H1 p1 g1 E1 it => fun Dl nD => ?_
  have nb : Hb1 Dl = none := fresh_back E1.ex nD
  have noD : ¬ Own σ Γ Dl := fun z => (E1.own_some z).1 nD
  have hlen := hl ds p1
  let St : Nat → Hp → Prop := fun i H2 => ∃ Hb2 ws acc, Gr (fun a => WW m σ Γ a ∨ a = Dl) Hb1 (upd H1 Dl (.lst [])) Hb2 H2 ∧ En K Hb2 H2 σ Γ ∧ Hb2 Dl = none ∧ H2 Dl = some (.lst ws) ∧ DRs K Hb2 ws acc ∧ acc.length ≤ i ∧ P ds i acc
  refine ⟨fun i mm H2 => mm = ds.length - i ∧ i ≤ ds.length ∧ St i H2, ⟨ds.length, by simp, Nat.zero_le _, Hb1, [], [], Gr.refl (New.side E1.ex nD).s, E1.new (New.side E1.ex nD), nb, upd_same, .nil, Nat.le_refl _, h0 ds p1⟩, ?_⟩
  rintro i mm H2 ⟨rfl, hi', Hb2, ws, acc, g2, E2, n2, h2, r2, la, pp⟩
  by_cases hlt : i < ds.length
  · obtain ⟨go, yl⟩ := (it Hb2 H2 g2.b E2.ex i).1 hlt
    refine .inr ⟨go, St (i + 1), fun H' hN => ⟨ds.length - (i + 1), by omega, rfl, hlt, hN⟩, fun x H3 y => ?_⟩
    obtain ⟨d, Hb3, e, g3, rx⟩ := yl x H3 y
    have E3 := E2.new g3
    have n3 : Hb3 Dl = none := (g3.f Dl (by rw [h2]; simp) (by rw [h2]; simp) fun z => z).trans n2
    have h3 := g3.ex Dl _ h2
    refine hg ds p1 i d e x Hb3 H3 (wipe σ vs) _ E3.ex rx fun vals rv => ⟨(wipe_setL hv).trans wipe_wipe, ?_⟩
    have E4 : En K Hb3 H3 (DL.setL (wipe σ vs) js vals) (setG Γ js (es ds i)) := by
      have z := (E3.wipe vs).setL (js := js) rv
      rw [hw] at z
      exact z
    have ow : ∀ a, Own (DL.setL (wipe σ vs) js vals) (setG Γ js (es ds i)) a → Own σ Γ a := fun a z => by
      have z2 := Own.setL rv.len z
      rw [← hw] at z2
      exact Own.wipe z2
    have kk : ∀ (k : Nat) (m : MO), Γ[k]? = some (.ow m) → (setG Γ js (es ds i))[k]? = some (.ow m) ∧ (DL.setL (wipe σ vs) js vals)[k]? = σ[k]? := fun k m z => by
      have ni : k ∉ vs := fun y => by
        rw [← hw] at z
        cases wipeG_un y z
      have nj : k ∉ js := fun y => ni (hv k y)
      refine ⟨(setG_ne nj).trans z, (setL_ne nj).trans ?_⟩
      rw [wipe_get, if_neg fun y => ni y.1]
    have noW : ¬ WW m (DL.setL (wipe σ vs) js vals) (setG Γ js (es ds i)) Dl := fun z => noD (ow _ z.2)
    refine hs ds p1 i d acc e pp _ Hb3 H3 E4 _ fun b Hb5 H5 fb g5 E5 => ?_
    have h5 := g5.h Dl _ h3 noW
    have n5 : Hb5 Dl = none := (g5.f Dl (by rw [h3]; simp) (by rw [h3]; simp) noW).trans n3
    have G5 : Gr (fun a => WW m σ Γ a ∨ a = Dl) Hb1 (upd H1 Dl (.lst [])) Hb5 H5 := (g2.trans g3 fun _ z => z.elim).trans g5 fun a z => .inl (.inl ⟨z.1, ow a z.2⟩)
    cases b with
    | true =>
      refine iteT ((fb.1 rfl) _ Hb5 H5 E5 _ fun y e5 Hb6 H6 f6 g6 E6 r6 => ?_)
      have h6 := g6.h Dl _ h5 noW
      have n6 : Hb6 Dl = none := (g6.f Dl (by rw [h5]; simp) (by rw [h5]; simp) noW).trans n5
      have G6 := G5.trans g6 fun a z => .inl (.inl ⟨z.1, ow a z.2⟩)
      have E7 : En K Hb6 H6 σ Γ := E3.back (g5.trans g6 fun _ z => .inl z) E6 kk
      refine ⟨ws, h6, sz_lt (by rw [r2.len]; omega), Hb6, ws ++ [y], acc ++ [e5], G6.trans (Gr.put (W := fun a => a = Dl) E7.ex n6 (by rw [h6]; simp) rfl) (fun a z => .inl (.inr z)), E7.side n6 noD, n6, upd_same, (r2.mono (g3.b.trans (g5.b.trans g6.b))).app (.one r6), ?_, f6⟩
      rw [List.length_append]
      show acc.length + 1 ≤ i + 1
      omega
    | false =>
      exact iteF ⟨Hb5, ws, acc, G5, E3.back g5 E5 kk, n5, h5, r2.mono (g3.b.trans g5.b), by omega, fb.2 rfl⟩
  · have e : i = ds.length := by omega
    refine .inl ⟨(it Hb2 H2 g2.b E2.ex i).2 (by omega), q Dl (.lst ws) (.ml acc) Hb2 H2 ⟨ds, acc, p1, rfl, by rw [← e]; exact pp⟩ (new_none g1 nD) ?_ E2 n2 h2 ⟨ws, rfl, r2⟩⟩
    refine g1.trans ((New.side (o := .lst []) E1.ex nD).gr (W := WW m σ Γ) |>.trans g2 fun a z => ?_) fun a z => .inl z
    rcases z with z | z
    · exact .inl z
    · subst z
      exact .inr nD
end
section
variable {X : Cx} {m : Bool} {elt tg iter c : Expr} {ifs : List Expr} {scope : Scope} {Γ : List Sl} {pos : Pos} {own : List (Str × Nat)} {g : TG}
abbrev Bk (X : Cx) (scope : Scope) (f : Cx → Prop) : Prop := ∀ (s : Shared) (H : Hp) (C : Addr) (cl : List (Str × Addr)) (fp : List Addr), f (X.blk s H scope (compEnvC scope cl C X.env) fp)
abbrev wbE (X : Cx) (scope : Scope) (e : Expr) : TE := fun σ H Q => ∀ (s : Shared) (H0 : Hp) (C : Addr) (cl : List (Str × Addr)) (fp : List Addr), wpE (X.blk s H0 scope (compEnvC scope cl C X.env) fp) e σ H Q
abbrev wbT (X : Cx) (scope : Scope) (e : Expr) : TT := fun σ H Q => ∀ (s : Shared) (H0 : Hp) (C : Addr) (cl : List (Str × Addr)) (fp : List Addr), wpT (X.blk s H0 scope (compEnvC scope cl C X.env) fp) e σ H Q
abbrev wbI (X : Cx) (scope : Scope) (tg e : Expr) : TI := fun σ H Q => ∀ (s : Shared) (H0 : Hp) (C : Addr) (cl : List (Str × Addr)) (fp : List Addr), wpI (X.blk s H0 scope (compEnvC scope cl C X.env) fp) tg e σ H Q
theorem pe_wb {e : Expr} (s : Shared) (H0 : Hp) (C : Addr) (cl : List (Str × Addr)) (fp : List Addr) : PE (X.blk s H0 scope (compEnvC scope cl C X.env) fp) e (wbE X scope e) := ⟨fun pins s' σ H Q I h => h s H0 C cl fp pins s' I⟩
theorem pt_wb {e : Expr} (s : Shared) (H0 : Hp) (C : Addr) (cl : List (Str × Addr)) (fp : List Addr) : PT (X.blk s H0 scope (compEnvC scope cl C X.env) fp) e (wbT X scope e) := ⟨fun pins s' σ H Q I h => h s H0 C cl fp pins s' I⟩
theorem pi_wb {tg e : Expr} (s : Shared) (H0 : Hp) (C : Addr) (cl : List (Str × Addr)) (fp : List Addr) : PI (X.blk s H0 scope (compEnvC scope cl C X.env) fp) tg e (wbI X scope tg e) := ⟨fun pins s' σ H Q I h => h s H0 C cl fp pins s' I⟩
theorem jr_wb {e : Expr} {Γ : List Sl} {Φ : D → Prop} (h : Bk X scope fun Y => XE Y m e Γ Φ) : JR X.K m (wbE X scope e) Γ Φ := fun σ Hb H E Q q s H0 C cl fp => h s H0 C cl fp σ Hb H E Q q
theorem jt_wb {e : Expr} {Γ : List Sl} {Φ : Bool → Prop} (h : Bk X scope fun Y => XT Y m e Γ Φ) : JT X.K m (wbT X scope e) Γ Φ := fun σ Hb H E Q q s H0 C cl fp => h s H0 C cl fp σ Hb H E Q q
theorem ji_wb {tg e : Expr} {Γ : List Sl} {Φ : List D → Prop} (h : Bk X scope fun Y => XI Y m tg e Γ Φ) : JI X.K m (wbI X scope tg e) Γ Φ := fun σ Hb H E Q q s H0 C cl fp => h s H0 C cl fp σ Hb H E Q q
theorem jt_yes {K : PySem.W.Frag} {Φ : Bool → Prop} (h : Φ true) : JT K m tYes Γ Φ := fun σ Hb H E Q q => q true Hb H h (Gr.refl E.ex) E

/-- what a clause reads of its tests -/
inductive Ifs (X : Cx) (scope : Scope) : List Expr → TT → Prop
  | no : Ifs X scope [] tYes
  | one {c : Expr} : Ifs X scope [c] (wbT X scope c)
theorem Ifs.ok {tt : TT} (h : Ifs X scope ifs tt) (s : Shared) (H0 : Hp) (C : Addr) (cl : List (Str × Addr)) (fp : List Addr) : PTs (X.blk s H0 scope (compEnvC scope cl C X.env) fp) ifs tt := by
  cases h with
  | no => exact pts_nil
  | one => exact pts_one (pt_wb s H0 C cl fp)

/-- the pure comprehension over typed items, read -/
theorem jn_lcP {α β : Type} {K : PySem.W.Frag} {wi : TI} {tt : TT} {te : TE} {vs js : List Nat} {f : α → D} {xs : List α} {es : α → List D} {p : α → Bool} {f' : β → D} {h : α → β} (hw : wipeG Γ vs = Γ) (hi : JI K false wi Γ fun z => z = xs.map f) (hv : ∀ j ∈ js, j ∈ vs) (hl : xs.length ≤ 100000)
    (hg : ∀ x ∈ xs, XGt K g (f x) js (es x)) (ht : ∀ x ∈ xs, JT K false tt (setG Γ js (es x)) fun z => z = p x) (he : ∀ x ∈ xs, p x = true → JR K false te (setG Γ js (es x)) fun z => z = f' (h x)) :
    JN K false (tLc wi g tt te vs) Γ fun o => o = .ml (((xs.filter p).map h).map f') := by
  have key := jn_lc (K := K) (m := false) (Γ := Γ) (wi := wi) (g := g) (tt := tt) (te := te) (vs := vs) (js := js) (Φ := fun z => z = xs.map f) (fun _ i => (xs[i]?.map es).getD []) (fun _ i acc => acc = (((xs.take i).filter p).map h).map f') hw hi hv
    (fun ds e => by rw [e, List.length_map]; exact hl) (fun ds e => by simp) (fun ds e i d hd => ?_) (fun ds e i d acc hd hp => ?_)
  · exact fun σ Hb H E Q q => key σ Hb H E Q fun a u o Hb' H' z => q a u o Hb' H' (by
      obtain ⟨ds, acc, e1, e2, e3⟩ := z
      rw [e2, e3, e1, List.length_map, List.take_length])
  · subst e
    rw [List.getElem?_map] at hd
    cases hx : xs[i]? with
    | none => rw [hx] at hd; cases hd
    | some x =>
      rw [hx] at hd
      cases hd
      exact hg x (List.mem_of_getElem? hx)
  · subst e
    rw [List.getElem?_map] at hd
    cases hx : xs[i]? with
    | none => rw [hx] at hd; cases hd
    | some x =>
      rw [hx] at hd
      cases hd
      have mx := List.mem_of_getElem? hx
      have et : xs.take (i + 1) = xs.take i ++ [x] := by rw [List.take_add_one, hx]; rfl
      intro σ Hb H E Q q
      refine ht x mx σ Hb H E Q fun b Hb' H' z g' E' => q b Hb' H' ⟨fun hb => ?_, fun hb => ?_⟩ g' E'
      · subst hb
        intro σ2 Hb2 H2 E2 Q2 q2
        refine he x mx z.symm σ2 Hb2 H2 E2 Q2 fun v d Hb3 H3 w g3 E3 r3 => q2 v d Hb3 H3 ?_ g3 E3 r3
        rw [hp, et, List.filter_append, List.map_append, List.map_append, w]
        simp [List.filter_cons, ← z]
      · subst hb
        rw [hp, et, List.filter_append]
        simp [List.filter_cons, ← z]
end
end DL

namespace DL
open PySem PySem.Spec PyProof.Rows L2 Evl

/-! ### comprehensions as expressions -/
section
variable {X : Cx} {m : Bool} {elt tg iter c : Expr} {ifs : List Expr} {scope : Scope} {Γ : List Sl} {pos : Pos} {own : List (Str × Nat)} {g : TG} {tt : TT}
/-- pure, over typed items; f': how the new items stand, h: what they are, p: the test -/
theorem xo_lc {α β : Type} {f : α → D} {xs : List α} (js : List Nat) (es : α → List D) (p : α → Bool) (f' : β → D) (h : α → β) (own : List (Str × Nat)) (hi : XW X tg iter Γ (xs.map f)) (hg : Bk X scope fun Y => PG Y tg g) (gt : ∀ x ∈ xs, XGt X.K g (f x) js (es x)) (hf : Ifs X scope ifs tt)
    (ht : ∀ x ∈ xs, JT X.K false tt (setG Γ js (es x)) fun z => z = p x) (he : ∀ x ∈ xs, p x = true → Bk X scope fun Y => XV Y elt (setG Γ js (es x)) (f' (h x))) (hl : xs.length ≤ 100000) (ok : BlkOk X.N X.env.scope scope own) (hN : X.N.Nodup) (hw : wipeG Γ (own.map (·.2)) = Γ := by rfl) (hv : ∀ j ∈ js, j ∈ own.map (·.2) := by decide)
    (hc : X.calm = true := by rfl) (hs : ∀ x, foldedSetIterable iter X.env x = pure x := by intro _; rfl) : XO X (.ListComp elt [⟨tg, iter, ifs, 0⟩] scope pos) Γ (.ml (((xs.filter p).map h).map f')) :=
  xn_of (pe_lc hc hN pi_wp ok hg hf.ok pe_wb hs) (jn_lcP hw hi hv hl gt ht fun x hx hp => jr_wb (he x hx hp))
/-- one that may change owned objects: P, what holds of the turns -/
theorem xn_lc {Φ : List D → Prop} (js : List Nat) (es : List D → Nat → List D) (P : List D → Nat → List D → Prop) (own : List (Str × Nat)) (hi : XI X m tg iter Γ Φ) (hg : Bk X scope fun Y => PG Y tg g) (gt : ∀ ds, Φ ds → ∀ (i : Nat) d, ds[i]? = some d → XGt X.K g d js (es ds i)) (hf : Ifs X scope ifs tt) (h0 : ∀ ds, Φ ds → P ds 0 [])
    (hs : ∀ ds, Φ ds → ∀ (i : Nat) d acc, ds[i]? = some d → P ds i acc → JT X.K m tt (setG Γ js (es ds i)) fun b => (b = true → Bk X scope fun Y => XE Y m elt (setG Γ js (es ds i)) fun e => P ds (i + 1) (acc ++ [e])) ∧ (b = false → P ds (i + 1) acc)) (hl : ∀ ds, Φ ds → ds.length ≤ 100000) (ok : BlkOk X.N X.env.scope scope own) (hN : X.N.Nodup) (hw : wipeG Γ (own.map (·.2)) = Γ := by rfl) (hv : ∀ j ∈ js, j ∈ own.map (·.2) := by decide)
    (hc : X.calm = true := by rfl) (hss : ∀ x, foldedSetIterable iter X.env x = pure x := by intro _; rfl) : XN X m (.ListComp elt [⟨tg, iter, ifs, 0⟩] scope pos) Γ fun o => ∃ ds acc, Φ ds ∧ o = .ml acc ∧ P ds ds.length acc :=
  xn_of (pe_lc hc hN pi_wp ok hg hf.ok pe_wb hss) (jn_lc es P hw hi hv hl h0 gt fun ds e i d acc hd hp => fun σ Hb H E Q q => hs ds e i d acc hd hp σ Hb H E Q fun b Hb' H' z => q b Hb' H' ⟨fun hb => jr_wb (z.1 hb), z.2⟩)
end

/-! ### statements -/
structure Dn where
  nx : List Sl → Prop
  rt : D → List Sl → Prop
  bk : List Sl → Prop := fun _ => False
  ct : List Sl → Prop := fun _ => False
structure GS (K : PySem.W.Frag) (kp : Nat) (σ : L2.St) (Γ : List Sl) (Hb H : Hp) (σ' : L2.St) (Γ' : List Sl) (Hb' H' : Hp) : Prop where
  gr : Gr (Own σ Γ) Hb H Hb' H'
  en : En K Hb' H' σ' Γ'
  own : ∀ a, Own σ' Γ' a → Own σ Γ a ∨ H a = none
  kp : ∀ i, i < kp → σ'[i]? = σ[i]?
section
variable {K : PySem.W.Frag} {kp : Nat} {σ σ' σ2 : L2.St} {Γ Γ' Γ2 : List Sl} {Hb H Hb' H' Hb2 H2 : Hp} {m : Bool}
theorem GS.trans (x : GS K kp σ Γ Hb H σ' Γ' Hb' H') (y : GS K kp σ' Γ' Hb' H' σ2 Γ2 Hb2 H2) : GS K kp σ Γ Hb H σ2 Γ2 Hb2 H2 where
  gr := x.gr.trans y.gr x.own
  en := y.en
  own := fun a h => (y.own a h).elim (x.own a) fun z => .inr (new_none x.gr z)
  kp := fun i h => (y.kp i h).trans (x.kp i h)
theorem GS.refl (E : En K Hb H σ Γ) : GS K kp σ Γ Hb H σ Γ Hb H := ⟨Gr.refl E.ex, E, fun _ h => .inl h, fun _ _ => rfl⟩
theorem GS.of (g : Gr (WW m σ Γ) Hb H Hb' H') (E : En K Hb' H' σ Γ) : GS K kp σ Γ Hb H σ Γ Hb' H' := ⟨g.wk fun _ z => z.2, E, fun _ h => .inl h, fun _ _ => rfl⟩
end
def JS (K : PySem.W.Frag) (kp : Nat) (ts : TS) (Γ : List Sl) (G : Dn) : Prop := ∀ (σ : L2.St) (Hb H : Hp), En K Hb H σ Γ → ∀ E : Ends,
  (∀ Γ' σ' Hb' H', G.nx Γ' → GS K kp σ Γ Hb H σ' Γ' Hb' H' → E.nx σ' H') → (∀ Γ' σ' Hb' H', G.bk Γ' → GS K kp σ Γ Hb H σ' Γ' Hb' H' → E.bk σ' H') → (∀ Γ' σ' Hb' H', G.ct Γ' → GS K kp σ Γ Hb H σ' Γ' Hb' H' → E.ct σ' H') →
  (∀ d v Γ' σ' Hb' H', G.rt d Γ' → GS K kp σ Γ Hb H σ' Γ' Hb' H' → DR K Hb' v d → E.rt v H') → ts E σ H
def wpS (X : Cx) (st : Stmt) : TS := fun E σ H => ∀ (pins : List (Addr × Obj)) (s : Shared), Inv X pins σ H s → wpAny (model X.prog X.w) X.A (exec st X.env) (SP X pins E) X.xe s
def wpSs (X : Cx) (st : List Stmt) : TS := fun E σ H => ∀ (pins : List (Addr × Obj)) (s : Shared), Inv X pins σ H s → wpAny (model X.prog X.w) X.A (execs st X.env) (SP X pins E) X.xe s
theorem ps_wp {X : Cx} {e : Stmt} : PS X e (wpS X e) := ⟨fun pins s _ _ _ I h => h pins s I⟩
theorem pss_wp {X : Cx} {e : List Stmt} : PSs X e (wpSs X e) := ⟨fun pins s _ _ _ I h => h pins s I⟩
def XS (X : Cx) (kp : Nat) (st : Stmt) (Γ : List Sl) (G : Dn) : Prop := JS X.K kp (wpS X st) Γ G
def XSs (X : Cx) (kp : Nat) (st : List Stmt) (Γ : List Sl) (G : Dn) : Prop := JS X.K kp (wpSs X st) Γ G
section
variable {X : Cx} {kp : Nat} {st : Stmt} {sts rest : List Stmt} {Γ : List Sl} {G : Dn} {ts : TS} {m : Bool} {e c : Expr} {pos : Pos} {Φ : D → Prop}
theorem xs_of (h : PS X st ts) (r : JS X.K kp ts Γ G) : XS X kp st Γ G := fun σ Hb H E F a b c d pins s I => h.run pins s σ H F I (r σ Hb H E F a b c d)
theorem xss_of (h : PSs X sts ts) (r : JS X.K kp ts Γ G) : XSs X kp sts Γ G := fun σ Hb H E F a b c d pins s I => h.run pins s σ H F I (r σ Hb H E F a b c d)
theorem js_seq {K : PySem.W.Frag} {t u : TS} (h : JS K kp t Γ { G with nx := fun Γ' => JS K kp u Γ' G }) : JS K kp (tSeq t u) Γ G := fun σ Hb H E F a b c d =>
  h σ Hb H E { F with nx := u F } (fun Γ1 σ1 Hb1 H1 z g => z σ1 Hb1 H1 g.en F (fun Γ2 σ2 Hb2 H2 y k => a Γ2 σ2 Hb2 H2 y (g.trans k)) (fun Γ2 σ2 Hb2 H2 y k => b Γ2 σ2 Hb2 H2 y (g.trans k)) (fun Γ2 σ2 Hb2 H2 y k => c Γ2 σ2 Hb2 H2 y (g.trans k)) fun d2 v Γ2 σ2 Hb2 H2 y k => d d2 v Γ2 σ2 Hb2 H2 y (g.trans k)) b c d
theorem xs_cons (h : XS X kp st Γ { G with nx := fun Γ' => XSs X kp rest Γ' G }) : XSs X kp (st :: rest) Γ G := xss_of (pss_cons ps_wp pss_wp) (js_seq h)
theorem xs_nil (h : G.nx Γ) : XSs X kp [] Γ G := xss_of pss_nil fun σ Hb H E F a b c d => a Γ σ Hb H h (GS.refl E)
theorem xs_pass (h : G.nx Γ) : XS X kp (.Pass pos) Γ G := xs_of ps_pass fun σ Hb H E F a b c d => a Γ σ Hb H h (GS.refl E)
theorem xs_break (h : G.bk Γ) : XS X kp (.Break pos) Γ G := xs_of ps_break fun σ Hb H E F a b c d => b Γ σ Hb H h (GS.refl E)
theorem xs_continue (h : G.ct Γ) : XS X kp (.Continue pos) Γ G := xs_of ps_continue fun σ Hb H E F a b c d => c Γ σ Hb H h (GS.refl E)
/-- what is asked may be less -/
theorem XSs.le {Γ' : List Sl} (h : XSs X kp sts Γ' G) (l : Le Γ Γ') : XSs X kp sts Γ G := fun σ Hb H E F a b c d => by
  have kk : ∀ Γ2 σ2 Hb2 H2, GS X.K kp σ Γ' Hb H σ2 Γ2 Hb2 H2 → GS X.K kp σ Γ Hb H σ2 Γ2 Hb2 H2 := fun Γ2 σ2 Hb2 H2 g => ⟨g.gr.wk fun _ z => z.le l, g.en, fun a z => (g.own a z).imp (fun y => y.le l) id, g.kp⟩
  exact h σ Hb H (E.le l) F (fun Γ2 σ2 Hb2 H2 y k => a Γ2 σ2 Hb2 H2 y (kk _ _ _ _ k)) (fun Γ2 σ2 Hb2 H2 y k => b Γ2 σ2 Hb2 H2 y (kk _ _ _ _ k)) (fun Γ2 σ2 Hb2 H2 y k => c Γ2 σ2 Hb2 H2 y (kk _ _ _ _ k)) fun d2 v Γ2 σ2 Hb2 H2 y k => d d2 v Γ2 σ2 Hb2 H2 y (kk _ _ _ _ k)
/-- an owned list is data from here on -/
theorem xs_freeze (i : Nat) {ds : List D} (h : XSs X kp sts (Γ.set i (.pd (.lst ds))) G) (hi : Γ[i]? = some (.ow (.ml ds)) := by rfl) (hk : kp ≤ i := by decide) : XSs X kp sts Γ G := fun σ Hb H E F a b c d => by
  obtain ⟨p, vs, h1, h2, h3, h4, h5, E2⟩ := E.freeze hi
  have ow : ∀ q, Own σ (Γ.set i (.pd (.lst ds))) q → Own σ Γ q := fun q ⟨j, m, z1, z2⟩ => by
    rcases set_at z1 with ⟨rfl, y2, y3⟩ | ⟨y1, y2⟩
    · cases y2
    · exact ⟨j, m, y2, z2⟩
  have kk : ∀ Γ2 σ2 Hb2 H2, GS X.K kp σ (Γ.set i (.pd (.lst ds))) (upd Hb p (.lst vs)) H σ2 Γ2 Hb2 H2 → GS X.K kp σ Γ Hb H σ2 Γ2 Hb2 H2 := fun Γ2 σ2 Hb2 H2 g => by
    refine ⟨⟨(Ex.new h4).trans g.gr.b, fun q o y n => g.gr.h q o y fun z => n (ow q z), g.gr.al, g.gr.s, fun q y t n => ?_⟩, g.en, fun q z => (g.own q z).imp (ow q) id, g.kp⟩
    rw [g.gr.f q y t fun z => n (ow q z), upd_ne fun z => n (by rw [z]; exact h5)]
  exact h σ _ H E2 F (fun Γ2 σ2 Hb2 H2 y k => a Γ2 σ2 Hb2 H2 y (kk _ _ _ _ k)) (fun Γ2 σ2 Hb2 H2 y k => b Γ2 σ2 Hb2 H2 y (kk _ _ _ _ k)) (fun Γ2 σ2 Hb2 H2 y k => c Γ2 σ2 Hb2 H2 y (kk _ _ _ _ k)) fun d2 v Γ2 σ2 Hb2 H2 y k => d d2 v Γ2 σ2 Hb2 H2 y (kk _ _ _ _ k)
end
end DL

namespace DL
open PySem PySem.Spec PyProof.Rows L2 Evl

section
variable {K : PySem.W.Frag} {kp : Nat} {Γ : List Sl} {G : Dn} {te : TE} {tt : TT} {t u tb : TS} {m : Bool} {Φ : D → Prop} {g : TG}
theorem js_asgG {js : List Nat} (es : D → List D) (h : JR K m te Γ Φ) (gt : ∀ d, Φ d → XGt K g d js (es d)) (hk : ∀ j ∈ js, kp ≤ j) (k : ∀ d, Φ d → G.nx (setG Γ js (es d))) : JS K kp (tAsg te g) Γ G := fun σ Hb H E F a b c d => h σ Hb H E _ fun v z Hb1 H1 p g1 E1 r =>
  gt z p v Hb1 H1 σ _ E1.ex r fun vs rv => a _ _ Hb1 H1 (k z p) ((GS.of g1 E1).trans ⟨Gr.refl E1.ex, E1.setL rv, fun q y => .inl (Own.setL rv.len y), fun i hi => setL_ne fun y => by have := hk i y; omega⟩)
theorem js_asg {i : Nat} (h : JR K m te Γ Φ) (k : ∀ d, Φ d → G.nx (Γ.set i (.pd d))) (hk : kp ≤ i) : JS K kp (tAsg te (gName i)) Γ G := js_asgG (fun d => [d]) h (fun d _ => gt_name) (fun j hj => by
  rw [List.mem_singleton.mp hj]
  exact hk) k
theorem js_asgN {i : Nat} {Φ : MO → Prop} (h : JN K m te Γ Φ) (k : ∀ o, Φ o → G.nx (Γ.set i (.ow o))) (hk : kp ≤ i) : JS K kp (tAsg te (gName i)) Γ G := fun σ Hb H E F a b c d => h σ Hb H E _ fun p w o Hb1 H1 z n g1 E1 nb hp r => by
  have no : ¬ Own σ Γ p := fun y => (E.own_some y).1 n
  refine a _ _ Hb1 H1 (k o z) ⟨g1.wk fun _ y => y.2, E1.take nb hp r no, fun q y => ?_, fun j hj => List.getElem?_set_ne (by omega)⟩
  obtain ⟨j, m', h1, h2⟩ := y
  rcases set_at h1 with ⟨rfl, z2, z3⟩ | ⟨z1, z2⟩
  · rw [List.getElem?_set_self (by rw [E1.len]; exact z3)] at h2
    cases h2
    exact .inr n
  · rw [List.getElem?_set_ne z1] at h2
    exact .inl ⟨j, m', z2, h2⟩
theorem GS.more {σ : L2.St} {Hb H Hb1 H1 : Hp} (g : Gr (WW m σ Γ) Hb H Hb1 H1) (E : En K Hb1 H1 σ Γ) {Γ2 : List Sl} {σ2 : L2.St} {Hb2 H2 : Hp} (x : GS K kp σ Γ Hb1 H1 σ2 Γ2 Hb2 H2) : GS K kp σ Γ Hb H σ2 Γ2 Hb2 H2 := (GS.of g E).trans x
theorem js_if {Φ : Bool → Prop} (h : JT K m tt Γ Φ) (h1 : Φ true → JS K kp t Γ G) (h2 : Φ false → JS K kp u Γ G) : JS K kp (tIfS tt t u) Γ G := fun σ Hb H E F a b c d => h σ Hb H E _ fun z Hb1 H1 p g1 E1 => by
  cases z with
  | true => exact iteT (h1 p σ Hb1 H1 E1 F (fun _ _ _ _ y x => a _ _ _ _ y (x.more g1 E1)) (fun _ _ _ _ y x => b _ _ _ _ y (x.more g1 E1)) (fun _ _ _ _ y x => c _ _ _ _ y (x.more g1 E1)) fun _ _ _ _ _ _ y x => d _ _ _ _ _ _ y (x.more g1 E1))
  | false => exact iteF (h2 p σ Hb1 H1 E1 F (fun _ _ _ _ y x => a _ _ _ _ y (x.more g1 E1)) (fun _ _ _ _ y x => b _ _ _ _ y (x.more g1 E1)) (fun _ _ _ _ y x => c _ _ _ _ y (x.more g1 E1)) fun _ _ _ _ _ _ y x => d _ _ _ _ _ _ y (x.more g1 E1))
theorem js_ret (h : JR K m te Γ Φ) (k : ∀ d, Φ d → G.rt d Γ) : JS K kp (tRet te) Γ G := fun σ Hb H E F a b c d => h σ Hb H E _ fun v z Hb1 H1 p g1 E1 r => d z v Γ σ Hb1 H1 (k z p) (GS.of g1 E1) r
theorem js_drop (h : JR K m te Γ Φ) (k : (∃ d, Φ d) → G.nx Γ) : JS K kp (tDrop te) Γ G := fun σ Hb H E F a b c d => h σ Hb H E _ fun v z Hb1 H1 p g1 E1 r => a Γ σ Hb1 H1 (k ⟨z, p⟩) (GS.of g1 E1)
theorem En.own_at {Hb H : Hp} {σ : L2.St} (E : En K Hb H σ Γ) {i : Nat} {ds : List D} (h : Γ[i]? = some (.ow (.ml ds))) : ∃ a vs, σ[i]? = some (some (.ref a)) ∧ Hb a = none ∧ H a = some (.lst vs) ∧ DRs K Hb vs ds := by
  obtain ⟨a, w, h1, h2, h3, vs, rfl, h5⟩ := E.own i _ h
  exact ⟨a, vs, h1, h2, h3, h5⟩
theorem own_set {σ : L2.St} {i : Nat} {o o' : MO} (h : Γ[i]? = some (.ow o)) {q : Addr} (y : Own σ (Γ.set i (.ow o')) q) : Own σ Γ q := by
  obtain ⟨j, m', h1, h2⟩ := y
  rcases set_at h1 with ⟨rfl, z2, z3⟩ | ⟨z1, z2⟩
  · exact ⟨i, o, h, h2⟩
  · exact ⟨j, m', z2, h2⟩
theorem GS.put {Hb H : Hp} {σ : L2.St} {i : Nat} {o o' : MO} {a : Addr} {w : HO} (E : En K Hb H σ Γ) (h : Γ[i]? = some (.ow o)) (ha : σ[i]? = some (some (.ref a))) (r : MR K Hb w o') : GS K kp σ Γ Hb H σ (Γ.set i (.ow o')) Hb (upd H a w) := by
  have q : Own σ Γ a := ⟨i, o, h, ha⟩
  exact ⟨Gr.put E.ex (E.own_some q).2 (E.own_some q).1 q, E.put h ha r, fun b y => .inl (own_set h y), fun _ _ => rfl⟩
theorem js_app {i : Nat} {ds : List D} (h : Γ[i]? = some (.ow (.ml ds))) (he : JR K m te Γ Φ) (hz : ds.length < 100000) (k : ∀ d, Φ d → G.nx (Γ.set i (.ow (.ml (ds ++ [d]))))) : JS K kp (tDrop (tBM K "list" rAppend (tVar i) (tCons te tNil))) Γ G := fun σ Hb H E F a b c d => by
  obtain ⟨p, vs, h1, h2, h3, h4⟩ := E.own_at h
  refine ⟨.ref p, h1, .inl ⟨rfl, vs, SqL.of h3⟩, he σ Hb H E _ fun v z Hb1 H1 y g1 E1 r => ?_⟩
  obtain ⟨p', ws, k1, k2, k3, k4⟩ := E1.own_at h
  rw [h1] at k1
  cases k1
  exact ⟨p, ws, v, rfl, rfl, k3, sz_lt (by rw [k4.len]; exact hz), a _ _ _ _ (k z y) ((GS.of g1 E1).trans (GS.put E1 h h1 ⟨_, rfl, k4.app (.one r)⟩))⟩
/-- xs[i] = e -/
theorem js_setL {i j : Nat} {n : Int} {ds : List D} {tj : TE} (h : Γ[i]? = some (.ow (.ml ds))) (he : JR K m te Γ Φ) (hj : JR K false tj Γ fun z => z = .int n) (hn : ixN ds.length n = some j) (k : ∀ d, Φ d → G.nx (Γ.set i (.ow (.ml (ds.set j d))))) : JS K kp (tAsg te (gSub (tVar i) tj rSetL)) Γ G := fun σ Hb H E F a b c d => he σ Hb H E _ fun v z Hb1 H1 y g1 E1 r => by
  obtain ⟨p, vs, h1, h2, h3, h4⟩ := E1.own_at h
  refine ⟨.ref p, h1, hj σ Hb1 H1 E1 _ fun v2 z2 Hb2 H2 y2 g2 E2 r2 => ?_⟩
  subst y2
  cases r2
  obtain ⟨p', ws, k1, k2, k3, k4⟩ := E2.own_at h
  rw [h1] at k1
  cases k1
  exact ⟨p, ws, n, j, rfl, rfl, k3, by rw [k4.len]; exact hn, a _ _ _ _ (k z y) ((GS.of (gww g1 (ww_lift g2)) E2).trans (GS.put E2 h h1 ⟨_, rfl, k4.set (r.mono g2.b) j⟩))⟩
theorem js_aug {i : Nat} {f : Int → Int → Int} {x : Int} (h : Γ[i]? = some (.pd (.int x))) (he : JR K m te Γ fun z => ∃ y, z = .int y ∧ Φ (.int y)) (k : ∀ y, Φ (.int y) → G.nx (Γ.set i (.pd (.int (f x y))))) (hk : kp ≤ i) : JS K kp (tAug i te (ipI f)) Γ G := fun σ Hb H E F a b c d => by
  obtain ⟨v, h1, r1⟩ := E.val i _ h
  cases r1
  refine ⟨.int x, h1, he σ Hb H E _ fun w z Hb1 H1 p g1 E1 r => ?_⟩
  obtain ⟨y, rfl, q⟩ := p
  cases r
  exact ⟨x, y, rfl, rfl, a _ _ _ _ (k y q) ((GS.of g1 E1).trans ⟨Gr.refl E1.ex, E1.set (.int (f x y)) i, fun b z => .inl z.set, fun j hj => List.getElem?_set_ne (by omega)⟩)⟩
/-- loops -/
theorem js_for {wi : TI} {js : List Nat} {Φ : List D → Prop} (es : List D → Nat → List D) (Inv : List D → Nat → List Sl → Prop) (hi : JI K m wi Γ Φ) (h0 : ∀ ds, Φ ds → Inv ds 0 Γ) (hg : ∀ ds, Φ ds → ∀ (i : Nat) d, ds[i]? = some d → XGt K g d js (es ds i)) (hj : ∀ j ∈ js, kp ≤ j)
    (hs : ∀ ds, Φ ds → ∀ (i : Nat) d Γ', ds[i]? = some d → Inv ds i Γ' → JS K kp tb (setG Γ' js (es ds i)) { nx := Inv ds (i + 1), ct := Inv ds (i + 1), bk := G.nx, rt := G.rt }) (hd : ∀ ds Γ', Φ ds → Inv ds ds.length Γ' → G.nx Γ') : JS K kp (tFor wi g tb) Γ G := fun σ Hb H E F a b c d => by
  refine hi σ Hb H E _ fun J ds Hb1 H1 p1 g1 E1 it => ?_
  refine ⟨fun i mm σ' H' => mm = ds.length - i ∧ i ≤ ds.length ∧ ∃ Γ' Hb', Inv ds i Γ' ∧ GS K kp σ Γ Hb1 H1 σ' Γ' Hb' H', ⟨ds.length, by simp, Nat.zero_le _, Γ, Hb1, h0 ds p1, GS.refl E1⟩, ?_⟩
  rintro i mm σ2 H2 ⟨rfl, hi', Γ2, Hb2, v2, G2⟩
  by_cases hlt : i < ds.length
  · obtain ⟨go, yl⟩ := (it Hb2 H2 G2.gr.b G2.en.ex i).1 hlt
    refine .inr ⟨go, fun σ' H' => ∃ Γ' Hb', Inv ds (i + 1) Γ' ∧ GS K kp σ Γ Hb1 H1 σ' Γ' Hb' H', fun σ' H' hN => ⟨ds.length - (i + 1), by omega, rfl, hlt, hN⟩, fun x H3 y => ?_⟩
    obtain ⟨z, Hb3, e, g3, rx⟩ := yl x H3 y
    have E3 := G2.en.new g3
    refine hg ds p1 i z e x Hb3 H3 σ2 _ E3.ex rx fun vals rv => ?_
    have G3 : GS K kp σ Γ Hb1 H1 (DL.setL σ2 js vals) (setG Γ2 js (es ds i)) Hb3 H3 := (G2.trans (GS.of (m := true) g3.gr E3)).trans ⟨Gr.refl E3.ex, E3.setL rv, fun q y => .inl (Own.setL rv.len y), fun j hj' => setL_ne fun y => by have := hj j y; omega⟩
    exact hs ds p1 i z Γ2 e v2 _ Hb3 H3 G3.en _ (fun Γ5 σ5 Hb5 H5 y x => ⟨Γ5, Hb5, y, G3.trans x⟩) (fun Γ5 σ5 Hb5 H5 y x => a _ _ _ _ y ((G3.trans x).more g1 E1)) (fun Γ5 σ5 Hb5 H5 y x => ⟨Γ5, Hb5, y, G3.trans x⟩) fun d5 v5 Γ5 σ5 Hb5 H5 y x => d _ _ _ _ _ _ y ((G3.trans x).more g1 E1)
  · have e : i = ds.length := by omega
    exact .inl ⟨(it Hb2 H2 G2.gr.b G2.en.ex i).2 (by omega), a _ _ _ _ (hd ds Γ2 p1 (by rw [← e]; exact v2)) (G2.more g1 E1)⟩
theorem js_while (Inv : Nat → List Sl → Prop) (n : Nat) (h0 : Inv n Γ) (hs : ∀ (k : Nat) Γ', Inv k Γ' → ∃ Φt : Bool → Prop, JT K m tt Γ' Φt ∧ (Φt true → JS K kp tb Γ' { nx := fun Γ2 => ∃ j, j < k ∧ Inv j Γ2, ct := fun Γ2 => ∃ j, j < k ∧ Inv j Γ2, bk := G.nx, rt := G.rt }) ∧ (Φt false → G.nx Γ')) : JS K kp (tWhile tt tb) Γ G := fun σ Hb H E F a b c d => by
  refine ⟨fun k σ' H' => ∃ Γ' Hb', Inv k Γ' ∧ GS K kp σ Γ Hb H σ' Γ' Hb' H', ⟨n, Γ, Hb, h0, GS.refl E⟩, ?_⟩
  rintro k σ2 H2 ⟨Γ2, Hb2, v2, G2⟩
  obtain ⟨Φt, ht, h1, h2⟩ := hs k Γ2 v2
  refine ht σ2 Hb2 H2 G2.en _ fun z Hb3 H3 p g3 E3 => ?_
  have G3 := G2.trans (GS.of (kp := kp) g3 E3)
  cases z with
  | true =>
    refine iteT ⟨fun σ' H' => ∃ j, j < k ∧ ∃ Γ' Hb', Inv j Γ' ∧ GS K kp σ Γ Hb H σ' Γ' Hb' H', fun σ' H' ⟨j, q, r⟩ => ⟨j, q, r⟩, ?_⟩
    exact h1 p σ2 Hb3 H3 E3 _ (fun Γ5 σ5 Hb5 H5 ⟨j, y, z⟩ x => ⟨j, y, Γ5, Hb5, z, G3.trans x⟩) (fun Γ5 σ5 Hb5 H5 y x => a _ _ _ _ y (G3.trans x)) (fun Γ5 σ5 Hb5 H5 ⟨j, y, z⟩ x => ⟨j, y, Γ5, Hb5, z, G3.trans x⟩) fun d5 v5 Γ5 σ5 Hb5 H5 y x => d _ _ _ _ _ _ y (G3.trans x)
  | false => exact iteF (a _ _ _ _ (h2 p) G3)
end

/-! ### .. of the text -/
section
variable {X : Cx} {kp : Nat} {st : Stmt} {sts rest body A B : List Stmt} {Γ : List Sl} {G : Dn} {m : Bool} {e c tg iter : Expr} {pos pos' : Pos} {Φ : D → Prop} {x : Str} {g : TG}
theorem xs_asg (i : Nat) (h : XE X m e Γ Φ) (k : ∀ d, Φ d → G.nx (Γ.set i (.pd d))) (hN : X.N.Nodup) (hk : kp ≤ i := by decide) (hi : X.N[i]? = some x := by rfl) (hx : Loc X.env.scope x := by first | exact .inl rfl | exact .inr rfl) (hs : swapsWith e (some (.Name x pos')) pos.line X.env = pure false := by rfl) (hf : X.fn x = true ∨ X.env.scope.names.lookup x = some .local := by first | exact .inl rfl | exact .inr rfl) : XS X kp (.Assign [.Name x pos'] e pos) Γ G :=
  xs_of (ps_set hN hi hx pe_wp hs hf) (js_asg h k hk)
theorem xs_asgN {Φ : MO → Prop} (i : Nat) (h : XN X m e Γ Φ) (k : ∀ o, Φ o → G.nx (Γ.set i (.ow o))) (hN : X.N.Nodup) (hk : kp ≤ i := by decide) (hi : X.N[i]? = some x := by rfl) (hx : Loc X.env.scope x := by first | exact .inl rfl | exact .inr rfl) (hs : swapsWith e (some (.Name x pos')) pos.line X.env = pure false := by rfl) (hf : X.fn x = true ∨ X.env.scope.names.lookup x = some .local := by first | exact .inl rfl | exact .inr rfl) : XS X kp (.Assign [.Name x pos'] e pos) Γ G :=
  xs_of (ps_set hN hi hx pe_wp hs hf) (js_asgN h k hk)
theorem xs_asgG {js : List Nat} (es : D → List D) (h : XE X m e Γ Φ) (hg : PG X tg g) (gt : ∀ d, Φ d → XGt X.K g d js (es d)) (k : ∀ d, Φ d → G.nx (setG Γ js (es d))) (hk : ∀ j ∈ js, kp ≤ j := by decide) (hs : swapsWithSole [tg] e pos.line X.env = pure false := by rfl) (hw : swappedStores [tg] e X.env = pure none := by rfl)
    (h1 : (assignEach [tg] X.env).map (·.2) = [assign tg X.env] := by rfl) : XS X kp (.Assign [tg] e pos) Γ G := xs_of (ps_asg pe_wp hg hs hw h1) (js_asgG es h gt hk k)
/-- y = [e for ..], on one line, y a local -/
theorem xs_asgLc {elt tg iter : Expr} {ifs : List Expr} {scope : Scope} {tt : TT} {α β : Type} {f : α → D} {xs : List α} (i : Nat) (js : List Nat) (es : α → List D) (p : α → Bool) (f' : β → D) (h : α → β) (own : List (Str × Nat)) (hi : XW X tg iter Γ (xs.map f)) (hg : Bk X scope fun Y => PG Y tg g) (gt : ∀ x ∈ xs, XGt X.K g (f x) js (es x)) (hf : Ifs X scope ifs tt)
    (ht : ∀ x ∈ xs, JT X.K false tt (setG Γ js (es x)) fun z => z = p x) (he : ∀ x ∈ xs, p x = true → Bk X scope fun Y => XV Y elt (setG Γ js (es x)) (f' (h x))) (hl : xs.length ≤ 100000) (k : G.nx (Γ.set i (.ow (.ml (((xs.filter p).map h).map f'))))) (ok : BlkOk X.N X.env.scope scope own) (hN : X.N.Nodup) (hsw : swapsWith (.ListComp elt [⟨tg, iter, ifs, 0⟩] scope pos) (some (.Name x pos')) st2.line X.env = pure true)
    (hw : wipeG Γ (own.map (·.2)) = Γ := by rfl) (hv : ∀ j ∈ js, j ∈ own.map (·.2) := by decide) (hk : kp ≤ i := by decide) (hy : X.N[i]? = some x := by rfl) (hyl : X.env.scope.names.lookup x = some .local := by rfl)
    (hc : X.calm = true := by rfl) (hs : ∀ x, foldedSetIterable iter X.env x = pure x := by intro _; rfl) : XS X kp (.Assign [.Name x pos'] (.ListComp elt [⟨tg, iter, ifs, 0⟩] scope pos) st2) Γ G :=
  xs_of (ps_setLc hc hN hy hyl hsw pi_wp ok hg hf.ok pe_wb hs) (js_asgN (jn_lcP hw hi hv hl gt ht fun x hx hp => jr_wb (he x hx hp)) (fun o z => by rw [z]; exact k) hk)
theorem xs_asgLcN {elt tg iter : Expr} {ifs : List Expr} {scope : Scope} {tt : TT} {Φ : List D → Prop} (i : Nat) (js : List Nat) (es : List D → Nat → List D) (P : List D → Nat → List D → Prop) (own : List (Str × Nat)) (hi : XI X m tg iter Γ Φ) (hg : Bk X scope fun Y => PG Y tg g) (gt : ∀ ds, Φ ds → ∀ (i : Nat) d, ds[i]? = some d → XGt X.K g d js (es ds i)) (hf : Ifs X scope ifs tt) (h0 : ∀ ds, Φ ds → P ds 0 [])
    (hs : ∀ ds, Φ ds → ∀ (i : Nat) d acc, ds[i]? = some d → P ds i acc → JT X.K m tt (setG Γ js (es ds i)) fun b => (b = true → Bk X scope fun Y => XE Y m elt (setG Γ js (es ds i)) fun e => P ds (i + 1) (acc ++ [e])) ∧ (b = false → P ds (i + 1) acc)) (hl : ∀ ds, Φ ds → ds.length ≤ 100000) (k : ∀ ds acc, Φ ds → P ds ds.length acc → G.nx (Γ.set i (.ow (.ml acc)))) (ok : BlkOk X.N X.env.scope scope own) (hN : X.N.Nodup) (hsw : swapsWith (.ListComp elt [⟨tg, iter, ifs, 0⟩] scope pos) (some (.Name x pos')) st2.line X.env = pure true)
    (hw : wipeG Γ (own.map (·.2)) = Γ := by rfl) (hv : ∀ j ∈ js, j ∈ own.map (·.2) := by decide) (hk : kp ≤ i := by decide) (hy : X.N[i]? = some x := by rfl) (hyl : X.env.scope.names.lookup x = some .local := by rfl)
    (hc : X.calm = true := by rfl) (hss : ∀ x, foldedSetIterable iter X.env x = pure x := by intro _; rfl) : XS X kp (.Assign [.Name x pos'] (.ListComp elt [⟨tg, iter, ifs, 0⟩] scope pos) st2) Γ G :=
  xs_of (ps_setLc hc hN hy hyl hsw pi_wp ok hg hf.ok pe_wb hss) (js_asgN (jn_lc es P hw hi hv hl h0 gt fun ds e i d acc hd hp => fun σ Hb H E Q q => hs ds e i d acc hd hp σ Hb H E Q fun b Hb' H' z => q b Hb' H' ⟨fun hb => jr_wb (z.1 hb), z.2⟩) (fun o z => by
    obtain ⟨ds, acc, e1, rfl, e2⟩ := z
    exact k ds acc e1 e2) hk)
theorem xs_if {Φ : Bool → Prop} (h : XT X m c Γ Φ) (h1 : Φ true → XSs X kp A Γ G) (h2 : Φ false → XSs X kp B Γ G) : XS X kp (.If c A B pos) Γ G := xs_of (ps_if pt_wp pss_wp pss_wp) (js_if h h1 h2)
theorem xs_ret (h : XE X m e Γ Φ) (k : ∀ d, Φ d → G.rt d Γ) : XS X kp (.Return (some e) pos) Γ G := xs_of (ps_ret pe_wp) (js_ret h k)
theorem xs_retV {d : D} (h : XV X e Γ d) (k : G.rt d Γ) : XS X kp (.Return (some e) pos) Γ G := xs_ret h fun _ z => by rw [z]; exact k
theorem xs_asgV (i : Nat) {d : D} (h : XV X e Γ d) (k : G.nx (Γ.set i (.pd d))) (hN : X.N.Nodup) (hk : kp ≤ i := by decide) (hi : X.N[i]? = some x := by rfl) (hx : Loc X.env.scope x := by first | exact .inl rfl | exact .inr rfl) (hs : swapsWith e (some (.Name x pos')) pos.line X.env = pure false := by rfl) (hf : X.fn x = true ∨ X.env.scope.names.lookup x = some .local := by first | exact .inl rfl | exact .inr rfl) : XS X kp (.Assign [.Name x pos'] e pos) Γ G :=
  xs_asg i h (fun _ z => by rw [z]; exact k) hN hk hi hx hs hf
theorem xs_asgO (i : Nat) {o : MO} (h : XO X e Γ o) (k : G.nx (Γ.set i (.ow o))) (hN : X.N.Nodup) (hk : kp ≤ i := by decide) (hi : X.N[i]? = some x := by rfl) (hx : Loc X.env.scope x := by first | exact .inl rfl | exact .inr rfl) (hs : swapsWith e (some (.Name x pos')) pos.line X.env = pure false := by rfl) (hf : X.fn x = true ∨ X.env.scope.names.lookup x = some .local := by first | exact .inl rfl | exact .inr rfl) : XS X kp (.Assign [.Name x pos'] e pos) Γ G :=
  xs_asgN i h (fun _ z => by rw [z]; exact k) hN hk hi hx hs hf
theorem xs_app (i : Nat) {ds : List D} {pos2 pos3 : Pos} (he : XE X m e Γ Φ) (k : ∀ d, Φ d → G.nx (Γ.set i (.ow (.ml (ds ++ [d]))))) (hz : ds.length < 100000) (h : Γ[i]? = some (.ow (.ml ds)) := by rfl) (hN : X.N[i]? = some x := by rfl) (hv : Vis X.env.scope x := by first | exact Or.inl rfl | exact Or.inr (Or.inl rfl) | exact Or.inr (Or.inr rfl)) (hd : (x == ("__debug__" : Str)) = false := by decide)
    (hcd : (x == ("__classdict__" : Str)) = false := by decide) (hs1 : starEach (e :: []) X.env = (false, eval e X.env) :: starEach [] X.env := by rfl) (hs : swapsWith (.Call (.Attribute (.Name x pos') "append" pos2) [e] [] pos3) none pos.line X.env = pure false := by rfl)
    (hbm : PE X (.Call (.Attribute (.Name x pos') "append" pos2) [e] [] pos3) (tBM X.K "list" rAppend (tVar i) (tCons (wpE X e) tNil)) := by exact pe_bm PySem.F.plainAttrs_list PySem.F.slot_list_append PySem.F.type_list_append mt_append (pe_var (by rfl) (by first | exact Or.inl rfl | exact Or.inr (Or.inl rfl) | exact Or.inr (Or.inr rfl))) (pa_cons pe_wp pa_nil)) :
    XS X kp (.Expr (.Call (.Attribute (.Name x pos') "append" pos2) [e] [] pos3) pos) Γ G := xs_of (ps_expr hbm hs) (js_app h he hz k)
theorem xs_setO (i j : Nat) {n : Int} {ds : List D} {a : Expr} {pos2 : Pos} (he : XE X m e Γ Φ) (hj : XV X a Γ (.int n)) (hn : ixN ds.length n = some j) (k : ∀ d, Φ d → G.nx (Γ.set i (.ow (.ml (ds.set j d))))) (h : Γ[i]? = some (.ow (.ml ds)) := by rfl)
    (hps : PS X (.Assign [.Subscript (.Name x pos') a pos2] e pos) (tAsg (wpE X e) (gSub (tVar i) (wpE X a) rSetL)) := by exact ps_asg pe_wp (pg_sub (pe_var (by rfl) (by first | exact Or.inl rfl | exact Or.inr (Or.inl rfl) | exact Or.inr (Or.inr rfl))) pe_wp set_list)) :
    XS X kp (.Assign [.Subscript (.Name x pos') a pos2] e pos) Γ G := xs_of hps (js_setL h he hj hn k)
theorem xs_aug (i : Nat) {op : Operator} {f : Int → Int → Int} {a b : Int} (ho : PIp X op (ipI f)) (he : XV X e Γ (.int b)) (k : G.nx (Γ.set i (.pd (.int (f a b))))) (hN : X.N.Nodup) (h : Γ[i]? = some (.pd (.int a)) := by rfl) (hk : kp ≤ i := by decide) (hi : X.N[i]? = some x := by rfl) (hx : Loc X.env.scope x := by first | exact .inl rfl | exact .inr rfl)
    (hf : X.fn x = true ∨ X.env.scope.names.lookup x = some .local := by first | exact .inl rfl | exact .inr rfl) : XS X kp (.AugAssign (.Name x pos') op e pos) Γ G := xs_of (ps_aug hN hi hx pe_wp ho hf) (js_aug (Φ := fun z => z = .int b) h (he.imp fun d z => ⟨b, z, rfl⟩) (fun y z => by cases z; exact k) hk)
theorem xs_for {js : List Nat} {Φ : List D → Prop} (es : List D → Nat → List D) (Inv : List D → Nat → List Sl → Prop) (hi : XI X m tg iter Γ Φ) (hp : PG X tg g) (h0 : ∀ ds, Φ ds → Inv ds 0 Γ) (hg : ∀ ds, Φ ds → ∀ (i : Nat) d, ds[i]? = some d → XGt X.K g d js (es ds i))
    (hs : ∀ ds, Φ ds → ∀ (i : Nat) d Γ', ds[i]? = some d → Inv ds i Γ' → XSs X kp body (setG Γ' js (es ds i)) { nx := Inv ds (i + 1), ct := Inv ds (i + 1), bk := G.nx, rt := G.rt }) (hd : ∀ ds Γ', Φ ds → Inv ds ds.length Γ' → G.nx Γ') (hps : PassesOwn (model X.prog X.w) X.A X.env X.xe) (hj : ∀ j ∈ js, kp ≤ j := by decide) (hc : X.calm = true := by rfl)
    (hss : ∀ x, foldedSetIterable iter X.env x = pure x := by intro _; rfl) : XS X kp (.For tg iter body [] pos) Γ G := xs_of (ps_for hps hc pi_wp hp pss_wp hss) (js_for es Inv hi h0 hg hj hs hd)
/-- over known, typed items; the slots behind a turn's place -/
theorem xs_forT {α : Type} {f : α → D} {xs : List α} {js : List Nat} (es : α → List D) (Inv : List α → List Sl → Prop) (hi : XW X tg iter Γ (xs.map f)) (hp : PG X tg g) (h0 : Inv [] Γ) (hg : ∀ x ∈ xs, XGt X.K g (f x) js (es x))
    (hs : ∀ pre x post Γ', xs = pre ++ x :: post → Inv pre Γ' → XSs X kp body (setG Γ' js (es x)) { nx := Inv (pre ++ [x]), ct := Inv (pre ++ [x]), bk := G.nx, rt := G.rt }) (hd : ∀ Γ', Inv xs Γ' → G.nx Γ') (hps : PassesOwn (model X.prog X.w) X.A X.env X.xe) (hj : ∀ j ∈ js, kp ≤ j := by decide) (hc : X.calm = true := by rfl)
    (hss : ∀ x, foldedSetIterable iter X.env x = pure x := by intro _; rfl) : XS X kp (.For tg iter body [] pos) Γ G := by
  refine xs_for (fun _ i => (xs[i]?.map es).getD []) (fun _ i => Inv (xs.take i)) hi hp (fun ds e => by rw [List.take_zero]; exact h0) (fun ds e i d hd' => ?_) (fun ds e i d Γ' hd' hv => ?_) (fun ds Γ' e hv => ?_) hps hj hc hss
  · subst e
    rw [List.getElem?_map] at hd'
    cases hx : xs[i]? with
    | none => rw [hx] at hd'; cases hd'
    | some x =>
      rw [hx] at hd'
      cases hd'
      exact hg x (List.mem_of_getElem? hx)
  · subst e
    rw [List.getElem?_map] at hd'
    cases hx : xs[i]? with
    | none => rw [hx] at hd'; cases hd'
    | some x =>
      have et : xs.take (i + 1) = xs.take i ++ [x] := by rw [List.take_add_one, hx]; rfl
      have z := hs (xs.take i) x (xs.drop (i + 1)) Γ' (by
        obtain ⟨h1, h2⟩ := List.getElem?_eq_some_iff.mp hx
        rw [← h2, ← List.drop_eq_getElem_cons h1, List.take_append_drop]) hv
      rw [et]
      exact z
  · subst e
    rw [List.length_map, List.take_length] at hv
    exact hd Γ' hv
theorem xs_while (Inv : Nat → List Sl → Prop) (n : Nat) (h0 : Inv n Γ) (hs : ∀ (k : Nat) Γ', Inv k Γ' → ∃ Φt : Bool → Prop, XT X m c Γ' Φt ∧ (Φt true → XSs X kp body Γ' { nx := fun Γ2 => ∃ j, j < k ∧ Inv j Γ2, ct := fun Γ2 => ∃ j, j < k ∧ Inv j Γ2, bk := G.nx, rt := G.rt }) ∧ (Φt false → G.nx Γ')) (hps : PassesOwn (model X.prog X.w) X.A X.env X.xe) : XS X kp (.While c body [] pos) Γ G := xs_of (ps_while hps pt_wp pss_wp) (js_while Inv n h0 hs)
theorem XS.imp {G' : Dn} (h : XS X kp st Γ G) (k : ∀ Γ', G.nx Γ' → G'.nx Γ') (k1 : ∀ d Γ', G.rt d Γ' → G'.rt d Γ') (k2 : ∀ Γ', G.bk Γ' → G'.bk Γ') (k3 : ∀ Γ', G.ct Γ' → G'.ct Γ') : XS X kp st Γ G' := fun σ Hb H E F a b c d => h σ Hb H E F (fun _ _ _ _ y => a _ _ _ _ (k _ y)) (fun _ _ _ _ y => b _ _ _ _ (k2 _ y)) (fun _ _ _ _ y => c _ _ _ _ (k3 _ y)) fun _ _ _ _ _ _ y => d _ _ _ _ _ _ (k1 _ _ y)
theorem XSs.imp {G' : Dn} (h : XSs X kp sts Γ G) (k : ∀ Γ', G.nx Γ' → G'.nx Γ') (k1 : ∀ d Γ', G.rt d Γ' → G'.rt d Γ') (k2 : ∀ Γ', G.bk Γ' → G'.bk Γ') (k3 : ∀ Γ', G.ct Γ' → G'.ct Γ') : XSs X kp sts Γ G' := fun σ Hb H E F a b c d => h σ Hb H E F (fun _ _ _ _ y => a _ _ _ _ (k _ y)) (fun _ _ _ _ y => b _ _ _ _ (k2 _ y)) (fun _ _ _ _ y => c _ _ _ _ (k3 _ y)) fun _ _ _ _ _ _ y => d _ _ _ _ _ _ (k1 _ _ y)
end
end DL

namespace DL
open PySem PySem.Spec PyProof.Rows L2 Evl

/-! ### an owned list looked at -/
def D.flat : D → Bool
  | .non => true | .bl _ => true | .int _ => true | .str _ => true
  | _ => false
def cutA (H : Hp) (a : Addr) : Hp := fun b => if b = a then none else H b
theorem cutA_same {H : Hp} {a : Addr} : cutA H a a = none := if_pos rfl
theorem cutA_ne {H : Hp} {a b : Addr} (h : b ≠ a) : cutA H a b = H b := if_neg h
section
variable {K : PySem.W.Frag} {Γ : List Sl} {te : TE} {tt : TT} {Φ : D → Prop}
theorem unfreeze {σ : L2.St} {Hb H : Hp} {i : Nat} {ds : List D} (E : En K Hb H σ Γ) (hi : Γ[i]? = some (.ow (.ml ds))) {a : Addr} {vs : List V} (h1 : σ[i]? = some (some (.ref a))) (h2 : Hb a = none) (h3 : H a = some (.lst vs)) {Hb' H' : Hp} (g : Gr (WW false σ (Γ.set i (.pd (.lst ds)))) (upd Hb a (.lst vs)) H Hb' H') (E' : En K Hb' H' σ (Γ.set i (.pd (.lst ds)))) :
    Gr (WW false σ Γ) Hb H (cutA Hb' a) H' ∧ En K (cutA Hb' a) H' σ Γ := by
  have nf : ∀ {q : Addr} {Γ : List Sl}, ¬ WW false σ Γ q := fun z => by cases z.1
  have eb : Ex Hb (cutA Hb' a) := fun b o e => by
    have ne : b ≠ a := ne_of_none e h2
    rw [cutA_ne ne]
    exact g.b b o (by rw [upd_ne ne]; exact e)
  have G : Gr (WW false σ Γ) Hb H (cutA Hb' a) H' := ⟨eb, fun q o e _ => g.h q o e nf, g.al, fun b o e => by
      by_cases z : b = a
      · subst z; rw [cutA_same] at e; cases e
      · rw [cutA_ne z] at e; exact g.s b o e, fun b e t _ => by
      by_cases z : b = a
      · subst z; rw [cutA_same, h2]
      · rw [cutA_ne z, g.f b e t nf, upd_ne z]⟩
  refine ⟨G, ?_⟩
  have N : New Hb H (cutA Hb' a) H' := ww_new (Γ := Γ) (σ := σ) G
  exact E.new N
theorem DR.flat_any {Hb Hb' : Hp} {v : V} {d : D} (r : DR K Hb v d) (h : d.flat = true) : DR K Hb' v d := by
  cases r with
  | non => exact .non
  | bl b => exact .bl b
  | int b => exact .int b
  | str b => exact .str b
  | lst _ _ => cases h
  | tup _ _ => cases h
  | ins _ _ _ _ => cases h
  | dic _ _ _ _ => cases h
  | sc _ => cases h
theorem jr_borrow {i : Nat} {ds : List D} (h : Γ[i]? = some (.ow (.ml ds))) (hx : JR K false te (Γ.set i (.pd (.lst ds))) Φ) (hs : ∀ d, Φ d → d.flat = true) : JR K false te Γ Φ := fun σ Hb H E Q q => by
  obtain ⟨a, vs, h1, h3, h4, h2, h5, E2⟩ := E.freeze h
  refine hx σ _ H E2 Q fun v d Hb' H' p g E' r => ?_
  obtain ⟨G, E3⟩ := unfreeze E h h1 h2 h3 g E'
  exact q v d _ H' p G E3 (r.flat_any (hs d p))
theorem jt_borrow {i : Nat} {ds : List D} {Φ : Bool → Prop} (h : Γ[i]? = some (.ow (.ml ds))) (hx : JT K false tt (Γ.set i (.pd (.lst ds))) Φ) : JT K false tt Γ Φ := fun σ Hb H E Q q => by
  obtain ⟨a, vs, h1, h3, h4, h2, h5, E2⟩ := E.freeze h
  refine hx σ _ H E2 Q fun b Hb' H' p g E' => ?_
  obtain ⟨G, E3⟩ := unfreeze E h h1 h2 h3 g E'
  exact q b _ H' p G E3
end
section
variable {X : Cx} {kp : Nat} {Γ : List Sl} {G : Dn} {m : Bool} {e : Expr} {es : List Expr} {pos p : Pos} {Φ : D → Prop} {x : Str} {sts : List Stmt}
theorem xe_borrow (i : Nat) {ds : List D} (hx : XE X false e (Γ.set i (.pd (.lst ds))) Φ) (hs : ∀ d, Φ d → d.flat = true) (h : Γ[i]? = some (.ow (.ml ds)) := by rfl) : XE X false e Γ Φ := jr_borrow h hx hs
theorem xv_borrow (i : Nat) {ds : List D} {d : D} (hx : XV X e (Γ.set i (.pd (.lst ds))) d) (hs : d.flat = true := by rfl) (h : Γ[i]? = some (.ow (.ml ds)) := by rfl) : XV X e Γ d := jr_borrow h hx fun z q => by rw [q]; exact hs
theorem xt_borrow (i : Nat) {ds : List D} {Φ : Bool → Prop} (hx : XT X false e (Γ.set i (.pd (.lst ds))) Φ) (h : Γ[i]? = some (.ow (.ml ds)) := by rfl) : XT X false e Γ Φ := jt_borrow h hx
/-- an owned object's word: opened, told anew -/
theorem xs_case (i : Nat) {o : MO} {P : MO → Prop} (hP : ∀ (Hb : Hp) (u : HO), MR X.K Hb u o → ∃ o', P o' ∧ MR X.K Hb u o') (h : ∀ o', P o' → XSs X kp sts (Γ.set i (.ow o')) G) (hi : Γ[i]? = some (.ow o) := by rfl) : XSs X kp sts Γ G := fun σ Hb H E F a b c d => by
  obtain ⟨q, u, h1, h2, h3, h4⟩ := E.own i o hi
  obtain ⟨o', p1, p2⟩ := hP Hb u h4
  have E2 : En X.K Hb H σ (Γ.set i (.ow o')) := by
    have z := E.put hi h1 p2
    have e : upd H q u = H := by
      funext b
      by_cases y : b = q
      · subst y; rw [upd_same, h3]
      · rw [upd_ne y]
    rw [e] at z
    exact z
  have ow : ∀ r, Own σ (Γ.set i (.ow o')) r → Own σ Γ r := fun r y => own_set hi y
  have kk : ∀ Γ2 σ2 Hb2 H2, GS X.K kp σ (Γ.set i (.ow o')) Hb H σ2 Γ2 Hb2 H2 → GS X.K kp σ Γ Hb H σ2 Γ2 Hb2 H2 := fun Γ2 σ2 Hb2 H2 g => ⟨g.gr.wk ow, g.en, fun r z => (g.own r z).imp (ow r) id, g.kp⟩
  exact h o' p1 σ Hb H E2 F (fun Γ2 σ2 Hb2 H2 y k => a Γ2 σ2 Hb2 H2 y (kk _ _ _ _ k)) (fun Γ2 σ2 Hb2 H2 y k => b Γ2 σ2 Hb2 H2 y (kk _ _ _ _ k)) (fun Γ2 σ2 Hb2 H2 y k => c Γ2 σ2 Hb2 H2 y (kk _ _ _ _ k)) fun d2 v Γ2 σ2 Hb2 H2 y k => d d2 v Γ2 σ2 Hb2 H2 y (kk _ _ _ _ k)
theorem xs_fold (i : Nat) {o o' : MO} (hP : ∀ (Hb : Hp) (u : HO), MR X.K Hb u o → MR X.K Hb u o') (h : XSs X kp sts (Γ.set i (.ow o')) G) (hi : Γ[i]? = some (.ow o) := by rfl) : XSs X kp sts Γ G := xs_case i (P := fun z => z = o') (fun Hb u r => ⟨o', rfl, hP Hb u r⟩) (fun z e => by rw [e]; exact h) hi
end

/-! ### promises -/
abbrev Con := List D → (D → Prop) → Prop
/-- a pure def -/
def spP (K : PySem.W.Frag) (C : Con) : Sp := fun vs H Q _ => ∃ ds Φ Hb, C ds Φ ∧ Ex Hb H ∧ DRs K Hb vs ds ∧ ∀ v d Hb' H', Φ d → New Hb H Hb' H' → DR K Hb' v d → Q v H'
/-- a pure def that hands back a new object of its own -/
def spN (K : PySem.W.Frag) (C : List D → (MO → Prop) → Prop) : Sp := fun vs H Q _ => ∃ ds Φ Hb, C ds Φ ∧ Ex Hb H ∧ DRs K Hb vs ds ∧ ∀ p u o Hb' H', Φ o → H p = none → New Hb H Hb' H' → Hb' p = none → H' p = some u → MR K Hb' u o → Q (.ref p) H'
/-- a def that changes the object that its first argument is -/
def spE (K : PySem.W.Frag) (o : MO) (C : Con) : Sp := fun vs H Q _ => ∃ (a : Addr) (ws : List V) (ds : List D) (Φ : D → Prop) (Hb : Hp) (u : HO), vs = .ref a :: ws ∧ C ds Φ ∧ Ex Hb H ∧ Hb a = none ∧ H a = some u ∧ MR K Hb u o ∧ DRs K Hb ws ds ∧
  ∀ v d Hb' H' u', Φ d → Gr (fun b => b = a) Hb H Hb' H' → Hb' a = none → H' a = some u' → MR K Hb' u' o → DR K Hb' v d → Q v H'
structure Cal (P : Program) (w : World) (K : PySem.W.Frag) (mg : Str → Option Value) (base : Heap) (k : Nat) (x : Str) (ps : List Str) (sp : Sp) : Prop where
  ex : ∃ (f : Addr) (fd : FuncData), FnOk P w K mg base CX0 k f fd ps sp ∧ mg x = some (.ref f) ∧ PySem.W.keepIn K (.ref f) = true ∧ Binds K fd ps []
section
variable {X : Cx} {Γ : List Sl} {m : Bool} {e : Expr} {es : List Expr} {pos p : Pos} {Φ : D → Prop} {x : Str} {k : Nat} {ps : List Str}
theorem xe_call {C : Con} {Φa : List D → Prop} (c : Cal X.prog X.w X.K X.mg X.base k x ps (spP X.K C)) (hr : Room k X.A) (ha : XA X m (e :: es) Γ Φa) (hc : ∀ ds, Φa ds → C ds Φ) (hg : Gl X x := by rfl) (hdb : (x == ("__debug__" : Str)) = false := by decide) (he : starEach (e :: es) X.env = (false, eval e X.env) :: starEach es X.env := by rfl) (hpl : (backTo pos (starEach es X.env)).any (·.1) = false := by rfl) :
    XE X m (.Call (.Name x p) (e :: es) [] pos) Γ Φ := by
  obtain ⟨f, fd, F, h1, h2, h3⟩ := c.ex
  refine xe_of (pe_call F hr hg h1 h2 h3 .nil pass0 pa_wp hdb he hpl) fun σ Hb H E Q q => ha σ Hb H E _ fun vs ds Hb1 H1 p1 g1 E1 r1 => ?_
  refine ⟨ds, Φ, Hb1, hc ds p1, E1.ex, by rw [List.append_nil]; exact r1, fun v d Hb2 H2 p2 g2 r2 => q v d Hb2 H2 p2 (gwn g1 g2) (E1.new g2) r2⟩
theorem xv_call {C : Con} {ds : List D} {d : D} (c : Cal X.prog X.w X.K X.mg X.base k x ps (spP X.K C)) (hr : Room k X.A) (ha : XL X (e :: es) Γ ds) (hc : C ds fun z => z = d) (hg : Gl X x := by rfl) (hdb : (x == ("__debug__" : Str)) = false := by decide) (he : starEach (e :: es) X.env = (false, eval e X.env) :: starEach es X.env := by rfl) (hpl : (backTo pos (starEach es X.env)).any (·.1) = false := by rfl) :
    XV X (.Call (.Name x p) (e :: es) [] pos) Γ d := xe_call c hr ha (fun z q => by rw [q]; exact hc) hg hdb he hpl
theorem xn_call {C : List D → (MO → Prop) → Prop} {Φa : List D → Prop} {Φ : MO → Prop} (c : Cal X.prog X.w X.K X.mg X.base k x ps (spN X.K C)) (hr : Room k X.A) (ha : XA X m (e :: es) Γ Φa) (hc : ∀ ds, Φa ds → C ds Φ) (hg : Gl X x := by rfl) (hdb : (x == ("__debug__" : Str)) = false := by decide) (he : starEach (e :: es) X.env = (false, eval e X.env) :: starEach es X.env := by rfl) (hpl : (backTo pos (starEach es X.env)).any (·.1) = false := by rfl) :
    XN X m (.Call (.Name x p) (e :: es) [] pos) Γ Φ := by
  obtain ⟨f, fd, F, h1, h2, h3⟩ := c.ex
  refine xn_of (pe_call F hr hg h1 h2 h3 .nil pass0 pa_wp hdb he hpl) fun σ Hb H E Q q => ha σ Hb H E _ fun vs ds Hb1 H1 p1 g1 E1 r1 => ?_
  refine ⟨ds, Φ, Hb1, hc ds p1, E1.ex, by rw [List.append_nil]; exact r1, fun a u o Hb2 H2 p2 n2 g2 nb h2 r2 => q a u o Hb2 H2 p2 (new_none g1 n2) (gwn g1 g2) (E1.new g2) nb h2 r2⟩
/-- f(state, ..): state the owned object in slot i -/
theorem xe_callE (i : Nat) {y : Str} {py : Pos} {o : MO} {C : Con} {Φa : List D → Prop} (c : Cal X.prog X.w X.K X.mg X.base k x ps (spE X.K o C)) (hr : Room k X.A) (ha : XA X true es Γ Φa) (hc : ∀ ds, Φa ds → C ds Φ) (h : Γ[i]? = some (.ow o) := by rfl) (hN : X.N[i]? = some y := by rfl) (hv : Vis X.env.scope y := by first | exact Or.inl rfl | exact Or.inr (Or.inl rfl) | exact Or.inr (Or.inr rfl)) (hd : (y == ("__debug__" : Str)) = false := by decide)
    (hcd : (y == ("__classdict__" : Str)) = false := by decide) (hg : Gl X x := by rfl) (hdb : (x == ("__debug__" : Str)) = false := by decide) (he : starEach (.Name y py :: es) X.env = (false, eval (.Name y py) X.env) :: starEach es X.env := by rfl) (hpl : (backTo pos (starEach es X.env)).any (·.1) = false := by rfl) :
    XE X true (.Call (.Name x p) (.Name y py :: es) [] pos) Γ Φ := by
  obtain ⟨f, fd, F, h1, h2, h3⟩ := c.ex
  refine xe_of (pe_call F hr hg h1 h2 h3 .nil pass0 (pa_cons (pe_var hN hv hd hcd) pa_wp he) hdb he hpl) fun σ Hb H E Q q => ?_
  obtain ⟨a, u, k1, k2, k3, k4⟩ := E.own i o h
  refine ⟨.ref a, k1, ha σ Hb H E _ fun ws ds Hb1 H1 p1 g1 E1 r1 => ?_⟩
  obtain ⟨a', u1, e1, e2, e3, e4⟩ := E1.own i o h
  rw [k1] at e1
  cases e1
  refine ⟨a, ws, ds, Φ, Hb1, u1, by rw [List.append_nil], hc ds p1, E1.ex, e2, e3, e4, r1, fun v d Hb2 H2 u2 p2 g2 n2 h2 r2 rd => ?_⟩
  have g3 : Gr (WW true σ Γ) Hb1 H1 Hb2 H2 := g2.wk fun b z => ⟨rfl, i, o, h, by rw [z]; exact k1⟩
  have E2 : En X.K Hb2 H2 σ Γ := {
    ex := g2.s
    val := fun j z hj => by obtain ⟨v, z1, z2⟩ := E1.val j z hj; exact ⟨v, z1, z2.mono g2.b⟩
    own := fun j m hj => by
      obtain ⟨b, w, z1, z2, z3, z4⟩ := E1.own j m hj
      by_cases e : b = a
      · subst e
        have ij := E1.sep i j b o m h hj k1 z1
        subst ij
        rw [h] at hj
        cases hj
        exact ⟨b, u2, z1, n2, h2, r2⟩
      · exact ⟨b, w, z1, (g2.f b (by rw [z3]; simp) (by rw [z3]; exact z4.nt) e).trans z2, g2.h b w z3 e, z4.mono g2.b⟩
    sep := E1.sep
    len := E1.len }
  exact q v d Hb2 H2 p2 (gww g1 g3) E2 rd
end

/-! ### defs -/
section
variable {P : Program} {w : World} {K : PySem.W.Frag} {mg : Str → Option Value} {base : Heap} {x qual : Str} {st : Stmt} {f : Addr} {fd : FuncData} {N ps : List Str} {k : Nat}
def stG (N : List Str) (gs : List Sl) : List Sl := gs ++ List.replicate (N.length - gs.length) .un
theorem en_start {H Hb : Hp} {vs : List V} {ds : List D} (e : Ex Hb H) (r : DRs K Hb vs ds) : En K Hb H (L2.start N vs) (stG N (ds.map .pd)) where
  ex := e
  val := fun i d h => by
    unfold stG at h
    by_cases hi : i < (ds.map Sl.pd).length
    · rw [List.getElem?_append_left hi, List.getElem?_map] at h
      cases hd : ds[i]? with
      | none => rw [hd] at h; cases h
      | some d' =>
        rw [hd] at h
        cases h
        obtain ⟨v, h1, h2⟩ := r.get hd
        refine ⟨v, ?_, h2⟩
        unfold L2.start
        rw [List.getElem?_append_left (by rw [List.length_map]; exact (List.getElem?_eq_some_iff.mp h1).1), List.getElem?_map, h1]
        rfl
    · rw [List.getElem?_append_right (by omega), List.getElem?_replicate] at h
      split at h <;> cases h
  own := fun i o h => by
    unfold stG at h
    by_cases hi : i < (ds.map Sl.pd).length
    · rw [List.getElem?_append_left hi, List.getElem?_map] at h
      cases hd : ds[i]? with
      | none => rw [hd] at h; cases h
      | some d' => rw [hd] at h; cases h
    · rw [List.getElem?_append_right (by omega), List.getElem?_replicate] at h
      split at h <;> cases h
  sep := fun i j a o o' h => by
    unfold stG at h
    by_cases hi : i < (ds.map Sl.pd).length
    · rw [List.getElem?_append_left hi, List.getElem?_map] at h
      cases hd : ds[i]? with
      | none => rw [hd] at h; cases h
      | some d' => rw [hd] at h; cases h
    · rw [List.getElem?_append_right (by omega), List.getElem?_replicate] at h
      split at h <;> cases h
  len := by
    unfold L2.start stG
    rw [List.length_append, List.length_append, List.length_map, List.length_map, List.length_replicate, List.length_replicate, r.len]
theorem no_own {vs : List V} {ds : List D} {a : Addr} : ¬ Own (L2.start N vs) (stG N (ds.map .pd)) a := fun ⟨i, o, h, _⟩ => by
  unfold stG at h
  by_cases hi : i < (ds.map Sl.pd).length
  · rw [List.getElem?_append_left hi, List.getElem?_map] at h
    cases hd : ds[i]? with
    | none => rw [hd] at h; cases h
    | some d' => rw [hd] at h; cases h
  · rw [List.getElem?_append_right (by omega), List.getElem?_replicate] at h
    split at h <;> cases h
abbrev cxF (P : Program) (w : World) (K : PySem.W.Frag) (mg : Str → Option Value) (base : Heap) (N : List Str) (qual : Str) (st : Stmt) (f : Addr) (cdv : Value) (A : Around) (outer : List Env) (s : Shared) (H : Hp) (E : XK) : Cx := (cxOf CX0 P w K mg base N qual (defScope st) f cdv A outer s H E).nox
/-- a pure def: its body, for arguments by the promise -/
theorem fn_pure {C : Con} (F : Fun K x qual st f fd) (S : FnScope N ps (defScope st)) (len : ∀ ds Φ, C ds Φ → ds.length = ps.length)
    (body : ∀ (cdv : Value) (A : Around) (outer : List Env) (s : Shared) (H : Hp) (E : XK), Room k (A.deeper (envOfC qual (defScope st) s.heap.objs.size f cdv)) → ∀ ds Φ, C ds Φ → XSs (cxF P w K mg base N qual st f cdv A outer s H E) 0 (defBody st) (stG N (ds.map .pd)) { nx := fun _ => Φ .non, rt := fun d _ => Φ d }) :
    FnOk P w K mg base CX0 (k + 1) f fd ps (spP K C) := by
  refine F.ok S (fun vs H Q E h => ?_) (fun cdv A outer s H vs Q E hr h => ?_)
  · obtain ⟨ds, Φ, Hb, h1, h2, h3, _⟩ := h
    rw [h3.len]
    exact len ds Φ h1
  · obtain ⟨ds, Φ, Hb, h1, h2, h3, q⟩ := h
    have nw : ∀ {Hb' H' : Hp}, Gr (Own (L2.start N vs) (stG N (ds.map .pd))) Hb H Hb' H' → New Hb H Hb' H' := fun g => g.wk fun a z => no_own z
    exact ⟨_, pss_wp, body cdv A outer s H E hr ds Φ h1 _ Hb H (en_start h2 h3) _ (fun _ _ Hb' H' z g => q .non .non Hb' H' z (nw g.gr) .non) (fun _ _ _ _ z => z.elim) (fun _ _ _ _ z => z.elim) fun d v _ _ Hb' H' z g r => q v d Hb' H' z (nw g.gr) r⟩
/-- one that hands back a new list of its own (told by the slot that holds it at the return) -/
theorem fn_new {C : List D → (MO → Prop) → Prop} (F : Fun K x qual st f fd) (S : FnScope N ps (defScope st)) (len : ∀ ds Φ, C ds Φ → ds.length = ps.length)
    (body : ∀ (cdv : Value) (A : Around) (outer : List Env) (s : Shared) (H : Hp) (E : XK), Room k (A.deeper (envOfC qual (defScope st) s.heap.objs.size f cdv)) → ∀ ds Φ, C ds Φ → ∃ t, PSs (cxF P w K mg base N qual st f cdv A outer s H E) (defBody st) t ∧ ∀ (σ : L2.St) (Hb H : Hp), En K Hb H σ (stG N (ds.map .pd)) → ∀ Q : VK, (∀ p u o Hb' H', Φ o → H p = none → New Hb H Hb' H' → Hb' p = none → H' p = some u → MR K Hb' u o → Q (.ref p) H') → t { nx := fun _ H' => Q .non H', rt := Q } σ H) :
    FnOk P w K mg base CX0 (k + 1) f fd ps (spN K C) := by
  refine F.ok S (fun vs H Q E h => ?_) (fun cdv A outer s H vs Q E hr h => ?_)
  · obtain ⟨ds, Φ, Hb, h1, h2, h3, _⟩ := h
    rw [h3.len]
    exact len ds Φ h1
  · obtain ⟨ds, Φ, Hb, h1, h2, h3, q⟩ := h
    obtain ⟨t, ht, b⟩ := body cdv A outer s H E hr ds Φ h1
    exact ⟨t, ht, b _ Hb H (en_start h2 h3) Q q⟩
theorem en_startE {H Hb : Hp} {a : Addr} {u : HO} {o : MO} {vs : List V} {ds : List D} (e : Ex Hb H) (h1 : Hb a = none) (h2 : H a = some u) (h3 : MR K Hb u o) (r : DRs K Hb vs ds) : En K Hb H (L2.start N (.ref a :: vs)) (stG N (.ow o :: ds.map .pd)) where
  ex := e
  val := fun i d h => by
    unfold stG at h
    cases i with
    | zero => cases h
    | succ i =>
      have h' : (ds.map Sl.pd ++ List.replicate (N.length - (Sl.ow o :: ds.map Sl.pd).length) Sl.un)[i]? = some (.pd d) := h
      by_cases hi : i < (ds.map Sl.pd).length
      · rw [List.getElem?_append_left hi, List.getElem?_map] at h'
        cases hd : ds[i]? with
        | none => rw [hd] at h'; cases h'
        | some d' =>
          rw [hd] at h'
          cases h'
          obtain ⟨v, k1, k2⟩ := r.get hd
          refine ⟨v, ?_, k2⟩
          show (vs.map some ++ List.replicate (N.length - (V.ref a :: vs).length) none)[i]? = _
          rw [List.getElem?_append_left (by rw [List.length_map]; exact (List.getElem?_eq_some_iff.mp k1).1), List.getElem?_map, k1]
          rfl
      · rw [List.getElem?_append_right (by omega), List.getElem?_replicate] at h'
        split at h' <;> cases h'
  own := fun i o' h => by
    unfold stG at h
    cases i with
    | zero =>
      cases h
      exact ⟨a, u, rfl, h1, h2, h3⟩
    | succ i =>
      have h' : (ds.map Sl.pd ++ List.replicate (N.length - (Sl.ow o :: ds.map Sl.pd).length) Sl.un)[i]? = some (.ow o') := h
      by_cases hi : i < (ds.map Sl.pd).length
      · rw [List.getElem?_append_left hi, List.getElem?_map] at h'
        cases hd : ds[i]? with
        | none => rw [hd] at h'; cases h'
        | some d' => rw [hd] at h'; cases h'
      · rw [List.getElem?_append_right (by omega), List.getElem?_replicate] at h'
        split at h' <;> cases h'
  sep := fun i j b o1 o2 k1 k2 _ _ => by
    have one : ∀ (i : Nat) (o' : MO), (stG N (.ow o :: ds.map .pd))[i]? = some (.ow o') → i = 0 := fun i o' h => by
      unfold stG at h
      cases i with
      | zero => rfl
      | succ i =>
        have h' : (ds.map Sl.pd ++ List.replicate (N.length - (Sl.ow o :: ds.map Sl.pd).length) Sl.un)[i]? = some (.ow o') := h
        by_cases hi : i < (ds.map Sl.pd).length
        · rw [List.getElem?_append_left hi, List.getElem?_map] at h'
          cases hd : ds[i]? with
          | none => rw [hd] at h'; cases h'
          | some d' => rw [hd] at h'; cases h'
        · rw [List.getElem?_append_right (by omega), List.getElem?_replicate] at h'
          split at h' <;> cases h'
    rw [one i o1 k1, one j o2 k2]
  len := by
    unfold L2.start stG
    rw [List.length_append, List.length_append, List.length_map, List.length_cons, List.length_cons, List.length_map, List.length_replicate, List.length_replicate, r.len]
theorem one_own {a b : Addr} {o : MO} {vs : List V} {ds : List D} (h : Own (L2.start N (.ref a :: vs)) (stG N (.ow o :: ds.map .pd)) b) : b = a := by
  obtain ⟨i, o', h1, h2⟩ := h
  unfold stG at h1
  cases i with
  | zero =>
    have z : some (some (V.ref a)) = some (some (V.ref b)) := h2
    injection z with z
    injection z with z
    injection z with z
    exact z.symm
  | succ i =>
    have h' : (ds.map Sl.pd ++ List.replicate (N.length - (Sl.ow o :: ds.map Sl.pd).length) Sl.un)[i]? = some (.ow o') := h1
    by_cases hi : i < (ds.map Sl.pd).length
    · rw [List.getElem?_append_left hi, List.getElem?_map] at h'
      cases hd : ds[i]? with
      | none => rw [hd] at h'; cases h'
      | some d' => rw [hd] at h'; cases h'
    · rw [List.getElem?_append_right (by omega), List.getElem?_replicate] at h'
      split at h' <;> cases h'
/-- a def whose first argument is an object that it changes; R: how the object may stand at the end -/
theorem fn_eff {o : MO} {C : Con} (R : MO → Prop) (hR : ∀ (Hb : Hp) (u : HO) (o' : MO), R o' → MR K Hb u o' → MR K Hb u o) (F : Fun K x qual st f fd) (S : FnScope N ps (defScope st)) (len : ∀ ds Φ, C ds Φ → ds.length + 1 = ps.length)
    (body : ∀ (cdv : Value) (A : Around) (outer : List Env) (s : Shared) (H : Hp) (E : XK), Room k (A.deeper (envOfC qual (defScope st) s.heap.objs.size f cdv)) → ∀ ds Φ, C ds Φ → XSs (cxF P w K mg base N qual st f cdv A outer s H E) 1 (defBody st) (stG N (.ow o :: ds.map .pd)) { nx := fun Γ' => Φ .non ∧ ∃ o', R o' ∧ Γ'[0]? = some (.ow o'), rt := fun d Γ' => Φ d ∧ ∃ o', R o' ∧ Γ'[0]? = some (.ow o') }) :
    FnOk P w K mg base CX0 (k + 1) f fd ps (spE K o C) := by
  refine F.ok S (fun vs H Q E h => ?_) (fun cdv A outer s H vs Q E hr h => ?_)
  · obtain ⟨a, ws, ds, Φ, Hb, u, rfl, h1, _, _, _, _, h3, _⟩ := h
    rw [List.length_cons, h3.len]
    exact len ds Φ h1
  · obtain ⟨a, ws, ds, Φ, Hb, u, rfl, h1, h2, h3, h4, h5, h6, q⟩ := h
    have fin : ∀ {Γ' : List Sl} {σ' : L2.St} {Hb' H' : Hp} {v : V} {d : D}, (Φ d ∧ ∃ o', R o' ∧ Γ'[0]? = some (.ow o')) → GS K 1 (L2.start N (.ref a :: ws)) (stG N (.ow o :: ds.map .pd)) Hb H σ' Γ' Hb' H' → DR K Hb' v d → Q v H' := fun {Γ' σ' Hb' H' v d} z g r => by
      obtain ⟨p1, o', p2, p3⟩ := z
      obtain ⟨b, u', e1, e2, e3, e4⟩ := g.en.own 0 o' p3
      have e0 := g.kp 0 (by decide)
      rw [e1] at e0
      have z : some (some (V.ref b)) = some (some (V.ref a)) := e0
      injection z with z
      injection z with z
      injection z with z
      subst z
      exact q v d Hb' H' u' p1 (g.gr.wk fun c y => one_own y) e2 e3 (hR Hb' u' o' p2 e4) r
    exact ⟨_, pss_wp, body cdv A outer s H E hr ds Φ h1 _ Hb H (en_startE h2 h3 h4 h5 h6) _ (fun _ _ Hb' H' z g => fin z g .non) (fun _ _ _ _ z => z.elim) (fun _ _ _ _ z => z.elim) fun d v _ _ Hb' H' z g r => fin z g r⟩
end
end DL

namespace DL
open PySem PySem.Spec PyProof.Rows L2 Evl

/-! ### in, for tuples of data -/
section
variable {X : Cx}
def rInU (K : PySem.W.Frag) (neg : Bool) : R2 := fun x y H Q => ∃ d ds, Dp K H x d ∧ Dp K H y (.tuple ds) ∧ SeqAt.shaped d = true ∧ SeqAt.shaped (.tuple ds) = true ∧ Q (.bl (if neg then !ds.any (fun z => PyData.eqv z d) else ds.any fun z => PyData.eqv z d)) H
theorem room_inU {A : Around} {ds : List PyData} {d : PyData} (sd : SeqAt.shaped d = true) (hu : A.units + 65 < cLine) : A.units + 1 + min (PyData.depthAll ds) d.depth < cLine := by
  have := SeqAt.depth_of_shaped sd
  omega
theorem op_inU (hu : X.A.units + 65 < cLine) : OpR X (compareOp .In) (rInU X.K false) := by
  intro pins s σ H x y v u Q I rx ry h
  obtain ⟨d, ds, hd, he, sd, se, q⟩ := h
  obtain ⟨as, r1⟩ := Dp.reads I d x v hd rx
  obtain ⟨bs, r2⟩ := Dp.reads I (.tuple ds) y u he ry
  exact SeqAt.in_tuple_reads r2 r1 (SeqAt.canLay_of_shaped se) (SeqAt.canLay_of_shaped sd) (room_inU sd hu) ⟨.bl _, H, I, rfl, q⟩
theorem op_notInU (hu : X.A.units + 65 < cLine) : OpR X (compareOp .NotIn) (rInU X.K true) := by
  intro pins s σ H x y v u Q I rx ry h
  obtain ⟨d, ds, hd, he, sd, se, q⟩ := h
  obtain ⟨as, r1⟩ := Dp.reads I d x v hd rx
  obtain ⟨bs, r2⟩ := Dp.reads I (.tuple ds) y u he ry
  exact SeqAt.notIn_tuple_reads r2 r1 (SeqAt.canLay_of_shaped se) (SeqAt.canLay_of_shaped sd) (room_inU sd hu) ⟨.bl _, H, I, rfl, q⟩
theorem v_inU {K : PySem.W.Frag} {α : Type} [DecidableEq α] {f : α → D} {n : Nat} [h : Enc f n] {x : α} {l : List α} (hn : n ≤ 63 := by decide) : RV2 K (rInU K false) (f x) (tT f l) (.bl (decide (x ∈ l))) := by
  rw [← any_map (f := f) l]
  exact rv_scal fun u w Hb H ex h1 h2 => ⟨.bl _, .bl _, fun Q q => ⟨(f x).py, pyL (l.map f), (h1.mono ex).dp (h.ok x), (h2.mono ex).dp (n := n + 1) (okL_map h.ok l), ok_shaped (h.ok x) (by omega), ok_shaped (d := tT f l) (n := n + 1) (okL_map h.ok l) (by omega), q⟩⟩
theorem v_niU {K : PySem.W.Frag} {α : Type} [DecidableEq α] {f : α → D} {n : Nat} [h : Enc f n] {x : α} {l : List α} (hn : n ≤ 63 := by decide) : RV2 K (rInU K true) (f x) (tT f l) (.bl (!decide (x ∈ l))) := by
  rw [← any_map (f := f) l]
  exact rv_scal fun u w Hb H ex h1 h2 => ⟨.bl _, .bl _, fun Q q => ⟨(f x).py, pyL (l.map f), (h1.mono ex).dp (h.ok x), (h2.mono ex).dp (n := n + 1) (okL_map h.ok l), ok_shaped (h.ok x) (by omega), ok_shaped (d := tT f l) (n := n + 1) (okL_map h.ok l) (by omega), q⟩⟩
end

/-! ### sorted -/
class Alk {α : Type} (f : α → D) : Prop where
  al : ∀ x y, PySem.W.alike (f x).py (f y).py = true
instance alkI : Alk D.int := ⟨fun _ _ => by simp [D.py, PySem.W.alike]⟩
instance alkB : Alk D.bl := ⟨fun _ _ => by simp [D.py, PySem.W.alike]⟩
instance alkS : Alk D.str := ⟨fun _ _ => by simp [D.py, PySem.W.alike]⟩
theorem alk_all {α : Type} {f : α → D} (h : ∀ x y, PySem.W.alike (f x).py (f y).py = true) : ∀ l m : List α, PySem.W.alikeAll (pyL (l.map f)) (pyL (m.map f)) = true
  | [], [] => by simp [pyL, PySem.W.alikeAll]
  | [], _ :: _ => by simp [pyL, PySem.W.alikeAll]
  | _ :: _, [] => by simp [pyL, PySem.W.alikeAll]
  | x :: l, y :: m => by
    show PySem.W.alikeAll ((f x).py :: pyL (l.map f)) ((f y).py :: pyL (m.map f)) = true
    rw [PySem.W.alikeAll, h x y, alk_all h l m]
    rfl
instance alkT {α : Type} {f : α → D} [h : Alk f] : Alk (tT f) := ⟨fun l m => by
  show PySem.W.alike (.tuple (pyL (l.map f))) (.tuple (pyL (m.map f))) = true
  rw [PySem.W.alike]
  exact alk_all h.al l m⟩
instance alkL {α : Type} {f : α → D} [h : Alk f] : Alk (lT f) := ⟨fun l m => by
  show PySem.W.alike (.list (pyL (l.map f))) (.list (pyL (m.map f))) = true
  rw [PySem.W.alike]
  exact alk_all h.al l m⟩
instance alkP {α β : Type} {f : α → D} {g : β → D} [h : Alk f] [h2 : Alk g] : Alk (pT f g) := ⟨fun p q => by
  show PySem.W.alike (.tuple [(f p.1).py, (g p.2).py]) (.tuple [(f q.1).py, (g q.2).py]) = true
  rw [PySem.W.alike, PySem.W.alikeAll, PySem.W.alikeAll, h.al, h2.al]
  simp [PySem.W.alikeAll]⟩
/-- the order of data, as Python has it -/
def leD {α : Type} (f : α → D) : α → α → Bool := PySem.W.dataLe false fun x => (f x).py
def sortD {α : Type} (f : α → D) (xs : List α) : List α := xs.mergeSort (leD f)
theorem leD_int : leD D.int = fun a b => decide (a ≤ b) := PySem.W.dataLe_int id
section
variable {X : Cx}
/-- sorted(xs): the items with their values -/
def rSortD {α : Type} (K : PySem.W.Frag) (f : α → D) : List V → Hp → VK → Prop := fun vs H Q => ∃ (a : Addr) (zs : List (α × V)) (n : Nat), vs = [.ref a] ∧ SqL K H a (zs.map (·.2)) ∧ (∀ z ∈ zs, Dp K H z.2 (f z.1).py ∧ (f z.1).py.depth ≤ n) ∧ n ≤ 60 ∧ PySem.W.AllAlike (zs.map fun z => (f z.1).py) ∧ PySem.W.Sortable (zs.map fun z => (f z.1).py) ∧
  ∀ p, H p = none → Q (.ref p) (upd H p (.lst ((zs.mergeSort (PySem.W.dataLe false fun z => (f z.1).py)).map (·.2))))
theorem each_of {H : Hp} {pins : List (Addr × Obj)} {s : Shared} {σ : L2.St} {α : Type} {f : α → D} (I : Inv X pins σ H s) : ∀ {zs : List (α × V)} {its : List Value}, Vals (zs.map (·.2)) its → (∀ z ∈ zs, Dp X.K H z.2 (f z.1).py) → PySem.W.EachIs (fun u z => RelV z.2 u) its zs ∧ PySem.W.EachIs (fun u z => ∃ as, Reads s.heap u (f z.1).py as) its zs
  | [], _, .nil, _ => ⟨.nil, .nil⟩
  | z :: zs, _, .cons r t, h => by
    obtain ⟨k1, k2⟩ := each_of I (zs := zs) t fun y hy => h y (List.mem_cons_of_mem _ hy)
    exact ⟨.cons r k1, .cons (Dp.reads I _ _ _ (h z (List.mem_cons_self ..)) r) k2⟩
theorem vals_each {α : Type} : ∀ {zs : List (α × V)} {out : List Value}, PySem.W.EachIs (fun u (z : α × V) => RelV z.2 u) out zs → Vals (zs.map (·.2)) out
  | _, _, .nil => .nil
  | _, _, .cons r t => .cons r (vals_each t)
theorem cr_sortD {α : Type} {f : α → D} (hu : X.A.units + 65 < cLine) : CallR X (.builtin "sorted") (rSortD X.K f) := by
  intro pins s σ H vs us Q I r h
  obtain ⟨a, zs, n, rfl, hs, hd, hn, hal, hso, q⟩ := h
  obtain ⟨its, rv, hl, hz⟩ := I.list hs
  rw [Vals.ref1 r]
  obtain ⟨e1, e2⟩ := each_of I rv fun z hz => (hd z hz).1
  refine PySem.W.sorted_data (enc := fun z : α × V => (f z.1).py) hl.isList e1 e2 hal hso (by rw [List.length_map] at hz; exact hz) (fun b hb => ?_) fun out hlen eo => ?_
  · have := (hd b hb).2
    omega
  · obtain ⟨ep, he'⟩ := PyProof.Rows.sortedAll_at s.heap its out.toArray
    have hlen' : ((zs.mergeSort (PySem.W.dataLe false fun z => (f z.1).py)).map (·.2)).length ≤ sizeLine := by
      rw [List.length_map, List.length_mergeSort]
      rw [List.length_map] at hz
      exact hz
    exact ⟨.ref _, upd H (s.heap.objs.size + 1) (.lst ((zs.mergeSort (PySem.W.dataLe false fun z => (f z.1).py)).map (·.2))), I.laid (t' := s.toks) (fun _ _ => PyProof.Rows.sortedAll_old) (Nat.le_succ _) ⟨hlen', out, ep, vals_each eo, he'⟩, rfl, q _ (I.hok.fresh (Nat.le_succ _))⟩
theorem zip_snd {K : PySem.W.Frag} {Hb : Hp} {α : Type} {f : α → D} : ∀ {xs : List α} {vs : List V}, DRs K Hb vs (xs.map f) → (xs.zip vs).map (·.2) = vs ∧ (xs.zip vs).map (·.1) = xs ∧ ∀ z ∈ xs.zip vs, DR K Hb z.2 (f z.1)
  | [], _, h => by cases h; exact ⟨rfl, rfl, fun z hz => (List.not_mem_nil hz).elim⟩
  | x :: xs, _, h => by
    cases h with
    | cons a b =>
      obtain ⟨h1, h2, h3⟩ := zip_snd b
      refine ⟨by simp only [List.zip_cons_cons, List.map_cons]; rw [h1], by simp only [List.zip_cons_cons, List.map_cons]; rw [h2], fun z hz => ?_⟩
      rcases List.mem_cons.mp hz with e | e
      · subst e; exact a
      · exact h3 z e
theorem drs_zip {K : PySem.W.Frag} {Hb : Hp} {α : Type} {f : α → D} : ∀ {zs : List (α × V)}, (∀ z ∈ zs, DR K Hb z.2 (f z.1)) → DRs K Hb (zs.map (·.2)) ((zs.map (·.1)).map f)
  | [], _ => .nil
  | z :: zs, h => .cons (h z (List.mem_cons_self ..)) (drs_zip fun y hy => h y (List.mem_cons_of_mem _ hy))
theorem l_sorted {K : PySem.W.Frag} {α : Type} [DecidableEq α] {f : α → D} {n : Nat} [he : Enc f n] [ha : Alk f] {xs : List α} (hso : PySem.W.Sortable (xs.map fun x => (f x).py)) (hn : n ≤ 60 := by decide) : RLN K (rSortD K f) [lT f xs] fun z => z = .ml ((sortD f xs).map f) := fun vs Hb H ex h1 Q q => by
  obtain ⟨v, rfl, r⟩ := h1.one_inv
  cases r with
  | @lst a ws _ hb k =>
    obtain ⟨e1, e2, e3⟩ := zip_snd k
    have em : (xs.zip ws).map (fun z => (f z.1).py) = xs.map fun x => (f x).py := by
      rw [← e2, List.map_map, e2]
      rfl
    refine ⟨a, xs.zip ws, n, rfl, by rw [e1]; exact SqL.of (ex _ _ hb), fun z hz => ⟨((e3 z hz).mono ex).dp (he.ok z.1), (ok_depth (he.ok z.1)).2⟩, hn, ?_, by rw [em]; exact hso, fun p hp => ?_⟩
    · rw [em]
      exact PySem.W.AllAlike.of ha.al
    · have es : ((xs.zip ws).mergeSort (PySem.W.dataLe false fun z => (f z.1).py)).map (·.1) = sortD f xs := by
        have z := PySem.W.sort_maps (r := PySem.W.dataLe false fun z : α × V => (f z.1).py) (s := leD f) (fun z : α × V => z.1) (l := xs.zip ws) (fun _ _ _ _ => rfl)
        rw [e2] at z
        exact z
      refine q p _ _ Hb _ rfl hp (New.side ex hp) (fresh_back ex hp) upd_same ⟨_, rfl, ?_⟩
      rw [← es]
      exact drs_zip fun z hz => e3 z (List.mem_mergeSort.mp hz)
theorem so_int {xs : List Int} : PySem.W.Sortable (xs.map fun x => (D.int x).py) := PySem.W.Sortable.others (enc := fun x => (D.int x).py) fun b => ⟨fun h => (nomatch h), fun _ h => (nomatch h)⟩
theorem so_tup {α : Type} {f : α → D} {xs : List (List α)} (h : ∀ x ∈ xs, x ≠ []) : PySem.W.Sortable (xs.map fun x => (tT f x).py) := .inl fun d hd => by
  obtain ⟨b, hb, rfl⟩ := List.mem_map.mp hd
  cases b with
  | nil => exact absurd rfl (h _ hb)
  | cons y ys => exact ⟨_, _, rfl⟩
theorem so_pair {α β : Type} {f : α → D} {g : β → D} {xs : List (α × β)} : PySem.W.Sortable (xs.map fun x => (pT f g x).py) := .inl fun d hd => by
  obtain ⟨b, hb, rfl⟩ := List.mem_map.mp hd
  exact ⟨_, _, rfl⟩
/-! ### set(tuple of ints), sorted -/
def rSetTI (w : World) (K : PySem.W.Frag) : List V → Hp → VK → Prop := fun xs H Q => ∃ (a : Addr) (ns : List Int), xs = [.ref a] ∧ SqT K H a (ns.map V.int) ∧ ns.length ≤ 60 ∧ ∀ p c, c ≤ ns.length → H p = none → Q (.ref p) (upd H p (SetO w p (fun j => decide (j ∈ ns)) c))
theorem cr_setTI (hc : X.calm = true) : CallR X (.type "set") (rSetTI X.w X.K) := by
  intro pins s σ H xs us Q I r h
  obtain ⟨a, ns, rfl, hs, h60, q⟩ := h
  obtain ⟨its, rv, ht, hz⟩ := I.tuple hs
  rw [Vals.ref1 r]
  have hi := rv.ints
  refine call_set_tupI ns (I.ok.hd hc) (show s.heap.IsTuple a its.toArray from ht) (by simpa using hi) (by unfold scanBound; omega) fun h' tk c R hcn hk => ?_
  exact ⟨.ref _, upd H s.heap.objs.size (SetO X.w s.heap.objs.size (fun j => decide (j ∈ ns)) c), I.laid (t' := tk) hk (Nat.le_refl _) (setO_new R), rfl, q _ c hcn (I.hok.fresh (Nat.le_refl _))⟩
end
/-- what sorted(set(ns)) is: ascending, each once -/
def insI (x : Int) : List Int → List Int
  | [] => [x]
  | y :: l => if x < y then x :: y :: l else if x = y then y :: l else y :: insI x l
def setI : List Int → List Int
  | [] => []
  | x :: l => insI x (setI l)
theorem mem_insI {x y : Int} : ∀ {l : List Int}, y ∈ insI x l ↔ y = x ∨ y ∈ l
  | [] => by simp [insI]
  | z :: l => by
    unfold insI
    by_cases h : x < z
    · rw [if_pos h]; simp
    · rw [if_neg h]
      by_cases h2 : x = z
      · rw [if_pos h2]; subst h2; simp
      · rw [if_neg h2]
        simp only [List.mem_cons, mem_insI (l := l)]
        constructor
        · rintro (h | h | h) <;> simp [h]
        · rintro (h | h | h) <;> simp [h]
theorem mem_setI {y : Int} : ∀ {l : List Int}, y ∈ setI l ↔ y ∈ l
  | [] => Iff.rfl
  | x :: l => by
    show y ∈ insI x (setI l) ↔ _
    rw [mem_insI, mem_setI, List.mem_cons]
theorem insI_asc {x : Int} : ∀ {l : List Int}, l.Pairwise (· < ·) → (insI x l).Pairwise (· < ·)
  | [], _ => List.pairwise_singleton _ _
  | z :: l, h => by
    have h1 := (List.pairwise_cons.mp h)
    unfold insI
    by_cases e : x < z
    · rw [if_pos e]
      exact List.pairwise_cons.mpr ⟨fun y hy => (List.mem_cons.mp hy).elim (fun q => by omega) fun q => by have := h1.1 y q; omega, h⟩
    · rw [if_neg e]
      by_cases e2 : x = z
      · rw [if_pos e2]; exact h
      · rw [if_neg e2]
        exact List.pairwise_cons.mpr ⟨fun y hy => (mem_insI.mp hy).elim (fun q => by omega) (h1.1 y), insI_asc h1.2⟩
theorem setI_asc : ∀ l : List Int, (setI l).Pairwise (· < ·)
  | [] => List.Pairwise.nil
  | x :: l => insI_asc (setI_asc l)
theorem asc_unique : ∀ {l m : List Int}, l.Pairwise (· < ·) → m.Pairwise (· < ·) → (∀ x, x ∈ l ↔ x ∈ m) → l = m
  | [], [], _, _, _ => rfl
  | [], y :: m, _, _, h => absurd ((h y).mpr (List.mem_cons_self ..)) (List.not_mem_nil)
  | x :: l, [], _, _, h => absurd ((h x).mp (List.mem_cons_self ..)) (List.not_mem_nil)
  | x :: l, y :: m, hl, hm, h => by
    have h1 := List.pairwise_cons.mp hl
    have h2 := List.pairwise_cons.mp hm
    have e : x = y := by
      rcases List.mem_cons.mp ((h x).mp (List.mem_cons_self ..)) with e | e
      · exact e
      · rcases List.mem_cons.mp ((h y).mpr (List.mem_cons_self ..)) with e' | e'
        · exact e'.symm
        · have a := h2.1 x e
          have b := h1.1 y e'
          omega
    subst e
    rw [asc_unique h1.2 h2.2 fun z => ?_]
    constructor
    · intro hz
      rcases List.mem_cons.mp ((h z).mp (List.mem_cons_of_mem _ hz)) with e | e
      · subst e
        have := h1.1 z hz
        omega
      · exact e
    · intro hz
      rcases List.mem_cons.mp ((h z).mpr (List.mem_cons_of_mem _ hz)) with e | e
      · subst e
        have := h2.1 z hz
        omega
      · exact e
theorem setI_len : ∀ l : List Int, (setI l).length ≤ l.length
  | [] => Nat.le_refl _
  | x :: l => by
    have h1 : ∀ m : List Int, (insI x m).length ≤ m.length + 1 := fun m => by
      induction m with
      | nil => exact Nat.le_refl _
      | cons y m ih =>
        unfold insI
        by_cases e : x < y
        · rw [if_pos e]; exact Nat.le_refl _
        · rw [if_neg e]
          by_cases e2 : x = y
          · rw [if_pos e2]; exact Nat.le_succ _
          · rw [if_neg e2]; exact Nat.succ_le_succ ih
    exact Nat.le_trans (h1 (setI l)) (Nat.succ_le_succ (setI_len l))
section
variable {X : Cx} {Γ : List Sl} {e : Expr} {pos p p1 pos1 : Pos}
/-- sorted(set(t)), t a tuple of ints -/
theorem xo_sortedSetT {ns : List Int} (h : XV X e Γ (tT D.int ns)) (hz : ns.length ≤ 60) (hm : X.mg "sorted" = none) (hm1 : X.mg "set" = none) (hc : X.calm = true := by rfl) (hg : Gl X "sorted" := by rfl) (hg1 : Gl X "set" := by rfl)
    (he : starEach (e :: []) X.env = (false, eval e X.env) :: starEach [] X.env := by rfl) (hpl : (backTo pos1 (starEach [] X.env)).any (·.1) = false := by rfl) (he2 : starEach (.Call (.Name "set" p1) [e] [] pos1 :: []) X.env = (false, eval (.Call (.Name "set" p1) [e] [] pos1) X.env) :: starEach [] X.env := by rfl) (hpl2 : (backTo pos (starEach [] X.env)).any (·.1) = false := by rfl) :
    XO X (.Call (.Name "sorted" p) [.Call (.Name "set" p1) [e] [] pos1] [] pos) Γ (.ml ((setI ns).map D.int)) := by
  have hs : PE X (.Call (.Name "set" p1) [e] [] pos1) (tCB (rSetTI X.w X.K) (tCons (wpE X e) tNil)) := pe_callTy (cr_setTI hc) hg1 hm1 PyProof.Rows.boot_set (pa_cons pe_wp pa_nil he) (by decide) (by decide) he hpl
  refine xn_of (pe_callB (cr_sortedSet hc) hg hm (by decide +kernel) (pa_cons hs pa_nil he2) (by decide) (by decide) he2 hpl2) fun σ Hb H E Q q => h σ Hb H E _ fun v d Hb1 H1 p1 g1 E1 r1 => ?_
  subst p1
  cases r1 with
  | @tup a vs _ ha k =>
    have e1 := k.ints
    subst e1
    refine ⟨a, ns, rfl, xt E1.ex ha, hz, fun p c hcn hp => ⟨p, _, c, rfl, upd_same, by omega, fun ms p2 hs hmem _ hp2 => ?_⟩⟩
    have em : ms = setI ns := asc_unique hs (setI_asc ns) fun x => by
      rw [hmem x, mem_setI]
      exact decide_eq_true_iff
    subst em
    have n1 := New.side (o := SetO X.w p (fun j => decide (j ∈ ns)) c) E1.ex hp
    have E2 := E1.new n1
    have n2 := New.side (o := .lst ((setI ns).map V.int)) E2.ex hp2
    exact q p2 _ _ Hb1 _ rfl (new_none g1 (new_none n1 hp2)) (gwn (gwn g1 n1) n2) (E2.new n2) (fresh_back E2.ex hp2) upd_same ⟨_, rfl, drs_ints _⟩
end

/-! ### typed forms in short -/
theorem atI_getD {α : Type} {l : List α} {i : Int} {d : α} (h0 : 0 ≤ i) (h : i < l.length) : atI l i = some (l.getD i.toNat d) := by
  obtain ⟨n, rfl⟩ : ∃ n : Nat, i = n := ⟨i.toNat, by omega⟩
  have hn : n < l.length := by omega
  refine atI_nat ?_
  rw [List.getElem?_eq_getElem hn]
  show _ = some (l.getD n d)
  rw [List.getD_eq_getElem?_getD, List.getElem?_eq_getElem hn]
  rfl
/-- the least, the greatest of ints -/
def lmin : List Int → Int
  | [] => 0
  | [x] => x
  | x :: y :: l => if lmin (y :: l) < x then lmin (y :: l) else x
def lmax : List Int → Int
  | [] => 0
  | [x] => x
  | x :: y :: l => if x < lmax (y :: l) then lmax (y :: l) else x
theorem lmin_ok : ∀ {l : List Int}, l ≠ [] → lmin l ∈ l ∧ ∀ y ∈ l, lmin l ≤ y
  | [x], _ => ⟨List.mem_cons_self .., fun y hy => by rw [List.mem_singleton.mp hy]; exact Int.le_refl _⟩
  | x :: y :: l, _ => by
    obtain ⟨h1, h2⟩ := lmin_ok (l := y :: l) (by simp)
    unfold lmin
    by_cases e : lmin (y :: l) < x
    · rw [if_pos e]
      exact ⟨List.mem_cons_of_mem _ h1, fun z hz => (List.mem_cons.mp hz).elim (fun q => by omega) (h2 z)⟩
    · rw [if_neg e]
      exact ⟨List.mem_cons_self .., fun z hz => (List.mem_cons.mp hz).elim (fun q => by omega) fun q => by have := h2 z q; omega⟩
theorem lmax_ok : ∀ {l : List Int}, l ≠ [] → lmax l ∈ l ∧ ∀ y ∈ l, y ≤ lmax l
  | [x], _ => ⟨List.mem_cons_self .., fun y hy => by rw [List.mem_singleton.mp hy]; exact Int.le_refl _⟩
  | x :: y :: l, _ => by
    obtain ⟨h1, h2⟩ := lmax_ok (l := y :: l) (by simp)
    unfold lmax
    by_cases e : x < lmax (y :: l)
    · rw [if_pos e]
      exact ⟨List.mem_cons_of_mem _ h1, fun z hz => (List.mem_cons.mp hz).elim (fun q => by omega) (h2 z)⟩
    · rw [if_neg e]
      exact ⟨List.mem_cons_self .., fun z hz => (List.mem_cons.mp hz).elim (fun q => by omega) fun q => by have := h2 z q; omega⟩
section
variable {X : Cx} {Γ : List Sl} {m : Bool} {a b c e tg : Expr} {pos p : Pos} {α β : Type}
theorem xv_catT {f : α → D} {l l' : List α} (ha : XV X a Γ (tT f l)) (hb : XV X b Γ (tT f l')) (hz : l.length + l'.length ≤ 100000) : XV X (.BinOp a .Add b pos) Γ (tT f (l ++ l')) := by
  have z := xv_bin (pos := pos) op_catA (v_catT (K := X.K) (ds := l.map f) (es := l'.map f) (by rw [List.length_map, List.length_map]; exact hz)) ha hb
  rw [← List.map_append] at z
  exact z
theorem xo_catL {f : α → D} {l l' : List α} (ha : XV X a Γ (lT f l)) (hb : XV X b Γ (lT f l')) (hz : l.length + l'.length ≤ 100000) : XO X (.BinOp a .Add b pos) Γ (.ml ((l ++ l').map f)) := xn_of (pe_op op_cat pe_wp pe_wp) (jn_bin ha (fun _ _ => hb) fun d d' p q => by
  subst p q
  have z := v_catL (K := X.K) (ds := l.map f) (es := l'.map f) (by rw [List.length_map, List.length_map]; exact hz)
  rw [← List.map_append] at z
  exact z)
theorem xv_lenL {ds : List D} (h : XV X a Γ (.lst ds)) (hm : X.mg "len" = none) (hg : Gl X "len" := by rfl) (hs : starEach (a :: []) X.env = (false, eval a X.env) :: starEach [] X.env := by rfl) (hpl : (backTo pos (starEach [] X.env)).any (·.1) = false := by rfl) : XV X (.Call (.Name "len" p) [a] [] pos) Γ (.int ds.length) := xe_callB call_len_seq hm PySem.boot_len (xl_cons h xa_nil hs) (fun _ z => by rw [z]; exact l_lenL) hg (by decide) (by decide) hs hpl
theorem xv_lenT {ds : List D} (h : XV X a Γ (.tup ds)) (hm : X.mg "len" = none) (hg : Gl X "len" := by rfl) (hs : starEach (a :: []) X.env = (false, eval a X.env) :: starEach [] X.env := by rfl) (hpl : (backTo pos (starEach [] X.env)).any (·.1) = false := by rfl) : XV X (.Call (.Name "len" p) [a] [] pos) Γ (.int ds.length) := xe_callB call_len_seq hm PySem.boot_len (xl_cons h xa_nil hs) (fun _ z => by rw [z]; exact l_lenT) hg (by decide) (by decide) hs hpl
theorem xv_lenLT {f : α → D} {l : List α} (h : XV X a Γ (lT f l)) (hm : X.mg "len" = none) (hg : Gl X "len" := by rfl) (hs : starEach (a :: []) X.env = (false, eval a X.env) :: starEach [] X.env := by rfl) (hpl : (backTo pos (starEach [] X.env)).any (·.1) = false := by rfl) : XV X (.Call (.Name "len" p) [a] [] pos) Γ (.int l.length) := by
  have z := xv_lenL (pos := pos) (p := p) h hm hg hs hpl
  rw [List.length_map] at z
  exact z
theorem xv_lenTT {f : α → D} {l : List α} (h : XV X a Γ (tT f l)) (hm : X.mg "len" = none) (hg : Gl X "len" := by rfl) (hs : starEach (a :: []) X.env = (false, eval a X.env) :: starEach [] X.env := by rfl) (hpl : (backTo pos (starEach [] X.env)).any (·.1) = false := by rfl) : XV X (.Call (.Name "len" p) [a] [] pos) Γ (.int l.length) := by
  have z := xv_lenT (pos := pos) (p := p) h hm hg hs hpl
  rw [List.length_map] at z
  exact z
theorem xv_tupleL {f : α → D} {l : List α} (h : XV X a Γ (lT f l)) (hm : X.mg "tuple" = none) (hg : Gl X "tuple" := by rfl) (hs : starEach (a :: []) X.env = (false, eval a X.env) :: starEach [] X.env := by rfl) (hpl : (backTo pos (starEach [] X.env)).any (·.1) = false := by rfl) : XV X (.Call (.Name "tuple" p) [a] [] pos) Γ (tT f l) := xe_callT call_tuple_of hm (by decide +kernel) (xl_cons h xa_nil hs) (fun _ z => by rw [z]; exact l_tupleL) hg (by decide) (by decide) hs hpl
theorem xv_tupleT {f : α → D} {l : List α} (h : XV X a Γ (tT f l)) (hm : X.mg "tuple" = none) (hg : Gl X "tuple" := by rfl) (hs : starEach (a :: []) X.env = (false, eval a X.env) :: starEach [] X.env := by rfl) (hpl : (backTo pos (starEach [] X.env)).any (·.1) = false := by rfl) : XV X (.Call (.Name "tuple" p) [a] [] pos) Γ (tT f l) := xe_callT call_tuple_of hm (by decide +kernel) (xl_cons h xa_nil hs) (fun _ z => by rw [z]; exact l_tupleT) hg (by decide) (by decide) hs hpl
theorem xo_listL {f : α → D} {l : List α} (h : XV X a Γ (lT f l)) (hm : X.mg "list" = none) (hg : Gl X "list" := by rfl) (hs : starEach (a :: []) X.env = (false, eval a X.env) :: starEach [] X.env := by rfl) (hpl : (backTo pos (starEach [] X.env)).any (·.1) = false := by rfl) : XO X (.Call (.Name "list" p) [a] [] pos) Γ (.ml (l.map f)) := xn_callT call_list_of hm (by decide +kernel) (xl_cons h xa_nil hs) (fun _ z => by rw [z]; exact l_listL) hg (by decide) (by decide) hs hpl
theorem xo_listT {f : α → D} {l : List α} (h : XV X a Γ (tT f l)) (hm : X.mg "list" = none) (hg : Gl X "list" := by rfl) (hs : starEach (a :: []) X.env = (false, eval a X.env) :: starEach [] X.env := by rfl) (hpl : (backTo pos (starEach [] X.env)).any (·.1) = false := by rfl) : XO X (.Call (.Name "list" p) [a] [] pos) Γ (.ml (l.map f)) := xn_callT call_list_of hm (by decide +kernel) (xl_cons h xa_nil hs) (fun _ z => by rw [z]; exact l_listT) hg (by decide) (by decide) hs hpl
theorem xv_all {l : List Bool} (h : XV X a Γ (lT D.bl l)) (hm : X.mg "all" = none) (hc : X.calm = true := by rfl) (hg : Gl X "all" := by rfl) (hs : starEach (a :: []) X.env = (false, eval a X.env) :: starEach [] X.env := by rfl) (hpl : (backTo pos (starEach [] X.env)).any (·.1) = false := by rfl) : XV X (.Call (.Name "all" p) [a] [] pos) Γ (.bl (l.all id)) := xe_callB (cr_all hc) hm (by decide +kernel) (xl_cons h xa_nil hs) (fun _ z => by rw [z]; exact l_all) hg (by decide) (by decide) hs hpl
theorem xv_any {l : List Bool} (h : XV X a Γ (lT D.bl l)) (hm : X.mg "any" = none) (hc : X.calm = true := by rfl) (hg : Gl X "any" := by rfl) (hs : starEach (a :: []) X.env = (false, eval a X.env) :: starEach [] X.env := by rfl) (hpl : (backTo pos (starEach [] X.env)).any (·.1) = false := by rfl) : XV X (.Call (.Name "any" p) [a] [] pos) Γ (.bl (l.any id)) := xe_callB (cr_any hc) hm (by decide +kernel) (xl_cons h xa_nil hs) (fun _ z => by rw [z]; exact l_any) hg (by decide) (by decide) hs hpl
theorem xv_intI {i : Int} (h : XV X a Γ (.int i)) (hm : X.mg "int" = none) (hg : Gl X "int" := by rfl) (hs : starEach (a :: []) X.env = (false, eval a X.env) :: starEach [] X.env := by rfl) (hpl : (backTo pos (starEach [] X.env)).any (·.1) = false := by rfl) : XV X (.Call (.Name "int" p) [a] [] pos) Γ (.int i) := xe_callT call_int1 hm PyProof.Rows.boot_int (xl_cons h xa_nil hs) (fun _ z => by rw [z]; exact l_int) hg (by decide) (by decide) hs hpl
theorem xv_intB {i : Bool} (h : XV X a Γ (.bl i)) (hm : X.mg "int" = none) (hg : Gl X "int" := by rfl) (hs : starEach (a :: []) X.env = (false, eval a X.env) :: starEach [] X.env := by rfl) (hpl : (backTo pos (starEach [] X.env)).any (·.1) = false := by rfl) : XV X (.Call (.Name "int" p) [a] [] pos) Γ (.int (if i then 1 else 0)) := xe_callT call_int1 hm PyProof.Rows.boot_int (xl_cons h xa_nil hs) (fun _ z => by rw [z]; exact l_intB) hg (by decide) (by decide) hs hpl
theorem xv_abs {i : Int} (h : XV X a Γ (.int i)) (hm : X.mg "abs" = none) (hg : Gl X "abs" := by rfl) (hs : starEach (a :: []) X.env = (false, eval a X.env) :: starEach [] X.env := by rfl) (hpl : (backTo pos (starEach [] X.env)).any (·.1) = false := by rfl) : XV X (.Call (.Name "abs" p) [a] [] pos) Γ (.int (if i < 0 then -i else i)) := xe_callB call_abs hm PyProof.Rows.boot_abs (xl_cons h xa_nil hs) (fun _ z => by rw [z]; exact l_abs) hg (by decide) (by decide) hs hpl
theorem xv_min {ns : List Int} (h : XV X a Γ (lT D.int ns)) (h0 : ns ≠ []) (hm : X.mg "min" = none) (hc : X.calm = true := by rfl) (hg : Gl X "min" := by rfl) (hs : starEach (a :: []) X.env = (false, eval a X.env) :: starEach [] X.env := by rfl) (hpl : (backTo pos (starEach [] X.env)).any (·.1) = false := by rfl) : XV X (.Call (.Name "min" p) [a] [] pos) Γ (.int (lmin ns)) := by
  refine XE.imp (Φ := fun z => ∃ m, z = .int m ∧ m ∈ ns ∧ ∀ y ∈ ns, m ≤ y) (xe_callB (cr_min hc) hm (by decide +kernel) (xl_cons h xa_nil hs) (fun _ z => by rw [z]; exact l_min (List.length_pos_iff.mpr h0)) hg (by decide) (by decide) hs hpl) ?_
  rintro d ⟨m, e, h1, h2⟩
  show d = _
  obtain ⟨k1, k2⟩ := lmin_ok h0
  have a1 := h2 _ k1
  have a2 := k2 _ h1
  rw [e, show m = lmin ns by omega]
theorem xv_max {ns : List Int} (h : XV X a Γ (lT D.int ns)) (h0 : ns ≠ []) (hm : X.mg "max" = none) (hc : X.calm = true := by rfl) (hg : Gl X "max" := by rfl) (hs : starEach (a :: []) X.env = (false, eval a X.env) :: starEach [] X.env := by rfl) (hpl : (backTo pos (starEach [] X.env)).any (·.1) = false := by rfl) : XV X (.Call (.Name "max" p) [a] [] pos) Γ (.int (lmax ns)) := by
  refine XE.imp (Φ := fun z => ∃ m, z = .int m ∧ m ∈ ns ∧ ∀ y ∈ ns, y ≤ m) (xe_callB (cr_max hc) hm (by decide +kernel) (xl_cons h xa_nil hs) (fun _ z => by rw [z]; exact l_max (List.length_pos_iff.mpr h0)) hg (by decide) (by decide) hs hpl) ?_
  rintro d ⟨m, e, h1, h2⟩
  show d = _
  obtain ⟨k1, k2⟩ := lmax_ok h0
  have a1 := h2 _ k1
  have a2 := k2 _ h1
  rw [e, show m = lmax ns by omega]
theorem xo_sorted [DecidableEq α] {f : α → D} {n : Nat} [Enc f n] [Alk f] {l : List α} (h : XV X a Γ (lT f l)) (hso : PySem.W.Sortable (l.map fun x => (f x).py)) (hu : X.A.units + 65 < cLine) (hm : X.mg "sorted" = none) (hn : n ≤ 60 := by decide) (hg : Gl X "sorted" := by rfl) (hs : starEach (a :: []) X.env = (false, eval a X.env) :: starEach [] X.env := by rfl) (hpl : (backTo pos (starEach [] X.env)).any (·.1) = false := by rfl) : XO X (.Call (.Name "sorted" p) [a] [] pos) Γ (.ml ((sortD f l).map f)) := xn_callB (cr_sortD (f := f) hu) hm (by decide +kernel) (xl_cons h xa_nil hs) (fun _ z => by rw [z]; exact l_sorted hso hn) hg (by decide) (by decide) hs hpl
theorem xw_listT {f : α → D} {l : List α} (h : XV X e Γ (lT f l)) : XW X tg e Γ (l.map f) := xw_list h
theorem xw_tupT {f : α → D} {l : List α} (h : XV X e Γ (tT f l)) : XW X tg e Γ (l.map f) := xw_tup h
theorem xv_ifT {f : α → D} {k : Bool} {x y : α} (ht : XB X c Γ k) (ha : k = true → XV X a Γ (f x)) (hb : k = false → XV X b Γ (f y)) : XV X (.IfExp c a b pos) Γ (f (if k = true then x else y)) := xe_if ht (fun z => by
  rw [if_pos z.symm]
  exact ha z.symm) fun z => by
  rw [if_neg (by rw [← z]; exact Bool.false_ne_true)]
  exact hb z.symm
theorem xb_truthI {i : Int} (h : XV X e Γ (.int i)) (he : ∀ whole, isTrue e X.env whole = (do let v ← whole; standAt e.pos; holding [v] (truthy v)) := by intro _; rfl) : XB X e Γ (i != 0) := xt_of (pt_truth pe_wp he) fun σ Hb H E Q q => h σ Hb H E _ fun v d Hb1 H1 p1 g1 E1 r1 => by
  subst p1
  cases r1
  exact ⟨i != 0, rfl, q _ Hb1 H1 rfl g1 E1⟩
theorem xv_neg {i : Int} (h : XV X e Γ (.int i)) : XV X (.UnaryOp .USub e pos) Γ (.int (-i)) := xe_of (pe_un un_neg pe_wp) fun σ Hb H E Q q => h σ Hb H E _ fun v d Hb1 H1 p1 g1 E1 r1 => by
  subst p1
  cases r1
  exact ⟨i, rfl, q _ _ Hb1 H1 rfl g1 E1 (.int _)⟩
theorem v_isB {K : PySem.W.Frag} {x y : Bool} : RV2 K (fun x y H Q => ∃ a b, x = .bl a ∧ y = .bl b ∧ Q (.bl (decide (a = b))) H) (.bl x) (.bl y) (.bl (decide (x = y))) := rv_scal fun u w Hb H ex h1 h2 => by
  cases h1
  cases h2
  exact ⟨.bl _, .bl _, fun Q q => ⟨x, y, rfl, rfl, q⟩⟩
theorem v_isnotB {K : PySem.W.Frag} {x y : Bool} : RV2 K (fun x y H Q => ∃ a b, x = .bl a ∧ y = .bl b ∧ Q (.bl (!decide (a = b))) H) (.bl x) (.bl y) (.bl (!decide (x = y))) := rv_scal fun u w Hb H ex h1 h2 => by
  cases h1
  cases h2
  exact ⟨.bl _, .bl _, fun Q q => ⟨x, y, rfl, rfl, q⟩⟩
end
end DL

namespace DL
open PySem PySem.Spec PyProof.Rows L2 Evl
section
variable {X : Cx} {m : Bool} {elt tg iter c : Expr} {ifs : List Expr} {scope : Scope} {Γ : List Sl} {pos : Pos} {own : List (Str × Nat)} {g : TG} {tt : TT} {kp : Nat} {G : Dn}
/-- without a test -/
theorem xo_map {α β : Type} {f : α → D} {xs : List α} (js : List Nat) (es : α → List D) (f' : β → D) (h : α → β) (own : List (Str × Nat)) (hi : XW X tg iter Γ (xs.map f)) (hg : Bk X scope fun Y => PG Y tg g) (gt : ∀ x ∈ xs, XGt X.K g (f x) js (es x))
    (he : ∀ x ∈ xs, Bk X scope fun Y => XV Y elt (setG Γ js (es x)) (f' (h x))) (hl : xs.length ≤ 100000) (ok : BlkOk X.N X.env.scope scope own) (hN : X.N.Nodup) (hw : wipeG Γ (own.map (·.2)) = Γ := by rfl) (hv : ∀ j ∈ js, j ∈ own.map (·.2) := by decide)
    (hc : X.calm = true := by rfl) (hs : ∀ x, foldedSetIterable iter X.env x = pure x := by intro _; rfl) : XO X (.ListComp elt [⟨tg, iter, [], 0⟩] scope pos) Γ (.ml ((xs.map h).map f')) := by
  have z := xo_lc (pos := pos) js es (fun _ => true) f' h own hi hg gt (.no) (fun _ _ => jt_yes rfl) (fun x hx _ => he x hx) hl ok hN hw hv hc hs
  rw [List.filter_eq_self.mpr (fun _ _ => rfl)] at z
  exact z
theorem xs_asgMap {st2 py : Pos} {x : Str} {α β : Type} {f : α → D} {xs : List α} (i : Nat) (js : List Nat) (es : α → List D) (f' : β → D) (h : α → β) (own : List (Str × Nat)) (hi : XW X tg iter Γ (xs.map f)) (hg : Bk X scope fun Y => PG Y tg g) (gt : ∀ x ∈ xs, XGt X.K g (f x) js (es x))
    (he : ∀ x ∈ xs, Bk X scope fun Y => XV Y elt (setG Γ js (es x)) (f' (h x))) (hl : xs.length ≤ 100000) (k : G.nx (Γ.set i (.ow (.ml ((xs.map h).map f'))))) (ok : BlkOk X.N X.env.scope scope own) (hN : X.N.Nodup) (hsw : swapsWith (.ListComp elt [⟨tg, iter, [], 0⟩] scope pos) (some (.Name x py)) st2.line X.env = pure true)
    (hw : wipeG Γ (own.map (·.2)) = Γ := by rfl) (hv : ∀ j ∈ js, j ∈ own.map (·.2) := by decide) (hk : kp ≤ i := by decide) (hy : X.N[i]? = some x := by rfl) (hyl : X.env.scope.names.lookup x = some .local := by rfl)
    (hc : X.calm = true := by rfl) (hs : ∀ x, foldedSetIterable iter X.env x = pure x := by intro _; rfl) : XS X kp (.Assign [.Name x py] (.ListComp elt [⟨tg, iter, [], 0⟩] scope pos) st2) Γ G := by
  refine xs_asgLc i js es (fun _ => true) f' h own hi hg gt (.no) (fun _ _ => jt_yes rfl) (fun x hx _ => he x hx) hl ?_ ok hN hsw hw hv hk hy hyl hc hs
  rw [List.filter_eq_self.mpr (fun _ _ => rfl)]
  exact k
end

/-! ### two clauses -/
section
variable {K : PySem.W.Frag} {Γ : List Sl} {wi wi1 : TI} {g g1 : TG} {tt tt1 : TT} {te : TE}
theorem jn_lc2P {α β γ : Type} {vs vs1 js js1 : List Nat} {f : α → D} {xs : List α} {es : α → List D} {p : α → Bool} {f1 : β → D} {ys : α → List β} {es1 : β → List D} {p1 : α → β → Bool} {f' : γ → D} {h : α → β → γ} (hw : wipeG Γ vs = Γ) (hw1 : ∀ x ∈ xs, wipeG (setG Γ js (es x)) vs1 = setG Γ js (es x)) (hi : JI K false wi Γ fun z => z = xs.map f) (hv : ∀ j ∈ js, j ∈ vs) (hv1 : ∀ j ∈ js1, j ∈ vs1) (hl : ((xs.filter p).flatMap fun x => ((ys x).filter (p1 x)).map (h x)).length < 100000)
    (hg : ∀ x ∈ xs, XGt K g (f x) js (es x)) (ht : ∀ x ∈ xs, JT K false tt (setG Γ js (es x)) fun z => z = p x) (hi1 : ∀ x ∈ xs, p x = true → JI K false wi1 (setG Γ js (es x)) fun z => z = (ys x).map f1) (hg1 : ∀ x ∈ xs, ∀ y ∈ ys x, XGt K g1 (f1 y) js1 (es1 y))
    (ht1 : ∀ x ∈ xs, ∀ y ∈ ys x, JT K false tt1 (setG (setG Γ js (es x)) js1 (es1 y)) fun z => z = p1 x y) (he : ∀ x ∈ xs, ∀ y ∈ ys x, p1 x y = true → JR K false te (setG (setG Γ js (es x)) js1 (es1 y)) fun z => z = f' (h x y)) :
    JN K false (tLc2 wi g tt wi1 g1 tt1 te vs vs1) Γ fun o => o = .ml (((xs.filter p).flatMap fun x => ((ys x).filter (p1 x)).map (h x)).map f') := fun σ Hb H E Q q => by
  refine hi σ Hb H E _ fun J ds Hb1 H1 e0 g1' E1 it => fun Dl nD => ?_
  subst e0
  have nb : Hb1 Dl = none := fresh_back E1.ex nD
  have noD : ¬ Own σ Γ Dl := fun z => (E1.own_some z).1 nD
  have nW : ∀ {σ' : L2.St} {Γ' : List Sl} {b : Addr}, ¬ WW false σ' Γ' b := fun z => by cases z.1
  -- what is made of the first i items, and of the first j of the inner ones
  let A : Nat → List γ := fun i => ((xs.take i).filter p).flatMap fun x => ((ys x).filter (p1 x)).map (h x)
  let St : List γ → Hp → Prop := fun acc H2 => ∃ Hb2 ws, Gr (fun a => a = Dl) Hb1 (upd H1 Dl (.lst [])) Hb2 H2 ∧ En K Hb2 H2 σ Γ ∧ Hb2 Dl = none ∧ H2 Dl = some (.lst ws) ∧ DRs K Hb2 ws (acc.map f')
  have hlen : (xs.map f).length = xs.length := List.length_map _
  refine ⟨fun i mm H2 => mm = xs.length - i ∧ i ≤ xs.length ∧ St (A i) H2, ⟨xs.length, by simp, Nat.zero_le _, Hb1, [], Gr.refl (New.side E1.ex nD).s, E1.new (New.side E1.ex nD), nb, upd_same, by simp [A]; exact .nil⟩, ?_⟩
  rintro i mm H2 ⟨rfl, hi', Hb2, ws, G2, E2, n2, h2, r2⟩
  by_cases hlt : i < xs.length
  · obtain ⟨go, yl⟩ := (it Hb2 H2 G2.b E2.ex i).1 (by rw [hlen]; exact hlt)
    have hx : xs[i]? = some xs[i] := List.getElem?_eq_getElem hlt
    have mx : xs[i] ∈ xs := List.getElem_mem hlt
    have et : xs.take (i + 1) = xs.take i ++ [xs[i]] := by rw [List.take_add_one, hx]; rfl
    have eA : A (i + 1) = A i ++ if p xs[i] = true then ((ys xs[i]).filter (p1 xs[i])).map (h xs[i]) else [] := by
      show ((xs.take (i + 1)).filter p).flatMap _ = _
      rw [et, List.filter_append, List.flatMap_append]
      by_cases hp : p xs[i] = true
      · rw [if_pos hp, List.filter_cons, if_pos hp]
        simp [A]
      · rw [if_neg hp, List.filter_cons, if_neg hp]
        simp [A]
    have lenA : ∀ l : List γ, l <+: ((xs.filter p).flatMap fun x => ((ys x).filter (p1 x)).map (h x)) → l.length < 100000 := fun l z => Nat.lt_of_le_of_lt z.length_le hl
    have preA : A (i + 1) <+: ((xs.filter p).flatMap fun x => ((ys x).filter (p1 x)).map (h x)) := by
      refine ⟨((xs.drop (i + 1)).filter p).flatMap fun x => ((ys x).filter (p1 x)).map (h x), ?_⟩
      show ((xs.take (i + 1)).filter p).flatMap _ ++ _ = _
      rw [← List.flatMap_append, ← List.filter_append, List.take_append_drop]
    refine .inr ⟨go, St (A (i + 1)), fun H' hN => ⟨xs.length - (i + 1), by omega, rfl, hlt, hN⟩, fun x H3 y => ?_⟩
    obtain ⟨d, Hb3, e, g3, rx⟩ := yl x H3 y
    rw [List.getElem?_map, hx] at e
    cases e
    generalize hxx : xs[i] = xi at *
    have E3 := E2.new g3
    have n3 : Hb3 Dl = none := (g3.f Dl (by rw [h2]; simp) (by rw [h2]; simp) fun z => z).trans n2
    have h3 := g3.ex Dl _ h2
    refine hg xi mx x Hb3 H3 (wipe σ vs) _ E3.ex rx fun vals rv => ⟨(wipe_setL hv).trans wipe_wipe, ?_⟩
    have mk : ∀ {Hbc Hc : Hp}, En K Hbc Hc σ Γ → Ex Hb3 Hbc → En K Hbc Hc (DL.setL (wipe σ vs) js vals) (setG Γ js (es xi)) := fun {Hbc Hc} Ec xc => by
      have z := (Ec.wipe vs).setL (js := js) (rv.mono xc)
      rw [hw] at z
      exact z
    have bk : ∀ {σ' : L2.St} {Γ' : List Sl} {Hbc Hc Hbd Hd : Hp}, En K Hbc Hc σ Γ → Gr (WW false σ' Γ') Hbc Hc Hbd Hd → En K Hbd Hd σ Γ := fun {σ' Γ' Hbc Hc Hbd Hd} Ec gc => Ec.new (ww_new gc)
    refine ht xi mx _ Hb3 H3 (mk E3 (Ex.refl _)) _ fun b Hb4 H4 eb g4 E4' => ?_
    have E4 := bk E3 g4
    have h4 := g4.h Dl _ h3 nW
    have n4 : Hb4 Dl = none := (g4.f Dl (by rw [h3]; simp) (by rw [h3]; simp) nW).trans n3
    have G4 : Gr (fun a => a = Dl) Hb1 (upd H1 Dl (.lst [])) Hb4 H4 := (G2.trans g3 fun _ z => z.elim).trans (ww_new g4) fun _ z => z.elim
    have r4 := r2.mono (g3.b.trans g4.b)
    cases b with
    | false =>
      refine iteF ⟨Hb4, ws, G4, E4, n4, h4, ?_⟩
      rw [eA, if_neg (by rw [← eb]; exact Bool.false_ne_true), List.append_nil]
      exact r4
    | true =>
      refine iteT (hi1 xi mx eb.symm _ Hb4 H4 E4' _ fun J1 ds1 Hb5 H5 e1 g5 E5' it1 => ?_)
      subst e1
      have E5 := bk E4 g5
      have h5 := g5.h Dl _ h4 nW
      have n5 : Hb5 Dl = none := (g5.f Dl (by rw [h4]; simp) (by rw [h4]; simp) nW).trans n4
      have G5 : Gr (fun a => a = Dl) Hb1 (upd H1 Dl (.lst [])) Hb5 H5 := G4.trans (ww_new g5) fun _ z => z.elim
      have r5 := r4.mono g5.b
      rw [if_pos eb.symm] at eA
      let B : Nat → List γ := fun j => A i ++ (((ys xi).take j).filter (p1 xi)).map (h xi)
      have hlen1 : ((ys xi).map f1).length = (ys xi).length := List.length_map _
      refine ⟨fun j kk Hc => kk = (ys xi).length - j ∧ j ≤ (ys xi).length ∧ ∃ Hbc wc, Ex Hb5 Hbc ∧ Gr (fun a => a = Dl) Hb1 (upd H1 Dl (.lst [])) Hbc Hc ∧ En K Hbc Hc σ Γ ∧ Hbc Dl = none ∧ Hc Dl = some (.lst wc) ∧ DRs K Hbc wc ((B j).map f'), ⟨(ys xi).length, by simp, Nat.zero_le _, Hb5, ws, Ex.refl _, G5, E5, n5, h5, by simp [B]; exact r5⟩, ?_⟩
      rintro j kk Hc ⟨rfl, hj, Hbc, wc, xc, Gc, Ec, nc, hc, rc⟩
      by_cases hjl : j < (ys xi).length
      · obtain ⟨go1, yl1⟩ := (it1 Hbc Hc xc Ec.ex j).1 (by rw [hlen1]; exact hjl)
        have hy : (ys xi)[j]? = some (ys xi)[j] := List.getElem?_eq_getElem hjl
        have my : (ys xi)[j] ∈ ys xi := List.getElem_mem hjl
        have et1 : (ys xi).take (j + 1) = (ys xi).take j ++ [(ys xi)[j]] := by rw [List.take_add_one, hy]; rfl
        have eB : B (j + 1) = B j ++ if p1 xi (ys xi)[j] = true then [h xi (ys xi)[j]] else [] := by
          show A i ++ (((ys xi).take (j + 1)).filter (p1 xi)).map (h xi) = _
          rw [et1, List.filter_append, List.map_append, List.filter_cons]
          by_cases hp : p1 xi (ys xi)[j] = true
          · rw [if_pos hp, if_pos hp]; simp [B]
          · rw [if_neg hp, if_neg hp]; simp [B]
        have preB : B (j + 1) <+: A (i + 1) := by
          rw [eA]
          refine ⟨(((ys xi).drop (j + 1)).filter (p1 xi)).map (h xi), ?_⟩
          show (A i ++ _) ++ _ = _
          rw [List.append_assoc, ← List.map_append, ← List.filter_append, List.take_append_drop]
        refine .inr ⟨go1, fun Hd => ∃ Hbd wd, Ex Hb5 Hbd ∧ Gr (fun a => a = Dl) Hb1 (upd H1 Dl (.lst [])) Hbd Hd ∧ En K Hbd Hd σ Γ ∧ Hbd Dl = none ∧ Hd Dl = some (.lst wd) ∧ DRs K Hbd wd ((B (j + 1)).map f'), fun H' hN => ⟨(ys xi).length - (j + 1), by omega, rfl, hjl, hN⟩, fun x1 H6 y1 => ?_⟩
        obtain ⟨d1, Hb6, e1, g6, rx1⟩ := yl1 x1 H6 y1
        rw [List.getElem?_map, hy] at e1
        cases e1
        generalize hyy : (ys xi)[j] = yj at *
        have E6 := Ec.new g6
        have n6 : Hb6 Dl = none := (g6.f Dl (by rw [hc]; simp) (by rw [hc]; simp) fun z => z).trans nc
        have h6 := g6.ex Dl _ hc
        have xb : Ex Hb3 Hb6 := ((g4.b.trans g5.b).trans xc).trans g6.b
        refine hg1 xi mx yj my x1 Hb6 H6 (wipe (DL.setL (wipe σ vs) js vals) vs1) _ E6.ex rx1 fun vals1 rv1 => ⟨(wipe_setL hv1).trans wipe_wipe, ?_⟩
        have E7 : En K Hb6 H6 (DL.setL (wipe (DL.setL (wipe σ vs) js vals) vs1) js1 vals1) (setG (setG Γ js (es xi)) js1 (es1 yj)) := by
          have z := ((mk E6 xb).wipe vs1).setL (js := js1) rv1
          rw [hw1 xi mx] at z
          exact z
        refine ht1 xi mx yj my _ Hb6 H6 E7 _ fun b1 Hb8 H8 eb1 g8 E8' => ?_
        have E8 := bk E6 g8
        have h8 := g8.h Dl _ h6 nW
        have n8 : Hb8 Dl = none := (g8.f Dl (by rw [h6]; simp) (by rw [h6]; simp) nW).trans n6
        have G8 : Gr (fun a => a = Dl) Hb1 (upd H1 Dl (.lst [])) Hb8 H8 := (Gc.trans g6 fun _ z => z.elim).trans (ww_new g8) fun _ z => z.elim
        have r8 := rc.mono (g6.b.trans g8.b)
        cases b1 with
        | false =>
          refine iteF ⟨Hb8, wc, (xc.trans g6.b).trans g8.b, G8, E8, n8, h8, ?_⟩
          rw [eB, if_neg (by rw [← eb1]; exact Bool.false_ne_true), List.append_nil]
          exact r8
        | true =>
          refine iteT (he xi mx yj my eb1.symm _ Hb8 H8 E8' _ fun y e9 Hb9 H9 q9 g9 E9' r9 => ?_)
          subst q9
          have E9 := bk E8 g9
          have h9 := g9.h Dl _ h8 nW
          have n9 : Hb9 Dl = none := (g9.f Dl (by rw [h8]; simp) (by rw [h8]; simp) nW).trans n8
          have G9 : Gr (fun a => a = Dl) Hb1 (upd H1 Dl (.lst [])) Hb9 H9 := G8.trans (ww_new g9) fun _ z => z.elim
          have lB : (B (j + 1)).length < 100000 := Nat.lt_of_le_of_lt preB.length_le (lenA _ preA)
          rw [if_pos eb1.symm] at eB
          refine ⟨wc, h9, sz_lt ?_, Hb9, wc ++ [y], ((xc.trans g6.b).trans g8.b).trans g9.b, G9.trans (Gr.put (W := fun a => a = Dl) E9.ex n9 (by rw [h9]; simp) rfl) (fun a z => .inl z), E9.side n9 noD, n9, upd_same, ?_⟩
          · rw [rc.len, List.length_map]
            rw [eB, List.length_append] at lB
            have : ([h xi yj] : List γ).length = 1 := rfl
            omega
          · rw [eB, List.map_append]
            exact (r8.mono g9.b).app (.one r9)
      · have ej : j = (ys xi).length := by omega
        refine .inl ⟨(it1 Hbc Hc xc Ec.ex j).2 (by rw [hlen1]; omega), Hbc, wc, Gc, Ec, nc, hc, ?_⟩
        rw [eA]
        have z : B j = A i ++ ((ys xi).filter (p1 xi)).map (h xi) := by
          show A i ++ (((ys xi).take j).filter (p1 xi)).map (h xi) = _
          rw [ej, List.take_length]
        rw [← z]
        exact rc
  · have e : i = xs.length := by omega
    refine .inl ⟨(it Hb2 H2 G2.b E2.ex i).2 (by rw [hlen]; omega), q Dl (.lst ws) _ Hb2 H2 rfl (new_none g1' nD) ?_ E2 n2 h2 ⟨ws, rfl, ?_⟩⟩
    · refine g1'.trans ((New.side (o := .lst []) E1.ex nD).gr (W := fun a => a = Dl) |>.trans G2 fun a z => .inl z) fun a z => ?_
      subst z
      exact .inr (new_none g1' nD)
    · have z : A i = (xs.filter p).flatMap fun x => ((ys x).filter (p1 x)).map (h x) := by
        show ((xs.take i).filter p).flatMap _ = _
        rw [e, List.take_length]
      rw [← z]
      exact r2
end
section
variable {X : Cx} {elt tg iter tg1 iter1 : Expr} {ifs ifs1 : List Expr} {scope : Scope} {Γ : List Sl} {pos : Pos} {own : List (Str × Nat)} {g g1 : TG} {tt tt1 : TT} {kp : Nat} {G : Dn}
theorem xo_lc2 {α β γ : Type} {f : α → D} {xs : List α} (js js1 : List Nat) (es : α → List D) (es1 : β → List D) (p : α → Bool) (f1 : β → D) (ys : α → List β) (p1 : α → β → Bool) (f' : γ → D) (h : α → β → γ) (own : List (Str × Nat)) (vs1 : List Nat) (hi : XW X tg iter Γ (xs.map f)) (hg : Bk X scope fun Y => PG Y tg g) (gt : ∀ x ∈ xs, XGt X.K g (f x) js (es x)) (hf : Ifs X scope ifs tt) (ht : ∀ x ∈ xs, JT X.K false tt (setG Γ js (es x)) fun z => z = p x)
    (hi1 : ∀ x ∈ xs, p x = true → Bk X scope fun Y => XW Y tg1 iter1 (setG Γ js (es x)) ((ys x).map f1)) (hg1 : Bk X scope fun Y => PG Y tg1 g1) (gt1 : ∀ x ∈ xs, ∀ y ∈ ys x, XGt X.K g1 (f1 y) js1 (es1 y)) (hf1 : Ifs X scope ifs1 tt1) (ht1 : ∀ x ∈ xs, ∀ y ∈ ys x, JT X.K false tt1 (setG (setG Γ js (es x)) js1 (es1 y)) fun z => z = p1 x y)
    (he : ∀ x ∈ xs, ∀ y ∈ ys x, p1 x y = true → Bk X scope fun Y => XV Y elt (setG (setG Γ js (es x)) js1 (es1 y)) (f' (h x y))) (hl : ((xs.filter p).flatMap fun x => ((ys x).filter (p1 x)).map (h x)).length < 100000) (ok : BlkOk X.N X.env.scope scope own) (hN : X.N.Nodup) (hw : wipeG Γ (own.map (·.2)) = Γ := by rfl) (hw1 : ∀ x ∈ xs, wipeG (setG Γ js (es x)) vs1 = setG Γ js (es x) := by intro _ _; rfl) (hv : ∀ j ∈ js, j ∈ own.map (·.2) := by decide) (hv1 : ∀ j ∈ js1, j ∈ vs1 := by decide) (hv2 : ∀ i ∈ vs1, i ∈ own.map (·.2) := by decide)
    (hc : X.calm = true := by rfl) (hs : ∀ x, foldedSetIterable iter X.env x = pure x := by intro _; rfl) (hs1 : ∀ env x, foldedSetIterable iter1 env x = pure x := by intro _ _; rfl) : XO X (.ListComp elt [⟨tg, iter, ifs, 0⟩, ⟨tg1, iter1, ifs1, 0⟩] scope pos) Γ (.ml (((xs.filter p).flatMap fun x => ((ys x).filter (p1 x)).map (h x)).map f')) :=
  xn_of (pe_lc2 hc hN pi_wp ok hv2 hg hf.ok pi_wb hg1 hf1.ok pe_wb hs hs1) (jn_lc2P hw hw1 hi hv hv1 hl gt ht (fun x hx hp => ji_wb (hi1 x hx hp)) gt1 ht1 fun x hx y hy hp => jr_wb (he x hx y hy hp))
theorem xs_asgLc2 {st2 py : Pos} {x : Str} {α β γ : Type} {f : α → D} {xs : List α} (i : Nat) (js js1 : List Nat) (es : α → List D) (es1 : β → List D) (p : α → Bool) (f1 : β → D) (ys : α → List β) (p1 : α → β → Bool) (f' : γ → D) (h : α → β → γ) (own : List (Str × Nat)) (vs1 : List Nat) (hi : XW X tg iter Γ (xs.map f)) (hg : Bk X scope fun Y => PG Y tg g) (gt : ∀ x ∈ xs, XGt X.K g (f x) js (es x)) (hf : Ifs X scope ifs tt) (ht : ∀ x ∈ xs, JT X.K false tt (setG Γ js (es x)) fun z => z = p x)
    (hi1 : ∀ x ∈ xs, p x = true → Bk X scope fun Y => XW Y tg1 iter1 (setG Γ js (es x)) ((ys x).map f1)) (hg1 : Bk X scope fun Y => PG Y tg1 g1) (gt1 : ∀ x ∈ xs, ∀ y ∈ ys x, XGt X.K g1 (f1 y) js1 (es1 y)) (hf1 : Ifs X scope ifs1 tt1) (ht1 : ∀ x ∈ xs, ∀ y ∈ ys x, JT X.K false tt1 (setG (setG Γ js (es x)) js1 (es1 y)) fun z => z = p1 x y)
    (he : ∀ x ∈ xs, ∀ y ∈ ys x, p1 x y = true → Bk X scope fun Y => XV Y elt (setG (setG Γ js (es x)) js1 (es1 y)) (f' (h x y))) (hl : ((xs.filter p).flatMap fun x => ((ys x).filter (p1 x)).map (h x)).length < 100000) (k : G.nx (Γ.set i (.ow (.ml (((xs.filter p).flatMap fun x => ((ys x).filter (p1 x)).map (h x)).map f'))))) (ok : BlkOk X.N X.env.scope scope own) (hN : X.N.Nodup) (hsw : swapsWith (.ListComp elt [⟨tg, iter, ifs, 0⟩, ⟨tg1, iter1, ifs1, 0⟩] scope pos) (some (.Name x py)) st2.line X.env = pure true)
    (hw : wipeG Γ (own.map (·.2)) = Γ := by rfl) (hw1 : ∀ x ∈ xs, wipeG (setG Γ js (es x)) vs1 = setG Γ js (es x) := by intro _ _; rfl) (hv : ∀ j ∈ js, j ∈ own.map (·.2) := by decide) (hv1 : ∀ j ∈ js1, j ∈ vs1 := by decide) (hv2 : ∀ i ∈ vs1, i ∈ own.map (·.2) := by decide) (hk : kp ≤ i := by decide) (hy : X.N[i]? = some x := by rfl) (hyl : X.env.scope.names.lookup x = some .local := by rfl)
    (hc : X.calm = true := by rfl) (hs : ∀ x, foldedSetIterable iter X.env x = pure x := by intro _; rfl) (hs1 : ∀ env x, foldedSetIterable iter1 env x = pure x := by intro _ _; rfl) : XS X kp (.Assign [.Name x py] (.ListComp elt [⟨tg, iter, ifs, 0⟩, ⟨tg1, iter1, ifs1, 0⟩] scope pos) st2) Γ G :=
  xs_of (ps_setLc2 hc hN hy hyl hsw pi_wp ok hv2 hg hf.ok pi_wb hg1 hf1.ok pe_wb hs hs1) (js_asgN (jn_lc2P hw hw1 hi hv hv1 hl gt ht (fun x hx hp => ji_wb (hi1 x hx hp)) gt1 ht1 fun x hx y hy hp => jr_wb (he x hx y hy hp)) (fun o z => by rw [z]; exact k) hk)
end
end DL

namespace DL
open PySem PySem.Spec PyProof.Rows L2 Evl

/-! ### min(xs, default=d) -/
theorem lmin_fold (x : Int) (xs : List Int) : PySem.W.minOf x xs ∈ x :: xs ∧ ∀ y ∈ x :: xs, PySem.W.minOf x xs ≤ y := by
  unfold PySem.W.minOf
  induction xs generalizing x with
  | nil => exact ⟨List.mem_cons_self .., fun y hy => by rw [List.mem_singleton.mp hy]; exact Int.le_refl _⟩
  | cons z xs ih =>
    rw [List.foldl_cons]
    show _ ∧ _
    by_cases h : z < x
    · have e : (if PySem.W.DatumOrd.lt z x = true then z else x) = z := if_pos (show decide (z < x) = true from decide_eq_true h)
      rw [e]
      obtain ⟨h1, h2⟩ := ih z
      refine ⟨List.mem_cons_of_mem _ h1, fun y hy => ?_⟩
      rcases List.mem_cons.mp hy with q | q
      · have := h2 z (List.mem_cons_self ..)
        omega
      · exact h2 y q
    · have e : (if PySem.W.DatumOrd.lt z x = true then z else x) = x := if_neg (show ¬ decide (z < x) = true from fun q => h (of_decide_eq_true q))
      rw [e]
      obtain ⟨h1, h2⟩ := ih x
      refine ⟨?_, fun y hy => ?_⟩
      · rcases List.mem_cons.mp h1 with q | q
        · rw [q]; exact List.mem_cons_self ..
        · exact List.mem_cons_of_mem _ (List.mem_cons_of_mem _ q)
      · rcases List.mem_cons.mp hy with q | q
        · rw [q]; exact h2 x (List.mem_cons_self ..)
        · rcases List.mem_cons.mp q with q | q
          · have := h2 x (List.mem_cons_self ..)
            omega
          · exact h2 y (List.mem_cons_of_mem _ q)
theorem minOf_lmin {y : Int} {ys : List Int} : PySem.W.minOf y ys = lmin (y :: ys) := by
  obtain ⟨h1, h2⟩ := lmin_fold y ys
  obtain ⟨k1, k2⟩ := lmin_ok (l := y :: ys) (by simp)
  have a := h2 _ k1
  have b := k2 _ h1
  omega
/-- min with a default -/
def lminD (d : Int) (l : List Int) : Int := if l = [] then d else lmin l
def rMinD (K : PySem.W.Frag) : List V → List V → Hp → VK → Prop := fun vs zs H Q => ∃ (a : Addr) (ns : List Int) (d : Int), vs = [V.ref a] ∧ zs = [.int d] ∧ SqL K H a (ns.map V.int) ∧ Q (.int (lminD d ns)) H
theorem cr_minD {X : Cx} (hc : X.calm = true) (hu : X.A.units + 65 < cLine) : CallRK X (.builtin "min") [Str.ofString "default"] (rMinD X.K) := by
  intro pins s σ H vs zs us ws Q I r rz h
  obtain ⟨a, ns, d, rfl, rfl, hs, q⟩ := h
  obtain rfl := Vals.ref1 r
  obtain ⟨w1, rfl, e1⟩ := vals1 rz
  obtain ⟨t, rfl⟩ := e1
  obtain ⟨its, rv, hl, hz⟩ := I.list hs
  have hi := rv.ints
  refine PySem.W.min_list_datum_default (α := Int) (I.ok.hd hc) hl.isList (xs := ns) (PySem.W.HoldAll.of_ints (by simpa using hi)) (by show X.A.units + 1 + 0 < cLine; omega) (fun e h' tk hk => ?_) fun y ys i v h' tk e hv hh hk => ?_
  · subst e
    refine ⟨.int d, H, I.kept (t' := tk) hk, ⟨t, rfl⟩, ?_⟩
    exact q
  · obtain ⟨t', rfl⟩ := PySem.W.int_of_holds hh
    refine ⟨.int (lminD d ns), H, I.kept (t' := tk) hk, ⟨t', ?_⟩, q⟩
    subst e
    rw [minOf_lmin]
    rfl
section
variable {X : Cx} {Γ : List Sl} {e b : Expr} {pos p kp : Pos}
theorem xv_minD {ns : List Int} {d : Int} (h : XV X e Γ (lT D.int ns)) (hb : XV X b Γ (.int d)) (hm : X.mg "min" = none) (hu : X.A.units + 65 < cLine) (hk : PK X [⟨some (Str.ofString "default"), b, kp⟩] (tCons (wpE X b) tNil)) (hc : X.calm = true := by rfl) (hg : Gl X "min" := by rfl)
    (he : backTo pos (starEach (e :: []) X.env) = (false, eval e X.env) :: backTo pos (starEach [] X.env) := by rfl) (hpl : (backTo pos (starEach (e :: []) X.env)).any (·.1) = false := by rfl)
    (hall : (backToKw pos (keywordEach [⟨some (Str.ofString "default"), b, kp⟩] X.env)).all (·.1.isSome) = true := by rfl) (hnone : (backToKw pos (keywordEach [⟨some (Str.ofString "default"), b, kp⟩] X.env)).any (·.1.isNone) = false := by rfl) (hks : (backToKw pos (keywordEach [⟨some (Str.ofString "default"), b, kp⟩] X.env)).filterMap (·.1) = [Str.ofString "default"] := by rfl)
    (hs : starEach (e :: []) X.env = (false, eval e X.env) :: starEach [] X.env := by rfl) : XV X (.Call (.Name "min" p) [e] [⟨some (Str.ofString "default"), b, kp⟩] pos) Γ (.int (lminD d ns)) :=
  xe_of (pe_callBK (cr_minD hc hu) hg hm (by decide +kernel) (pa_cons pe_wp pa_nil hs) hk (by decide) (by decide) he hpl hall hnone hks) fun σ Hb H E Q q => h σ Hb H E _ fun v z Hb1 H1 p1 g1 E1 r1 => hb σ Hb1 H1 E1 _ fun w z2 Hb2 H2 p2 g2 E2 r2 => by
    subst p1 p2
    cases r2
    cases r1 with
    | @lst a vs _ ha k =>
      have e1 := k.ints
      subst e1
      exact ⟨a, ns, d, rfl, rfl, SqL.of (E2.ex _ _ (g2.b _ _ ha)), q _ _ Hb2 H2 rfl (gww g1 g2) E2 (.int _)⟩
end
end DL

namespace DL
open PySem PySem.Spec PyProof.Rows L2 Evl

/-! ### saying less -/
theorem le_refl {Γ : List Sl} : Le Γ Γ := ⟨rfl, fun _ _ h => .inr h⟩
theorem le_nil : Le [] [] := le_refl
theorem le_un {a : Sl} {Γ Γ' : List Sl} (h : Le Γ Γ') : Le (a :: Γ) (.un :: Γ') := ⟨by rw [List.length_cons, List.length_cons, h.1], fun i s k => by
  cases i with
  | zero => cases k; exact .inl rfl
  | succ i => exact h.2 i s k⟩
theorem le_eq {a : Sl} {Γ Γ' : List Sl} (h : Le Γ Γ') : Le (a :: Γ) (a :: Γ') := ⟨by rw [List.length_cons, List.length_cons, h.1], fun i s k => by
  cases i with
  | zero => exact .inr k
  | succ i => exact h.2 i s k⟩
theorem Le.set {Γ Γ' : List Sl} (h : Le Γ Γ') (i : Nat) (s : Sl) : Le (Γ.set i s) (Γ'.set i s) := ⟨by rw [List.length_set, List.length_set, h.1], fun j t k => by
  rcases set_at k with ⟨rfl, z2, z3⟩ | ⟨z1, z2⟩
  · exact .inr (by rw [List.getElem?_set_self (by rw [h.1]; exact z3), z2])
  · exact (h.2 j t z2).imp id fun q => by rw [List.getElem?_set_ne z1]; exact q⟩
theorem Le.setG : ∀ {js : List Nat} {es : List D} {Γ Γ' : List Sl}, Le Γ Γ' → Le (DL.setG Γ js es) (DL.setG Γ' js es)
  | [], _, _, _, h => h
  | _ :: _, [], _, _, h => h
  | j :: js, d :: es, _, _, h => Le.setG (js := js) (h.set j (.pd d))
section
variable {X : Cx} {elt tg iter tg1 iter1 : Expr} {scope : Scope} {Γ : List Sl} {pos : Pos} {g g1 : TG} {kp : Nat} {G : Dn}
theorem flat_all {α β γ : Type} {xs : List α} {ys : α → List β} {h : α → β → γ} : ((xs.filter fun _ => true).flatMap fun x => ((ys x).filter fun _ => true).map (h x)) = xs.flatMap fun x => (ys x).map (h x) := by
  rw [List.filter_eq_self.mpr (fun _ _ => rfl)]
  have e : (fun x => ((ys x).filter fun _ => true).map (h x)) = fun x => (ys x).map (h x) := funext fun x => by rw [List.filter_eq_self.mpr (fun _ _ => rfl)]
  rw [e]
theorem xo_map2 {α β γ : Type} {f : α → D} {xs : List α} (js js1 : List Nat) (es : α → List D) (es1 : β → List D) (f1 : β → D) (ys : α → List β) (f' : γ → D) (h : α → β → γ) (own : List (Str × Nat)) (vs1 : List Nat) (hi : XW X tg iter Γ (xs.map f)) (hg : Bk X scope fun Y => PG Y tg g) (gt : ∀ x ∈ xs, XGt X.K g (f x) js (es x))
    (hi1 : ∀ x ∈ xs, Bk X scope fun Y => XW Y tg1 iter1 (setG Γ js (es x)) ((ys x).map f1)) (hg1 : Bk X scope fun Y => PG Y tg1 g1) (gt1 : ∀ x ∈ xs, ∀ y ∈ ys x, XGt X.K g1 (f1 y) js1 (es1 y))
    (he : ∀ x ∈ xs, ∀ y ∈ ys x, Bk X scope fun Y => XV Y elt (setG (setG Γ js (es x)) js1 (es1 y)) (f' (h x y))) (hl : (xs.flatMap fun x => (ys x).map (h x)).length < 100000) (ok : BlkOk X.N X.env.scope scope own) (hN : X.N.Nodup) (hw : wipeG Γ (own.map (·.2)) = Γ := by rfl) (hw1 : ∀ x ∈ xs, wipeG (setG Γ js (es x)) vs1 = setG Γ js (es x) := by intro _ _; rfl) (hv : ∀ j ∈ js, j ∈ own.map (·.2) := by decide) (hv1 : ∀ j ∈ js1, j ∈ vs1 := by decide) (hv2 : ∀ i ∈ vs1, i ∈ own.map (·.2) := by decide)
    (hc : X.calm = true := by rfl) (hs : ∀ x, foldedSetIterable iter X.env x = pure x := by intro _; rfl) (hs1 : ∀ env x, foldedSetIterable iter1 env x = pure x := by intro _ _; rfl) : XO X (.ListComp elt [⟨tg, iter, [], 0⟩, ⟨tg1, iter1, [], 0⟩] scope pos) Γ (.ml ((xs.flatMap fun x => (ys x).map (h x)).map f')) := by
  have z := xo_lc2 (pos := pos) js js1 es es1 (fun _ => true) f1 ys (fun _ _ => true) f' h own vs1 hi hg gt (.no) (fun _ _ => jt_yes rfl) (fun x hx _ => hi1 x hx) hg1 gt1 (.no) (fun _ _ _ _ => jt_yes rfl) (fun x hx y hy _ => he x hx y hy) (by rw [flat_all]; exact hl) ok hN hw hw1 hv hv1 hv2 hc hs hs1
  rw [flat_all] at z
  exact z
theorem xs_asgMap2 {st2 py : Pos} {x : Str} {α β γ : Type} {f : α → D} {xs : List α} (i : Nat) (js js1 : List Nat) (es : α → List D) (es1 : β → List D) (f1 : β → D) (ys : α → List β) (f' : γ → D) (h : α → β → γ) (own : List (Str × Nat)) (vs1 : List Nat) (hi : XW X tg iter Γ (xs.map f)) (hg : Bk X scope fun Y => PG Y tg g) (gt : ∀ x ∈ xs, XGt X.K g (f x) js (es x))
    (hi1 : ∀ x ∈ xs, Bk X scope fun Y => XW Y tg1 iter1 (setG Γ js (es x)) ((ys x).map f1)) (hg1 : Bk X scope fun Y => PG Y tg1 g1) (gt1 : ∀ x ∈ xs, ∀ y ∈ ys x, XGt X.K g1 (f1 y) js1 (es1 y))
    (he : ∀ x ∈ xs, ∀ y ∈ ys x, Bk X scope fun Y => XV Y elt (setG (setG Γ js (es x)) js1 (es1 y)) (f' (h x y))) (hl : (xs.flatMap fun x => (ys x).map (h x)).length < 100000) (k : G.nx (Γ.set i (.ow (.ml ((xs.flatMap fun x => (ys x).map (h x)).map f'))))) (ok : BlkOk X.N X.env.scope scope own) (hN : X.N.Nodup) (hsw : swapsWith (.ListComp elt [⟨tg, iter, [], 0⟩, ⟨tg1, iter1, [], 0⟩] scope pos) (some (.Name x py)) st2.line X.env = pure true)
    (hw : wipeG Γ (own.map (·.2)) = Γ := by rfl) (hw1 : ∀ x ∈ xs, wipeG (setG Γ js (es x)) vs1 = setG Γ js (es x) := by intro _ _; rfl) (hv : ∀ j ∈ js, j ∈ own.map (·.2) := by decide) (hv1 : ∀ j ∈ js1, j ∈ vs1 := by decide) (hv2 : ∀ i ∈ vs1, i ∈ own.map (·.2) := by decide) (hk : kp ≤ i := by decide) (hy : X.N[i]? = some x := by rfl) (hyl : X.env.scope.names.lookup x = some .local := by rfl)
    (hc : X.calm = true := by rfl) (hs : ∀ x, foldedSetIterable iter X.env x = pure x := by intro _; rfl) (hs1 : ∀ env x, foldedSetIterable iter1 env x = pure x := by intro _ _; rfl) : XS X kp (.Assign [.Name x py] (.ListComp elt [⟨tg, iter, [], 0⟩, ⟨tg1, iter1, [], 0⟩] scope pos) st2) Γ G := by
  refine xs_asgLc2 i js js1 es es1 (fun _ => true) f1 ys (fun _ _ => true) f' h own vs1 hi hg gt (.no) (fun _ _ => jt_yes rfl) (fun x hx _ => hi1 x hx) hg1 gt1 (.no) (fun _ _ _ _ => jt_yes rfl) (fun x hx y hy _ => he x hx y hy) (by rw [flat_all]; exact hl) ?_ ok hN hsw hw hw1 hv hv1 hv2 hk hy hyl hc hs hs1
  rw [flat_all]
  exact k
end
section
variable {X : Cx} {kp : Nat} {sts rest body : List Stmt} {Γ : List Sl} {G : Dn} {tg iter : Expr} {pos : Pos} {g : TG}
/-- a loop whose slots behind each turn are known: st, what the turns so far have made -/
theorem xs_loop {α S : Type} {f : α → D} {xs : List α} {js : List Nat} (es : α → List D) (emb : S → List Sl) (st : List α → S) (hi : XW X tg iter Γ (xs.map f)) (hp : PG X tg g) (hg : ∀ x ∈ xs, XGt X.K g (f x) js (es x)) (h0 : Le Γ (emb (st [])))
    (hs : ∀ pre x post, xs = pre ++ x :: post → XSs X kp body (setG (emb (st pre)) js (es x)) { nx := fun Γ' => Le Γ' (emb (st (pre ++ [x]))), ct := fun Γ' => Le Γ' (emb (st (pre ++ [x]))), bk := fun _ => False, rt := G.rt }) (hd : XSs X kp rest (emb (st xs)) G) (hps : PassesOwn (model X.prog X.w) X.A X.env X.xe) (hj : ∀ j ∈ js, kp ≤ j := by decide) (hc : X.calm = true := by rfl)
    (hss : ∀ x, foldedSetIterable iter X.env x = pure x := by intro _; rfl) : XSs X kp (.For tg iter body [] pos :: rest) Γ G := by
  refine xs_cons (xs_forT es (fun pre Γ' => Le Γ' (emb (st pre))) hi hp h0 hg (fun pre x post Γ' hx hv => ?_) (fun Γ' hv => hd.le hv) hps hj hc hss)
  exact ((hs pre x post hx).le hv.setG).imp (fun _ z => z) (fun _ _ z => z) (fun _ z => z.elim) fun _ z => z
theorem xs_leave (h : ∀ Γ', Le Γ Γ' → G.nx Γ') : XSs X kp [] Γ G := xs_nil (h Γ le_refl)
end
theorem hu_65 {k : Nat} {A : Around} (r : Room k A) : A.units + 65 < cLine := by
  have := r.un
  omega
theorem hu_64 {k : Nat} {A : Around} (r : Room k A) : A.units + 64 < cLine := by
  have := r.un
  omega
end DL

namespace DL
open PySem PySem.Spec PyProof.Rows L2 Evl
/-! ### defs as facts: what the kit tells of a def, in one -/
section
variable {P : Program} {w : World} {K : PySem.W.Frag} {mg : Str → Option Value} {base h : Heap}
structure Dd (K : PySem.W.Frag) (mg : Str → Option Value) (x : Str) (st : Stmt) (ps : List Str) : Prop where
  ex : ∃ (f : Addr) (fd : FuncData), Fun K x x st f fd ∧ mg x = some (.ref f) ∧ PySem.W.keepIn K (.ref f) = true ∧ Binds K fd ps []
/-- how the arguments are bound: by running bindArgs on a list of the right length -/
def Bnd (x : Str) (st : Stmt) (ps : List Str) : Prop := ∀ (kV doc pm : Value) (an : Option Addr) (cdv ct : Value) (us : List Value), us.length = ps.length → bindArgs (PySem.W.fnOf x x (defArgs st) (defBody st) (defScope st) .none kV doc pm an cdv ct) ⟨us, []⟩ = pure (ps.zip us)
theorem dd_mk {x : Str} {st : Stmt} {ps : List Str} (b : Bnd x st ps) (X : K.In h) (G : h.Ns mainGlobals mg) {f : Addr} {oc : Value} {od an : Option Addr} {osl : Array (Option Value)} {kV doc pm cdv ct : Value}
    (a : PySem.W.nsIn K mainGlobals x = some (some (.ref f))) (l : K.lookup f = some ⟨oc, od, .func (PySem.W.fnOf x x (defArgs st) (defBody st) (defScope st) .none kV doc pm an cdv ct), osl⟩)
    (c : PySem.W.codeIn K cdv x = true) (k : PySem.W.keepIn K (.ref f) = true) : Dd K mg x st ps := by
  have F := fun_mk (st := st) l c k
  exact ⟨f, _, F, PySem.W.mg_of X G a, k, F.binds fun kV doc pm an cdv ct us hl => b kV doc pm an cdv ct us hl⟩
theorem Cal.of {x : Str} {st : Stmt} {ps : List Str} {k : Nat} {sp : Sp} (D : Dd K mg x st ps) (ok : ∀ {f : Addr} {fd : FuncData}, Fun K x x st f fd → FnOk P w K mg base CX0 k f fd ps sp) : Cal P w K mg base k x ps sp := by
  obtain ⟨f, fd, F, h1, h2, h3⟩ := D.ex
  exact ⟨f, fd, ok F, h1, h2, h3⟩
theorem fn_absurd {ps : List Str} {sp : Sp} {k : Nat} {f : Addr} {fd : FuncData} (h : ∀ vs H Q E, ¬ sp vs H Q E) : FnOk P w K mg base CX0 k f fd ps sp := ⟨fun vs H Q E z => absurd z (h vs H Q E), fun A outer s H args us vs Q E hr e b v z => absurd z (h vs H Q E)⟩
/-- a def that calls itself: by how deep it still may go -/
theorem cal_rec {x : Str} {st : Stmt} {ps : List Str} {C : Nat → Con} (D : Dd K mg x st ps) (h0 : ∀ ds Φ, ¬ C 0 ds Φ) (step : ∀ n, Cal P w K mg base n x ps (spP K (C n)) → ∀ {f : Addr} {fd : FuncData}, Fun K x x st f fd → FnOk P w K mg base CX0 (n + 1) f fd ps (spP K (C (n + 1)))) : ∀ n, Cal P w K mg base n x ps (spP K (C n))
  | 0 => Cal.of D fun _ => fn_absurd fun vs H Q E ⟨ds, Φ, Hb, z, _⟩ => h0 ds Φ z
  | n + 1 => Cal.of D (step n (cal_rec D h0 step n))
theorem cal_recE {x : Str} {st : Stmt} {ps : List Str} {o : MO} {C : Nat → Con} (D : Dd K mg x st ps) (h0 : ∀ ds Φ, ¬ C 0 ds Φ) (step : ∀ n, Cal P w K mg base n x ps (spE K o (C n)) → ∀ {f : Addr} {fd : FuncData}, Fun K x x st f fd → FnOk P w K mg base CX0 (n + 1) f fd ps (spE K o (C (n + 1)))) : ∀ n, Cal P w K mg base n x ps (spE K o (C n))
  | 0 => Cal.of D fun _ => fn_absurd fun vs H Q E ⟨a, ws, ds, Φ, Hb, u, _, z, _⟩ => h0 ds Φ z
  | n + 1 => Cal.of D (step n (cal_recE D h0 step n))
theorem Cal.mono {x : Str} {ps : List Str} {j k : Nat} {sp : Sp} (c : Cal P w K mg base j x ps sp) (h : j ≤ k) : Cal P w K mg base k x ps sp := by
  obtain ⟨f, fd, F, h1, h2, h3⟩ := c.ex
  exact ⟨f, fd, F.mono h, h1, h2, h3⟩
/-! ### the law -/
def cLaw (n : Nat) : Con := fun ds Φ => ∃ ns : List Int, ds = [.sc ns] ∧ ns.length ≤ n ∧ Φ (.bl true)
structure Dl (K : PySem.W.Frag) (mg : Str → Option Value) (st : Stmt) (x : Str) : Prop where
  ex : ∃ (f : Addr) (fd : FuncData), Fun K "law" "law" st f fd ∧ mg "law" = some (.ref f) ∧ ∀ (s : Shared) (u : Value), BindsTo s fd ⟨[u], []⟩ [(x, u)]
theorem dl_mk {st : Stmt} {x : Str} (b : Bnd "law" st [x]) (X : K.In h) (G : h.Ns mainGlobals mg) {f : Addr} {oc : Value} {od an : Option Addr} {osl : Array (Option Value)} {kV doc pm cdv ct : Value}
    (a : PySem.W.nsIn K mainGlobals "law" = some (some (.ref f))) (l : K.lookup f = some ⟨oc, od, .func (PySem.W.fnOf "law" "law" (defArgs st) (defBody st) (defScope st) .none kV doc pm an cdv ct), osl⟩)
    (c : PySem.W.codeIn K cdv "law" = true) (k : PySem.W.keepIn K (.ref f) = true) : Dl K mg st x :=
  ⟨f, _, fun_mk (st := st) l c k, PySem.W.mg_of X G a, fun s u => .of_eq (b kV doc pm an cdv ct [u] rfl)⟩
theorem law_walk {l : PySem.W.OpenLaw} (n k : Nat) {q : Program} {loose : List Str} {XP : (Str → Option Value) → Heap → Prop} {YP : World → Heap → Prop} {d : DefRec} {K : Params → PySem.W.Frag} {st : Stmt} {x : Str}
    (hn : l.most = some n) (hn2 : n ≤ sizeLine) (hdf : d.params.defaults = []) (hr : Room k callerA) (hd : d.name = "law") (hY : ∀ (w : World) (h : Heap), YP w h → (K w.params).In h)
    (F : ∀ (w : World) (mg : Str → Option Value) (h : Heap), (K w.params).In h → h.Ns mainGlobals mg → Dl (K w.params) mg st x ∧ ∀ (base : Heap) (f : Addr) (fd : FuncData), Fun (K w.params) "law" "law" st f fd → FnOk l.prog w (K w.params) mg base CX0 k f fd [x] (spP (K w.params) (cLaw n))) :
    PySem.W.WalkO q loose XP YP l.row.toRowW d [] (fun f vs => PySem.call f vs) := by
  refine walk_of (n := n) (k := k) (x := x) (K := K) (CX := fun _ => CX0) (sp := fun w => spP (K w.params) (cLaw n)) hn hn2 hdf hr hY (fun w mg fa h KX G hmg => ?_) (fun w H a ns hl hO hS => ?_) fun _ _ _ _ _ z => z
  · obtain ⟨h0, h3⟩ := F w mg h KX G
    obtain ⟨f, fd, Ff, h1, h2⟩ := h0.ex
    rw [hd] at hmg
    cases h1.symm.trans hmg
    exact ⟨fd, h2, fun base _ _ => h3 base _ fd Ff⟩
  · exact ⟨[.sc ns], fun z => z = .bl true, H, ⟨ns, rfl, hl, rfl⟩, Ex.refl H, .cons (.sc hS) .nil, fun v d Hb' H' z _ r => by
      subst z
      cases r
      rfl⟩
end
end DL

namespace DL
open PySem PySem.Spec PyProof.Rows L2 Evl
theorem xv_nilL {X : Cx} {Γ : List Sl} {α : Type} {f : α → D} {pos : Pos} : XV X (.List [] pos) Γ (lT f []) := xv_lst (ds := []) xa_nil (by decide)
section
variable {X : Cx} {kp : Nat} {sts rest body : List Stmt} {Γ : List Sl} {G : Dn} {tg iter : Expr} {pos : Pos} {g : TG}
/-- .. with what is known besides -/
theorem xs_loopP {α S : Type} {f : α → D} {xs : List α} {js : List Nat} (es : α → List D) (emb : S → List Sl) (st : List α → S) (Iv : List α → Prop) (hi : XW X tg iter Γ (xs.map f)) (hp : PG X tg g) (hg : ∀ x ∈ xs, XGt X.K g (f x) js (es x)) (h0 : Le Γ (emb (st []))) (i0 : Iv [])
    (hs : ∀ pre x post, xs = pre ++ x :: post → Iv pre → XSs X kp body (setG (emb (st pre)) js (es x)) { nx := fun Γ' => Le Γ' (emb (st (pre ++ [x]))) ∧ Iv (pre ++ [x]), ct := fun Γ' => Le Γ' (emb (st (pre ++ [x]))) ∧ Iv (pre ++ [x]), bk := fun _ => False, rt := G.rt }) (hd : Iv xs → XSs X kp rest (emb (st xs)) G) (hps : PassesOwn (model X.prog X.w) X.A X.env X.xe) (hj : ∀ j ∈ js, kp ≤ j := by decide) (hc : X.calm = true := by rfl)
    (hss : ∀ x, foldedSetIterable iter X.env x = pure x := by intro _; rfl) : XSs X kp (.For tg iter body [] pos :: rest) Γ G := by
  refine xs_cons (xs_forT es (fun pre Γ' => Le Γ' (emb (st pre)) ∧ Iv pre) hi hp ⟨h0, i0⟩ hg (fun pre x post Γ' hx hv => ?_) (fun Γ' hv => (hd hv.2).le hv.1) hps hj hc hss)
  exact ((hs pre x post hx hv.2).le hv.1.setG).imp (fun _ z => z) (fun _ _ z => z) (fun _ z => z.elim) fun _ z => z
end
end DL

namespace DL
open PySem PySem.Spec PyProof.Rows L2 Evl
/-! ### the law's script -/
theorem atI_mapV {α β : Type} {f : α → β} {l : List α} {i : Int} {x : α} (h : atI l i = some x) : atI (l.map f) i = some (f x) := by
  unfold atI at h ⊢
  rw [List.length_map]
  cases e : ixN l.length i with
  | none => rw [e] at h; cases h
  | some j =>
    rw [e] at h
    show (l.map f)[j]? = some (f x)
    rw [List.getElem?_map, show l[j]? = some x from h]
    rfl
theorem v_ixSc {K : PySem.W.Frag} {ns : List Int} {i j : Int} (h : atI ns i = some j) : RV2 K (rIxL K) (.sc ns) (.int i) (.int j) := rv_scal fun x y Hb H ex h1 h2 => by
  cases h1 with
  | sc ha =>
    cases h2
    exact ⟨.int j, .int j, fun Q q => ⟨_, _, i, .int j, rfl, rfl, ex_l ex ha, atI_mapV h, q⟩⟩
theorem l_lenSc {K : PySem.W.Frag} {ns : List Int} : RL K (fun xs H Q => ∃ p ys, xs = [.ref p] ∧ (SqL K H p ys ∨ SqT K H p ys) ∧ Q (.int ys.length) H) [.sc ns] fun z => z = .int ns.length := rl_scal fun xs Hb H ex h1 => by
  obtain ⟨v, rfl, r⟩ := h1.one_inv
  cases r with
  | sc ha => exact ⟨.int ns.length, .int _, fun Q k => ⟨_, _, rfl, .inl (ex_l ex ha), by rw [List.length_map]; exact k⟩⟩
theorem xv_lenSc {X : Cx} {Γ : List Sl} {a : Expr} {pos p : Pos} {ns : List Int} (h : XV X a Γ (.sc ns)) (hm : X.mg "len" = none) (hg : Gl X "len" := by rfl) (hs : starEach (a :: []) X.env = (false, eval a X.env) :: starEach [] X.env := by rfl) (hpl : (backTo pos (starEach [] X.env)).any (·.1) = false := by rfl) : XV X (.Call (.Name "len" p) [a] [] pos) Γ (.int ns.length) := xe_callB call_len_seq hm PySem.boot_len (xl_cons h xa_nil hs) (fun _ z => by
  rw [z]
  exact l_lenSc) hg (by decide) (by decide) hs hpl
/-! ### isinstance(x, T), T a built-in class -/
def D.ty : D → Option String
  | .non => some "NoneType" | .bl _ => some "bool" | .int _ => some "int" | .str _ => some "str" | .lst _ => some "list" | .tup _ => some "tuple"
  | _ => none
theorem ty_of {K : PySem.W.Frag} {H : Hp} {v : V} {d : D} {t : String} (r : DR K H v d) (h : d.ty = some t) : TyX K H v (.type t) := by
  cases r with
  | non => cases h; exact .base .non
  | bl b => cases h; exact .base (.bl b)
  | int b => cases h; exact .base (.int b)
  | str b => cases h; exact .base (.str b)
  | lst k _ =>
    cases h
    exact .base (.lst k)
  | tup k _ =>
    cases h
    exact .base (.tup k)
  | ins _ _ _ _ => cases h
  | dic _ _ _ _ => cases h
  | sc _ => cases h
section
variable {X : Cx} {Γ : List Sl} {a : Expr} {pos p pt : Pos} {d : D}
theorem xe_isi {m : Bool} {Φa Φ : D → Prop} (T : String) (ha : XE X m a Γ Φa) (h : ∀ d, Φa d → ∃ t b, d.ty = some t ∧ kitB t T = some b ∧ Φ (.bl b)) (hm : X.mg "isinstance" = none) (hm2 : X.mg (Str.ofString T) = none) (hv : bootBuiltins (Str.ofString T) = some (.type T) := by decide +kernel) (hb : bootBuiltins "isinstance" = some (.builtin "isinstance") := by decide +kernel)
    (hg : Gl X "isinstance" := by rfl) (hg2 : Gl X (Str.ofString T) := by rfl) (hn2 : (Str.ofString T) ≠ "__name__" := by decide) (hdb2 : ((Str.ofString T) == ("__debug__" : Str)) = false := by decide)
    (hs : starEach [a, .Name (Str.ofString T) pt] X.env = (false, eval a X.env) :: starEach [.Name (Str.ofString T) pt] X.env := by rfl) (hs2 : starEach [.Name (Str.ofString T) pt] X.env = (false, eval (.Name (Str.ofString T) pt) X.env) :: starEach [] X.env := by rfl) (hpl : (backTo pos (starEach [.Name (Str.ofString T) pt] X.env)).any (·.1) = false := by rfl) : XE X m (.Call (.Name "isinstance" p) [a, .Name (Str.ofString T) pt] [] pos) Γ Φ :=
  xe_of (pe_callB call_isi hg hm hb (pa_cons pe_wp (pa_cons (pe_bltn (v := .ty T) hg2 hm2 hv rfl hn2 hdb2) pa_nil hs2) hs) (by decide) (by decide) hs hpl) fun σ Hb H E Q q => ha σ Hb H E _ fun v d Hb1 H1 p1 g1 E1 r1 => by
    obtain ⟨t, b, h1, h2, h3⟩ := h d p1
    exact ⟨v, .ty T, .type t, .type T, b, rfl, .ty T, ty_of (r1.mono E1.ex) h1, kit_ty h2, q (.bl b) (.bl b) Hb1 H1 h3 g1 E1 (.bl b)⟩
theorem xv_isi {t : String} {b : Bool} (T : String) (ha : XV X a Γ d) (hm : X.mg "isinstance" = none) (hm2 : X.mg (Str.ofString T) = none) (h1 : d.ty = some t := by rfl) (h2 : kitB t T = some b := by decide +kernel) (hv : bootBuiltins (Str.ofString T) = some (.type T) := by decide +kernel) (hb : bootBuiltins "isinstance" = some (.builtin "isinstance") := by decide +kernel)
    (hg : Gl X "isinstance" := by rfl) (hg2 : Gl X (Str.ofString T) := by rfl) (hn2 : (Str.ofString T) ≠ "__name__" := by decide) (hdb2 : ((Str.ofString T) == ("__debug__" : Str)) = false := by decide)
    (hs : starEach [a, .Name (Str.ofString T) pt] X.env = (false, eval a X.env) :: starEach [.Name (Str.ofString T) pt] X.env := by rfl) (hs2 : starEach [.Name (Str.ofString T) pt] X.env = (false, eval (.Name (Str.ofString T) pt) X.env) :: starEach [] X.env := by rfl) (hpl : (backTo pos (starEach [.Name (Str.ofString T) pt] X.env)).any (·.1) = false := by rfl) : XV X (.Call (.Name "isinstance" p) [a, .Name (Str.ofString T) pt] [] pos) Γ (.bl b) :=
  xe_isi T ha (fun z e => ⟨t, b, by rw [e]; exact h1, h2, rfl⟩) hm hm2 hv hb hg hg2 hn2 hdb2 hs hs2 hpl
end
/-! ### a def that hands back a list it has just written down -/
section
variable {P : Program} {w : World} {K : PySem.W.Frag} {mg : Str → Option Value} {base : Heap} {x qual : Str} {st : Stmt} {f : Addr} {fd : FuncData} {N ps : List Str} {k : Nat} {e : Expr} {pos : Pos}
theorem no_ownG {σ : L2.St} {ds : List D} {a : Addr} : ¬ Own σ (stG N (ds.map .pd)) a := fun ⟨i, o, h, _⟩ => by
  unfold stG at h
  by_cases hi : i < (ds.map Sl.pd).length
  · rw [List.getElem?_append_left hi, List.getElem?_map] at h
    cases hd : ds[i]? with
    | none => rw [hd] at h; cases h
    | some d' => rw [hd] at h; cases h
  · rw [List.getElem?_append_right (by omega), List.getElem?_replicate] at h
    split at h <;> cases h
theorem fn_newRet {C : List D → (MO → Prop) → Prop} (F : Fun K x qual st f fd) (S : FnScope N ps (defScope st)) (len : ∀ ds Φ, C ds Φ → ds.length = ps.length) (hb : defBody st = [.Return (some e) pos])
    (body : ∀ (cdv : Value) (A : Around) (outer : List Env) (s : Shared) (H : Hp) (E : XK), Room k (A.deeper (envOfC qual (defScope st) s.heap.objs.size f cdv)) → ∀ ds Φ, C ds Φ → XN (cxF P w K mg base N qual st f cdv A outer s H E) true e (stG N (ds.map .pd)) Φ) :
    FnOk P w K mg base CX0 (k + 1) f fd ps (spN K C) := fn_new F S len fun cdv A outer s H E hr ds Φ h1 => by
  rw [hb]
  refine ⟨_, pss_cons (ps_ret pe_wp) pss_nil, fun σ Hb H2 En Q q => ?_⟩
  refine body cdv A outer s H E hr ds Φ h1 σ Hb H2 En Q fun p u o Hb' H' z n g E' nb hp r => ?_
  exact q p u o Hb' H' z n (g.wk fun _ y => (no_ownG y.2).elim) nb hp r
end
end DL

namespace DL
open PySem PySem.Spec PyProof.Rows L2 Evl
/-! ### the drawn numbers' state: [script, place, rest, seed] -/
def stM (ns : List Int) (i r z : Int) : MO := .ml [.sc ns, .int i, .int r, .int z]
def stB (i r z : Int) : Prop := 0 ≤ i ∧ 0 ≤ r ∧ 0 ≤ z ∧ z < 4294967296
def stO : MO := .inv fun K Hb o => ∃ ns i r z, stB i r z ∧ MR K Hb o (stM ns i r z)
def stR (o : MO) : Prop := ∃ ns i r z, stB i r z ∧ o = stM ns i r z
section
variable {K : PySem.W.Frag} {Hb : Hp} {u : HO} {o : MO}
theorem st_in (h : stR o) (r : MR K Hb u o) : MR K Hb u stO := ⟨fun xs e => by
  exact r.nt xs (congrArg some e), fun Hb' e => by
  obtain ⟨ns, i, r', z, b, rfl⟩ := h
  exact ⟨ns, i, r', z, b, r.mono e⟩⟩
theorem st_out (r : MR K Hb u stO) : ∃ o', stR o' ∧ MR K Hb u o' := by
  obtain ⟨ns, i, r', z, b, h⟩ := r.2 Hb (Ex.refl Hb)
  exact ⟨_, ⟨ns, i, r', z, b, rfl⟩, h⟩
end
def cStart : List D → (MO → Prop) → Prop := fun ds Φ => ∃ ns : List Int, ds = [.sc ns] ∧ Φ stO
def cPick : Con := fun ds Φ => ∃ limit : Int, ds = [.int limit] ∧ (1 ≤ limit ∧ limit < 1073741824) ∧ ∀ v, 0 ≤ v → v < limit → Φ (.int v)
/-! what both sides of _law_same may be -/
def D.sm : Nat → D → Prop
  | _, .non => True | _, .bl _ => True | _, .int _ => True | _, .str _ => True
  | n + 1, .lst l => l.length ≤ 100000 ∧ ∀ d ∈ l, D.sm n d
  | n + 1, .tup l => l.length ≤ 100000 ∧ ∀ d ∈ l, D.sm n d
  | _, _ => False
theorem sm_int {n : Nat} {i : Int} : (D.int i).sm n := by cases n <;> trivial
theorem sm_bl {n : Nat} {i : Bool} : (D.bl i).sm n := by cases n <;> trivial
theorem sm_str {n : Nat} {i : Str} : (D.str i).sm n := by cases n <;> trivial
theorem sm_non {n : Nat} : D.non.sm n := by cases n <;> trivial
theorem sm_lT {α : Type} {f : α → D} {xs : List α} {n : Nat} (hl : xs.length ≤ 100000) (h : ∀ x ∈ xs, (f x).sm n) : (lT f xs).sm (n + 1) := ⟨by rw [List.length_map]; exact hl, fun d hd => by
  obtain ⟨x, hx, rfl⟩ := List.mem_map.mp hd
  exact h x hx⟩
theorem sm_tT {α : Type} {f : α → D} {xs : List α} {n : Nat} (hl : xs.length ≤ 100000) (h : ∀ x ∈ xs, (f x).sm n) : (tT f xs).sm (n + 1) := ⟨by rw [List.length_map]; exact hl, fun d hd => by
  obtain ⟨x, hx, rfl⟩ := List.mem_map.mp hd
  exact h x hx⟩
def cSame (n : Nat) : Con := fun ds Φ => ∃ d : D, ds = [d, d] ∧ (∃ m, n = m + 1 ∧ d.sm m) ∧ Φ (.bl true)
theorem atI_get {l : List D} {i : Int} (h0 : 0 ≤ i) (h : i < l.length) : atI l i = some (l.getD i.toNat .non) := by
  obtain ⟨n, rfl⟩ : ∃ n : Nat, i = n := ⟨i.toNat, by omega⟩
  have hn : n < l.length := by omega
  refine atI_nat ?_
  rw [List.getD_eq_getElem?_getD]
  show _ = some ((l[n]?).getD D.non)
  rw [List.getElem?_eq_getElem hn]
  rfl
theorem get_in {l : List D} {i : Int} (h0 : 0 ≤ i) (h : i < l.length) : l.getD i.toNat .non ∈ l := by
  rw [List.getD_eq_getElem?_getD, List.getElem?_eq_getElem (by omega)]
  exact List.getElem_mem _
theorem XN.cast {X : Cx} {m : Bool} {e : Expr} {Γ : List Sl} {Φ Ψ : MO → Prop} (h : XN X m e Γ Φ) (k : ∀ o, Φ o → ∃ o', Ψ o' ∧ ∀ (Hb : Hp) (u : HO), MR X.K Hb u o → MR X.K Hb u o') : XN X m e Γ Ψ := fun σ Hb H E Q q => h σ Hb H E Q fun p u o Hb' H' z n g E' nb hp r => by
  obtain ⟨o', h1, h2⟩ := k o z
  exact q p u o' Hb' H' h1 n g E' nb hp (h2 Hb' u r)
end DL

namespace DL
open PySem PySem.Spec PyProof.Rows L2 Evl
/-! ### drawing in the midst of a row -/
section
variable {X : Cx} {Γ : List Sl} {m : Bool} {a b e : Expr} {es : List Expr} {pos p : Pos} {k : Nat} {y : Str} {py : Pos}
abbrev dInt (L : Int) : D → Prop := fun d => ∃ v, d = .int v ∧ 0 ≤ v ∧ v < L
theorem xe_pick (i : Nat) {L : Int} (c : Cal X.prog X.w X.K X.mg X.base k "_law_pick" ["state", "limit"] (spE X.K stO cPick)) (hr : Room k X.A) (ha : XV X e Γ (.int L)) (hL : 1 ≤ L ∧ L < 1073741824) (h : Γ[i]? = some (.ow stO) := by rfl) (hN : X.N[i]? = some y := by rfl) (hv : Vis X.env.scope y := by first | exact Or.inl rfl | exact Or.inr (Or.inl rfl) | exact Or.inr (Or.inr rfl)) (hd : (y == ("__debug__" : Str)) = false := by decide)
    (hcd : (y == ("__classdict__" : Str)) = false := by decide) (hg : Gl X "_law_pick" := by rfl) (he : starEach [.Name y py, e] X.env = (false, eval (.Name y py) X.env) :: starEach [e] X.env := by rfl) (he2 : starEach [e] X.env = (false, eval e X.env) :: starEach [] X.env := by rfl) (hpl : (backTo pos (starEach [e] X.env)).any (·.1) = false := by rfl) :
    XE X true (.Call (.Name "_law_pick" p) [.Name y py, e] [] pos) Γ (dInt L) :=
  xe_callE i c hr (xl_cons ha xa_nil he2).up (fun ds h => ⟨L, h, hL, fun v h0 h1 => ⟨v, rfl, h0, h1⟩⟩) h hN hv hd hcd hg (by decide) he hpl
theorem xt_eqI {L j : Int} (ha : XE X m a Γ (dInt L)) (hb : XV X b Γ (.int j)) {Φ : Bool → Prop} (h : ∀ v, 0 ≤ v → v < L → Φ (decide (v = j))) (hm : behindInMarks .Eq b = false := by first | exact nobehind _ (by decide) (by decide) | rfl) : XT X m (.Compare a [.Eq] [b] pos) Γ Φ :=
  xt_cmp op_eq hm ha (fun _ _ => hb.up) fun d e ⟨v, hv, h0, h1⟩ q => by
    subst hv q
    intro x y Hb H ex r1 r2 Q w
    exact v_eqI x y Hb H ex r1 r2 Q fun z d' Hb' H' f => w z d' Hb' H' ⟨_, f, h v h0 h1⟩
theorem xa_one {Φ : D → Prop} {Ψ : List D → Prop} (h : XE X m e Γ Φ) (k : ∀ d, Φ d → Ψ [d]) (hs : starEach (e :: []) X.env = (false, eval e X.env) :: starEach [] X.env := by rfl) : XA X m [e] Γ Ψ := xa_cons h (fun _ _ => xa_nil.up) (fun d ds p q => by rw [q]; exact k d p) hs
theorem xa_then {d : D} {Φ Ψ : List D → Prop} (h : XV X e Γ d) (hb : XA X m es Γ Φ) (k : ∀ ds, Φ ds → Ψ (d :: ds)) (hs : starEach (e :: es) X.env = (false, eval e X.env) :: starEach es X.env := by rfl) : XA X m (e :: es) Γ Ψ := xa_cons h.up (fun _ _ => hb) (fun d' ds p q => by rw [p]; exact k ds q) hs
end
end DL

namespace DL
open PySem PySem.Spec PyProof.Rows L2 Evl
/-! ### slices -/
def cutD {α : Type} (xs : List α) (lo hi : Option Int) : List α := (xs.drop (HT.sIx xs.length 0 lo)).take (HT.sIx xs.length xs.length hi - HT.sIx xs.length 0 lo)
theorem cutD_map {α β : Type} {f : α → β} {xs : List α} {lo hi : Option Int} : cutD (xs.map f) lo hi = (cutD xs lo hi).map f := by
  unfold cutD
  rw [List.length_map, ← List.map_drop, ← List.map_take]
theorem cutD_to {α : Type} {xs : List α} {k : Nat} : cutD xs none (some (k : Int)) = xs.take k := by
  unfold cutD
  rw [HT.sIx_none, HT.sIx_nat, List.drop_zero, Nat.sub_zero]
  rw [← List.take_take, List.take_length]
theorem cutD_from {α : Type} {xs : List α} {k : Nat} : cutD xs (some (k : Int)) none = xs.drop k := by
  unfold cutD
  rw [HT.sIx_none, HT.sIx_nat]
  rw [List.take_of_length_le (by rw [List.length_drop]; omega)]
  by_cases h : k ≤ xs.length
  · rw [Nat.min_eq_left h]
  · rw [Nat.min_eq_right (by omega), List.drop_eq_nil_of_le (Nat.le_refl _), List.drop_eq_nil_of_le (by omega)]
theorem cutD_whole {α : Type} {xs : List α} {lo hi : Option Int} (h : HT.sIx xs.length 0 lo = 0 ∧ HT.sIx xs.length xs.length hi = xs.length) : cutD xs lo hi = xs := by
  unfold cutD
  rw [h.1, h.2, List.drop_zero, Nat.sub_zero, List.take_length]
/-- a slice's bound -/
def XP (X : Cx) (Γ : List Sl) (o : Option Expr) (v : Option Int) : Prop := ∃ to, PO X o to ∧ ∀ (σ : L2.St) (Hb H : Hp), En X.K Hb H σ Γ → ∀ Q : Option Int → Hp → Prop, (∀ Hb' H', Gr (WW false σ Γ) Hb H Hb' H' → En X.K Hb' H' σ Γ → Q v H') → to σ H Q
section
variable {X : Cx} {Γ : List Sl} {m : Bool} {a b e elt tg iter : Expr} {es : List Expr} {pos p p2 : Pos} {lo hi : Option Expr} {lv hv : Option Int} {x : Str}
theorem xp_none : XP X Γ none none := ⟨_, po_none, fun σ Hb H E Q q => q Hb H (Gr.refl E.ex) E⟩
theorem xp_some {i : Int} (h : XV X e Γ (.int i)) : XP X Γ (some e) (some i) := ⟨_, po_some pe_wp, fun σ Hb H E Q q => h σ Hb H E _ fun v d Hb' H' p g E' r => by
  subst p
  cases r
  exact ⟨i, rfl, q Hb' H' g E'⟩⟩
theorem xo_slL {α : Type} {f : α → D} {l : List α} (h : XV X a Γ (lT f l)) (hl : XP X Γ lo lv) (hh : XP X Γ hi hv) : XO X (.Subscript a (.Slice lo hi none p2) pos) Γ (.ml ((cutD l lv hv).map f)) := by
  obtain ⟨tl, h1, h2⟩ := hl
  obtain ⟨th, k1, k2⟩ := hh
  refine xn_of (pe_slice sl_list pe_wp h1 k1) fun σ Hb H E Q q => h σ Hb H E _ fun v d Hb1 H1 p1 g1 E1 r1 => h2 σ Hb1 H1 E1 _ fun Hb2 H2 g2 E2 => k2 σ Hb2 H2 E2 _ fun Hb3 H3 g3 E3 => ?_
  subst p1
  cases r1 with
  | @lst c vs _ ha r =>
    refine ⟨c, vs, rfl, SqL.of (E3.ex _ _ (g3.b _ _ (g2.b _ _ ha))), fun p hp => ?_⟩
    have hb := fresh_back E3.ex hp
    refine q p _ _ Hb3 _ rfl (new_none (gww g1 (gww g2 g3)) hp) (gwn (gww g1 (gww g2 g3)) (New.side E3.ex hp)) (E3.new (New.side E3.ex hp)) hb upd_same ⟨_, rfl, ?_⟩
    have z := ((r.mono g2.b).mono g3.b)
    have e := z.len
    rw [← cutD_map]
    unfold cutV cutD
    rw [e]
    exact (z.drop _).take _
theorem xv_slL {α : Type} {f : α → D} {l : List α} (h : XV X a Γ (lT f l)) (hl : XP X Γ lo lv) (hh : XP X Γ hi hv) : XV X (.Subscript a (.Slice lo hi none p2) pos) Γ (lT f (cutD l lv hv)) := (xo_slL h hl hh).frz
theorem xv_slT {α : Type} {f : α → D} {l : List α} (h : XV X a Γ (tT f l)) (hl : XP X Γ lo lv) (hh : XP X Γ hi hv) : XV X (.Subscript a (.Slice lo hi none p2) pos) Γ (tT f (cutD l lv hv)) := by
  obtain ⟨tl, h1, h2⟩ := hl
  obtain ⟨th, k1, k2⟩ := hh
  refine xe_of (pe_slice sl_tupA pe_wp h1 k1) fun σ Hb H E Q q => h σ Hb H E _ fun v d Hb1 H1 p1 g1 E1 r1 => h2 σ Hb1 H1 E1 _ fun Hb2 H2 g2 E2 => k2 σ Hb2 H2 E2 _ fun Hb3 H3 g3 E3 => ?_
  subst p1
  cases r1 with
  | @tup c vs _ ha r =>
    have ha3 := g3.b _ _ (g2.b _ _ ha)
    have z := ((r.mono g2.b).mono g3.b)
    have e := z.len
    refine ⟨c, vs, rfl, xt E3.ex ha3, fun w => ?_, fun w p hp => ?_⟩
    · refine q (.ref c) _ Hb3 H3 ?_ (gww g1 (gww g2 g3)) E3 (.tup ha3 z)
      rw [e, List.length_map] at w
      rw [cutD_whole w]
      rfl
    · refine q (.ref p) _ _ _ rfl (gwn (gww g1 (gww g2 g3)) (New.mk E3.ex hp)) (E3.new (New.mk E3.ex hp)) (.tup upd_same ((?_ : DRs X.K Hb3 _ _).mono (Ex.new (fresh_back E3.ex hp))))
      rw [← cutD_map]
      unfold cutV cutD
      rw [e]
      exact (z.drop _).take _
/-! ### comprehensions whose items are drawn -/
theorem xn_lcD {scope : Scope} {g : TG} {α β : Type} {f : α → D} {xs : List α} {Ψ : β → Prop} (js : List Nat) (es : α → List D) (f' : β → D) (own : List (Str × Nat)) (hi : XW X tg iter Γ (xs.map f)) (hg : Bk X scope fun Y => PG Y tg g) (gt : ∀ x ∈ xs, XGt X.K g (f x) js (es x))
    (he : ∀ x ∈ xs, Bk X scope fun Y => XE Y true elt (setG Γ js (es x)) fun d => ∃ b, d = f' b ∧ Ψ b) (hl : xs.length ≤ 100000) (ok : BlkOk X.N X.env.scope scope own) (hN : X.N.Nodup) (hw : wipeG Γ (own.map (·.2)) = Γ := by rfl) (hv : ∀ j ∈ js, j ∈ own.map (·.2) := by decide)
    (hc : X.calm = true := by rfl) (hs : ∀ x, foldedSetIterable iter X.env x = pure x := by intro _; rfl) : XN X true (.ListComp elt [⟨tg, iter, [], 0⟩] scope pos) Γ fun o => ∃ bs : List β, o = .ml (bs.map f') ∧ bs.length = xs.length ∧ ∀ b ∈ bs, Ψ b := by
  refine (xn_lc (Φ := fun z => z = xs.map f) js (fun _ i => (xs[i]?.map es).getD []) (fun _ i acc => ∃ bs : List β, acc = bs.map f' ∧ bs.length = i ∧ ∀ b ∈ bs, Ψ b) own hi.up hg (fun ds e i d hd => ?_) .no (fun ds e => ⟨[], rfl, rfl, fun b hb => nomatch hb⟩) (fun ds e i d acc hd hp => ?_) (fun ds e => by rw [e, List.length_map]; exact hl) ok hN hw hv hc hs).imp ?_
  · subst e
    rw [List.getElem?_map] at hd
    cases hx : xs[i]? with
    | none => rw [hx] at hd; cases hd
    | some x =>
      rw [hx] at hd
      cases hd
      exact gt x (List.mem_of_getElem? hx)
  · subst e
    rw [List.getElem?_map] at hd
    cases hx : xs[i]? with
    | none => rw [hx] at hd; cases hd
    | some x =>
      have z := he x (List.mem_of_getElem? hx)
      refine jt_yes ⟨fun _ s H C cl fp => ?_, fun h => nomatch h⟩
      show XE _ true elt (setG Γ js (es x)) _
      refine (z s H C cl fp).imp fun d hb => ?_
      obtain ⟨b, h1, h2⟩ := hb
      obtain ⟨bs, k1, k2, k3⟩ := hp
      refine ⟨bs ++ [b], by rw [k1, h1, List.map_append]; rfl, by rw [List.length_append, k2]; rfl, fun c hc => ?_⟩
      rcases List.mem_append.mp hc with hc | hc
      · exact k3 c hc
      · rw [List.mem_singleton.mp hc]
        exact h2
  · rintro o ⟨ds, acc, rfl, h1, bs, h2, h3, h4⟩
    exact ⟨bs, by rw [h1, h2], by rw [h3, List.length_map], h4⟩
theorem xe_tupN {β : Type} {f' : β → D} {Φ : List β → Prop} (h : XN X m a Γ fun o => ∃ bs : List β, o = .ml (bs.map f') ∧ Φ bs) (hm : X.mg "tuple" = none) (hg : Gl X "tuple" := by rfl) (hs : starEach (a :: []) X.env = (false, eval a X.env) :: starEach [] X.env := by rfl) (hpl : (backTo pos (starEach [] X.env)).any (·.1) = false := by rfl) : XE X m (.Call (.Name "tuple" p) [a] [] pos) Γ fun d => ∃ bs, d = tT f' bs ∧ Φ bs :=
  xe_callT call_tuple_of hm (by decide +kernel) (xa_one (Ψ := fun ds => ∃ bs : List β, ds = [lT f' bs] ∧ Φ bs) ((h.imp fun o ⟨bs, h1, h2⟩ => ⟨bs.map f', h1, bs, rfl, h2⟩ : XN X m a Γ fun o => ∃ ds, o = .ml ds ∧ ∃ bs : List β, ds = bs.map f' ∧ Φ bs).frzP) (fun d ⟨ds, h1, bs, h2, h3⟩ => ⟨bs, by rw [h1, h2]; rfl, h3⟩) hs) (fun ds ⟨bs, h1, h2⟩ => by
    rw [h1]
    exact fun xs Hb H ex r Q q => l_tupleL xs Hb H ex r Q fun z d' Hb' H' e => q z d' Hb' H' ⟨bs, e, h2⟩) hg (by decide) (by decide) hs hpl
/-- i + what is drawn -/
theorem xe_addD {i L : Int} (ha : XV X a Γ (.int i)) (hb : XE X m b Γ (dInt L)) : XE X m (.BinOp a .Add b pos) Γ fun d => ∃ v, d = .int (i + v) ∧ 0 ≤ v ∧ v < L :=
  xe_bin op_add ha.up (fun _ _ => hb) fun d e h ⟨v, h2, h3⟩ => by
    subst h h2
    exact fun x y Hb H ex r1 r2 Q q => v_add x y Hb H ex r1 r2 Q fun z d' Hb' H' e => q z d' Hb' H' ⟨v, e, h3⟩
end
end DL
namespace DL
open PySem PySem.Spec PyProof.Rows L2 Evl
section
variable {X : Cx} {kp : Nat} {Γ : List Sl} {c : Expr} {A B rest : List Stmt} {G : Dn} {pos : Pos}
/-- a test that fails: what it guards is passed by -/
theorem xs_no (h : XB X c Γ false) (k : XSs X kp rest Γ G) : XSs X kp (.If c A [] pos :: rest) Γ G := xs_cons (xs_if h (fun h => nomatch h) fun _ => xs_nil k)
/-- a test whose part leaves all as it was -/
theorem xs_ifJ {b : Bool} (h : XB X c Γ b) (h1 : b = true → XSs X kp A Γ { G with nx := fun Γ' => Le Γ' Γ }) (k : XSs X kp rest Γ G) : XSs X kp (.If c A [] pos :: rest) Γ G :=
  xs_cons (xs_if h (fun e => (h1 e.symm).imp (fun Γ' l => k.le l) (fun _ _ z => z) (fun _ z => z) fun _ z => z) fun _ => xs_nil k)
end
end DL

namespace DL
open PySem PySem.Spec PyProof.Rows L2 Evl
/-! ### list(range(..)), tuple(range(..)) -/
theorem rgV_rng {a b : Int} : rgV a b = (rng a b).map V.int := by
  unfold rgV rng
  rw [List.map_map]
  rfl
theorem dr_ints {K : PySem.W.Frag} {H : Hp} : ∀ ns : List Int, DRs K H (ns.map V.int) (ns.map D.int)
  | [] => .nil
  | n :: ns => .cons (.int n) (dr_ints ns)
/-- range(..) as an argument, its ends known -/
def XG (X : Cx) (Γ : List Sl) (e : Expr) (a b : Int) : Prop := ∃ t, PRg X e t ∧ ∀ (σ : L2.St) (Hb H : Hp), En X.K Hb H σ Γ → ∀ Q : Int → Int → Hp → Prop, (∀ Hb' H', Gr (WW false σ Γ) Hb H Hb' H' → En X.K Hb' H' σ Γ → Q a b H') → t σ H Q
section
variable {X : Cx} {Γ : List Sl} {m : Bool} {a b e : Expr} {pos p : Pos}
theorem xg_1 {n : Int} (h : XV X a Γ (.int n)) (hm : X.mg "range" = none) (hg : Gl X "range" := by rfl) (na : starEach [a] X.env = (false, eval a X.env) :: starEach [] X.env := by rfl) : XG X Γ (.Call (.Name "range" p) [a] [] pos) 0 n :=
  ⟨_, prg_1 hg hm pe_wp na, fun σ Hb H E Q q => h σ Hb H E _ fun v d Hb1 H1 p1 g1 E1 r1 => by
    subst p1
    cases r1
    exact ⟨n, rfl, q Hb1 H1 g1 E1⟩⟩
theorem xg_2 {i j : Int} (h : XV X a Γ (.int i)) (h2 : XV X b Γ (.int j)) (hm : X.mg "range" = none) (hg : Gl X "range" := by rfl) (na : starEach [a, b] X.env = (false, eval a X.env) :: starEach [b] X.env := by rfl)
    (nb : starEach [b] X.env = (false, eval b X.env) :: starEach [] X.env := by rfl) (hp : (backTo pos (starEach [b] X.env)).any (·.1) = false := by rfl) : XG X Γ (.Call (.Name "range" p) [a, b] [] pos) i j :=
  ⟨_, prg_2 hg hm pe_wp pe_wp na nb hp, fun σ Hb H E Q q => h σ Hb H E _ fun v d Hb1 H1 p1 g1 E1 r1 => h2 σ Hb1 H1 E1 _ fun v2 d2 Hb2 H2 p2 g2 E2 r2 => by
    subst p1 p2
    cases r1
    cases r2
    exact ⟨i, j, rfl, rfl, q Hb2 H2 (gww g1 g2) E2⟩⟩
theorem xo_listRg {i j : Int} (h : XG X Γ e i j) (hi : -100000 ≤ i ∧ i ≤ 100000) (hj : -100000 ≤ j ∧ j ≤ 100000) (hm : X.mg "list" = none) (hc : X.calm = true := by rfl) (hg : Gl X "list" := by rfl) (na : starEach [e] X.env = (false, eval e X.env) :: starEach [] X.env := by rfl) : XO X (.Call (.Name "list" p) [e] [] pos) Γ (.ml ((rng i j).map D.int)) := by
  obtain ⟨t, h1, h2⟩ := h
  refine xn_of (pe_listRg hc hg hm h1 na) fun σ Hb H E Q q => h2 σ Hb H E _ fun Hb1 H1 g1 E1 => ⟨⟨by omega, by omega, by omega, by omega, by omega⟩, fun p hp => ?_⟩
  exact q p _ _ Hb1 _ rfl (new_none g1 hp) (gwn g1 (New.side E1.ex hp)) (E1.new (New.side E1.ex hp)) (fresh_back E1.ex hp) upd_same ⟨_, rfl, by rw [rgV_rng]; exact dr_ints _⟩
theorem xv_listRg {i j : Int} (h : XG X Γ e i j) (hi : -100000 ≤ i ∧ i ≤ 100000) (hj : -100000 ≤ j ∧ j ≤ 100000) (hm : X.mg "list" = none) (hc : X.calm = true := by rfl) (hg : Gl X "list" := by rfl) (na : starEach [e] X.env = (false, eval e X.env) :: starEach [] X.env := by rfl) : XV X (.Call (.Name "list" p) [e] [] pos) Γ (lT D.int (rng i j)) := (xo_listRg h hi hj hm hc hg na).frz
theorem xv_tupRg {i j : Int} (h : XG X Γ e i j) (hi : -100000 ≤ i ∧ i ≤ 100000) (hj : -100000 ≤ j ∧ j ≤ 100000) (hm : X.mg "tuple" = none) (hc : X.calm = true := by rfl) (hg : Gl X "tuple" := by rfl) (na : starEach [e] X.env = (false, eval e X.env) :: starEach [] X.env := by rfl) : XV X (.Call (.Name "tuple" p) [e] [] pos) Γ (tT D.int (rng i j)) := by
  obtain ⟨t, h1, h2⟩ := h
  refine xe_of (pe_tupRg hc hg hm h1 na) fun σ Hb H E Q q => h2 σ Hb H E _ fun Hb1 H1 g1 E1 => ⟨⟨by omega, by omega, by omega, by omega, by omega⟩, fun p hp => ?_⟩
  exact q (.ref p) _ _ _ rfl (gwn g1 (New.mk E1.ex hp)) (E1.new (New.mk E1.ex hp)) (.tup upd_same (by rw [rgV_rng]; exact dr_ints _))
/-! ### a op b op c -/
theorem jr_chain {K : PySem.W.Frag} {r r' : R2} {ta tb tc : TE} {d d1 d2 : D} {k l : Bool} (ha : JR K m ta Γ fun z => z = d) (hb : JR K m tb Γ fun z => z = d1) (hc : JR K m tc Γ fun z => z = d2) (hr : RV2 K r d d1 (.bl k)) (hr' : k = true → RV2 K r' d1 d2 (.bl l)) : JR K m (tChain r r' ta tb tc) Γ fun z => z = .bl (k && l) := fun σ Hb H E Q q =>
  ha σ Hb H E _ fun x e1 Hb1 H1 p1 g1 E1 r1 => hb σ Hb1 H1 E1 _ fun y e2 Hb2 H2 p2 g2 E2 r2 => by
    subst p1 p2
    refine hr x y Hb2 H2 E2.ex (r1.mono g2.b) r2 _ fun z e3 Hb3 H3 p3 g3 r3 => ?_
    subst p3
    cases r3
    refine ⟨k, rfl, ?_⟩
    cases k with
    | false =>
      rw [if_neg (fun z => Bool.noConfusion z)]
      exact q (.bl false) (.bl false) Hb3 H3 rfl (gwn (gww g1 g2) g3) (E2.new g3) (.bl false)
    | true =>
      rw [if_pos rfl]
      refine hc σ Hb3 H3 (E2.new g3) _ fun w' e4 Hb4 H4 p4 g4 E4 r4 => ?_
      subst p4
      refine hr' rfl y w' Hb4 H4 E4.ex ((r2.mono g3.b).mono g4.b) r4 _ fun z e5 Hb5 H5 p5 g5 r5 => ?_
      exact q z e5 Hb5 H5 p5 (gwn (gww (gwn (gww g1 g2) g3) g4) g5) (E4.new g5) r5
theorem xv_chain {op op' : CmpOp} {r r' : R2} {c : Expr} {d d1 d2 : D} {k l : Bool} (ho : OpR X (compareOp op) r) (hr : RV2 X.K r d d1 (.bl k)) (ho' : OpR X (compareOp op') r') (hr' : k = true → RV2 X.K r' d1 d2 (.bl l)) (ha : XV X a Γ d) (hb : XV X b Γ d1) (hc : XV X c Γ d2) (hm : lastMarks [op, op'] [b, c] = false := by with_unfolding_all rfl) : XV X (.Compare a [op, op'] [b, c] pos) Γ (.bl (k && l)) := xe_of (pe_chain ho ho' pe_wp pe_wp pe_wp hm) (jr_chain ha hb hc hr hr')
theorem xb_chain {op op' : CmpOp} {r r' : R2} {c : Expr} {d d1 d2 : D} {k l : Bool} (ho : OpR X (compareOp op) r) (hr : RV2 X.K r d d1 (.bl k)) (ho' : OpR X (compareOp op') r') (hr' : k = true → RV2 X.K r' d1 d2 (.bl l)) (ha : XV X a Γ d) (hb : XV X b Γ d1) (hc : XV X c Γ d2) (hm : lastMarks [op, op'] [b, c] = false := by with_unfolding_all rfl) : XB X (.Compare a [op, op'] [b, c] pos) Γ (k && l) := xt_of (pt_chain ho ho' pe_wp pe_wp pe_wp hm) (jt_test fun σ Hb H E Q q => jr_chain ha hb hc hr hr' σ Hb H E Q fun v d Hb' H' e => q v d Hb' H' ⟨_, e, rfl⟩)
end
end DL
namespace DL
open PySem PySem.Spec PyProof.Rows L2 Evl
section
variable {X : Cx} {kp : Nat} {Γ Γ' : List Sl} {c : Expr} {body rest : List Stmt} {G : Dn} {pos : Pos}
theorem XT.le {Φ : Bool → Prop} (h : XT X false c Γ' Φ) (l : Le Γ Γ') : XT X false c Γ Φ := fun σ Hb H E Q q => h σ Hb H (E.le l) Q fun b Hb' H' p g E' => q b Hb' H' p ((ww_new g).wk fun _ z => z.elim) (E.new (ww_new g))
/-- a while loop over known states -/
theorem xs_whl {S : Type} (emb : S → List Sl) (ms : S → Nat) (Iv : S → Prop) (s0 : S) (h0 : Le Γ (emb s0)) (i0 : Iv s0) (hs : ∀ s, Iv s → ∃ b, XB X c (emb s) b ∧ (b = true → XSs X kp body (emb s) { nx := fun Γ2 => ∃ s', ms s' < ms s ∧ Iv s' ∧ Le Γ2 (emb s'), ct := fun Γ2 => ∃ s', ms s' < ms s ∧ Iv s' ∧ Le Γ2 (emb s'), bk := fun _ => False, rt := G.rt }) ∧ (b = false → XSs X kp rest (emb s) G)) (hps : PassesOwn (model X.prog X.w) X.A X.env X.xe) : XSs X kp (.While c body [] pos :: rest) Γ G := by
  refine xs_cons (xs_while (m := false) (fun k Γ2 => ∃ s, k = ms s ∧ Iv s ∧ Le Γ2 (emb s)) (ms s0) ⟨s0, rfl, i0, h0⟩ (fun k Γ2 ⟨s, hk, hI, l⟩ => ?_) hps)
  subst hk
  obtain ⟨b, h1, h2, h3⟩ := hs s hI
  exact ⟨fun z => z = b, XT.le h1 l, fun e => ((h2 e.symm).le l).imp (fun _ ⟨s', y1, y2, y3⟩ => ⟨ms s', y1, s', rfl, y2, y3⟩) (fun _ _ z => z) (fun _ z => z.elim) (fun _ ⟨s', y1, y2, y3⟩ => ⟨ms s', y1, s', rfl, y2, y3⟩), fun e => (h3 e.symm).le l⟩
end
end DL

namespace DL
open PySem PySem.Spec PyProof.Rows L2 Evl
section
variable {X : Cx} {Γ : List Sl} {m : Bool} {a b e tg : Expr} {pos p : Pos} {kp : Nat} {sts rest body : List Stmt} {G : Dn} {g : TG}
/-- range(n), n drawn -/
theorem xi_range1D {L : Int} (h : XE X m e Γ (dInt L)) (hL : L ≤ 100000) (hm : X.mg "range" = none) (hg : Gl X "range" := by rfl) (hs : starEach [e] X.env = [(false, eval e X.env)] := by rfl) : XI X m tg (.Call (.Name "range" p) [e] [] pos) Γ fun ds => ∃ n, ds = (rng 0 n).map D.int ∧ 0 ≤ n ∧ n < L := xi_of (pi_range1 hg hm pa_wp hs) fun σ Hb H E R q => (xa_one (Ψ := fun ds => ∃ n, ds = [.int n] ∧ 0 ≤ n ∧ n < L) h (fun d ⟨v, h1, h2⟩ => ⟨v, by rw [h1], h2⟩) hs) σ Hb H E _ fun vs ds Hb1 H1 p1 g1 E1 r1 => by
  obtain ⟨n, rfl, h0, h1⟩ := p1
  cases r1 with
  | cons r1 r2 =>
    cases r2
    cases r1
    have z := q (Itr 0 (n - 0).toNat) _ Hb1 H1 ⟨n, rfl, h0, h1⟩ g1 E1 itd_rng
    rw [Int.sub_zero] at z
    exact ⟨n, rfl, by omega, by omega, z⟩
/-- a loop over a drawn number of turns; st: what may stand behind i turns -/
theorem xs_loopD {S : Type} {js : List Nat} {L : Int} {iter : Expr} (emb : S → List Sl) (Iv : Nat → S → Prop) (s0 : S) (hi : XI X m tg iter Γ fun ds => ∃ n, ds = (rng 0 n).map D.int ∧ 0 ≤ n ∧ n < L) (hp : PG X tg g) (hg : ∀ k : Int, XGt X.K g (.int k) js [.int k]) (h0 : Le Γ (emb s0)) (i0 : Iv 0 s0)
    (hs : ∀ (i : Nat) (s : S), (i : Int) < L → Iv i s → XSs X kp body (setG (emb s) js [.int i]) { nx := fun Γ' => ∃ s', Iv (i + 1) s' ∧ Le Γ' (emb s'), ct := fun Γ' => ∃ s', Iv (i + 1) s' ∧ Le Γ' (emb s'), bk := fun _ => False, rt := G.rt })
    (hd : ∀ (n : Nat) (s : S), (n : Int) < L → Iv n s → XSs X kp rest (emb s) G) (hps : PassesOwn (model X.prog X.w) X.A X.env X.xe) (hj : ∀ j ∈ js, kp ≤ j := by decide) (hc : X.calm = true := by rfl) (hss : ∀ x, foldedSetIterable iter X.env x = pure x := by intro _; rfl) : XSs X kp (.For tg iter body [] pos :: rest) Γ G := by
  refine xs_cons (xs_for (fun _ i => [.int i]) (fun _ i Γ' => ∃ s, Iv i s ∧ Le Γ' (emb s)) hi hp (fun ds _ => ⟨s0, i0, h0⟩) (fun ds ⟨n, e, h1, h2⟩ i d hd' => ?_) (fun ds ⟨n, e, h1, h2⟩ i d Γ' hd' hv => ?_) (fun ds Γ' ⟨n, e, h1, h2⟩ hv => ?_) hps hj hc hss)
  · subst e
    rw [List.getElem?_map] at hd'
    cases hx : (rng 0 n)[i]? with
    | none => rw [hx] at hd'; cases hd'
    | some k =>
      rw [hx] at hd'
      cases hd'
      have hlt : i < (rng 0 n).length := (List.getElem?_eq_some_iff.mp hx).1
      rw [rng_len] at hlt
      rw [rng_get (by omega)] at hx
      cases hx
      rw [Int.zero_add]
      exact hg i
  · subst e
    have hlt : i < (rng 0 n).length := by
      have := (List.getElem?_eq_some_iff.mp hd').1
      rwa [List.length_map] at this
    rw [rng_len] at hlt
    obtain ⟨s, v1, v2⟩ := hv
    exact ((hs i s (by omega) v1).le v2.setG).imp (fun _ z => z) (fun _ _ z => z) (fun _ z => z.elim) fun _ z => z
  · subst e
    rw [List.length_map, rng_len] at hv
    obtain ⟨s, v1, v2⟩ := hv
    exact (hd _ s (by omega) v1).le v2
/-- xs[i], i drawn -/
theorem xe_ixD {L : Int} {α : Type} {f : α → D} {l : List α} {Ψ : D → Prop} (ha : XV X a Γ (lT f l)) (hb : XE X m b Γ (dInt L)) (hL : L ≤ l.length) (h : ∀ x ∈ l, Ψ (f x)) (hs : PlainIx b := by exact fun _ _ => rfl) : XE X m (.Subscript a b pos) Γ Ψ :=
  xe_ix ix_list ha.up (fun _ _ => hb) (fun d e h1 ⟨v, h2, h3, h4⟩ => by
    subst h1 h2
    obtain ⟨n, rfl⟩ : ∃ n : Nat, v = n := ⟨v.toNat, by omega⟩
    have hn : n < l.length := by omega
    have z : RV2 X.K (rIxL X.K) (lT f l) (.int (n : Int)) (f l[n]) := v_ixLT (atI_nat (by rw [List.getElem?_eq_getElem hn]))
    exact fun x y Hb H ex r1 r2 Q q => z x y Hb H ex r1 r2 Q fun z' d' Hb' H' e => q z' d' Hb' H' (by rw [e]; exact h _ (List.getElem_mem _))) hs
theorem xe_ixDT {L : Int} {α : Type} {f : α → D} {l : List α} {Ψ : D → Prop} (ha : XV X a Γ (tT f l)) (hb : XE X m b Γ (dInt L)) (hL : L ≤ l.length) (h : ∀ x ∈ l, Ψ (f x)) (hs : PlainIx b := by exact fun _ _ => rfl) : XE X m (.Subscript a b pos) Γ Ψ :=
  xe_ix ix_tup ha.up (fun _ _ => hb) (fun d e h1 ⟨v, h2, h3, h4⟩ => by
    subst h1 h2
    obtain ⟨n, rfl⟩ : ∃ n : Nat, v = n := ⟨v.toNat, by omega⟩
    have hn : n < l.length := by omega
    have z : RV2 X.K (rIxT X.K) (tT f l) (.int (n : Int)) (f l[n]) := v_ixTT (atI_nat (by rw [List.getElem?_eq_getElem hn]))
    exact fun x y Hb H ex r1 r2 Q q => z x y Hb H ex r1 r2 Q fun z' d' Hb' H' e => q z' d' Hb' H' (by rw [e]; exact h _ (List.getElem_mem _))) hs
/-- a loop over known items; Iv: what may be behind i turns -/
theorem xs_loopI {α S : Type} {f : α → D} {xs : List α} {js : List Nat} {iter : Expr} (es : α → List D) (emb : S → List Sl) (Iv : Nat → S → Prop) (s0 : S) (hi : XW X tg iter Γ (xs.map f)) (hp : PG X tg g) (hg : ∀ x ∈ xs, XGt X.K g (f x) js (es x)) (h0 : Le Γ (emb s0)) (i0 : Iv 0 s0)
    (hs : ∀ (i : Nat) (x : α) (s : S), xs[i]? = some x → Iv i s → XSs X kp body (setG (emb s) js (es x)) { nx := fun Γ' => ∃ s', Iv (i + 1) s' ∧ Le Γ' (emb s'), ct := fun Γ' => ∃ s', Iv (i + 1) s' ∧ Le Γ' (emb s'), bk := fun _ => False, rt := G.rt })
    (hd : ∀ (s : S), Iv xs.length s → XSs X kp rest (emb s) G) (hps : PassesOwn (model X.prog X.w) X.A X.env X.xe) (hj : ∀ j ∈ js, kp ≤ j := by decide) (hc : X.calm = true := by rfl) (hss : ∀ x, foldedSetIterable iter X.env x = pure x := by intro _; rfl) : XSs X kp (.For tg iter body [] pos :: rest) Γ G := by
  refine xs_cons (xs_for (fun _ i => (xs[i]?.map es).getD []) (fun _ i Γ' => ∃ s, Iv i s ∧ Le Γ' (emb s)) hi hp (fun ds _ => ⟨s0, i0, h0⟩) (fun ds e i d hd' => ?_) (fun ds e i d Γ' hd' hv => ?_) (fun ds Γ' e hv => ?_) hps hj hc hss)
  · subst e
    rw [List.getElem?_map] at hd'
    cases hx : xs[i]? with
    | none => rw [hx] at hd'; cases hd'
    | some x =>
      rw [hx] at hd'
      cases hd'
      exact hg x (List.mem_of_getElem? hx)
  · subst e
    rw [List.getElem?_map] at hd'
    cases hx : xs[i]? with
    | none => rw [hx] at hd'; cases hd'
    | some x =>
      obtain ⟨s, v1, v2⟩ := hv
      exact ((hs i x s hx v1).le v2.setG).imp (fun _ z => z) (fun _ _ z => z) (fun _ z => z.elim) fun _ z => z
  · subst e
    rw [List.length_map] at hv
    obtain ⟨s, v1, v2⟩ := hv
    exact (hd s v1).le v2
end
end DL
namespace DL
open PySem PySem.Spec PyProof.Rows L2 Evl
section
variable {X : Cx} {Γ : List Sl} {m : Bool} {a b : Expr} {pos : Pos}
/-- a drawn list + a list -/
theorem xe_catLD {α : Type} {f : α → D} {l' : List α} {Φ : List α → Prop} (ha : XE X m a Γ fun d => ∃ l, d = lT f l ∧ Φ l) (hb : XV X b Γ (lT f l')) (hz : ∀ l, Φ l → l.length + l'.length ≤ 100000) : XE X m (.BinOp a .Add b pos) Γ fun d => ∃ l, d = lT f (l ++ l') ∧ Φ l := by
  have z : XN X m (.BinOp a .Add b pos) Γ fun o => ∃ ds, o = .ml ds ∧ ∃ l, ds = (l ++ l').map f ∧ Φ l := xn_of (pe_op op_cat pe_wp pe_wp) (jn_bin ha (fun _ _ => hb.up) fun d e ⟨l, h1, h2⟩ q => by
    subst h1 q
    have y := v_catL (K := X.K) (ds := l.map f) (es := l'.map f) (by rw [List.length_map, List.length_map]; exact hz l h2)
    exact fun x1 y1 Hb H ex r1 r2 Q q => y x1 y1 Hb H ex r1 r2 Q fun p u o Hb' H' e => q p u o Hb' H' ⟨_, e, l, by rw [List.map_append], h2⟩)
  exact z.frzP.imp fun d ⟨ds, h1, l, h2, h3⟩ => ⟨l, by rw [h1, h2]; rfl, h3⟩
/-- a list times a number -/
theorem xv_repL {α : Type} {f : α → D} {l : List α} {k : Int} (ha : XV X a Γ (lT f l)) (hb : XV X b Γ (.int k)) (hk : 0 ≤ k ∧ k ≤ 100000) (hz : l.length * k.toNat ≤ 100000) : XV X (.BinOp a .Mult b pos) Γ (lT f (List.replicate k.toNat l).flatten) := by
  refine XN.frz (ds := (List.replicate k.toNat l).flatten.map f) (xn_of (pe_op op_rep pe_wp pe_wp) (jn_bin ha (fun _ _ => hb) fun d e h1 h2 => ?_))
  subst h1 h2
  intro x y Hb H ex r1 r2 Q q
  cases r1 with
  | lst h r =>
    cases r2
    have hl := r.len
    rw [List.length_map] at hl
    refine ⟨_, k, _, rfl, rfl, ex _ _ h, by omega, by omega, sz_of (by rw [hl]; exact hz), fun p hp => q p _ _ Hb _ rfl hp (New.side ex hp) (fresh_back ex hp) upd_same ⟨_, rfl, ?_⟩⟩
    have e : (List.replicate k.toNat l).flatten.map f = (List.replicate k.toNat (l.map f)).flatten := by rw [List.map_flatten, List.map_replicate]
    rw [e]
    generalize k.toNat = n
    induction n with
    | zero => exact .nil
    | succ n ih =>
      rw [List.replicate_succ, List.replicate_succ, List.flatten_cons, List.flatten_cons]
      exact r.app ih
end
end DL

namespace DL
open PySem PySem.Spec PyProof.Rows L2 Evl
/-! ### len(set(t)), t a tuple of ints -/
section
variable {X : Cx} {Γ : List Sl} {m : Bool} {e : Expr} {pos pos1 p p1 : Pos}
def rLenSet (w : World) : List V → Hp → VK → Prop := fun xs H Q => ∃ (p : Addr) (S : Int → Bool) (c : Nat), xs = [.ref p] ∧ H p = some (SetO w p S c) ∧ c ≤ 1000 ∧ ((∃ ks : List Int, ks.Nodup ∧ (∀ k, S k = true ↔ k ∈ ks) ∧ ks.length = c) → Q (.int c) H)
theorem cr_lenSet : CallR X (.builtin "len") (rLenSet X.w) := by
  intro pins s σ H xs us Q I r h
  obtain ⟨p, S, c, rfl, hp, hc, q⟩ := h
  rw [Vals.ref1 r]
  obtain ⟨R, _⟩ := (show ObjOk X.prog X.w H s.heap p (SetO X.w p S c) from I.hok p _ hp)
  obtain ⟨o, es, ep, t, ho, hex, hd, hg, hn, hm, hb, hf, hs, _⟩ := R
  exact call_len_set ho hex hd hf (by rw [hs]; omega) ⟨.int c, H, I.tok _, ⟨_, by rw [hs]⟩, q ⟨es.toList.map keyOf, hn, hm, by rw [List.length_map, Array.length_toList, hs]⟩⟩
theorem xv_lenSetT {ns : List Int} (h : XV X e Γ (tT D.int ns)) (hz : ns.length ≤ 60) (hm : X.mg "len" = none) (hm1 : X.mg "set" = none) (hc : X.calm = true := by rfl) (hg : Gl X "len" := by rfl) (hg1 : Gl X "set" := by rfl)
    (he : starEach (e :: []) X.env = (false, eval e X.env) :: starEach [] X.env := by rfl) (hpl : (backTo pos1 (starEach [] X.env)).any (·.1) = false := by rfl) (he2 : starEach (.Call (.Name "set" p1) [e] [] pos1 :: []) X.env = (false, eval (.Call (.Name "set" p1) [e] [] pos1) X.env) :: starEach [] X.env := by rfl) (hpl2 : (backTo pos (starEach [] X.env)).any (·.1) = false := by rfl) :
    XV X (.Call (.Name "len" p) [.Call (.Name "set" p1) [e] [] pos1] [] pos) Γ (.int (setI ns).length) := by
  have hs : PE X (.Call (.Name "set" p1) [e] [] pos1) (tCB (rSetTI X.w X.K) (tCons (wpE X e) tNil)) := pe_callTy (cr_setTI hc) hg1 hm1 PyProof.Rows.boot_set (pa_cons pe_wp pa_nil he) (by decide) (by decide) he hpl
  refine xe_of (pe_callB cr_lenSet hg hm (by decide +kernel) (pa_cons hs pa_nil he2) (by decide) (by decide) he2 hpl2) fun σ Hb H E Q q => h σ Hb H E _ fun v d Hb1 H1 p1 g1 E1 r1 => ?_
  subst p1
  cases r1 with
  | @tup a vs _ ha k =>
    have e1 := k.ints
    subst e1
    refine ⟨a, ns, rfl, xt E1.ex ha, hz, fun p c hcn hp => ⟨p, _, c, rfl, upd_same, by omega, fun ⟨ks, k1, k2, k3⟩ => ?_⟩⟩
    have n1 := New.side (o := SetO X.w p (fun j => decide (j ∈ ns)) c) E1.ex hp
    have el : c = (setI ns).length := by
      rw [← k3]
      have nd : (setI ns).Nodup := (setI_asc ns).imp fun h => by omega
      exact ((List.perm_ext_iff_of_nodup k1 nd).mpr fun x => by rw [← k2 x, mem_setI]; exact decide_eq_true_iff).length_eq
    exact q (.int c) _ Hb1 _ (by rw [el]) (gwn g1 n1) (E1.new n1) (.int _)
/-! ### [drawn for k in range(drawn)], sorted of it -/
variable {a elt tg iter : Expr}
theorem xn_lcDD {scope : Scope} {g : TG} {β : Type} {Ψ : β → Prop} {L : Int} (js : List Nat) (f' : β → D) (own : List (Str × Nat)) (hi : XI X true tg iter Γ fun ds => ∃ n, ds = (rng 0 n).map D.int ∧ 0 ≤ n ∧ n < L) (hL : L ≤ 100000) (hg : Bk X scope fun Y => PG Y tg g) (gt : ∀ k : Int, XGt X.K g (.int k) js [.int k])
    (he : ∀ k : Int, Bk X scope fun Y => XE Y true elt (setG Γ js [.int k]) fun d => ∃ b, d = f' b ∧ Ψ b) (ok : BlkOk X.N X.env.scope scope own) (hN : X.N.Nodup) (hw : wipeG Γ (own.map (·.2)) = Γ := by rfl) (hv : ∀ j ∈ js, j ∈ own.map (·.2) := by decide)
    (hc : X.calm = true := by rfl) (hs : ∀ x, foldedSetIterable iter X.env x = pure x := by intro _; rfl) : XN X true (.ListComp elt [⟨tg, iter, [], 0⟩] scope pos) Γ fun o => ∃ bs : List β, o = .ml (bs.map f') ∧ (bs.length : Int) < L ∧ ∀ b ∈ bs, Ψ b := by
  refine (xn_lc (Φ := fun ds => ∃ n, ds = (rng 0 n).map D.int ∧ 0 ≤ n ∧ n < L) js (fun _ i => [.int i]) (fun _ i acc => ∃ bs : List β, acc = bs.map f' ∧ bs.length = i ∧ ∀ b ∈ bs, Ψ b) own hi hg (fun ds ⟨n, e, h0, h1⟩ i d hd => ?_) .no (fun ds e => ⟨[], rfl, rfl, fun b hb => nomatch hb⟩) (fun ds ⟨n, e, h0, h1⟩ i d acc hd hp => ?_) (fun ds ⟨n, e, h0, h1⟩ => by rw [e, List.length_map, rng_len]; omega) ok hN hw hv hc hs).imp ?_
  · subst e
    rw [List.getElem?_map] at hd
    cases hx : (rng 0 n)[i]? with
    | none => rw [hx] at hd; cases hd
    | some x =>
      rw [hx] at hd
      cases hd
      have hlt := (List.getElem?_eq_some_iff.mp hx).1
      rw [rng_len] at hlt
      rw [rng_get (by omega)] at hx
      cases hx
      rw [Int.zero_add]
      exact gt i
  · refine jt_yes ⟨fun _ s H C cl fp => ?_, fun h => nomatch h⟩
    show XE _ true elt (setG Γ js [.int i]) _
    refine (he i s H C cl fp).imp fun d hb => ?_
    obtain ⟨b, h1, h2⟩ := hb
    obtain ⟨bs, k1, k2, k3⟩ := hp
    refine ⟨bs ++ [b], by rw [k1, h1, List.map_append]; rfl, by rw [List.length_append, k2]; rfl, fun c hc => ?_⟩
    rcases List.mem_append.mp hc with hc | hc
    · exact k3 c hc
    · rw [List.mem_singleton.mp hc]
      exact h2
  · rintro o ⟨ds, acc, ⟨n, e, h0, h1⟩, rfl, bs, h2, h3, h4⟩
    exact ⟨bs, by rw [h2], by rw [h3, e, List.length_map, rng_len]; omega, h4⟩
theorem xn_sortedN {α : Type} [DecidableEq α] {f : α → D} {n : Nat} [Enc f n] [Alk f] {Φ : List α → Prop} (h : XN X m a Γ fun o => ∃ xs : List α, o = .ml (xs.map f) ∧ Φ xs) (hso : ∀ xs, Φ xs → PySem.W.Sortable (xs.map fun x => (f x).py)) (hu : X.A.units + 65 < cLine) (hm : X.mg "sorted" = none) (hn : n ≤ 60 := by decide) (hg : Gl X "sorted" := by rfl) (hs : starEach (a :: []) X.env = (false, eval a X.env) :: starEach [] X.env := by rfl) (hpl : (backTo pos (starEach [] X.env)).any (·.1) = false := by rfl) :
    XN X m (.Call (.Name "sorted" p) [a] [] pos) Γ fun o => ∃ xs : List α, o = .ml ((sortD f xs).map f) ∧ Φ xs :=
  xn_callB (cr_sortD (f := f) hu) hm (by decide +kernel) (xa_one (Ψ := fun ds => ∃ xs : List α, ds = [lT f xs] ∧ Φ xs) ((h.imp fun o ⟨bs, h1, h2⟩ => ⟨bs.map f, h1, bs, rfl, h2⟩ : XN X m a Γ fun o => ∃ ds, o = .ml ds ∧ ∃ xs : List α, ds = xs.map f ∧ Φ xs).frzP) (fun d ⟨ds, h1, bs, h2, h3⟩ => ⟨bs, by rw [h1, h2]; rfl, h3⟩) hs) (fun ds ⟨xs, h1, h2⟩ => by
    rw [h1]
    exact fun vs Hb H ex r Q q => l_sorted (hso xs h2) hn vs Hb H ex r Q fun p u o Hb' H' e => q p u o Hb' H' ⟨xs, e, h2⟩) hg (by decide) (by decide) hs hpl
end
end DL
namespace DL
open PySem PySem.Spec PyProof.Rows L2 Evl
/-! ### max(t), t a tuple of ints -/
theorem lmax_fold (x : Int) (xs : List Int) : PySem.W.maxOf x xs ∈ x :: xs ∧ ∀ y ∈ x :: xs, y ≤ PySem.W.maxOf x xs := by
  unfold PySem.W.maxOf
  induction xs generalizing x with
  | nil => exact ⟨List.mem_cons_self .., fun y hy => by rw [List.mem_singleton.mp hy]; exact Int.le_refl _⟩
  | cons z xs ih =>
    rw [List.foldl_cons]
    obtain ⟨h1, h2⟩ := ih (if PySem.W.DatumOrd.lt x z = true then z else x)
    have e : (if PySem.W.DatumOrd.lt x z = true then z else x) = max x z := by
      show (if decide (x < z) = true then z else x) = max x z
      by_cases c : x < z
      · rw [if_pos (decide_eq_true c)]; omega
      · rw [if_neg (by simpa using c)]; omega
    rw [e] at h1 h2 ⊢
    constructor
    · rcases List.mem_cons.mp h1 with y | y
      · rw [y]
        rcases Int.le_total x z with c | c
        · rw [Int.max_eq_right c]; simp
        · rw [Int.max_eq_left c]; simp
      · exact List.mem_cons_of_mem _ (List.mem_cons_of_mem _ y)
    · intro y hy
      have h3 := h2 (max x z) (List.mem_cons_self ..)
      rcases List.mem_cons.mp hy with rfl | hy
      · have := Int.le_max_left y z; omega
      · rcases List.mem_cons.mp hy with rfl | hy
        · have := Int.le_max_right x y; omega
        · exact h2 y (List.mem_cons_of_mem _ hy)
theorem maxOf_lmax {y : Int} {ys : List Int} : PySem.W.maxOf y ys = lmax (y :: ys) := by
  obtain ⟨h1, h2⟩ := lmax_fold y ys
  obtain ⟨k1, k2⟩ := lmax_ok (l := y :: ys) (by simp)
  have a := k2 _ h1
  have b := h2 _ k1
  omega
def rMaxT (K : PySem.W.Frag) : List V → Hp → VK → Prop := fun vs H Q => ∃ (a : Addr) (ns : List Int), vs = [V.ref a] ∧ SqT K H a (ns.map V.int) ∧ ns ≠ [] ∧ Q (.int (lmax ns)) H
theorem cr_maxT {X : Cx} (hc : X.calm = true) (hu : X.A.units + 65 < cLine) : CallR X (.builtin "max") (rMaxT X.K) := by
  intro pins s σ H vs us Q I r h
  obtain ⟨a, ns, rfl, hs, hne, q⟩ := h
  obtain rfl := Vals.ref1 r
  obtain ⟨its, rv, hl, hz⟩ := I.tuple hs
  have hi := rv.ints
  cases ns with
  | nil => exact absurd rfl hne
  | cons y ys =>
    refine PySem.W.max_tuple_datum (α := Int) (I.ok.hd hc) (show s.heap.IsTuple a its.toArray from hl) (x := y) (xs := ys) (PySem.W.HoldAll.of_ints (by simpa using hi)) (by show X.A.units + 1 + 0 < cLine; omega) fun i v h' tk hv hh hk => ?_
    obtain ⟨t', rfl⟩ := PySem.W.int_of_holds hh
    refine ⟨.int (lmax (y :: ys)), H, I.kept (t' := tk) hk, ⟨t', ?_⟩, q⟩
    rw [maxOf_lmax]
theorem xv_maxT {X : Cx} {Γ : List Sl} {a : Expr} {pos p : Pos} {ns : List Int} (h : XV X a Γ (tT D.int ns)) (h0 : ns ≠ []) (hm : X.mg "max" = none) (hu : X.A.units + 65 < cLine) (hc : X.calm = true := by rfl) (hg : Gl X "max" := by rfl) (hs : starEach (a :: []) X.env = (false, eval a X.env) :: starEach [] X.env := by rfl) (hpl : (backTo pos (starEach [] X.env)).any (·.1) = false := by rfl) : XV X (.Call (.Name "max" p) [a] [] pos) Γ (.int (lmax ns)) :=
  xe_callB (cr_maxT hc hu) hm (by decide +kernel) (xl_cons h xa_nil hs) (fun _ z => by
    rw [z]
    exact rl_scal fun xs Hb H ex h1 => by
      obtain ⟨v, rfl, r⟩ := h1.one_inv
      cases r with
      | @tup a vs _ ha k =>
        have e1 := k.ints
        subst e1
        exact ⟨.int (lmax ns), .int _, fun Q q => ⟨a, ns, rfl, xt ex ha, h0, q⟩⟩) hg (by decide) (by decide) hs hpl
end DL

namespace DL
open PySem PySem.Spec PyProof.Rows L2 Evl
/-! ### and, of values that are true, where owned objects may change -/
section
variable {X : Cx} {m : Bool} {a b : Expr} {es : List Expr} {Γ : List Sl} {pos : Pos} {Φ : D → Prop}
theorem xe_one {op : BoolOp} (h : XE X m a Γ Φ) : XE X m (.BoolOp op [a] pos) Γ Φ := xe_of (pe_one pe_wp) h
theorem xe_andT (h : XE X m a Γ fun z => z = .bl true) (h2 : XE X m (.BoolOp .And (b :: es) pos) Γ Φ) : XE X m (.BoolOp .And (a :: b :: es) pos) Γ Φ :=
  xe_of (pe_and pe_wp pe_wp) fun σ Hb H E Q q => h σ Hb H E _ fun v d Hb1 H1 p1 g1 E1 r1 => by
    subst p1
    cases r1
    exact ⟨true, rfl, iteT (h2 σ Hb1 H1 E1 Q fun v2 d2 Hb2 H2 p2 g2 E2 r2 => q v2 d2 Hb2 H2 p2 (gww g1 g2) E2 r2)⟩
end
end DL

namespace DL
open PySem PySem.Spec PyProof.Rows L2 Evl
/-! ### dicts whose keys are tuples of ints -/
def keyI (k : List Int) : List Key := k.map Sum.inl
theorem keyI_inj : ∀ {a b : List Int}, keyI a = keyI b → a = b
  | [], [], _ => rfl
  | [], y :: b, h => by cases h
  | x :: a, [], h => by cases h
  | x :: a, y :: b, h => by
    have h1 : (Sum.inl x : Key) = Sum.inl y := (List.cons.inj h).1
    cases h1
    rw [keyI_inj (a := a) (b := b) (List.cons.inj h).2]
theorem keyI_kV (k : List Int) : (keyI k).map kV = k.map V.int := by
  unfold keyI
  rw [List.map_map]
  rfl
def getA {β : Type} (l : List (List Int × β)) (k : List Int) : Option β := (l.find? fun p => decide (p.1 = k)).map (·.2)
def putA {β : Type} (l : List (List Int × β)) (k : List Int) (b : β) : List (List Int × β) :=
  if (l.any fun p => decide (p.1 = k)) = true then l.map (fun p => if p.1 = k then (p.1, b) else p) else l ++ [(k, b)]
def dicT {β : Type} (f : β → D) (l : List (List Int × β)) : D := .dic (l.map fun p => keyI p.1) (l.map fun p => f p.2)
def odT {β : Type} (f : β → D) (l : List (List Int × β)) : MO := .dT (l.map fun p => keyI p.1) (l.map fun p => f p.2)
section
variable {K : PySem.W.Frag} {H Hb : Hp} {β : Type} {f : β → D}
theorem dv_get : ∀ {kvs : List (List Key × V)} {l : List (List Int × β)}, kvs.map (·.1) = l.map (fun p => keyI p.1) → DRs K H (kvs.map (·.2)) (l.map fun p => f p.2) → ∀ {k : List Int} {b : β}, getA l k = some b → ∃ v, valV kvs (keyI k) = some v ∧ DR K H v (f b)
  | [], [], _, _, k, b, e => by cases e
  | [], _ :: _, h, _, _, _, _ => by cases h
  | _ :: _, [], h, _, _, _, _ => by cases h
  | p :: kvs, q :: l, h, r, k, b, e => by
    have h1 := (List.cons.inj h).1
    have h2 := (List.cons.inj h).2
    cases r with
    | cons r1 r2 =>
      unfold getA at e
      by_cases z : q.1 = k
      · rw [List.find?_cons_of_pos (by simp [z])] at e
        cases e
        exact ⟨p.2, valV_pos (h1.trans (congrArg keyI z)), r1⟩
      · rw [List.find?_cons_of_neg (by simp [z])] at e
        obtain ⟨v, e1, e2⟩ := dv_get h2 r2 (k := k) (b := b) e
        exact ⟨v, (valV_neg fun y => z (keyI_inj (h1.symm.trans y))).trans e1, e2⟩
theorem dv_any : ∀ {kvs : List (List Key × V)} {l : List (List Int × β)}, kvs.map (·.1) = l.map (fun p => keyI p.1) → ∀ {k : List Int}, (kvs.any fun p => decide (p.1 = keyI k)) = l.any fun p => decide (p.1 = k)
  | [], [], _, _ => rfl
  | [], _ :: _, h, _ => by cases h
  | _ :: _, [], h, _ => by cases h
  | p :: kvs, q :: l, h, k => by
    have h1 := (List.cons.inj h).1
    rw [List.any_cons, List.any_cons, dv_any (List.cons.inj h).2]
    refine congrArg (· || _) ?_
    by_cases z : q.1 = k
    · rw [decide_eq_true z, decide_eq_true (h1.trans (congrArg keyI z))]
    · rw [decide_eq_false z, decide_eq_false fun y => z (keyI_inj (h1.symm.trans y))]
theorem dv_map {k : List Int} {v : V} {b : β} (rb : DR K H v (f b)) : ∀ {kvs : List (List Key × V)} {l : List (List Int × β)}, kvs.map (·.1) = l.map (fun p => keyI p.1) → DRs K H (kvs.map (·.2)) (l.map fun p => f p.2) →
    (kvs.map fun kv => if kv.1 = keyI k then (kv.1, v) else kv).map (·.1) = (l.map fun p => if p.1 = k then (p.1, b) else p).map (fun p => keyI p.1) ∧ DRs K H ((kvs.map fun kv => if kv.1 = keyI k then (kv.1, v) else kv).map (·.2)) ((l.map fun p => if p.1 = k then (p.1, b) else p).map fun p => f p.2)
  | [], [], _, _ => ⟨rfl, .nil⟩
  | [], _ :: _, h, _ => by cases h
  | _ :: _, [], h, _ => by cases h
  | p :: kvs, q :: l, h, r => by
    have h1 : p.1 = keyI q.1 := (List.cons.inj h).1
    cases r with
    | cons r1 r2 =>
      obtain ⟨i1, i2⟩ := dv_map rb (List.cons.inj h).2 r2
      by_cases z : q.1 = k
      · have z2 : p.1 = keyI k := h1.trans (congrArg keyI z)
        simp only [List.map_cons, if_pos z, if_pos z2]
        exact ⟨by rw [h1, i1], .cons rb i2⟩
      · have z2 : ¬ p.1 = keyI k := fun y => z (keyI_inj (h1.symm.trans y))
        simp only [List.map_cons, if_neg z, if_neg z2]
        exact ⟨by rw [h1, i1], .cons r1 i2⟩
theorem dv_put {kvs : List (List Key × V)} {l : List (List Int × β)} (h : kvs.map (·.1) = l.map (fun p => keyI p.1)) (r : DRs K H (kvs.map (·.2)) (l.map fun p => f p.2)) {k : List Int} {v : V} {b : β} (rb : DR K H v (f b)) :
    (putK kvs (keyI k) v).map (·.1) = (putA l k b).map (fun p => keyI p.1) ∧ DRs K H ((putK kvs (keyI k) v).map (·.2)) ((putA l k b).map fun p => f p.2) := by
  unfold putK putA
  rw [dv_any h]
  by_cases z : (l.any fun p => decide (p.1 = k)) = true
  · rw [if_pos z, if_pos z]
    exact dv_map rb h r
  · rw [if_neg z, if_neg z]
    simp only [List.map_append, List.map_cons, List.map_nil]
    exact ⟨by rw [h], r.app (.one rb)⟩
theorem len_putA {l : List (List Int × β)} {k : List Int} {b : β} : (putA l k b).length ≤ l.length + 1 := by
  unfold putA
  split
  · rw [List.length_map]; omega
  · rw [List.length_append]; simp
/-- a tuple of ints as a key -/
theorem key_at {v : V} {k : List Int} (e : Ex Hb H) (r : DR K Hb v (tT D.int k)) : ∃ b, v = .ref b ∧ H b = some (.tup ((keyI k).map kV)) := by
  cases r with
  | @tup a vs _ ha r =>
    have := r.ints
    subst this
    exact ⟨a, rfl, by rw [keyI_kV]; exact e _ _ ha⟩
end
section
variable {X : Cx} {kp : Nat} {Γ : List Sl} {G : Dn} {m : Bool} {e a b : Expr} {pos pos' : Pos} {sts : List Stmt} {x : Str} {β : Type} {f : β → D}
/-- {} -/
theorem xo_dict : XO X (.Dict [] [] pos) Γ (odT f []) := xn_of pe_dnewT fun σ Hb H E Q q => fun p hp => q p (.dT []) _ Hb _ rfl hp (New.side E.ex hp).gr (E.new (New.side E.ex hp)) (fresh_back E.ex hp) upd_same ⟨[], rfl, rfl, .nil⟩
/-- d[k] of a dict that is data -/
theorem xv_get {l : List (List Int × β)} {k : List Int} {y : β} (ha : XV X a Γ (dicT f l)) (hb : XV X b Γ (tT D.int k)) (hu : X.A.units + 65 < cLine) (h : getA l k = some y) (hs : NoSl b := by exact fun _ _ => rfl) : XV X (.Subscript a b pos) Γ (f y) :=
  xe_of (pe_dget (by omega) pe_wp pe_wp hs) fun σ Hb H E Q q => ha σ Hb H E _ fun v d Hb1 H1 p1 g1 E1 r1 => hb σ Hb1 H1 E1 _ fun v2 d2 Hb2 H2 p2 g2 E2 r2 => by
    subst p1 p2
    obtain ⟨c, rfl, hc⟩ := key_at E2.ex r2
    have r1 := r1.mono g2.b
    cases r1 with
    | @dic p ob kvs vs _ _ h1 h2 h3 h4 =>
      subst h3
      obtain ⟨w, e1, e2⟩ := dv_get h2 h4 h
      exact ⟨p, w, rfl, .inr ⟨kvs, keyI k, c, .inr ⟨ob, E2.ex _ _ h1⟩, rfl, hc, e1.symm⟩, q w (f y) Hb2 H2 rfl (gww g1 g2) E2 e2⟩
/-- d[k] of an owned dict -/
theorem xv_getO (i : Nat) {l : List (List Int × β)} {k : List Int} {y : β} (hb : XV X b Γ (tT D.int k)) (hu : X.A.units + 65 < cLine) (h : getA l k = some y) (hi : Γ[i]? = some (.ow (odT f l)) := by rfl) (hN : X.N[i]? = some x := by rfl) (hv : Vis X.env.scope x := by first | exact Or.inl rfl | exact Or.inr (Or.inl rfl) | exact Or.inr (Or.inr rfl)) (hd : (x == ("__debug__" : Str)) = false := by decide)
    (hcd : (x == ("__classdict__" : Str)) = false := by decide) (hs : NoSl b := by exact fun _ _ => rfl) : XV X (.Subscript (.Name x pos') b pos) Γ (f y) :=
  xe_of (pe_dget (by omega) (pe_var hN hv hd hcd) pe_wp hs) fun σ Hb H E Q q => by
    obtain ⟨p, u, k1, _, _, _⟩ := E.own i _ hi
    refine ⟨.ref p, k1, hb σ Hb H E _ fun v2 d2 Hb2 H2 p2 g2 E2 r2 => ?_⟩
    subst p2
    obtain ⟨c, rfl, hc⟩ := key_at E2.ex r2
    obtain ⟨p', u', k1', k2, k3, kv, rfl, h2, h4⟩ := E2.own i _ hi
    rw [k1] at k1'
    cases k1'
    obtain ⟨w, e1, e2⟩ := dv_get h2 h4 h
    exact ⟨p, w, rfl, .inr ⟨kv, keyI k, c, .inl k3, rfl, hc, e1.symm⟩, q w (f y) Hb2 H2 rfl g2 E2 e2⟩
theorem js_setD {K : PySem.W.Frag} {te tj : TE} {i : Nat} {l : List (List Int × β)} {Φ : β → Prop} {Ψ : List Int → Prop} (h : Γ[i]? = some (.ow (odT f l))) (he : JR K m te Γ fun z => ∃ y, z = f y ∧ Φ y) (hj : JR K m tj Γ fun z => ∃ k, z = tT D.int k ∧ Ψ k) (hz : l.length < 100000) (k : ∀ y k, Φ y → Ψ k → G.nx (Γ.set i (.ow (odT f (putA l k y))))) : JS K kp (tAsg te (gSub (tVar i) tj rSetD)) Γ G := fun σ Hb H E F a b c d => he σ Hb H E _ fun v z Hb1 H1 y g1 E1 r => by
  obtain ⟨p, u, h1, _, _, _⟩ := E1.own i _ h
  refine ⟨.ref p, h1, hj σ Hb1 H1 E1 _ fun v2 z2 Hb2 H2 y2 g2 E2 r2 => ?_⟩
  obtain ⟨k', rfl, y2⟩ := y2
  obtain ⟨y', rfl, y⟩ := y
  obtain ⟨q, rfl, hq⟩ := key_at E2.ex r2
  obtain ⟨p', u', k1', k2, k3, kv, rfl, e2, e4⟩ := E2.own i _ h
  rw [h1] at k1'
  cases k1'
  have hl : kv.length < sizeLine := by
    have := congrArg List.length e2
    rw [List.length_map, List.length_map] at this
    rw [sizeLine_eq]
    omega
  obtain ⟨w1, w2⟩ := dv_put e2 e4 (k := k') (r.mono g2.b)
  exact ⟨p, _, rfl, DPut.t k3 hq hl, a _ _ _ _ (k y' k' y y2) ((GS.of (gww g1 g2) E2).trans (GS.put E2 h h1 ⟨_, rfl, w1, w2⟩))⟩
/-- d[k] = v -/
theorem xs_setD (i : Nat) {l : List (List Int × β)} {Φ : β → Prop} {Ψ : List Int → Prop} {pos2 : Pos} (hu : X.A.units + 65 < cLine) (he : XE X m e Γ fun z => ∃ y, z = f y ∧ Φ y) (hj : XE X m a Γ fun z => ∃ k, z = tT D.int k ∧ Ψ k) (hz : l.length < 100000) (k : ∀ y k, Φ y → Ψ k → G.nx (Γ.set i (.ow (odT f (putA l k y))))) (h : Γ[i]? = some (.ow (odT f l)) := by rfl)
    (hps : X.A.units + 1 < cLine → PS X (.Assign [.Subscript (.Name x pos') a pos2] e pos) (tAsg (wpE X e) (gSub (tVar i) (wpE X a) rSetD)) := by exact fun hu1 => ps_asg pe_wp (pg_sub (pe_var (by rfl) (by first | exact Or.inl rfl | exact Or.inr (Or.inl rfl) | exact Or.inr (Or.inr rfl))) pe_wp (set_dict hu1))) :
    XS X kp (.Assign [.Subscript (.Name x pos') a pos2] e pos) Γ G := xs_of (hps (by omega)) (js_setD h he hj hz k)
theorem xs_setDV (i : Nat) {l : List (List Int × β)} {y : β} {k : List Int} {pos2 : Pos} (hu : X.A.units + 65 < cLine) (he : XV X e Γ (f y)) (hj : XV X a Γ (tT D.int k)) (hz : l.length < 100000) (kk : G.nx (Γ.set i (.ow (odT f (putA l k y))))) (h : Γ[i]? = some (.ow (odT f l)) := by rfl)
    (hps : X.A.units + 1 < cLine → PS X (.Assign [.Subscript (.Name x pos') a pos2] e pos) (tAsg (wpE X e) (gSub (tVar i) (wpE X a) rSetD)) := by exact fun hu1 => ps_asg pe_wp (pg_sub (pe_var (by rfl) (by first | exact Or.inl rfl | exact Or.inr (Or.inl rfl) | exact Or.inr (Or.inr rfl))) pe_wp (set_dict hu1))) :
    XS X kp (.Assign [.Subscript (.Name x pos') a pos2] e pos) Γ G := xs_setD i (Φ := fun z => z = y) (Ψ := fun z => z = k) hu (he.imp fun d z => ⟨y, z, rfl⟩) (hj.imp fun d z => ⟨k, z, rfl⟩) hz (fun y' k' h1 h2 => by rw [h1, h2]; exact kk) h hps
/-! an owned dict is data from here on: it is known from now -/
theorem xs_freezeD (i : Nat) {l : List (List Int × β)} (h : XSs X kp sts (Γ.set i (.pd (dicT f l))) G) (hi : Γ[i]? = some (.ow (odT f l)) := by rfl) (hk : kp ≤ i := by decide) : XSs X kp sts Γ G := fun σ Hb H E F a b c d pins s I => by
  obtain ⟨p, u, h1, h2, h3, kv, rfl, e2, e4⟩ := E.own i _ hi
  obtain ⟨od, I2⟩ := I.lock h3 trivial
  have ow : ∀ q, Own σ (Γ.set i (.pd (dicT f l))) q → Own σ Γ q := fun q ⟨j, m, z1, z2⟩ => by
    rcases set_at z1 with ⟨rfl, y2, y3⟩ | ⟨y1, y2⟩
    · cases y2
    · exact ⟨j, m, y2, z2⟩
  have op : Own σ Γ p := ⟨i, _, hi, h1⟩
  have eb : Ex Hb (upd Hb p (.frz od (.dT kv))) := Ex.new h2
  have E2 : En X.K (upd Hb p (.frz od (.dT kv))) (upd H p (.frz od (.dT kv))) σ (Γ.set i (.pd (dicT f l))) := {
    ex := fun b o e => by
      by_cases z : b = p
      · subst z; rw [upd_same] at e ⊢; exact e
      · rw [upd_ne z] at e ⊢; exact E.ex b o e
    val := fun j e h' => by
      rcases set_at h' with ⟨rfl, z2, z3⟩ | ⟨z1, z2⟩
      · cases z2
        exact ⟨_, h1, .dic upd_same e2 rfl (e4.mono eb)⟩
      · obtain ⟨v, k1, k2⟩ := E.val j e z2
        exact ⟨v, k1, k2.mono eb⟩
    own := fun j n h' => by
      rcases set_at h' with ⟨rfl, z2, z3⟩ | ⟨z1, z2⟩
      · cases z2
      · obtain ⟨b, w, k1, k2, k3, k4⟩ := E.own j n z2
        have ne : b ≠ p := fun z => by
          subst z
          exact z1 (E.sep i j _ _ n hi z2 h1 k1)
        exact ⟨b, w, k1, by rw [upd_ne ne]; exact k2, by rw [upd_ne ne]; exact k3, k4.mono eb⟩
    sep := fun j k b n n' y1 y2 k1 k2 => by
      rcases set_at y1 with ⟨rfl, z2, z3⟩ | ⟨z1, z2⟩
      · cases z2
      · rcases set_at y2 with ⟨rfl, z4, z5⟩ | ⟨z3, z4⟩
        · cases z4
        · exact E.sep j k b n n' z2 z4 k1 k2
    len := by rw [List.length_set, E.len] }
  have kk : ∀ Γ2 σ2 Hb2 H2, GS X.K kp σ (Γ.set i (.pd (dicT f l))) (upd Hb p (.frz od (.dT kv))) (upd H p (.frz od (.dT kv))) σ2 Γ2 Hb2 H2 → GS X.K kp σ Γ Hb H σ2 Γ2 Hb2 H2 := fun Γ2 σ2 Hb2 H2 g => by
    refine ⟨⟨eb.trans g.gr.b, fun q o y n => ?_, fun q y => ?_, g.gr.s, fun q y t n => ?_⟩, g.en, fun q z => ?_, g.kp⟩
    · have ne : q ≠ p := fun z => n (by rw [z]; exact op)
      exact g.gr.h q o (by rw [upd_ne ne]; exact y) fun z => n (ow q z)
    · refine g.gr.al q ?_
      by_cases z : q = p
      · subst z; rw [upd_same]; simp
      · rw [upd_ne z]; exact y
    · have ne : q ≠ p := fun z => n (by rw [z]; exact op)
      rw [g.gr.f q (by rw [upd_ne ne]; exact y) (by rw [upd_ne ne]; exact t) fun z => n (ow q z), upd_ne ne]
    · rcases g.own q z with z | z
      · exact .inl (ow q z)
      · by_cases y : q = p
        · exact .inl (by rw [y]; exact op)
        · rw [upd_ne y] at z; exact .inr z
  exact h σ _ _ E2 F (fun Γ2 σ2 Hb2 H2 y k => a Γ2 σ2 Hb2 H2 y (kk _ _ _ _ k)) (fun Γ2 σ2 Hb2 H2 y k => b Γ2 σ2 Hb2 H2 y (kk _ _ _ _ k)) (fun Γ2 σ2 Hb2 H2 y k => c Γ2 σ2 Hb2 H2 y (kk _ _ _ _ k)) (fun d2 v Γ2 σ2 Hb2 H2 y k => d d2 v Γ2 σ2 Hb2 H2 y (kk _ _ _ _ k)) pins s I2
end
/-! ### for k in d -/
theorem itd_dic {K : PySem.W.Frag} {Hb : Hp} {p : Addr} {ob : Obj} {kvs : List (List Key × V)} {ks : List (List Int)} (h : Hb p = some (.frz ob (.dT kvs))) (e : kvs.map (·.1) = ks.map keyI) : ItD K (Itkt p ob kvs) Hb (ks.map (tT D.int)) := fun Hb1 H1 e1 e2 i => by
  have hl : kvs.length = ks.length := by
    have := congrArg List.length e
    rwa [List.length_map, List.length_map] at this
  have h1 : H1 p = some (.frz ob (.dT kvs)) := e2 _ _ (e1 _ _ h)
  refine ⟨fun hi => ?_, fun hi => ⟨h1, by rw [List.length_map] at hi; omega⟩⟩
  rw [List.length_map] at hi
  refine ⟨⟨h1, by omega⟩, fun x H2 y => ?_⟩
  obtain ⟨rfl, k, v, q, y1, rfl, y2⟩ := y
  have hk : (kvs.map (·.1))[i]? = some k := by rw [List.getElem?_map, y1]; rfl
  rw [e, List.getElem?_map, List.getElem?_eq_getElem hi] at hk
  have hk : keyI ks[i] = k := Option.some.inj hk
  subst hk
  rw [keyI_kV] at y2
  refine ⟨tT D.int ks[i], ?_⟩
  by_cases z : Hb1 q = none
  · refine ⟨upd Hb1 q (.tup (ks[i].map V.int)), by rw [List.getElem?_map, List.getElem?_eq_getElem hi]; rfl, ⟨Ex.new z, fun _ _ a _ => a, fun _ a => a, fun b o a => ?_, fun b a t _ => upd_ne fun w => by subst w; exact t _ y2⟩, .tup upd_same (drs_ints _)⟩
    by_cases w : b = q
    · subst w; rw [upd_same] at a; cases a; exact y2
    · rw [upd_ne w] at a; exact e2 _ _ a
  · cases w : Hb1 q with
    | none => exact absurd w z
    | some o =>
      have := e2 _ _ w
      rw [y2] at this
      cases this
      exact ⟨Hb1, by rw [List.getElem?_map, List.getElem?_eq_getElem hi]; rfl, Gr.refl e2, .tup w (drs_ints _)⟩
section
variable {X : Cx} {Γ : List Sl} {e tg : Expr} {β : Type} {f : β → D}
theorem xw_dic {l : List (List Int × β)} (h : XV X e Γ (dicT f l)) : XW X tg e Γ ((l.map fun p => p.1).map (tT D.int)) := xi_of (pi_keys pe_wp) fun σ Hb H E R q => h σ Hb H E _ fun v d Hb1 H1 p1 g1 E1 r1 => by
  subst p1
  cases r1 with
  | @dic p ob kvs vs _ _ h1 h2 h3 h4 =>
    exact ⟨p, ob, rfl, .inr ⟨kvs, E1.ex _ _ h1, q _ _ Hb1 H1 rfl g1 E1 (itd_dic h1 (by rw [h2, List.map_map]; rfl))⟩⟩
end
end DL

namespace DL
open PySem PySem.Spec PyProof.Rows L2 Evl
/-! ### == of dicts whose keys are tuples -/
section
variable {prog : Program} {w : World} {K : Type} [DecidableEq K] {knd : HeapKind prog w K} {A : Around} {E : Value → Shared → Prop} {s : Shared}
def HitsH (A : Around) (s : Shared) (kb : List (K × Addr × Value)) : List (K × Addr × Value) → Bool → Prop
  | [], r => r = true
  | x :: rest, r => (atKey kb x.1 = none ∧ r = false) ∨ ∃ p e b', atKey kb x.1 = some p ∧ SeqAt.EqAt A s x.2.2 p.2 e ∧ HitsH A s kb rest b' ∧ r = (e && b')
theorem samePairsH {nm : String} {a b : Addr} {ka kb : List (K × Addr × Value)} {r : Bool} {Q : Bool → Shared → Prop} (hu : knd.room A) (ha : (a == sysModules) = false) (hb : (b == sysModules) = false)
    (da : s.heap.DictOfH knd a ka) (db : s.heap.DictOfH knd b kb) (hits : ka.length = kb.length → HitsH A s kb ka r) (h : Q (ka.length == kb.length && r) s) :
    wpAny (model prog w) A (Builtin.Dict.samePairs nm a b) Q E s := by
  obtain ⟨oa, es, ep, hoa, _, hda, hea, hia, hna⟩ := da
  obtain ⟨ob, es', ep', hob, _, hdb, heb, hib, hnb⟩ := db
  have hla : es.size = ka.length := size_of_entries hea
  have hlb : es'.size = kb.length := size_of_entries heb
  rw [← hla, ← hlb] at h
  unfold Builtin.Dict.samePairs Builtin.Dict.showsAll
  rw [if_neg (show ¬ (a == sysModules) = true by rw [ha]; exact Bool.false_ne_true), if_neg (show ¬ (b == sysModules) = true by rw [hb]; exact Bool.false_ne_true)]
  refine wpAny_bind (wpAny_pure (wpAny_bind (wpAny_pure ?_)))
  refine wpAny_bind (wpAny_dictEntries hoa hda ?_)
  dsimp only
  refine wpAny_bind (wpAny_dictEntries hob hdb ?_)
  by_cases hsz : es.size = es'.size
  case neg =>
    rw [if_pos (by simpa using hsz)]
    have hbf : (es.size == es'.size) = false := by simpa using hsz
    rw [hbf, Bool.false_and] at h
    exact wpAny_bind (wpAny_rule (wpAny_pure h))
  case pos =>
    have h' : Q r s := by simpa [hsz] using h
    have hits' := hits (by rw [← hla, ← hlb]; exact hsz)
    rw [if_neg (by rw [hsz]; simp)]
    refine wpAny_bind (wpAny_dictEpoch hoa hda ?_)
    refine wpAny_bind ?_
    rw [Std.Legacy.Range.forIn_eq_forIn_range']
    simp only [Std.Legacy.Range.size, Nat.sub_zero, Nat.add_sub_cancel, Nat.div_one]
    refine wpAny_forIn_list _
      (fun rest q s' => s' = s ∧ q = (none, ()) ∧ ∃ i, rest = List.range' i (es.size - i) ∧ i ≤ es.size ∧ HitsH A s kb (ka.drop i) r)
      _ ?_ ?_ _ _ ⟨rfl, rfl, 0, by simp, Nat.zero_le _, hits'⟩
    · rintro x rest q s' ⟨rfl, rfl, i, hr, hi, hpre⟩
      have hlt : i < es.size := by
        rcases Nat.lt_or_ge i es.size with h | h
        · exact h
        · rw [Nat.sub_eq_zero_of_le h] at hr; simp at hr
      obtain ⟨rfl, hrest⟩ : x = i ∧ rest = List.range' (i + 1) (es.size - (i + 1)) := by
        have e : es.size - i = (es.size - (i + 1)) + 1 := by omega
        rw [e, List.range'_succ] at hr
        injection hr with h1 h2
        exact ⟨h1, h2⟩
      refine wpAny_bind (wpAny_dictEntries hoa hda ?_)
      have hlt' : x < ka.length := by rw [← hla]; exact hlt
      obtain ⟨k, q, v, hkv⟩ : ∃ k q v, ka[x] = (k, q, v) := ⟨_, _, _, rfl⟩
      have hka : ka[x]? = some (k, q, v) := by rw [List.getElem?_eq_getElem hlt', hkv]
      have hdrop : ka.drop x = (k, q, v) :: ka.drop (x + 1) := by rw [← hkv]; exact List.drop_eq_getElem_cons hlt'
      have hex : es[x]? = some ⟨knd.hash k, .ref q, v⟩ := by rw [entry_at hea x, hka]; rfl
      rw [hex]
      rw [hdrop] at hpre
      have hik : knd.is s'.heap k q := hia _ (List.mem_of_getElem? hka)
      dsimp only
      refine wpAny_bind (wpAny_holding (wpAny_bind (wpAny_dictFind_heap hu hik hob hdb heb hib hnb (fun hno => ?_) fun j p hj => ?_)))
      · have hn := atKey_none_of_get hno
        rcases hpre with ⟨_, er⟩ | ⟨y, _, _, hy, _⟩
        · rw [er] at h'
          refine wpAny_pure ?_
          show wpAny _ _ (if (!false) = true then _ else _) _ _ _
          rw [if_pos (by decide)]
          exact wpAny_pure (wpAny_pure h')
        · rw [show atKey kb k = some y from hy] at hn; exact nomatch hn
      · have hv := atKey_of_get hnb hj
        refine wpAny_bind (wpAny_dictEntries hob hdb ?_)
        rw [show es'[j]? = some ⟨knd.hash k, .ref p.1, p.2⟩ by rw [entry_at heb j, hj]; rfl]
        dsimp only
        rcases hpre with ⟨hn, _⟩ | ⟨y, e, b', hy, he, hrr, er⟩
        · rw [show atKey kb k = none from hn] at hv; exact nomatch hv
        · have ey : p = y := Option.some.inj (hv.symm.trans hy)
          subst ey
          refine wpAny_holding (he _ _ _ _ ?_)
          cases e with
          | false =>
            rw [er, Bool.false_and] at h'
            show wpAny _ _ (if (!false) = true then _ else _) _ _ _
            rw [if_pos (by decide)]
            exact wpAny_pure (wpAny_pure h')
          | true =>
            rw [Bool.true_and] at er
            rw [← er] at hrr
            show wpAny _ _ (if (!true) = true then _ else _) _ _ _
            rw [if_neg (by decide)]
            refine wpAny_bind (wpAny_dictEpoch hoa hda ?_)
            rw [if_neg (by simp)]
            exact wpAny_pure ⟨rfl, rfl, x + 1, hrest, hlt, hrr⟩
    · rintro q s' ⟨rfl, rfl, i, hr, hi, hpre⟩
      have hin : i = es.size := by
        rcases Nat.lt_or_ge i es.size with h | h
        · have e : es.size - i = (es.size - (i + 1)) + 1 := by omega
          rw [e, List.range'_succ] at hr; exact nomatch hr
        · exact Nat.le_antisymm hi h
      refine wpAny_pure ?_
      rw [hin, hla, List.drop_length] at hpre
      rw [show r = true from hpre] at h'
      exact h'
theorem dictEqH {a b : Addr} {ka kb : List (K × Addr × Value)} {r : Bool} {Q : Value → Shared → Prop} (hr : knd.room A.in1) (ha : (a == sysModules) = false) (hb : (b == sysModules) = false)
    (da : s.heap.DictOfH knd a ka) (db : s.heap.DictOfH knd b kb) (hu : A.units < cLine) (hits : ka.length = kb.length → HitsH A.in1 s kb ka r) (h : Q (.bool (ka.length == kb.length && r)) s) :
    wpAny (model prog w) A (compareOp .Eq (.ref a) (.ref b)) Q E s := by
  refine wpAny_richCompare_same_room (op := .Eq) da.typeIs db.typeIs PySem.F.slot_dict_eq (wpAny_call_entry PySem.F.slot_dict_eq da.typeIs PySem.F.entry_dict_eq ?_ (PySem.F.args_dict_eq_2 _ _)) hu
  show wpAny _ _ (Builtin.Dict.dictSlotArgs "__eq__" ⟨[.ref a, .ref b], []⟩ >>= _) _ _ s
  refine wpAny_bind ?_
  unfold Builtin.Dict.dictSlotArgs
  refine wpAny_bind (wpAny_notOrdered_dict da.typeIs ?_)
  show wpAny _ _ (pure (Value.ref a, Value.ref b)) _ _ s
  refine wpAny_pure ?_
  refine wpAny_bind (wpAny_isInstance (T := "dict") db.typeIs PySem.F.sub_dict_dict ?_)
  simp only [Bool.not_true, Bool.false_eq_true, if_false]
  refine wpAny_bind (wpAny_pure (wpAny_bind (wpAny_pure ?_)))
  refine wpAny_bind (samePairsH hr ha hb da db hits ?_)
  refine wpAny_pure ⟨_, rfl, ?_, ?_⟩
  · exact fun x => nomatch x
  · simpa using h
theorem dictNeH {a b : Addr} {ka kb : List (K × Addr × Value)} {r : Bool} {Q : Value → Shared → Prop} (hr : knd.room A.in1) (ha : (a == sysModules) = false) (hb : (b == sysModules) = false)
    (da : s.heap.DictOfH knd a ka) (db : s.heap.DictOfH knd b kb) (hu : A.units < cLine) (hits : ka.length = kb.length → HitsH A.in1 s kb ka r) (h : Q (.bool (!(ka.length == kb.length && r))) s) :
    wpAny (model prog w) A (compareOp .NotEq (.ref a) (.ref b)) Q E s := by
  refine wpAny_richCompare_same_room (op := .NotEq) da.typeIs db.typeIs PySem.F.slot_dict_ne (wpAny_call_entry PySem.F.slot_dict_ne da.typeIs PySem.F.entry_dict_ne ?_ (PySem.F.args_dict_ne_2 _ _)) hu
  show wpAny _ _ (Builtin.Dict.dictSlotArgs "__ne__" ⟨[.ref a, .ref b], []⟩ >>= _) _ _ s
  refine wpAny_bind ?_
  unfold Builtin.Dict.dictSlotArgs
  refine wpAny_bind (wpAny_notOrdered_dict da.typeIs ?_)
  show wpAny _ _ (pure (Value.ref a, Value.ref b)) _ _ s
  refine wpAny_pure ?_
  refine wpAny_bind (wpAny_isInstance (T := "dict") db.typeIs PySem.F.sub_dict_dict ?_)
  simp only [Bool.not_true, Bool.false_eq_true, if_false]
  refine wpAny_bind (wpAny_pure (wpAny_bind (wpAny_pure ?_)))
  refine wpAny_bind (samePairsH hr ha hb da db hits ?_)
  refine wpAny_pure ⟨_, rfl, ?_, ?_⟩
  · exact fun x => nomatch x
  · simpa using h
end
/-- .. of what the dicts stand for -/
def eqA {β : Type} [DecidableEq β] (l m : List (List Int × β)) : Bool := l.length == m.length && l.all fun p => decide (getA m p.1 = some p.2)
section
variable {X : Cx} {β : Type} [DecidableEq β] {f : β → D} {n : Nat} [he : Enc f n]
theorem getA_none {Hb H : Hp} {K : PySem.W.Frag} : ∀ {kvs : List (List Key × V)} {l : List (List Int × β)}, kvs.map (·.1) = l.map (fun p => keyI p.1) → ∀ {k : List Int}, getA l k = none → valV kvs (keyI k) = none
  | [], [], _, _, _ => rfl
  | [], _ :: _, h, _, _ => by cases h
  | _ :: _, [], h, _, _ => by cases h
  | p :: kvs, q :: l, h, k, e => by
    have h1 : p.1 = keyI q.1 := (List.cons.inj h).1
    unfold getA at e
    by_cases z : q.1 = k
    · rw [List.find?_cons_of_pos (by simp [z])] at e
      cases e
    · rw [List.find?_cons_of_neg (by simp [z])] at e
      exact (valV_neg fun y => z (keyI_inj (h1.symm.trans y))).trans (getA_none (Hb := Hb) (H := H) (K := K) (List.cons.inj h).2 e)
theorem hits_of {pins : List (Addr × Obj)} {s : Shared} {σ : L2.St} {H : Hp} {A : Around} (I : Inv X pins σ H s) (hu : A.units + 64 < cLine) (hn : n ≤ 64) {ls : List (List Key × V)} {ys : List (List Key × Addr × Value)} {m : List (List Int × β)} (rl : KT H ls ys) (h2 : ls.map (·.1) = m.map (fun p => keyI p.1)) (r2 : DRs X.K H (ls.map (·.2)) (m.map fun p => f p.2)) :
    ∀ {ks : List (List Key × V)} {xs : List (List Key × Addr × Value)} {l : List (List Int × β)}, KT H ks xs → ks.map (·.1) = l.map (fun p => keyI p.1) → DRs X.K H (ks.map (·.2)) (l.map fun p => f p.2) → HitsH A s ys xs (l.all fun p => decide (getA m p.1 = some p.2))
  | [], _, [], r, _, _ => by cases r; rfl
  | [], _, _ :: _, _, h, _ => by cases h
  | _ :: _, _, [], _, h, _ => by cases h
  | p :: ks, _, q :: l, r, h, rr => by
    cases r with
    | @cons _ x _ xs hx r =>
      obtain ⟨e1, _, e3⟩ := hx
      have h1 : p.1 = keyI q.1 := (List.cons.inj h).1
      cases rr with
      | cons r1 r3 =>
        have ih := hits_of I hu hn rl h2 r2 (l := l) r (List.cons.inj h).2 r3
        show (atKey ys x.1 = none ∧ _) ∨ _
        rw [← e1, h1, List.all_cons]
        have rv := rl.val (keyI q.1)
        cases e : getA m q.1 with
        | none =>
          rw [getA_none (Hb := H) (H := H) (K := X.K) h2 e] at rv
          left
          cases z : atKey ys (keyI q.1) with
          | none => exact ⟨rfl, rfl⟩
          | some y => rw [z] at rv; exact rv.elim
        | some b =>
          right
          obtain ⟨v, k1, k2⟩ := dv_get h2 r2 e
          rw [k1] at rv
          cases z : atKey ys (keyI q.1) with
          | none => rw [z] at rv; exact rv.elim
          | some y =>
            rw [z] at rv
            have rv : RelV v y.2 := rv
            obtain ⟨as, q1⟩ := Dp.reads I _ _ _ (r1.dp (he.ok q.2)) e3
            obtain ⟨bs, q2⟩ := Dp.reads I _ _ _ (k2.dp (he.ok b)) rv
            refine ⟨y, decide (some b = some q.2), _, rfl, ?_, ih, rfl⟩
            have hd : decide (some b = some q.2) = PyData.eqv (f q.2).py (f b).py := by
              rw [he.eq]
              by_cases w : q.2 = b
              · rw [decide_eq_true w, decide_eq_true (by rw [w])]
              · rw [decide_eq_false w, decide_eq_false fun y => w (Option.some.inj y).symm]
            rw [hd]
            exact SeqAt.eqAt_reads _ _ A s _ _ as bs q1 q2 (SeqAt.canLay_of_shaped (ok_shaped (he.ok q.2) hn)) (SeqAt.canLay_of_shaped (ok_shaped (he.ok b) hn)) (SeqAt.room_of_shaped (ok_shaped (he.ok q.2) hn) hu)
/-- d == e, d != e -/
def rDic (K : PySem.W.Frag) (f : β → D) (neg : Bool) : R2 := fun x y H Q => ∃ (a b : Addr) (oa ob : Obj) (ks ls : List (List Key × V)) (l m : List (List Int × β)), x = .ref a ∧ y = .ref b ∧ H a = some (.frz oa (.dT ks)) ∧ H b = some (.frz ob (.dT ls)) ∧
  ks.map (·.1) = l.map (fun p => keyI p.1) ∧ DRs K H (ks.map (·.2)) (l.map fun p => f p.2) ∧ ls.map (·.1) = m.map (fun p => keyI p.1) ∧ DRs K H (ls.map (·.2)) (m.map fun p => f p.2) ∧ Q (.bl (if neg then !eqA l m else eqA l m)) H
theorem len_kt {H : Hp} {ks : List (List Key × V)} {xs : List (List Key × Addr × Value)} {l : List (List Int × β)} (r : KT H ks xs) (h : ks.map (·.1) = l.map (fun p => keyI p.1)) : xs.length = l.length := by
  have h1 := Paired.length r
  have h2 := congrArg List.length h
  rw [List.length_map, List.length_map] at h2
  omega
theorem op_eqDic (hu : X.A.units + 65 < cLine) (hn : n ≤ 64 := by decide) : OpR X (compareOp .Eq) (rDic X.K f false) := by
  intro pins s σ H x y v u Q I rx ry h
  obtain ⟨a, b, oa, ob, ks, ls, l, m, rfl, rfl, ha, hb, k1, r1, k2, r2, q⟩ := h
  cases (show v = Value.ref a from rx)
  cases (show u = Value.ref b from ry)
  obtain ⟨_, sa, xs, ra, da⟩ := dt_rd I.hok (.inr ⟨oa, ha⟩)
  obtain ⟨_, sb, ys, rb, db⟩ := dt_rd I.hok (.inr ⟨ob, hb⟩)
  refine dictEqH (tupleKind_room_in1 (by omega)) sa sb da db (by omega) (fun _ => hits_of I (A := X.A.in1) (by show X.A.units + 1 + 64 < cLine; omega) hn rb k2 r2 ra k1 r1) ⟨.bl (eqA l m), H, I, ?_, q⟩
  rw [len_kt ra k1, len_kt rb k2]
  rfl
theorem op_neDic (hu : X.A.units + 65 < cLine) (hn : n ≤ 64 := by decide) : OpR X (compareOp .NotEq) (rDic X.K f true) := by
  intro pins s σ H x y v u Q I rx ry h
  obtain ⟨a, b, oa, ob, ks, ls, l, m, rfl, rfl, ha, hb, k1, r1, k2, r2, q⟩ := h
  cases (show v = Value.ref a from rx)
  cases (show u = Value.ref b from ry)
  obtain ⟨_, sa, xs, ra, da⟩ := dt_rd I.hok (.inr ⟨oa, ha⟩)
  obtain ⟨_, sb, ys, rb, db⟩ := dt_rd I.hok (.inr ⟨ob, hb⟩)
  refine dictNeH (tupleKind_room_in1 (by omega)) sa sb da db (by omega) (fun _ => hits_of I (A := X.A.in1) (by show X.A.units + 1 + 64 < cLine; omega) hn rb k2 r2 ra k1 r1) ⟨.bl (!eqA l m), H, I, ?_, q⟩
  rw [len_kt ra k1, len_kt rb k2]
  rfl
theorem v_dic {K : PySem.W.Frag} {l m : List (List Int × β)} {neg : Bool} : RV2 K (rDic K f neg) (dicT f l) (dicT f m) (.bl (if neg then !eqA l m else eqA l m)) := rv_scal fun x y Hb H ex h1 h2 => by
  cases h1 with
  | @dic a oa ks vs _ _ a1 a2 a3 a4 =>
    subst a3
    cases h2 with
    | @dic b ob ls us _ _ b1 b2 b3 b4 =>
      subst b3
      exact ⟨.bl _, .bl _, fun Q q => ⟨a, b, oa, ob, ks, ls, l, m, rfl, rfl, ex _ _ a1, ex _ _ b1, a2, a4.mono ex, b2, b4.mono ex, q⟩⟩
end
end DL

namespace DL
open PySem PySem.Spec PyProof.Rows L2 Evl
/-! ### sorted(d), d a dict whose keys are tuples of ints -/
/-- what is gathered, with the place of the list that holds it -/
theorem collectLt {prog : Program} {w : World} {A : Around} {E : Value → Shared → Prop} {s : Shared} {T : String} {r d : Addr} {n : Nat} {P : Nat → Value → Prop} {OK : Heap → Prop} {R : List Value → Shared → Prop} (K : PySem.W.KdlSrc prog w T r d n P OK) (hh : A.handled = none) (hok : OK s.heap) (hn : n ≤ sizeLine)
    (h : ∀ (h' : Heap) (tk : Nat) (acc : Array Value), s.heap.objs.size < h'.objs.size → (∀ b o, s.heap.get? b = some o → h'.get? b = some o) → PySem.ItemsOf P acc n → R acc.toList { s with heap := h', toks := tk }) :
    wpAny (model prog w) A (collect (.ref r)) R E s := by
  have hlt := K.there _ hok
  unfold collect
  refine wpAny_bind (wpAny_runValue (codeAny_builtin entry_proto_collect' ?_))
  rw [Around.under_plainId PySem.F.plain_proto_collect _]
  show wpAny _ A.in1 (newList [] >>= fun l => again (.builtin "list.__iadd__" ⟨[l, .ref r], []⟩)) _ _ s
  refine wpAny_bind (wpAny_newObj_type ?_)
  refine wpAny_pure ⟨plainId_quiet PySem.F.plain_list_iadd _, codeAny_builtin entry_list_iadd' ?_⟩
  rw [Around.under_plainId PySem.F.plain_list_iadd _]
  have hS₁ : (s.heap.push { cls := .type "list", data := .seq ([] : List Value).toArray }).get? s.heap.objs.size = some { cls := .type "list", data := .seq #[] } := Heap.get?_push_size _ rfl
  show wpAny _ A.in1 (Builtin.List.listExtendWith (.ref s.heap.objs.size) (.ref r) (.ref s.heap.objs.size)) _ _ _
  have key := PySem.W.kdl_extend (A := A) (s := { s with heap := s.heap.push { cls := .type "list", data := .seq ([] : List Value).toArray } })
    (R := fun (q : Result) (s' : Shared) => ∃ (h' : Heap) (tk : Nat) (acc' : Array Value) (c' : Nat), q = .ok (.ret (.ref s.heap.objs.size)) ∧ s' = { s with heap := h', toks := tk } ∧
      (∀ b o, s.heap.get? b = some o → h'.get? b = some o) ∧ h'.get? s.heap.objs.size = some { cls := .type "list", dict := none, data := .seq acc' c', slots := #[] } ∧ PySem.ItemsOf P acc' n)
    K hh (K.keep _ _ hok fun b _ o e => Heap.get?_push_of_some _ e) s.heap.objs.size (Nat.ne_of_gt hlt.1) (Nat.ne_of_gt hlt.2) (.ref s.heap.objs.size) 0 hS₁
    (fun h' tk acc' c' hk hS' hacc => ⟨h', tk, acc', c', rfl, rfl, fun b o e => hk b o (Nat.ne_of_lt (Heap.lt_size e)) (Heap.get?_push_of_some _ e), hS', hacc⟩) hn
  refine wpAny_mono key (fun fin s' x => ?_) fun e s' x => ?_
  · cases fin with
    | done f =>
      obtain ⟨h', tk, acc', c', e, rfl, hk, hS', hacc⟩ := x
      cases e
      show wpAny _ A (load s.heap.objs.size >>= _) _ _ _
      exact wpAny_bind (wpAny_load hS' (wpAny_pure (h h' tk acc' (Heap.lt_size hS') hk hacc)))
    | again c₁ =>
      refine ⟨x.1, codeAny_mono x.2 fun q s₂ y => ?_⟩
      obtain ⟨h', tk, acc', c', rfl, rfl, hk, hS', hacc⟩ := y
      show wpAny _ A (load s.heap.objs.size >>= _) _ _ _
      exact wpAny_bind (wpAny_load hS' (wpAny_pure (h h' tk acc' (Heap.lt_size hS') hk hacc)))
  · obtain ⟨_, _, _, _, e', _⟩ := x
    cases e'
section
variable {X : Cx}
def rSortDic (K : PySem.W.Frag) : List V → Hp → VK → Prop := fun vs H Q => ∃ (d : Addr) (ob : Obj) (kvs : List (List Key × V)) (ks : List (List Int)), vs = [.ref d] ∧ H d = some (.frz ob (.dT kvs)) ∧ kvs.map (·.1) = ks.map keyI ∧ (∀ k ∈ ks, k ≠ []) ∧
  ∀ (p : Addr) (zs : List (List Int × V)), H p = none → zs.map (·.1) = sortD (tT D.int) ks → (∀ z ∈ zs, ∃ q, z.2 = .ref q ∧ H q = some (.tup (z.1.map V.int))) → Q (.ref p) (upd H p (.lst (zs.map (·.2))))
theorem keys_zip {H : Hp} : ∀ {ks : List (List Int)} {acc : List Value}, acc.length = ks.length → (∀ (i : Nat) (k : List Int) (v : Value), ks[i]? = some k → acc[i]? = some v → ∃ q, v = .ref q ∧ H q = some (.tup (k.map V.int))) → ∃ zs : List (List Int × V), zs.map (·.1) = ks ∧ Vals (zs.map (·.2)) acc ∧ ∀ z ∈ zs, ∃ q, z.2 = .ref q ∧ H q = some (.tup (z.1.map V.int))
  | [], [], _, _ => ⟨[], rfl, .nil, fun z hz => nomatch hz⟩
  | [], _ :: _, h, _ => by cases h
  | _ :: _, [], h, _ => by cases h
  | k :: ks, v :: acc, h, f => by
    obtain ⟨zs, e1, e2, e3⟩ := keys_zip (H := H) (ks := ks) (acc := acc) (by simpa using h) fun i k v h1 h2 => f (i + 1) k v (by simpa using h1) (by simpa using h2)
    obtain ⟨q, rfl, hq⟩ := f 0 k v rfl rfl
    refine ⟨(k, .ref q) :: zs, by rw [List.map_cons, e1], .cons rfl e2, fun z hz => ?_⟩
    rcases List.mem_cons.mp hz with rfl | hz
    · exact ⟨q, rfl, hq⟩
    · exact e3 z hz
theorem cr_sortedDic (hc : X.calm = true) (hu : X.A.units + 65 < cLine) : CallR X (.builtin "sorted") (rSortDic X.K) := by
  intro pins s σ H vs us Q I r h
  obtain ⟨d, ob, kvs, ks, rfl, hd, hk, hne, q⟩ := h
  obtain rfl := Vals.ref1 r
  obtain ⟨hs, hgd, hx, es, ep, hdt, hsz, ent⟩ := I.frzT hd
  obtain ⟨hz, _⟩ := dt_rd I.hok (.inr ⟨ob, hd⟩)
  have hl : kvs.length = ks.length := by
    have := congrArg List.length hk
    rwa [List.length_map, List.length_map] at this
  refine Calls.call_function_entry kind_sorted plain_sorted entry_sorted (args_sorted1 _) ?_
  unfold Builtin.«sorted»
  refine wpAny_bind (m := checkCount "sorted" 1 1 _) (wpAny_pure ?_)
  refine wpAny_bind (collectLt (A := X.A.in1) (kdl_raw hs hx hdt) (I.ok.hd hc) hgd (by omega) fun h' tk acc hlt0 kp hacc => ?_)
  obtain ⟨zs, z1, z2, z3⟩ := keys_zip (H := H) (ks := ks) (acc := acc.toList) (by rw [Array.length_toList, hacc.1]; omega) fun i k v h1 h2 => by
    rw [Array.getElem?_toList] at h2
    obtain ⟨en, e1, e2⟩ := hacc.2 i v h2
    have h3 : (kvs.map (·.1))[i]? = some (keyI k) := by rw [hk, List.getElem?_map, h1]; rfl
    rw [List.getElem?_map] at h3
    obtain ⟨⟨k', v'⟩, h4, h5⟩ := Option.map_eq_some_iff.mp h3
    obtain ⟨en', b, hen, hkey, hb⟩ := ent i k' v' h4
    rw [e1] at hen
    cases hen
    have h5 : k' = keyI k := h5
    subst h5
    rw [keyI_kV] at hb
    exact ⟨b, e2.trans (show en.key = Value.ref b from hkey), hb⟩
  have hzl : zs.length = ks.length := by rw [← z1, List.length_map]
  have hdp : ∀ z ∈ zs, Dp X.K H z.2 (tT D.int z.1).py := fun z hz => by
    obtain ⟨b, e1, e2⟩ := z3 z hz
    rw [e1]
    exact (DR.tup e2 (drs_ints _) : DR X.K H (.ref b) (tT D.int z.1)).dp (n := 1) (Enc.ok (f := tT D.int) z.1)
  obtain ⟨e1, e2⟩ := each_of (f := tT D.int) I z2 hdp
  have em : zs.map (fun z => (tT D.int z.1).py) = ks.map fun x => (tT D.int x).py := by
    rw [← z1, List.map_map]
    rfl
  refine wpAny_bind (wpAny_newList ?_ (by rw [Array.length_toList, hacc.1]; omega))
  have ho : (h'.push (seqObj "list" acc.toList.toArray 0)).get? h'.objs.size = some (seqObj "list" acc.toList.toArray 0) := Heap.get?_push_size _ rfl
  have hlt : ∀ {b : Addr} {o : Obj}, s.heap.get? b = some o → (PySem.W.sortingHeap (h'.push (seqObj "list" acc.toList.toArray 0)) h'.objs.size acc.toList).get? b = some o := fun {b o} e =>
    PySem.W.sortingHeap_old (Nat.ne_of_lt (Heap.lt_size (kp _ _ e))) (Heap.get?_push_of_some _ (kp _ _ e))
  have er' : PySem.W.EachIs (fun v (b : List Int × V) => ∃ as, Reads (PySem.W.sortingHeap (h'.push (seqObj "list" acc.toList.toArray 0)) h'.objs.size acc.toList) v (tT D.int b.1).py as) acc.toList zs := e2.mono fun _ _ ⟨as, r⟩ => ⟨as, PyProof.Rows.Reads.keeps (fun _ _ => hlt) r⟩
  have hal : PySem.W.AllAlike (zs.map fun z => (tT D.int z.1).py) := by
    rw [em]
    exact PySem.W.AllAlike.of (fun l m => Alk.al (f := tT D.int) l m)
  have hso : PySem.W.Sortable (zs.map fun z => (tT D.int z.1).py) := by
    rw [em]
    exact so_tup hne
  refine wpAny_bind (wpAny_holding (wpAny_call_entry slot_list_sort ⟨_, ho, rfl⟩ entry_list_sort (PySem.W.list_sort_vals (κ := PySem.W.dataKind (PySem.W.sortingHeap (h'.push (seqObj "list" acc.toList.toArray 0)) h'.objs.size acc.toList) (zs.map fun z => (tT D.int z.1).py)) ho (PySem.W.SortsAt.data (s := { s with heap := PySem.W.sortingHeap (h'.push (seqObj "list" acc.toList.toArray 0)) h'.objs.size acc.toList, toks := tk }) (PySem.W.each_map (R := fun v d => ∃ as, Reads (PySem.W.sortingHeap (h'.push (seqObj "list" acc.toList.toArray 0)) h'.objs.size acc.toList) v d as) (fun z : List Int × V => (tT D.int z.1).py) er') hal hso (PySem.W.bound_map fun b hb => ?_)) (by rw [Array.length_toList, hacc.1]; omega) ⟨.none, rfl, ?_⟩) (args_list_sort _)))
  · have := (ok_depth (Enc.ok (f := tT D.int) b.1)).2
    show X.A.units + 1 + 1 + _ < cLine
    omega
  · have eo := PySem.W.sortVals_data (enc := fun z : List Int × V => (tT D.int z.1).py) false e1 er' hal
    have hn : H h'.objs.size = none := I.hok.fresh (Nat.le_of_lt hlt0)
    generalize PySem.W.sortVals (PySem.W.dataKind (PySem.W.sortingHeap (h'.push (seqObj "list" acc.toList.toArray 0)) h'.objs.size acc.toList) (zs.map fun z => (tT D.int z.1).py)) false acc.toList acc.toList = out at eo ⊢
    obtain ⟨c, hc'⟩ := PyProof.Rows.sortedHeap_at (vs := acc.toList) (out := out.toArray) ho
    have es : (zs.mergeSort (PySem.W.dataLe false fun z => (tT D.int z.1).py)).map (·.1) = sortD (tT D.int) ks := by
      have z := PySem.W.sort_maps (r := PySem.W.dataLe false fun z : List Int × V => (tT D.int z.1).py) (s := leD (tT D.int)) (fun z : List Int × V => z.1) (l := zs) (fun _ _ _ _ => rfl)
      rw [z1] at z
      exact z
    have hlen' : ((zs.mergeSort (PySem.W.dataLe false fun z => (tT D.int z.1).py)).map (·.2)).length ≤ sizeLine := by
      rw [List.length_map, List.length_mergeSort]
      omega
    refine wpAny_pure ⟨_, rfl, .ref h'.objs.size, upd H h'.objs.size (.lst ((zs.mergeSort (PySem.W.dataLe false fun z => (tT D.int z.1).py)).map (·.2))), I.laid (t' := tk) (fun b u e => ?_) (Nat.le_of_lt hlt0) ⟨hlen', out, c, vals_each eo, hc'⟩, rfl, q _ _ hn es fun z hz => z3 z (List.mem_mergeSort.mp hz)⟩
    have q1 := kp b u e
    have h1 := Heap.lt_size q1
    show (sortedHeap (h'.push (seqObj "list" acc.toList.toArray 0)) h'.objs.size acc.toList out.toArray).get? b = some u
    rw [sortedHeap_old (Nat.ne_of_lt h1) (by rw [size_push']; exact Nat.lt_succ_of_lt h1)]
    exact Heap.get?_push_of_some _ q1
/-- tuples that are tracked become data -/
theorem adopt {K : PySem.W.Frag} {H : Hp} : ∀ {zs : List (List Int × V)} {Hb : Hp}, Ex Hb H → (∀ z ∈ zs, ∃ q, z.2 = .ref q ∧ H q = some (.tup (z.1.map V.int))) → ∃ Hb', New Hb H Hb' H ∧ DRs K Hb' (zs.map (·.2)) ((zs.map (·.1)).map (tT D.int))
  | [], Hb, e, _ => ⟨Hb, Gr.refl e, .nil⟩
  | z :: zs, Hb, e, h => by
    obtain ⟨Hb1, n1, r1⟩ := adopt (K := K) (zs := zs) e fun y hy => h y (List.mem_cons_of_mem _ hy)
    obtain ⟨q, e1, e2⟩ := h z (List.mem_cons_self ..)
    have e1' : Ex Hb1 H := n1.s
    by_cases w : Hb1 q = none
    · have n2 : New Hb1 H (upd Hb1 q (.tup (z.1.map V.int))) H := ⟨Ex.new w, fun _ _ a _ => a, fun _ a => a, fun b o a => by
        by_cases y : b = q
        · subst y; rw [upd_same] at a; cases a; exact e2
        · rw [upd_ne y] at a; exact e1' _ _ a, fun b a t _ => upd_ne fun y => by subst y; exact t _ e2⟩
      refine ⟨_, n1.then n2, .cons ?_ (r1.mono (Ex.new w))⟩
      show DR K _ z.2 _
      rw [e1]
      exact .tup upd_same (drs_ints _)
    · cases y : Hb1 q with
      | none => exact absurd y w
      | some o =>
        have := e1' _ _ y
        rw [e2] at this
        cases this
        refine ⟨Hb1, n1, .cons ?_ r1⟩
        show DR K _ z.2 _
        rw [e1]
        exact .tup y (drs_ints _)
variable {Γ : List Sl} {m : Bool} {e : Expr} {pos p : Pos} {β : Type} {f : β → D}
theorem xo_sortedDic {l : List (List Int × β)} (h : XV X e Γ (dicT f l)) (hne : ∀ p ∈ l, p.1 ≠ []) (hu : X.A.units + 65 < cLine) (hm : X.mg "sorted" = none) (hc : X.calm = true := by rfl) (hg : Gl X "sorted" := by rfl) (hs : starEach (e :: []) X.env = (false, eval e X.env) :: starEach [] X.env := by rfl) (hpl : (backTo pos (starEach [] X.env)).any (·.1) = false := by rfl) : XO X (.Call (.Name "sorted" p) [e] [] pos) Γ (.ml ((sortD (tT D.int) (l.map fun p => p.1)).map (tT D.int))) :=
  xn_of (pe_callB (cr_sortedDic hc hu) hg hm (by decide +kernel) (pa_cons pe_wp pa_nil hs) (by decide) (by decide) hs hpl) fun σ Hb H E Q q => h σ Hb H E _ fun v d Hb1 H1 p1 g1 E1 r1 => by
    subst p1
    cases r1 with
    | @dic a ob kvs vs _ _ h1 h2 h3 h4 =>
      refine ⟨a, ob, kvs, l.map (fun p => p.1), rfl, E1.ex _ _ h1, by rw [h2, List.map_map]; rfl, fun k hk => ?_, fun p zs hp z1 z2 => ?_⟩
      · obtain ⟨x, hx, rfl⟩ := List.mem_map.mp hk
        exact hne x hx
      · obtain ⟨Hb2, n2, r2⟩ := adopt (K := X.K) (zs := zs) E1.ex z2
        have E2 := E1.new n2
        rw [← z1] at q
        exact q p (.lst (zs.map (·.2))) _ Hb2 _ rfl (new_none g1 hp) (gwn (gwn g1 n2) (New.side E2.ex hp)) (E2.new (New.side E2.ex hp)) (fresh_back E2.ex hp) upd_same ⟨_, rfl, r2⟩
end
end DL

namespace DL
open PySem PySem.Spec PyProof.Rows L2 Evl
/-! ### sorted(t), t a tuple -/
theorem collectTup {prog : Program} {w : World} {A : Around} {E : Value → Shared → Prop} {s : Shared} {l : Addr} {vs : List Value} {Q : List Value → Shared → Prop} {o : Obj} {n : Nat} (ho : s.heap.get? l = some o) (hc : o.cls = .type "tuple") (hd : o.data = .seq vs.toArray n)
    (h : Q vs { s with heap := (s.heap.push (seqObj "list" #[] 0)).update s.heap.objs.size (Obj.mapSeq (· ++ vs.toArray)) }) (hsz : vs.length ≤ sizeLine) :
    wpAny (model prog w) A (collect (.ref l)) Q E s := by
  unfold collect
  refine wpAny_bind (wpAny_runValue (codeAny_builtin entry_proto_collect' ?_))
  show wpAny _ _ (do again (.builtin "list.__iadd__" ⟨[← newList [], .ref l], []⟩)) _ _ s
  refine wpAny_bind (wpAny_newList (wpAny_pure ⟨Code.quiet_builtin _ (by decide +kernel), codeAny_builtin entry_list_iadd' ?_⟩))
  show wpAny _ _ (Builtin.List.listExtendWith (.ref s.heap.objs.size) (.ref l) (.ref s.heap.objs.size)) _ _ { s with heap := s.heap.push (seqObj "list" #[] 0) }
  unfold Builtin.List.listExtendWith
  have ho' : (s.heap.push (seqObj "list" #[] 0)).get? l = some o := Heap.get?_push_of_some _ ho
  refine wpAny_bind (wpAny_typeOf (T := "tuple") ⟨o, ho', hc⟩ ?_)
  have ht : (Value.type "tuple" == Value.type "tuple") = true := by rfl
  rw [if_pos (by rw [ht]; simp)]
  refine wpAny_bind (listItems_at ho' hd ?_)
  refine wpAny_bind (listItems_at (xs := #[]) (n := 0) (Heap.get?_push_size _ rfl) rfl ?_)
  rw [if_neg (by simp)]
  refine wpAny_bind (listUpdate_at (xs := #[]) (n := 0) (Heap.get?_push_size _ rfl) rfl ?_ (Nat.zero_le _) (by show (#[] ++ vs.toArray).size ≤ sizeLine + 1; simp only [Array.size_append, List.size_toArray, List.length_nil]; omega))
  refine wpAny_pure ?_
  show wpAny (model prog w) A (do
      let o ← load s.heap.objs.size
      match o.data with
      | .seq xs _ => pure xs.toList
      | _ => unsupported "internal:collect") Q E { s with heap := (s.heap.push (seqObj "list" #[] 0)).update s.heap.objs.size (Obj.mapSeq (· ++ vs.toArray)) }
  refine wpAny_bind (wpAny_load (get?_update_seq (Heap.get?_push_size _ rfl) _) ?_)
  show wpAny _ _ (pure ((#[] : Array Value) ++ vs.toArray).toList) Q E _
  rw [show ((#[] : Array Value) ++ vs.toArray).toList = vs by simp]
  exact wpAny_pure h
section
variable {X : Cx}
def rSortTup {α : Type} (K : PySem.W.Frag) (f : α → D) : List V → Hp → VK → Prop := fun vs H Q => ∃ (a : Addr) (zs : List (α × V)) (n : Nat), vs = [.ref a] ∧ H a = some (.tup (zs.map (·.2))) ∧ (∀ z ∈ zs, Dp K H z.2 (f z.1).py ∧ (f z.1).py.depth ≤ n) ∧ n ≤ 60 ∧ PySem.W.AllAlike (zs.map fun z => (f z.1).py) ∧ PySem.W.Sortable (zs.map fun z => (f z.1).py) ∧
  ∀ p, H p = none → Q (.ref p) (upd H p (.lst ((zs.mergeSort (PySem.W.dataLe false fun z => (f z.1).py)).map (·.2))))
theorem cr_sortTup {α : Type} {f : α → D} (hu : X.A.units + 65 < cLine) : CallR X (.builtin "sorted") (rSortTup X.K f) := by
  intro pins s σ H vs us Q I r h
  obtain ⟨a, zs, n, rfl, ha, hd, hn, hal, hso, q⟩ := h
  obtain rfl := Vals.ref1 r
  obtain ⟨hz, its, rv, o, ho0, hcl, c0, hdat⟩ := (show ObjOk X.prog X.w H s.heap a (.tup (zs.map (·.2))) from I.hok a _ ha)
  have hlen : its.length = zs.length := by have := rv.length; rw [List.length_map] at this; omega
  rw [List.length_map] at hz
  refine Calls.call_function_entry kind_sorted plain_sorted entry_sorted (args_sorted1 _) ?_
  unfold Builtin.«sorted»
  refine wpAny_bind (m := checkCount "sorted" 1 1 _) (wpAny_pure ?_)
  refine wpAny_bind (collectTup (A := X.A.in1) (vs := its) ho0 hcl hdat ?_ (by omega))
  generalize hh : (s.heap.push (seqObj "list" #[] 0)).update s.heap.objs.size (Obj.mapSeq (· ++ its.toArray)) = h'
  have hlt0 : s.heap.objs.size < h'.objs.size := by
    rw [← hh, Heap.size_update, size_push']
    exact Nat.lt_succ_self _
  have kp : ∀ b o, s.heap.get? b = some o → h'.get? b = some o := fun b o e => by
    rw [← hh, Heap.get?_update_ne _ _ _ _ (Nat.ne_of_lt (Heap.lt_size e))]
    exact Heap.get?_push_of_some _ e
  clear hh
  obtain ⟨e1, e2⟩ := each_of (f := f) I rv fun z hz => (hd z hz).1
  refine wpAny_bind (wpAny_newList ?_ (by omega))
  have ho : (h'.push (seqObj "list" its.toArray 0)).get? h'.objs.size = some (seqObj "list" its.toArray 0) := Heap.get?_push_size _ rfl
  have hlt : ∀ {b : Addr} {o : Obj}, s.heap.get? b = some o → (PySem.W.sortingHeap (h'.push (seqObj "list" its.toArray 0)) h'.objs.size its).get? b = some o := fun {b o} e =>
    PySem.W.sortingHeap_old (Nat.ne_of_lt (Heap.lt_size (kp _ _ e))) (Heap.get?_push_of_some _ (kp _ _ e))
  have er' : PySem.W.EachIs (fun v (b : α × V) => ∃ as, Reads (PySem.W.sortingHeap (h'.push (seqObj "list" its.toArray 0)) h'.objs.size its) v (f b.1).py as) its zs := e2.mono fun _ _ ⟨as, r⟩ => ⟨as, PyProof.Rows.Reads.keeps (fun _ _ => hlt) r⟩
  refine wpAny_bind (wpAny_holding (wpAny_call_entry slot_list_sort ⟨_, ho, rfl⟩ entry_list_sort (PySem.W.list_sort_vals (κ := PySem.W.dataKind (PySem.W.sortingHeap (h'.push (seqObj "list" its.toArray 0)) h'.objs.size its) (zs.map fun z => (f z.1).py)) ho (PySem.W.SortsAt.data (s := { s with heap := PySem.W.sortingHeap (h'.push (seqObj "list" its.toArray 0)) h'.objs.size its }) (PySem.W.each_map (R := fun v d => ∃ as, Reads (PySem.W.sortingHeap (h'.push (seqObj "list" its.toArray 0)) h'.objs.size its) v d as) (fun z : α × V => (f z.1).py) er') hal hso (PySem.W.bound_map fun b hb => ?_)) (by omega) ⟨.none, rfl, ?_⟩) (args_list_sort _)))
  · have := (hd b hb).2
    show X.A.units + 1 + 1 + _ < cLine
    omega
  · have eo := PySem.W.sortVals_data (enc := fun z : α × V => (f z.1).py) false e1 er' hal
    have hn : H h'.objs.size = none := I.hok.fresh (Nat.le_of_lt hlt0)
    generalize PySem.W.sortVals (PySem.W.dataKind (PySem.W.sortingHeap (h'.push (seqObj "list" its.toArray 0)) h'.objs.size its) (zs.map fun z => (f z.1).py)) false its its = out at eo ⊢
    obtain ⟨c, hc'⟩ := PyProof.Rows.sortedHeap_at (vs := its) (out := out.toArray) ho
    have hlen' : ((zs.mergeSort (PySem.W.dataLe false fun z => (f z.1).py)).map (·.2)).length ≤ sizeLine := by
      rw [List.length_map, List.length_mergeSort]
      omega
    refine wpAny_pure ⟨_, rfl, .ref h'.objs.size, upd H h'.objs.size (.lst ((zs.mergeSort (PySem.W.dataLe false fun z => (f z.1).py)).map (·.2))), I.laid (t' := s.toks) (fun b u e => ?_) (Nat.le_of_lt hlt0) ⟨hlen', out, c, vals_each eo, hc'⟩, rfl, q _ hn⟩
    have q1 := kp b u e
    have h1 := Heap.lt_size q1
    show (sortedHeap (h'.push (seqObj "list" its.toArray 0)) h'.objs.size its out.toArray).get? b = some u
    rw [sortedHeap_old (Nat.ne_of_lt h1) (by rw [size_push']; exact Nat.lt_succ_of_lt h1)]
    exact Heap.get?_push_of_some _ q1
theorem l_sortedTup {K : PySem.W.Frag} {α : Type} [DecidableEq α] {f : α → D} {n : Nat} [he : Enc f n] [ha : Alk f] {xs : List α} (hso : PySem.W.Sortable (xs.map fun x => (f x).py)) (hn : n ≤ 60 := by decide) : RLN K (rSortTup K f) [tT f xs] fun z => z = .ml ((sortD f xs).map f) := fun vs Hb H ex h1 Q q => by
  obtain ⟨v, rfl, r⟩ := h1.one_inv
  cases r with
  | @tup a ws _ hb k =>
    obtain ⟨e1, e2, e3⟩ := zip_snd k
    have em : (xs.zip ws).map (fun z => (f z.1).py) = xs.map fun x => (f x).py := by
      rw [← e2, List.map_map, e2]
      rfl
    refine ⟨a, xs.zip ws, n, rfl, by rw [e1]; exact ex _ _ hb, fun z hz => ⟨((e3 z hz).mono ex).dp (he.ok z.1), (ok_depth (he.ok z.1)).2⟩, hn, ?_, by rw [em]; exact hso, fun p hp => ?_⟩
    · rw [em]
      exact PySem.W.AllAlike.of ha.al
    · have es : ((xs.zip ws).mergeSort (PySem.W.dataLe false fun z => (f z.1).py)).map (·.1) = sortD f xs := by
        have z := PySem.W.sort_maps (r := PySem.W.dataLe false fun z : α × V => (f z.1).py) (s := leD f) (fun z : α × V => z.1) (l := xs.zip ws) (fun _ _ _ _ => rfl)
        rw [e2] at z
        exact z
      refine q p _ _ Hb _ rfl hp (New.side ex hp) (fresh_back ex hp) upd_same ⟨_, rfl, ?_⟩
      rw [← es]
      exact drs_zip fun z hz => e3 z (List.mem_mergeSort.mp hz)
variable {Γ : List Sl} {m : Bool} {a e : Expr} {pos p : Pos} {α : Type}
theorem xo_sortedTup [DecidableEq α] {f : α → D} {n : Nat} [Enc f n] [Alk f] {l : List α} (h : XV X a Γ (tT f l)) (hso : PySem.W.Sortable (l.map fun x => (f x).py)) (hu : X.A.units + 65 < cLine) (hm : X.mg "sorted" = none) (hn : n ≤ 60 := by decide) (hg : Gl X "sorted" := by rfl) (hs : starEach (a :: []) X.env = (false, eval a X.env) :: starEach [] X.env := by rfl) (hpl : (backTo pos (starEach [] X.env)).any (·.1) = false := by rfl) : XO X (.Call (.Name "sorted" p) [a] [] pos) Γ (.ml ((sortD f l).map f)) := xn_callB (cr_sortTup (f := f) hu) hm (by decide +kernel) (xl_cons h xa_nil hs) (fun _ z => by rw [z]; exact l_sortedTup hso hn) hg (by decide) (by decide) hs hpl
end
end DL

namespace DL
open PySem PySem.Spec PyProof.Rows L2 Evl
section
variable {X : Cx} {kp : Nat} {Γ : List Sl} {G : Dn} {m : Bool} {a b e : Expr} {pos pos' : Pos} {x : Str} {Φ : D → Prop}
/-- xs[i], i drawn, of what i may be -/
theorem xe_ixP {α : Type} {f : α → D} {l : List α} {P : Int → Prop} {Ψ : D → Prop} (ha : XV X a Γ (lT f l)) (hb : XE X m b Γ fun d => ∃ v, d = .int v ∧ P v) (h : ∀ v, P v → ∃ x, atI l v = some x ∧ Ψ (f x)) (hs : PlainIx b := by exact fun _ _ => rfl) : XE X m (.Subscript a b pos) Γ Ψ :=
  xe_ix ix_list ha.up (fun _ _ => hb) (fun d e h1 ⟨v, h2, h3⟩ => by
    subst h1 h2
    obtain ⟨x, k1, k2⟩ := h v h3
    have z : RV2 X.K (rIxL X.K) (lT f l) (.int v) (f x) := v_ixLT k1
    exact fun x' y Hb H ex r1 r2 Q q => z x' y Hb H ex r1 r2 Q fun z' d' Hb' H' e => q z' d' Hb' H' (by rw [e]; exact k2)) hs
/-- xs[i] = e, i drawn -/
theorem js_setLD {K : PySem.W.Frag} {te tj : TE} {i : Nat} {L : Int} {ds : List D} (h : Γ[i]? = some (.ow (.ml ds))) (he : JR K m te Γ Φ) (hj : JR K m tj Γ (dInt L)) (hL : L ≤ ds.length) (k : ∀ d (j : Nat), Φ d → j < ds.length → G.nx (Γ.set i (.ow (.ml (ds.set j d))))) : JS K kp (tAsg te (gSub (tVar i) tj rSetL)) Γ G := fun σ Hb H E F a b c d => he σ Hb H E _ fun v z Hb1 H1 y g1 E1 r => by
  obtain ⟨p, vs, h1, h2, h3, h4⟩ := E1.own_at h
  refine ⟨.ref p, h1, hj σ Hb1 H1 E1 _ fun v2 z2 Hb2 H2 y2 g2 E2 r2 => ?_⟩
  obtain ⟨n, rfl, n0, n1⟩ := y2
  cases r2
  obtain ⟨p', ws, k1, k2, k3, k4⟩ := E2.own_at h
  rw [h1] at k1
  cases k1
  have hn : ixN ds.length n = some n.toNat := by
    unfold ixN
    rw [if_pos n0, if_pos (by omega)]
  exact ⟨p, ws, n, n.toNat, rfl, rfl, k3, by rw [k4.len]; exact hn, a _ _ _ _ (k z n.toNat y (by omega)) ((GS.of (gww g1 g2) E2).trans (GS.put E2 h h1 ⟨_, rfl, k4.set (r.mono g2.b) n.toNat⟩))⟩
theorem xs_setOD (i : Nat) {L : Int} {ds : List D} {pos2 : Pos} (he : XE X m e Γ Φ) (hj : XE X m a Γ (dInt L)) (hL : L ≤ ds.length) (k : ∀ d (j : Nat), Φ d → j < ds.length → G.nx (Γ.set i (.ow (.ml (ds.set j d))))) (h : Γ[i]? = some (.ow (.ml ds)) := by rfl)
    (hps : PS X (.Assign [.Subscript (.Name x pos') a pos2] e pos) (tAsg (wpE X e) (gSub (tVar i) (wpE X a) rSetL)) := by exact ps_asg pe_wp (pg_sub (pe_var (by rfl) (by first | exact Or.inl rfl | exact Or.inr (Or.inl rfl) | exact Or.inr (Or.inr rfl))) pe_wp set_list)) :
    XS X kp (.Assign [.Subscript (.Name x pos') a pos2] e pos) Γ G := xs_of hps (js_setLD h he hj hL k)
end
theorem sm_oT {α : Type} {f : α → D} {o : Option α} {n : Nat} (h : ∀ x, o = some x → (f x).sm n) : (oT f o).sm n := by
  cases o with
  | none => exact sm_non
  | some x => exact h x rfl
theorem sm_pT {α β : Type} {f : α → D} {g : β → D} {p : α × β} {n : Nat} (h1 : (f p.1).sm n) (h2 : (g p.2).sm n) : (pT f g p).sm (n + 1) := ⟨(show (2 : Nat) ≤ 100000 by decide), fun d hd => by
  rcases List.mem_cons.mp hd with rfl | hd
  · exact h1
  · rw [List.mem_singleton.mp hd]; exact h2⟩
end DL

namespace DL
open PySem PySem.Spec PyProof.Rows L2 Evl
/-! ### isinstance(d, T), len(d), d.get(k) of a dict that is data -/
section
variable {X : Cx} {Γ : List Sl} {m : Bool} {a b e : Expr} {es : List Expr} {pos p pt apos : Pos} {β : Type} {f : β → D}
def rIsiDic : List V → Hp → VK → Prop := fun xs H Q => ∃ (d : Addr) (ob : Obj) (kvs : List (List Key × V)) (T : String) (b : Bool), xs = [.ref d, .ty T] ∧ H d = some (.frz ob (.dT kvs)) ∧ kitB "dict" T = some b ∧ Q (.bl b) H
theorem call_isiDic : CallR X (.builtin "isinstance") rIsiDic := by
  intro pins s σ H xs us Q I r h
  obtain ⟨d, ob, kvs, T, b, rfl, hd, e, q⟩ := h
  obtain ⟨u1, u2, rfl, r1, r2⟩ := vals2 r
  cases (show u1 = Value.ref d from r1)
  cases (show u2 = Value.type T from r2)
  obtain ⟨_, _, ys, _, o, es, ep, h1, h2, _⟩ := dt_rd I.hok (.inr ⟨ob, hd⟩)
  exact PySem.W.kia_one PySem.W.kitx_dict I.kIn ⟨o, h1, h2.1⟩ (kit_ty e) (fun z => nomatch z) fun tk => ⟨.bl b, H, I.tok tk, rfl, q⟩
theorem xv_isiD {ks : List (List Key)} {ds : List D} {r : Bool} (T : String) (ha : XV X a Γ (.dic ks ds)) (hm : X.mg "isinstance" = none) (hm2 : X.mg (Str.ofString T) = none) (h2 : kitB "dict" T = some r := by decide +kernel) (hv : bootBuiltins (Str.ofString T) = some (.type T) := by decide +kernel) (hb : bootBuiltins "isinstance" = some (.builtin "isinstance") := by decide +kernel)
    (hg : Gl X "isinstance" := by rfl) (hg2 : Gl X (Str.ofString T) := by rfl) (hn2 : (Str.ofString T) ≠ "__name__" := by decide) (hdb2 : ((Str.ofString T) == ("__debug__" : Str)) = false := by decide)
    (hs : starEach [a, .Name (Str.ofString T) pt] X.env = (false, eval a X.env) :: starEach [.Name (Str.ofString T) pt] X.env := by rfl) (hs2 : starEach [.Name (Str.ofString T) pt] X.env = (false, eval (.Name (Str.ofString T) pt) X.env) :: starEach [] X.env := by rfl) (hpl : (backTo pos (starEach [.Name (Str.ofString T) pt] X.env)).any (·.1) = false := by rfl) : XV X (.Call (.Name "isinstance" p) [a, .Name (Str.ofString T) pt] [] pos) Γ (.bl r) :=
  xe_of (pe_callB call_isiDic hg hm hb (pa_cons pe_wp (pa_cons (pe_bltn (v := .ty T) hg2 hm2 hv rfl hn2 hdb2) pa_nil hs2) hs) (by decide) (by decide) hs hpl) fun σ Hb H E Q q => ha σ Hb H E _ fun v d Hb1 H1 p1 g1 E1 r1 => by
    subst p1
    cases r1 with
    | @dic c ob kvs vs _ _ k1 k2 k3 k4 => exact ⟨c, ob, kvs, T, r, rfl, E1.ex _ _ k1, h2, q (.bl r) (.bl r) Hb1 H1 rfl g1 E1 (.bl r)⟩
def rLenDic : List V → Hp → VK → Prop := fun xs H Q => ∃ (d : Addr) (ob : Obj) (kvs : List (List Key × V)), xs = [.ref d] ∧ H d = some (.frz ob (.dT kvs)) ∧ Q (.int kvs.length) H
theorem call_lenDic : CallR X (.builtin "len") rLenDic := by
  intro pins s σ H xs us Q I r h
  obtain ⟨d, ob, kvs, rfl, hd, q⟩ := h
  obtain rfl := Vals.ref1 r
  obtain ⟨hz, hs, ys, hk, o, es, ep, h1, h2, h3, h4, _⟩ := dt_rd I.hok (.inr ⟨ob, hd⟩)
  have hl : es.size = kvs.length := (size_of_entries h4).trans (Paired.length hk).symm
  have hty : s.TypeIs (.ref d) "dict" := ⟨o, h1, h2.1⟩
  refine PyProof.Rows.call_len_slot (n := (kvs.length : Int)) hty PySem.F.slot_dict_len (fun Q' hq => PySem.call_len_raw hs ⟨o, h1, h2, h3⟩ (by rw [hl]; exact hq)) (by omega) (by rw [sizeLine_eq] at hz; omega) ⟨.int kvs.length, H, I.tok _, ⟨_, rfl⟩, q⟩
theorem xv_lenD {l : List (List Int × β)} (h : XV X a Γ (dicT f l)) (hm : X.mg "len" = none) (hg : Gl X "len" := by rfl) (hs : starEach (a :: []) X.env = (false, eval a X.env) :: starEach [] X.env := by rfl) (hpl : (backTo pos (starEach [] X.env)).any (·.1) = false := by rfl) : XV X (.Call (.Name "len" p) [a] [] pos) Γ (.int l.length) :=
  xe_of (pe_callB call_lenDic hg hm PySem.boot_len (pa_cons pe_wp pa_nil hs) (by decide) (by decide) hs hpl) fun σ Hb H E Q q => h σ Hb H E _ fun v d Hb1 H1 p1 g1 E1 r1 => by
    subst p1
    cases r1 with
    | @dic c ob kvs vs _ _ k1 k2 k3 k4 =>
      have e := congrArg List.length k2
      rw [List.length_map, List.length_map] at e
      exact ⟨c, ob, kvs, rfl, E1.ex _ _ k1, by rw [e]; exact q (.int l.length) (.int l.length) Hb1 H1 rfl g1 E1 (.int _)⟩
theorem get_none : ∀ {kvs : List (List Key × V)} {l : List (List Int × β)}, kvs.map (·.1) = l.map (fun p => keyI p.1) → ∀ {k : List Int}, getA l k = none → valV kvs (keyI k) = none
  | [], [], _, _, _ => rfl
  | [], _ :: _, h, _, _ => by cases h
  | _ :: _, [], h, _, _ => by cases h
  | p :: kvs, q :: l, h, k, e => by
    have h1 : p.1 = keyI q.1 := (List.cons.inj h).1
    unfold getA at e
    by_cases z : q.1 = k
    · rw [List.find?_cons_of_pos (by simp [z])] at e
      cases e
    · rw [List.find?_cons_of_neg (by simp [z])] at e
      exact (valV_neg fun y => z (keyI_inj (h1.symm.trans y))).trans (get_none (List.cons.inj h).2 e)
/-- d.get(k) -/
theorem xv_getm {l : List (List Int × β)} {k : List Int} (ha : XV X a Γ (dicT f l)) (hb : XV X b Γ (tT D.int k)) (hu : X.A.units + 65 < cLine) (hm1 : M1 X a "get" apos b pos := by exact ⟨rfl, rfl, rfl, rfl⟩) : XV X (.Call (.Attribute a "get" apos) [b] [] pos) Γ (oT f (getA l k)) :=
  xe_of (pe_dget1 (by omega) pe_wp pe_wp hm1) fun σ Hb H E Q q => ha σ Hb H E _ fun v d Hb1 H1 p1 g1 E1 r1 => by
    subst p1
    cases r1 with
    | @dic p ob kvs vs _ _ h1 h2 h3 h4 =>
      subst h3
      refine ⟨p, rfl, .inr ⟨kvs, .inr ⟨ob, E1.ex _ _ h1⟩⟩, hb σ Hb1 H1 E1 _ fun v2 d2 Hb2 H2 p2 g2 E2 r2 => ?_⟩
      subst p2
      obtain ⟨c, rfl, hc⟩ := key_at E2.ex r2
      cases e : getA l k with
      | none => exact ⟨none, .inr ⟨kvs, keyI k, c, .inr ⟨ob, E2.ex _ _ (g2.b _ _ h1)⟩, rfl, hc, (get_none h2 e).symm⟩, q .non .non Hb2 H2 (by rw [e]; rfl) (gww g1 g2) E2 .non⟩
      | some y =>
        obtain ⟨w, e1, e2⟩ := dv_get h2 (h4.mono g2.b) e
        exact ⟨some w, .inr ⟨kvs, keyI k, c, .inr ⟨ob, E2.ex _ _ (g2.b _ _ h1)⟩, rfl, hc, e1.symm⟩, q w (f y) Hb2 H2 (by rw [e]; rfl) (gww g1 g2) E2 e2⟩
/-! ### an owned dict looked at -/
theorem borrowD {K : PySem.W.Frag} {σ : L2.St} {Hb H : Hp} {i : Nat} {l : List (List Int × β)} (E : En K Hb H σ Γ) (hi : Γ[i]? = some (.ow (odT f l))) {p : Addr} {kv : List (List Key × V)} {od : Obj} (h1 : σ[i]? = some (some (.ref p))) (h2 : Hb p = none) (h3 : H p = some (.dT kv)) (e2 : kv.map (·.1) = l.map (fun p => keyI p.1)) (e4 : DRs K Hb (kv.map (·.2)) (l.map fun p => f p.2)) :
    En K (upd Hb p (.frz od (.dT kv))) (upd H p (.frz od (.dT kv))) σ (Γ.set i (.pd (dicT f l))) := by
  have eb : Ex Hb (upd Hb p (.frz od (.dT kv))) := Ex.new h2
  exact {
    ex := fun b o e => by
      by_cases z : b = p
      · subst z; rw [upd_same] at e ⊢; exact e
      · rw [upd_ne z] at e ⊢; exact E.ex b o e
    val := fun j e h' => by
      rcases set_at h' with ⟨rfl, z2, z3⟩ | ⟨z1, z2⟩
      · cases z2
        exact ⟨_, h1, .dic upd_same e2 rfl (e4.mono eb)⟩
      · obtain ⟨v, k1, k2⟩ := E.val j e z2
        exact ⟨v, k1, k2.mono eb⟩
    own := fun j n h' => by
      rcases set_at h' with ⟨rfl, z2, z3⟩ | ⟨z1, z2⟩
      · cases z2
      · obtain ⟨b, w, k1, k2, k3, k4⟩ := E.own j n z2
        have ne : b ≠ p := fun z => by
          subst z
          exact z1 (E.sep i j _ _ n hi z2 h1 k1)
        exact ⟨b, w, k1, by rw [upd_ne ne]; exact k2, by rw [upd_ne ne]; exact k3, k4.mono eb⟩
    sep := fun j k b n n' y1 y2 k1 k2 => by
      rcases set_at y1 with ⟨rfl, z2, z3⟩ | ⟨z1, z2⟩
      · cases z2
      · rcases set_at y2 with ⟨rfl, z4, z5⟩ | ⟨z3, z4⟩
        · cases z4
        · exact E.sep j k b n n' z2 z4 k1 k2
    len := by rw [List.length_set, E.len] }
theorem unborrowD {K : PySem.W.Frag} {σ : L2.St} {Hb H Hb' H' : Hp} (E : En K Hb H σ Γ) {p : Addr} {kv : List (List Key × V)} {od : Obj} (h2 : Hb p = none) (h3 : H p = some (.dT kv)) (g : New (upd Hb p (.frz od (.dT kv))) (upd H p (.frz od (.dT kv))) Hb' H') : H' p = some (.frz od (.dT kv)) ∧ New Hb H (cutA Hb' p) (upd H' p (.dT kv)) := by
  have hp : H' p = some (.frz od (.dT kv)) := g.ex _ _ upd_same
  refine ⟨hp, ⟨fun b o e => ?_, fun a o e _ => ?_, fun a e => ?_, fun b o e => ?_, fun a e t _ => ?_⟩⟩
  · have ne : b ≠ p := ne_of_none e h2
    rw [cutA_ne ne]
    exact g.b b o (by rw [upd_ne ne]; exact e)
  · by_cases z : a = p
    · subst z; rw [upd_same]; rw [h3] at e; exact e
    · rw [upd_ne z]; exact g.h a o (by rw [upd_ne z]; exact e) fun w => w
  · by_cases z : a = p
    · subst z; rw [upd_same]; simp
    · rw [upd_ne z]; exact g.al a (by rw [upd_ne z]; exact e)
  · by_cases z : b = p
    · subst z; rw [cutA_same] at e; cases e
    · rw [cutA_ne z] at e; rw [upd_ne z]; exact g.s b o e
  · by_cases z : a = p
    · subst z; rw [cutA_same, h2]
    · rw [cutA_ne z, g.f a (by rw [upd_ne z]; exact e) (by rw [upd_ne z]; exact t) fun w => w, upd_ne z]
theorem xe_borrowD (i : Nat) {l : List (List Int × β)} {Φ : D → Prop} (hx : XE X false e (Γ.set i (.pd (dicT f l))) Φ) (hs : ∀ d, Φ d → d.flat = true) (hi : Γ[i]? = some (.ow (odT f l)) := by rfl) : XE X false e Γ Φ := fun σ Hb H E Q q pins s I => by
  obtain ⟨p, u, h1, h2, h3, kv, rfl, e2, e4⟩ := E.own i _ hi
  obtain ⟨od, I2⟩ := I.lock h3 trivial
  refine thn (hx σ _ _ (borrowD E hi h1 h2 h3 e2 e4) (fun v H' => H' p = some (.frz od (.dT kv)) ∧ Q v (upd H' p (.dT kv))) (fun v d Hb' H' y g E' r => ?_) pins s I2) fun v s1 ⟨x, H', I', r, e, q'⟩ => ⟨x, _, I'.unlock e (I.nofrz h3 trivial), r, q'⟩
  obtain ⟨k1, k2⟩ := unborrowD E h2 h3 (ww_new g)
  exact ⟨k1, q v d _ _ y (New.gr k2) (E.new k2) (r.flat_any (hs d y))⟩
theorem xt_borrowD (i : Nat) {l : List (List Int × β)} {Φ : Bool → Prop} (hx : XT X false e (Γ.set i (.pd (dicT f l))) Φ) (hi : Γ[i]? = some (.ow (odT f l)) := by rfl) : XT X false e Γ Φ := fun σ Hb H E Q q pins s I => by
  obtain ⟨p, u, h1, h2, h3, kv, rfl, e2, e4⟩ := E.own i _ hi
  obtain ⟨od, I2⟩ := I.lock h3 trivial
  refine thn (hx σ _ _ (borrowD E hi h1 h2 h3 e2 e4) (fun b H' => H' p = some (.frz od (.dT kv)) ∧ Q b (upd H' p (.dT kv))) (fun b Hb' H' y g E' => ?_) pins s I2) fun b s1 ⟨H', I', e, q'⟩ => ⟨_, I'.unlock e (I.nofrz h3 trivial), q'⟩
  obtain ⟨k1, k2⟩ := unborrowD E h2 h3 (ww_new g)
  exact ⟨k1, q b _ _ y (New.gr k2) (E.new k2)⟩
end
/-! ### [x for x in xs if drawn] -/
section
variable {X : Cx} {elt tg iter c : Expr} {scope : Scope} {Γ : List Sl} {pos : Pos} {own : List (Str × Nat)} {g : TG}
theorem xn_lcF {α : Type} {f : α → D} {xs : List α} (js : List Nat) (es : α → List D) (own : List (Str × Nat)) (hi : XW X tg iter Γ (xs.map f)) (hg : Bk X scope fun Y => PG Y tg g) (gt : ∀ x ∈ xs, XGt X.K g (f x) js (es x)) (ht : ∀ x ∈ xs, JT X.K true (wbT X scope c) (setG Γ js (es x)) fun _ => True)
    (he : ∀ x ∈ xs, Bk X scope fun Y => XV Y elt (setG Γ js (es x)) (f x)) (hl : xs.length ≤ 100000) (ok : BlkOk X.N X.env.scope scope own) (hN : X.N.Nodup) (hw : wipeG Γ (own.map (·.2)) = Γ := by rfl) (hv : ∀ j ∈ js, j ∈ own.map (·.2) := by decide)
    (hc : X.calm = true := by rfl) (hs : ∀ x, foldedSetIterable iter X.env x = pure x := by intro _; rfl) : XN X true (.ListComp elt [⟨tg, iter, [c], 0⟩] scope pos) Γ fun o => ∃ ys : List α, o = .ml (ys.map f) ∧ ys.Sublist xs := by
  refine (xn_lc (Φ := fun z => z = xs.map f) js (fun _ i => (xs[i]?.map es).getD []) (fun _ i acc => ∃ ys : List α, acc = ys.map f ∧ ys.Sublist (xs.take i)) own hi.up hg (fun ds e i d hd => ?_) .one (fun ds e => ⟨[], rfl, List.nil_sublist _⟩) (fun ds e i d acc hd hp => ?_) (fun ds e => by rw [e, List.length_map]; exact hl) ok hN hw hv hc hs).imp ?_
  · subst e
    rw [List.getElem?_map] at hd
    cases hx : xs[i]? with
    | none => rw [hx] at hd; cases hd
    | some x =>
      rw [hx] at hd
      cases hd
      exact gt x (List.mem_of_getElem? hx)
  · subst e
    rw [List.getElem?_map] at hd
    cases hx : xs[i]? with
    | none => rw [hx] at hd; cases hd
    | some x =>
      rw [hx] at hd
      cases hd
      obtain ⟨ys, h1, h2⟩ := hp
      have et : xs.take (i + 1) = xs.take i ++ [x] := by rw [List.take_add_one, hx]; rfl
      have hxm := List.mem_of_getElem? hx
      intro σ Hb H E Q q
      refine ht x hxm σ Hb H E Q fun b Hb' H' _ g' E' => q b Hb' H' ⟨fun _ => ?_, fun _ => ⟨ys, h1, by rw [et]; exact h2.trans (List.sublist_append_left _ _)⟩⟩ g' E'
      intro s0 H0 C cl fp
      refine (he x hxm s0 H0 C cl fp).up.imp fun d hd => ?_
      exact ⟨ys ++ [x], by rw [hd, h1, List.map_append]; rfl, by rw [et]; exact h2.append (List.Sublist.refl _)⟩
  · rintro o ⟨ds, acc, rfl, h1, ys, h2, h3⟩
    refine ⟨ys, by rw [h1, h2], ?_⟩
    rwa [List.length_map, List.take_length] at h3
end
end DL

namespace DL
open PySem PySem.Spec PyProof.Rows L2 Evl
/-! ### a def that hands back what it has built in a local -/
theorem execs_app (env : Env) (b : List Stmt) : ∀ a : List Stmt, execs (a ++ b) env = (do match ← execs a env with | .next => execs b env | f => pure f)
  | [] => by
    rw [List.nil_append]
    show _ = (execs [] env >>= _)
    rw [show execs [] env = pure Flow.next by rw [execs]]
    rw [pure_bind]
  | s :: a => by
    rw [List.cons_append]
    conv => lhs; rw [execs]
    conv => rhs; rw [execs]
    rw [bind_assoc]
    refine congrArg _ (funext fun f => ?_)
    cases f with
    | next => exact execs_app env b a
    | ret v => rw [pure_bind]
    | brk => rw [pure_bind]
    | cont => rw [pure_bind]
section
variable {X : Cx}
theorem pss_app {a b : List Stmt} {ta tb : TS} (h1 : PSs X a ta) (h2 : PSs X b tb) : PSs X (a ++ b) (tSeq ta tb) := by
  refine ⟨fun pins s σ H D I h => ?_⟩
  rw [execs_app]
  refine wpAny_bind (thn (h1.run pins s σ H { D with nx := tb D } I h) fun f s1 q => ?_)
  cases f with
  | next =>
    obtain ⟨σ', H', I', q⟩ := q
    exact h2.run pins s1 σ' H' D I' q
  | ret v => exact wpAny_pure q
  | brk => exact wpAny_pure q
  | cont => exact wpAny_pure q
end
section
variable {P : Program} {w : World} {K : PySem.W.Frag} {mg : Str → Option Value} {base : Heap} {x qual y : Str} {st : Stmt} {f : Addr} {fd : FuncData} {N ps : List Str} {k : Nat} {p pos : Pos}
theorem fn_newTail {C : List D → (MO → Prop) → Prop} (F : Fun K x qual st f fd) (S : FnScope N ps (defScope st)) (len : ∀ ds Φ, C ds Φ → ds.length = ps.length) (i : Nat) {init : List Stmt} (hb : defBody st = init ++ [.Return (some (.Name y p)) pos])
    (hx : ∀ (cdv : Value) (A : Around) (outer : List Env) (s : Shared) (H : Hp) (E : XK), PE (cxF P w K mg base N qual st f cdv A outer s H E) (.Name y p) (tVar i))
    (body : ∀ (cdv : Value) (A : Around) (outer : List Env) (s : Shared) (H : Hp) (E : XK), Room k (A.deeper (envOfC qual (defScope st) s.heap.objs.size f cdv)) → ∀ ds Φ, C ds Φ → XSs (cxF P w K mg base N qual st f cdv A outer s H E) 0 init (stG N (ds.map .pd)) { nx := fun Γ' => ∃ o, Φ o ∧ Γ'[i]? = some (.ow o), rt := fun _ _ => False }) :
    FnOk P w K mg base CX0 (k + 1) f fd ps (spN K C) := fn_new F S len fun cdv A outer s H E hr ds Φ h1 => by
  rw [hb]
  refine ⟨_, pss_app pss_wp (pss_cons (ps_ret (hx cdv A outer s H E)) pss_nil), fun σ Hb H2 En Q q => ?_⟩
  refine body cdv A outer s H E hr ds Φ h1 σ Hb H2 En _ (fun Γ' σ' Hb' H' z g => ?_) (fun _ _ _ _ z => z.elim) (fun _ _ _ _ z => z.elim) fun _ _ _ _ _ _ z => z.elim
  obtain ⟨o, ho, hi⟩ := z
  obtain ⟨p, u, k1, k2, k3, k4⟩ := g.en.own i o hi
  have hn : H2 p = none := (g.own p ⟨i, o, hi, k1⟩).elim (fun z => (no_ownG z).elim) id
  exact ⟨.ref p, k1, q p u o Hb' H' ho hn (g.gr.wk fun a z => (no_ownG z).elim) k2 k3 k4⟩
end
end DL

namespace DL
open PySem PySem.Spec PyProof.Rows L2 Evl
section
variable {X : Cx} {kp : Nat} {Γ : List Sl} {m : Bool} {a b e : Expr} {es : List Expr} {pos p pt apos : Pos} {G : Dn} {x : Str} {pos' : Pos}
/-- a list times a number, owned -/
theorem xo_repL {α : Type} {f : α → D} {l : List α} {k : Int} (ha : XV X a Γ (lT f l)) (hb : XV X b Γ (.int k)) (hk : 0 ≤ k ∧ k ≤ 100000) (hz : l.length * k.toNat ≤ 100000) : XO X (.BinOp a .Mult b pos) Γ (.ml ((List.replicate k.toNat l).flatten.map f)) := by
  refine (xn_of (pe_op op_rep pe_wp pe_wp) (jn_bin ha (fun _ _ => hb) fun d e h1 h2 => ?_))
  subst h1 h2
  intro x y Hb H ex r1 r2 Q q
  cases r1 with
  | lst h r =>
    cases r2
    have hl := r.len
    rw [List.length_map] at hl
    refine ⟨_, k, _, rfl, rfl, ex _ _ h, by omega, by omega, sz_of (by rw [hl]; exact hz), fun p hp => q p _ _ Hb _ rfl hp (New.side ex hp) (fresh_back ex hp) upd_same ⟨_, rfl, ?_⟩⟩
    have e : (List.replicate k.toNat l).flatten.map f = (List.replicate k.toNat (l.map f)).flatten := by rw [List.map_flatten, List.map_replicate]
    rw [e]
    generalize k.toNat = n
    induction n with
    | zero => exact .nil
    | succ n ih =>
      rw [List.replicate_succ, List.replicate_succ, List.flatten_cons, List.flatten_cons]
      exact r.app ih
/-- xs[i] = e, the place known, of a typed list -/
theorem xs_setL (i : Nat) {α : Type} {f : α → D} {l : List α} {y : α} {n : Int} {pos2 : Pos} (he : XV X e Γ (f y)) (hj : XV X a Γ (.int n)) (hn : 0 ≤ n ∧ n < l.length) (k : G.nx (Γ.set i (.ow (.ml ((l.set n.toNat y).map f))))) (h : Γ[i]? = some (.ow (.ml (l.map f))) := by rfl)
    (hps : PS X (.Assign [.Subscript (.Name x pos') a pos2] e pos) (tAsg (wpE X e) (gSub (tVar i) (wpE X a) rSetL)) := by exact ps_asg pe_wp (pg_sub (pe_var (by rfl) (by first | exact Or.inl rfl | exact Or.inr (Or.inl rfl) | exact Or.inr (Or.inr rfl))) pe_wp set_list)) :
    XS X kp (.Assign [.Subscript (.Name x pos') a pos2] e pos) Γ G := by
  refine xs_setO i n.toNat he hj ?_ (fun d z => ?_) h hps
  · unfold ixN
    rw [List.length_map, if_pos hn.1, if_pos hn.2]
  · subst z
    rw [← List.map_set]
    exact k
end
/-! ### an own, new dict as data -/
section
variable {X : Cx} {m : Bool} {e : Expr} {Γ : List Sl} {β : Type} {f : β → D}
theorem XN.frzDP {Φ : List (List Int × β) → Prop} (h : XN X m e Γ fun z => ∃ l, z = odT f l ∧ Φ l) : XE X m e Γ fun z => ∃ l, z = dicT f l ∧ Φ l := fun σ Hb H E Q q pins s I => by
  refine thn (h σ Hb H E (fun v H' => ∃ (p : Addr) (kv : List (List Key × V)), v = .ref p ∧ H' p = some (.dT kv) ∧ H p = none ∧ ∀ od : Obj, Q (.ref p) (upd H' p (.frz od (.dT kv)))) (fun p u o Hb' H' z n g E' nb hp r => ?_) pins s I) fun v s1 ⟨x, H', I', r, p, kv, e1, e2, e0, e3⟩ => ?_
  · obtain ⟨l, rfl, hl⟩ := z
    obtain ⟨kv, rfl, e2, e4⟩ := r
    refine ⟨p, kv, rfl, hp, n, fun od => ?_⟩
    have eb : Ex Hb' (upd Hb' p (.frz od (.dT kv))) := Ex.new nb
    have eh : Ex (upd Hb' p (.frz od (.dT kv))) (upd H' p (.frz od (.dT kv))) := fun b o e => by
      by_cases z : b = p
      · subst z; rw [upd_same] at e ⊢; exact e
      · rw [upd_ne z] at e ⊢; exact E'.ex b o e
    have ne : ∀ {a : Addr} {o}, H a = some o → a ≠ p := fun e z => by subst z; rw [n] at e; cases e
    refine q (.ref p) (dicT f l) (upd Hb' p (.frz od (.dT kv))) _ ⟨l, rfl, hl⟩ ⟨g.b.trans eb, fun a o e w => by rw [upd_ne (ne e)]; exact g.h a o e w, fun a e => ?_, eh, fun a e t w => ?_⟩ {
      ex := eh
      val := fun i d k => by obtain ⟨v, h1, h2⟩ := E'.val i d k; exact ⟨v, h1, h2.mono eb⟩
      own := fun i mm k => by
        obtain ⟨a, w, h1, h2, h3, h4⟩ := E'.own i mm k
        obtain ⟨a', w', k1, k2, k3, k4⟩ := E.own i mm k
        rw [h1] at k1
        cases k1
        have na := ne k3
        exact ⟨a, w, h1, by rw [upd_ne na]; exact h2, by rw [upd_ne na]; exact h3, h4.mono eb⟩
      sep := E'.sep
      len := E'.len } (.dic upd_same e2 rfl (e4.mono eb))
    · by_cases z : a = p
      · subst z; rw [upd_same]; simp
      · rw [upd_ne z]; exact g.al a e
    · have na : a ≠ p := fun z => by subst z; exact e n
      rw [upd_ne na]
      exact g.f a e t w
  · subst e1
    obtain ⟨od, I2⟩ := I'.lock e2 trivial
    exact ⟨_, _, I2, r, e3 od⟩
theorem XN.frzD {l : List (List Int × β)} (h : XN X m e Γ fun z => z = odT f l) : XE X m e Γ fun z => z = dicT f l := (XN.frzDP (Φ := fun z => z = l) (h.imp fun z k => ⟨l, k, rfl⟩)).imp fun d ⟨l', h1, h2⟩ => by rw [h1, h2]
end
/-! ### (a, b), both drawn -/
section
variable {X : Cx} {m : Bool} {a b : Expr} {Γ : List Sl} {pos : Pos} {A B : D → Prop} {j : Nat}
theorem xe_pair (ha : XE X m a Γ A) (hb : XE X m b Γ B) (hs1 : starEach [a, b] X.env = (false, eval a X.env) :: starEach [b] X.env := by rfl) (hs : starEach [b] X.env = (false, eval b X.env) :: starEach [] X.env := by rfl) : XE X m (.Tuple [a, b] j pos) Γ fun z => ∃ x y, z = .tup [x, y] ∧ A x ∧ B y :=
  xe_tup (Φ := fun ds => ∃ x y, ds = [x, y] ∧ A x ∧ B y) (xa_cons (Φb := fun _ ds => ∃ y, ds = [y] ∧ B y) ha (fun d _ => xa_one hb (fun y hy => ⟨y, rfl, hy⟩) hs) (fun x ds h ⟨y, e, hy⟩ => ⟨x, y, by rw [e], h, hy⟩) hs1) (fun ds ⟨x, y, e, h1, h2⟩ => ⟨x, y, by rw [e], h1, h2⟩) (by simp) (fun ds ⟨x, y, e, _, _⟩ => by rw [e]; simp)
end
end DL

namespace DL
open PySem PySem.Spec PyProof.Rows L2 Evl
/-! ### xs.index(x) -/
section
variable {X : Cx} {Γ : List Sl} {m : Bool} {a b e : Expr} {pos p p1 pos1 apos : Pos}
/-- the first place -/
def idxD {α : Type} [DecidableEq α] (x : α) (l : List α) : Nat := l.idxOf x
theorem at_idx {α : Type} [DecidableEq α] {x : α} : ∀ {l : List α}, x ∈ l → l[l.idxOf x]? = some x := fun {l} h => by
  rw [List.getElem?_eq_getElem (List.idxOf_lt_length_iff.mpr h)]
  exact congrArg some (List.getElem_idxOf (List.idxOf_lt_length_iff.mpr h))
theorem before_idx {α : Type} [DecidableEq α] {x : α} : ∀ {l : List α} {i : Nat} {y : α}, i < l.idxOf x → l[i]? = some y → y ≠ x
  | [], i, y, h, e => by simp at e
  | z :: l, i, y, h, e => by
    rw [List.idxOf_cons] at h
    by_cases c : z = x
    · subst c
      rw [beq_self_eq_true] at h
      exact absurd h (Nat.not_lt_zero _)
    · rw [beq_eq_false_iff_ne.mpr c] at h
      cases i with
      | zero =>
        simp at e
        rw [← e]; exact c
      | succ i =>
        rw [List.getElem?_cons_succ] at e
        exact before_idx (Nat.lt_of_succ_lt_succ h) e
theorem pyL_get {α : Type} {f : α → D} : ∀ {l : List α} {i : Nat}, (pyL (l.map f))[i]? = (l[i]?).map fun y => (f y).py
  | [], i => by simp [pyL]
  | y :: l, 0 => rfl
  | y :: l, i + 1 => by
    show (pyL (l.map f))[i]? = _
    rw [pyL_get]
    rfl
theorem xv_index {α : Type} [DecidableEq α] {f : α → D} {n : Nat} [h : Enc f n] {x : α} {l : List α} (ha : XV X a Γ (lT f l)) (hb : XV X b Γ (f x)) (hx : x ∈ l) (hu : X.A.units + 65 < cLine) (hn : n ≤ 63 := by decide)
    (hbm : PE X (.Call (.Attribute a "index" apos) [b] [] pos) (tBM X.K "list" (rIndexD X.K) (wpE X a) (tCons (wpE X b) tNil)) := by exact pe_bm PySem.F.plainAttrs_list PySem.F.slot_list_index PySem.F.type_list_index (mt_indexD (by assumption)) pe_wp (pa_cons pe_wp pa_nil)) : XV X (.Call (.Attribute a "index" apos) [b] [] pos) Γ (.int (idxD x l : Nat)) :=
  xe_of hbm fun σ Hb H E Q q => ha σ Hb H E _ fun v d Hb1 H1 p1 g1 E1 r1 => by
    subst p1
    cases r1 with
    | @lst c vs _ hc r =>
      have k1 : DR X.K Hb1 (.ref c) (lT f l) := .lst hc r
      refine ⟨?_, hb σ Hb1 H1 E1 _ fun v2 d2 Hb2 H2 p2 g2 E2 r2 => ?_⟩
      · exact .inl ⟨rfl, vs, SqL.of (E1.ex _ _ hc)⟩
      · subst p2
        refine ⟨c, v2, (f x).py, pyL (l.map f), idxD x l, (f x).py, rfl, rfl, (k1.mono (g2.b.trans E2.ex)).dp (n := n + 1) (okL_map h.ok l), (r2.mono E2.ex).dp (h.ok x), ok_shaped (d := lT f l) (n := n + 1) (okL_map h.ok l) (by omega), ok_shaped (h.ok x) (by omega), ?_, ?_, fun i z' hi hz' => ?_, q (.int (idxD x l : Nat)) _ Hb2 H2 rfl (gww g1 g2) E2 (.int _)⟩
        · rw [pyL_get, show l[idxD x l]? = some x from at_idx hx]; rfl
        · rw [h.eq]; exact decide_eq_true rfl
        · rw [pyL_get] at hz'
          obtain ⟨y, hy, rfl⟩ := Option.map_eq_some_iff.mp hz'
          rw [h.eq]
          exact decide_eq_false (before_idx hi hy)
end
end DL
namespace DL
open PySem PySem.Spec PyProof.Rows L2 Evl
theorem XN.frzT {X : Cx} {m : Bool} {e : Expr} {Γ : List Sl} {α : Type} {f : α → D} {Ψ : List α → Prop} (h : XN X m e Γ fun o => ∃ r : List α, o = .ml (r.map f) ∧ Ψ r) : XE X m e Γ fun d => ∃ r : List α, d = lT f r ∧ Ψ r :=
  (XN.frzP (Φ := fun ds => ∃ r : List α, ds = r.map f ∧ Ψ r) (h.imp fun o ⟨r, h1, h2⟩ => ⟨_, h1, r, rfl, h2⟩)).imp fun d ⟨ds, h1, r, h2, h3⟩ => ⟨r, by rw [h1, h2]; rfl, h3⟩
/-! ### sorted(set(xs)), xs a list of tuples of d ints in [0, B) -/
section
variable {X : Cx} {Γ : List Sl} {m : Bool} {a b e : Expr} {pos p p1 pos1 apos : Pos}
theorem tups_of {K : PySem.W.Frag} {Hb : Hp} : ∀ {vs : List V} {l : List (List Int)}, DRs K Hb vs (l.map (tT D.int)) → ∃ ks : List (Addr × List Int), vs = ks.map (fun p => V.ref p.1) ∧ ks.map (fun p => p.2) = l ∧ ∀ p ∈ ks, Hb p.1 = some (.tup (p.2.map V.int))
  | _, [], h => by
    cases h
    exact ⟨[], rfl, rfl, fun p hp => nomatch hp⟩
  | _, x :: l, h => by
    cases h with
    | cons h1 h2 =>
      obtain ⟨ks, e1, e2, e3⟩ := tups_of h2
      cases h1 with
      | @tup c ws _ hc r =>
        have := r.ints
        subst this
        refine ⟨(c, x) :: ks, by rw [e1]; rfl, by rw [List.map_cons, e2], fun p hp => ?_⟩
        rcases List.mem_cons.mp hp with rfl | hp
        · exact hc
        · exact e3 p hp
theorem drs_tups {K : PySem.W.Frag} {Hb : Hp} : ∀ {ks : List (Addr × List Int)}, (∀ p ∈ ks, Hb p.1 = some (.tup (p.2.map V.int))) → DRs K Hb (ks.map fun p => V.ref p.1) ((ks.map fun p => p.2).map (tT D.int))
  | [], _ => .nil
  | p :: ks, h => .cons (.tup (h p (List.mem_cons_self ..)) (drs_ints _)) (drs_tups fun q hq => h q (List.mem_cons_of_mem _ hq))
theorem xn_sortedSetTT {l : List (List Int)} {d : Nat} {B : Int} (h : XV X e Γ (lT (tT D.int) l)) (hz : l.length ≤ 60) (hd : 1 ≤ d) (hl : ∀ x ∈ l, x.length = d ∧ TS.Bd B x) (hu : X.A.units + 65 < cLine) (hm : X.mg "sorted" = none) (hm1 : X.mg "set" = none) (hc : X.calm = true := by rfl) (hg : Gl X "sorted" := by rfl) (hg1 : Gl X "set" := by rfl)
    (he : starEach (e :: []) X.env = (false, eval e X.env) :: starEach [] X.env := by rfl) (hpl : (backTo pos1 (starEach [] X.env)).any (·.1) = false := by rfl) (he2 : starEach (.Call (.Name "set" p1) [e] [] pos1 :: []) X.env = (false, eval (.Call (.Name "set" p1) [e] [] pos1) X.env) :: starEach [] X.env := by rfl) (hpl2 : (backTo pos (starEach [] X.env)).any (·.1) = false := by rfl) :
    XN X false (.Call (.Name "sorted" p) [.Call (.Name "set" p1) [e] [] pos1] [] pos) Γ fun o => ∃ r : List (List Int), o = .ml (r.map (tT D.int)) ∧ r.Nodup ∧ (∀ x, x ∈ r ↔ x ∈ l) ∧ r.Pairwise fun x y => TS.code B x ≤ TS.code B y := by
  have hs : PE X (.Call (.Name "set" p1) [e] [] pos1) (tCB (rSetOfT X.K X.prog X.w) (tCons (wpE X e) tNil)) := pe_callTy (cr_setOfT hc (by omega)) hg1 hm1 PyProof.Rows.boot_set (pa_cons pe_wp pa_nil he) (by decide) (by decide) he hpl
  refine xn_of (pe_callB (cr_sortedT hc) hg hm (by decide +kernel) (pa_cons hs pa_nil he2) (by decide) (by decide) he2 hpl2) fun σ Hb H E Q q => h σ Hb H E _ fun v d2 Hb1 H1 p1 g1 E1 r1 => ?_
  subst p1
  cases r1 with
  | @lst a vs _ ha k =>
    obtain ⟨ks, e1, e2, e3⟩ := tups_of k
    subst e1
    have hkl : ks.length = l.length := by rw [← e2, List.length_map]
    refine ⟨a, ks, rfl, SqL.of (E1.ex _ _ ha), fun p hp => xt E1.ex (e3 p hp), by omega, fun c L hcn hL1 hL2 => ?_⟩
    have n1 := New.side (o := SetTO X.prog X.w c L) E1.ex hcn
    have E2 := E1.new n1
    have hin : ∀ p ∈ L, p.2 ∈ l := fun p hp => by rw [← e2]; exact List.mem_map.mpr ⟨p, hL1 p hp, rfl⟩
    refine ⟨c, L, d, B, rfl, upd_same, fun p hp => xt E2.ex (e3 p (hL1 p hp)), hd, fun p hp => hl _ (hin p hp), fun L' p2 pm nd hfew pw hp2 => ?_⟩
    have n2 := New.side (o := .lst (L'.map fun q => V.ref q.1)) E2.ex hp2
    exact q p2 _ _ Hb1 _ ⟨L'.map (fun q => q.2), rfl, nd, fun x => by
      rw [List.mem_map]
      constructor
      · rintro ⟨q, hq, rfl⟩
        exact hin q (pm.mem_iff.mp hq)
      · intro hx
        rw [← e2] at hx
        obtain ⟨q, hq, rfl⟩ := List.mem_map.mp hx
        obtain ⟨q', hq', e⟩ := List.mem_map.mp (hL2 q hq)
        exact ⟨q', pm.mem_iff.mpr hq', e⟩, List.pairwise_map.mpr pw⟩ (new_none g1 (new_none n1 hp2)) (gwn (gwn g1 n1) n2) (E2.new n2) (fresh_back E2.ex hp2) upd_same ⟨_, rfl, drs_tups fun q hq => e3 q (hL1 q (pm.mem_iff.mp hq))⟩
end
end DL

/-! Points, sayings of letters, ranks of points: what the programs compute, and the plain laws of it. -/
namespace WB
open PySem PySem.Spec PyProof.Rows L2 Evl DL
/-! ### points -/
def ptsN : Nat → List (List Int)
  | 0 => [[]]
  | n + 1 => (ptsN n).flatMap fun p => ([0, 1] : List Int).map fun b => p ++ [b]
def points (many : Int) : List (List Int) := ptsN many.toNat
def lpN : Nat → List (List Int)
  | 0 => [[]]
  | n + 1 => (lpN n).map (fun p => p ++ [0]) ++ (lpN n).map fun p => p ++ [1]
theorem ptsN_len : ∀ n, (ptsN n).length = 2 ^ n
  | 0 => rfl
  | n + 1 => by
    have e : ∀ l : List (List Int), (l.flatMap fun p => ([0, 1] : List Int).map fun b => p ++ [b]).length = 2 * l.length := fun l => by
      induction l with
      | nil => rfl
      | cons x l ih => rw [List.flatMap_cons, List.length_append, ih, List.length_cons]; simp; omega
    show ((ptsN n).flatMap _).length = _
    rw [e, ptsN_len n, Nat.pow_succ, Nat.mul_comm]
theorem ptsN_mem : ∀ {n : Nat} {p : List Int}, p ∈ ptsN n → p.length = n
  | 0, p, h => by rw [List.mem_singleton.mp h]; rfl
  | n + 1, p, h => by
    obtain ⟨q, hq, h2⟩ := List.mem_flatMap.mp h
    obtain ⟨b, _, rfl⟩ := List.mem_map.mp h2
    rw [List.length_append, ptsN_mem hq]
    rfl
theorem lpN_len : ∀ n, (lpN n).length = 2 ^ n
  | 0 => rfl
  | n + 1 => by
    show ((lpN n).map (fun p => p ++ [0]) ++ (lpN n).map fun p => p ++ [1]).length = _
    rw [List.length_append, List.length_map, List.length_map, lpN_len n, Nat.pow_succ]
    omega
theorem lpN_mem : ∀ {n : Nat} {p : List Int}, p ∈ lpN n → p.length = n
  | 0, p, h => by rw [List.mem_singleton.mp h]; rfl
  | n + 1, p, h => by
    rcases List.mem_append.mp h with h | h <;>
    · obtain ⟨q, hq, rfl⟩ := List.mem_map.mp h
      rw [List.length_append, lpN_mem hq]
      rfl
theorem sort_is {α : Type} {f : α → D} {xs ys : List α} (hp : ys.Perm xs) (hs : ys.Pairwise (fun a b => leD f a b = true)) (ha : ∀ a ∈ ys, ∀ b ∈ ys, leD f a b = true → leD f b a = true → a = b) : sortD f xs = ys := by
  have h1 := PySem.W.sort_pairwise (PySem.W.sortLe_total (PyProof.Rows.listOrd PyProof.Rows.itemOrd) false fun x : α => PySem.W.keyToks (f x).py) xs
  exact (List.Perm.eq_of_pairwise (le := fun a b => leD f a b = true) (fun a b m n => ha a m b (((hp.trans (List.mergeSort_perm xs _).symm).mem_iff).mpr n)) hs h1 (hp.trans (List.mergeSort_perm xs _).symm)).symm
theorem lp_sorted : ∀ {n : Nat}, 1 ≤ n → n ≤ 3 → sortD (tT D.int) (lpN n) = ptsN n
  | 1, _, _ => sort_is (by decide +kernel) (by decide +kernel) (by decide +kernel)
  | 2, _, _ => sort_is (by decide +kernel) (by decide +kernel) (by decide +kernel)
  | 3, _, _ => sort_is (by decide +kernel) (by decide +kernel) (by decide +kernel)

def cPoints : Con := fun ds Φ => ∃ many : Int, ds = [.int many] ∧ (1 ≤ many ∧ many ≤ 3) ∧ Φ (lT (tT D.int) (points many))
theorem pow8 {n : Nat} (h : n ≤ 3) : 2 ^ n ≤ 8 := by
  have : 2 ^ n ≤ 2 ^ 3 := Nat.pow_le_pow_right (by decide) h
  omega
inductive Sy where
  | letter (i : Int) | fls | neg (a : Sy) | and (a b : Sy) | or (a b : Sy) | imp (a b : Sy)
def eS : Sy → D
  | .letter i => .tup [.str "letter", .int i]
  | .fls => .tup [.str "false"]
  | .neg a => .tup [.str "not", eS a]
  | .and a b => .tup [.str "and", eS a, eS b]
  | .or a b => .tup [.str "or", eS a, eS b]
  | .imp a b => .tup [.str "if", eS a, eS b]
def Sy.dep : Sy → Nat
  | .letter _ => 0
  | .fls => 0
  | .neg a => a.dep + 1
  | .and a b => max a.dep b.dep + 1
  | .or a b => max a.dep b.dep + 1
  | .imp a b => max a.dep b.dep + 1
def Sy.lt : Sy → Int → Prop
  | .letter i, n => 0 ≤ i ∧ i < n
  | .fls, _ => True
  | .neg a, n => a.lt n
  | .and a b, n => a.lt n ∧ b.lt n
  | .or a b, n => a.lt n ∧ b.lt n
  | .imp a b, n => a.lt n ∧ b.lt n
def fits : Sy → List Int → Bool
  | .letter i, p => decide (p.getD i.toNat 0 = 1)
  | .fls, _ => false
  | .neg a, p => !fits a p
  | .and a b, p => fits a p && fits b p
  | .or a b, p => fits a p || fits b p
  | .imp a b, p => !fits a p || fits b p
def cFits (n : Nat) : Con := fun ds Φ => ∃ s p, ds = [eS s, tT D.int p] ∧ s.dep < n ∧ s.lt p.length ∧ Φ (.bl (fits s p))


def someK (s : Sy) (rows : List (List Int)) : List Int := ((rng 0 (rows.length : Int)).filter fun k => fits s (rows.getD k.toNat [])).map fun k => k
theorem someK_mem {s : Sy} {rows : List (List Int)} {k : Int} (h : k ∈ someK s rows) : 0 ≤ k ∧ k < rows.length ∧ fits s (rows.getD k.toNat []) = true := by
  unfold someK at h
  obtain ⟨k', hk', rfl⟩ := List.mem_map.mp h
  obtain ⟨h1, h2⟩ := List.mem_filter.mp hk'
  have := mem_rng.mp h1
  exact ⟨this.1, this.2, h2⟩
theorem mem_someK {s : Sy} {rows : List (List Int)} {k : Int} (h0 : 0 ≤ k) (h : k < rows.length) (hf : fits s (rows.getD k.toNat []) = true) : k ∈ someK s rows :=
  List.mem_map.mpr ⟨k, List.mem_filter.mpr ⟨mem_rng.mpr ⟨h0, h⟩, hf⟩, rfl⟩
theorem someK_len {s : Sy} {rows : List (List Int)} : (someK s rows).length ≤ rows.length := by
  unfold someK
  rw [List.length_map]
  have h1 := List.length_filter_le (fun k : Int => fits s (rows.getD k.toNat [])) (rng 0 (rows.length : Int))
  rw [rng_len] at h1
  omega
def leastR (ranks : List Int) (s : Sy) (rows : List (List Int)) : Int := lminD 0 ((someK s rows).map fun k => ranks.getD k.toNat 0)
def leastP (ranks : List Int) (s : Sy) (many : Int) : List (List Int) := ((someK s (points many)).filter fun k => decide (ranks.getD k.toNat 0 = leastR ranks s (points many))).map fun k => (points many).getD k.toNat []
def holds (ranks : List Int) (r : Sy × Sy) (many : Int) : Bool := ((leastP ranks r.1 many).map fun p => fits r.2 p).all id
theorem points_len {many : Int} : (points many).length = 2 ^ many.toNat := ptsN_len _
theorem points_len8 {many : Int} (h : 1 ≤ many ∧ many ≤ 3) : (points many).length ≤ 8 := by
  rw [points_len]
  exact pow8 (by omega)
theorem points_mem {many : Int} (h : 1 ≤ many ∧ many ≤ 3) {p : List Int} (hp : p ∈ points many) : (p.length : Int) = many := by
  have := ptsN_mem hp
  omega
theorem rows_mem {many : Int} {k : Int} (h0 : 0 ≤ k) (h : k < (points many).length) : (points many).getD k.toNat [] ∈ points many := by
  rw [List.getD_eq_getElem?_getD, List.getElem?_eq_getElem (by omega)]
  exact List.getElem_mem _
theorem leastP_mem {ranks : List Int} {s : Sy} {many : Int} : ∀ p ∈ leastP ranks s many, p ∈ points many := fun p h => by
  obtain ⟨k, hk, rfl⟩ := List.mem_map.mp h
  have := someK_mem (List.mem_filter.mp hk).1
  exact rows_mem this.1 this.2.1
def cLeast : Con := fun ds Φ => ∃ ranks s many, ds = [tT D.int ranks, eS s, .int many] ∧ ((1 ≤ many ∧ many ≤ 3) ∧ ranks.length = (points many).length ∧ s.dep < 8 ∧ s.lt many) ∧ Φ (lT (tT D.int) (leastP ranks s many))
def cHolds : Con := fun ds Φ => ∃ ranks r many, ds = [tT D.int ranks, pT eS eS r, .int many] ∧ ((1 ≤ many ∧ many ≤ 3) ∧ ranks.length = (points many).length ∧ (r.1.dep < 8 ∧ r.1.lt many) ∧ (r.2.dep < 8 ∧ r.2.lt many)) ∧ Φ (.bl (holds ranks r many))
def wouldS : List (List (List Int)) → Sy → Sy → Bool
  | [], _, _ => true
  | sp :: rest, a, b => if 0 < (((sp.filter fun p => fits a p).map fun p => p).length : Int) then (((sp.filter fun p => fits a p).map fun p => p).map fun p => fits b p).all id else wouldS rest a b
def would (spheres : List (List (List Int))) (a b : Sy) (_ : Int) : Bool := wouldS spheres a b
def sphOk (many : Int) (spheres : List (List (List Int))) : Prop := ∀ sp ∈ spheres, sp.length ≤ 8 ∧ ∀ p ∈ sp, p ∈ points many
theorem filt_mem {xs : List (List Int)} {f : List Int → Bool} {p : List Int} (h : p ∈ (xs.filter f).map fun p => p) : p ∈ xs := by
  obtain ⟨q, hq, rfl⟩ := List.mem_map.mp h
  exact (List.mem_filter.mp hq).1
def cWould : Con := fun ds Φ => ∃ spheres a b many, ds = [lT (tT (tT D.int)) spheres, eS a, eS b, .int many] ∧ ((1 ≤ many ∧ many ≤ 3) ∧ sphOk many spheres ∧ (a.dep < 8 ∧ a.lt many) ∧ (b.dep < 8 ∧ b.lt many)) ∧ Φ (.bl (would spheres a b many))
def sphere (ranks : List Int) (rows : List (List Int)) (rank : Int) : List (List Int) := ((rng 0 (rows.length : Int)).filter fun k => decide (ranks.getD k.toNat 0 ≤ rank)).map fun k => rows.getD k.toNat []
def spheres (ranks : List Int) (many : Int) : List (List (List Int)) := (setI ranks).map (sphere ranks (points many))
def cSpheres : Con := fun ds Φ => ∃ ranks many, ds = [tT D.int ranks, .int many] ∧ ((1 ≤ many ∧ many ≤ 3) ∧ ranks.length = (points many).length) ∧ Φ (lT (tT (tT D.int)) (spheres ranks many))
def lholds (ranks : List Int) (r : Sy × Sy) (many : Int) : Bool :=
  if someK r.1 (points many) = [] then true else
  decide (((someK r.1 (points many)).filter fun k => decide (ranks.getD k.toNat 0 = lmin ((someK r.1 (points many)).map fun k => ranks.getD k.toNat 0)) && !fits r.2 ((points many).getD k.toNat [])).map (fun _ => (1 : Int)) = [])
def cLHolds : Con := fun ds Φ => ∃ ranks r many, ds = [tT D.int ranks, pT eS eS r, .int many] ∧ ((1 ≤ many ∧ many ≤ 3) ∧ ranks.length = (points many).length ∧ (r.1.dep < 8 ∧ r.1.lt many) ∧ (r.2.dep < 8 ∧ r.2.lt many)) ∧ Φ (.bl (lholds ranks r many))
/-! ### the maths: k least among those that fit -/
section
variable {ranks : List Int} {many : Int} {a b c : Sy}
abbrev pt (many k : Int) : List Int := (points many).getD k.toNat []
abbrev rk (ranks : List Int) (k : Int) : Int := ranks.getD k.toNat 0
def Mn (ranks : List Int) (many : Int) (a : Sy) (k : Int) : Prop := 0 ≤ k ∧ k < (points many).length ∧ fits a (pt many k) = true ∧ ∀ j : Int, 0 ≤ j → j < (points many).length → fits a (pt many j) = true → rk ranks k ≤ rk ranks j
def Hp (ranks : List Int) (many : Int) (a b : Sy) : Prop := ∀ k, Mn ranks many a k → fits b (pt many k) = true
theorem least_iff {k : Int} (hk : k ∈ someK a (points many)) : (rk ranks k = leastR ranks a (points many)) ↔ ∀ j ∈ someK a (points many), rk ranks k ≤ rk ranks j := by
  have ne : (someK a (points many)).map (fun k => ranks.getD k.toNat 0) ≠ [] := by
    intro e
    rw [List.map_eq_nil_iff.mp e] at hk
    cases hk
  unfold leastR lminD
  rw [if_neg ne]
  obtain ⟨m1, m2⟩ := lmin_ok ne
  constructor
  · intro e j hj
    rw [e]
    exact m2 _ (List.mem_map.mpr ⟨j, hj, rfl⟩)
  · intro h
    obtain ⟨j, hj, e⟩ := List.mem_map.mp m1
    have h1 := h j hj
    have h2 := m2 _ (List.mem_map.mpr ⟨k, hk, rfl⟩)
    rw [← e]
    rw [← e] at h2
    show rk ranks k = rk ranks j
    have h3 : rk ranks j ≤ rk ranks k := h2
    omega
theorem mn_iff {k : Int} : Mn ranks many a k ↔ k ∈ someK a (points many) ∧ ∀ j ∈ someK a (points many), rk ranks k ≤ rk ranks j :=
  ⟨fun ⟨h0, h1, h2, h3⟩ => ⟨mem_someK h0 h1 h2, fun j hj => by
    obtain ⟨j0, j1, j2⟩ := someK_mem hj
    exact h3 j j0 j1 j2⟩, fun ⟨h, h3⟩ => by
    obtain ⟨h0, h1, h2⟩ := someK_mem h
    exact ⟨h0, h1, h2, fun j j0 j1 j2 => h3 j (mem_someK j0 j1 j2)⟩⟩
theorem holds_iff : holds ranks (a, b) many = true ↔ Hp ranks many a b := by
  unfold holds leastP Hp
  rw [List.all_eq_true]
  constructor
  · intro h k hk
    obtain ⟨m1, m2⟩ := mn_iff.mp hk
    exact h _ (List.mem_map.mpr ⟨_, List.mem_map.mpr ⟨k, List.mem_filter.mpr ⟨m1, decide_eq_true ((least_iff m1).mpr m2)⟩, rfl⟩, rfl⟩)
  · intro h x hx
    obtain ⟨p, hp, rfl⟩ := List.mem_map.mp hx
    obtain ⟨k, hk, rfl⟩ := List.mem_map.mp hp
    obtain ⟨m1, m2⟩ := List.mem_filter.mp hk
    exact h k (mn_iff.mpr ⟨m1, (least_iff m1).mp (of_decide_eq_true m2)⟩)
theorem lholds_iff : lholds ranks (a, b) many = true ↔ Hp ranks many a b := by
  unfold lholds
  by_cases e : someK a (points many) = []
  · rw [if_pos e]
    refine ⟨fun _ k hk => ?_, fun _ => rfl⟩
    have := (mn_iff.mp hk).1
    rw [e] at this
    cases this
  · rw [if_neg e, decide_eq_true_iff, List.map_eq_nil_iff, List.filter_eq_nil_iff]
    have el : ∀ k ∈ someK a (points many), lmin ((someK a (points many)).map fun k => ranks.getD k.toNat 0) = leastR ranks a (points many) := fun k hk => by
      unfold leastR lminD
      rw [if_neg fun z => e (List.map_eq_nil_iff.mp z)]
    constructor
    · intro h k hk
      obtain ⟨m1, m2⟩ := mn_iff.mp hk
      have := h k m1
      rw [show (a, b).1 = a from rfl, el k m1, (show decide (ranks.getD k.toNat 0 = leastR ranks a (points many)) = true from decide_eq_true ((least_iff m1).mpr m2))] at this
      simpa using this
    · intro h k hk
      rw [show (a, b).1 = a from rfl, el k hk]
      by_cases l : ranks.getD k.toNat 0 = leastR ranks a (points many)
      · have := h k (mn_iff.mpr ⟨hk, (least_iff hk).mp l⟩)
        intro z
        have z2 := (Bool.and_eq_true_iff.mp z).2
        rw [show fits (a, b).2 ((points many).getD k.toNat []) = true from this] at z2
        cases z2
      · intro z
        exact l (of_decide_eq_true (Bool.and_eq_true_iff.mp z).1)
theorem lholds_eq : lholds ranks (a, b) many = holds ranks (a, b) many := Bool.eq_iff_iff.mpr (lholds_iff.trans holds_iff.symm)
theorem sphere_mem {rows : List (List Int)} {r : Int} {p : List Int} : p ∈ sphere ranks rows r ↔ ∃ k : Int, 0 ≤ k ∧ k < rows.length ∧ rk ranks k ≤ r ∧ rows.getD k.toNat [] = p := by
  unfold sphere
  rw [List.mem_map]
  constructor
  · rintro ⟨k, hk, e⟩
    obtain ⟨h1, h2⟩ := List.mem_filter.mp hk
    have := mem_rng.mp h1
    exact ⟨k, this.1, this.2, of_decide_eq_true h2, e⟩
  · rintro ⟨k, h0, h1, h2, e⟩
    exact ⟨k, List.mem_filter.mpr ⟨mem_rng.mpr ⟨h0, h1⟩, decide_eq_true h2⟩, e⟩
theorem would_rec : ∀ (L : List Int), L.Pairwise (· < ·) → (∀ k : Int, 0 ≤ k → k < (points many).length → fits a (pt many k) = true → rk ranks k ∈ L) → (wouldS (L.map (sphere ranks (points many))) a b = true ↔ Hp ranks many a b)
  | [], _, h => by
    refine ⟨fun _ k hk => ?_, fun _ => rfl⟩
    exact nomatch h k hk.1 hk.2.1 hk.2.2.1
  | r :: L, hp, h => by
    have h1 := List.pairwise_cons.mp hp
    rw [List.map_cons, wouldS]
    by_cases c : 0 < ((((sphere ranks (points many) r).filter fun p => fits a p).map fun p => p).length : Int)
    · rw [if_pos c, List.all_eq_true]
      rw [List.map_id'] at c ⊢
      have ge : ∀ k : Int, 0 ≤ k → k < (points many).length → fits a (pt many k) = true → r ≤ rk ranks k := fun k k0 k1 k2 => by
        rcases List.mem_cons.mp (h k k0 k1 k2) with e | e
        · omega
        · have := h1.1 _ e
          omega
      obtain ⟨p, hpm⟩ := List.exists_mem_of_length_pos (l := (sphere ranks (points many) r).filter fun p => fits a p) (by omega)
      obtain ⟨q1, q2⟩ := List.mem_filter.mp hpm
      obtain ⟨k0, z0, z1, z2, rfl⟩ := sphere_mem.mp q1
      have ek0 : rk ranks k0 = r := by
        have := ge k0 z0 z1 q2
        omega
      constructor
      · intro w k ⟨m0, m1, m2, m3⟩
        have := m3 k0 z0 z1 q2
        exact w _ (List.mem_map.mpr ⟨pt many k, List.mem_filter.mpr ⟨sphere_mem.mpr ⟨k, m0, m1, by omega, rfl⟩, m2⟩, rfl⟩)
      · intro w x hx
        obtain ⟨p, hp', rfl⟩ := List.mem_map.mp hx
        obtain ⟨y1, y2⟩ := List.mem_filter.mp hp'
        obtain ⟨k, m0, m1, m2, rfl⟩ := sphere_mem.mp y1
        exact w k ⟨m0, m1, y2, fun j j0 j1 j2 => by
          have := ge j j0 j1 j2
          omega⟩
    · rw [if_neg c]
      refine would_rec L h1.2 fun k k0 k1 k2 => ?_
      rcases List.mem_cons.mp (h k k0 k1 k2) with e | e
      · exfalso
        refine c ?_
        rw [List.map_id']
        have : pt many k ∈ (sphere ranks (points many) r).filter fun p => fits a p := List.mem_filter.mpr ⟨sphere_mem.mpr ⟨k, k0, k1, by omega, rfl⟩, k2⟩
        have := List.length_pos_of_mem this
        omega
      · exact e
theorem rk_mem {k : Int} (hl : ranks.length = (points many).length) (h0 : 0 ≤ k) (h1 : k < (points many).length) : rk ranks k ∈ ranks := by
  unfold rk
  rw [List.getD_eq_getElem?_getD, List.getElem?_eq_getElem (by omega)]
  exact List.getElem_mem _
theorem would_eq {n : Int} (hl : ranks.length = (points many).length) : would (spheres ranks many) a b n = holds ranks (a, b) many :=
  Bool.eq_iff_iff.mpr ((would_rec (setI ranks) (setI_asc ranks) fun k k0 k1 _ => mem_setI.mpr (rk_mem hl k0 k1)).trans holds_iff.symm)
/-! the laws of reasoning -/
theorem mn_ex (h : ∃ k : Int, 0 ≤ k ∧ k < (points many).length ∧ fits a (pt many k) = true) : ∃ k, Mn ranks many a k := by
  obtain ⟨k, h0, h1, h2⟩ := h
  have ne : (someK a (points many)).map (fun k => ranks.getD k.toNat 0) ≠ [] := by
    intro e
    have := mem_someK h0 h1 h2
    rw [List.map_eq_nil_iff.mp e] at this
    cases this
  obtain ⟨m1, m2⟩ := lmin_ok ne
  obtain ⟨j, hj, e⟩ := List.mem_map.mp m1
  exact ⟨j, mn_iff.mpr ⟨hj, fun i hi => by
    have := m2 _ (List.mem_map.mpr ⟨i, hi, rfl⟩)
    rw [← e] at this
    exact this⟩⟩
theorem fits_and {p : List Int} : fits (.and a b) p = true ↔ fits a p = true ∧ fits b p = true := by simp [fits]
theorem fits_or {p : List Int} : fits (.or a b) p = true ↔ fits a p = true ∨ fits b p = true := by simp [fits]
theorem hp_refl : Hp ranks many a a := fun k h => h.2.2.1
theorem hp_and (h1 : Hp ranks many a b) (h2 : Hp ranks many a c) : Hp ranks many a (.and b c) := fun k h => fits_and.mpr ⟨h1 k h, h2 k h⟩
theorem mn_and {k k0 : Int} (hk0 : Mn ranks many a k0) (hb : fits b (pt many k0) = true) (h : Mn ranks many (.and a b) k) : Mn ranks many a k := by
  obtain ⟨h0, h1, h2, h3⟩ := h
  have := h3 k0 hk0.1 hk0.2.1 (fits_and.mpr ⟨hk0.2.2.1, hb⟩)
  exact ⟨h0, h1, (fits_and.mp h2).1, fun j j0 j1 j2 => by
    have := hk0.2.2.2 j j0 j1 j2
    omega⟩
theorem hp_cm (h1 : Hp ranks many a b) (h2 : Hp ranks many a c) : Hp ranks many (.and a b) c := fun k h => by
  obtain ⟨k0, hk0⟩ := mn_ex (ranks := ranks) ⟨k, h.1, h.2.1, (fits_and.mp h.2.2.1).1⟩
  exact h2 k (mn_and hk0 (h1 k0 hk0) h)
theorem hp_or (h1 : Hp ranks many a c) (h2 : Hp ranks many b c) : Hp ranks many (.or a b) c := fun k ⟨h0, hk, h3, h4⟩ => by
  rcases fits_or.mp h3 with e | e
  · exact h1 k ⟨h0, hk, e, fun j j0 j1 j2 => h4 j j0 j1 (fits_or.mpr (.inl j2))⟩
  · exact h2 k ⟨h0, hk, e, fun j j0 j1 j2 => h4 j j0 j1 (fits_or.mpr (.inr j2))⟩
theorem hp_rm (h1 : Hp ranks many a c) (h2 : ¬ Hp ranks many a (.neg b)) : Hp ranks many (.and a b) c := fun k h => by
  by_cases z : ∃ k0, Mn ranks many a k0 ∧ fits b (pt many k0) = true
  · obtain ⟨k0, hk0, hb⟩ := z
    exact h1 k (mn_and hk0 hb h)
  · exfalso
    refine h2 fun k0 hk0 => ?_
    have : ¬ fits b (pt many k0) = true := fun y => z ⟨k0, hk0, y⟩
    simpa [fits] using this
theorem hp_cut (h1 : Hp ranks many a b) (h2 : Hp ranks many (.and a b) c) : Hp ranks many a c := fun k h =>
  h2 k ⟨h.1, h.2.1, fits_and.mpr ⟨h.2.2.1, h1 k h⟩, fun j j0 j1 j2 => h.2.2.2 j j0 j1 (fits_and.mp j2).1⟩
theorem hp_same (h : ∀ p ∈ points many, fits a p = fits b p) : holds ranks (a, c) many = holds ranks (b, c) many := by
  have e : ∀ k : Int, 0 ≤ k → k < (points many).length → fits a (pt many k) = fits b (pt many k) := fun k h0 h1 => h _ (rows_mem h0 h1)
  refine Bool.eq_iff_iff.mpr (holds_iff.trans (Iff.trans ?_ holds_iff.symm))
  refine ⟨fun w k hk => w k ⟨hk.1, hk.2.1, by rw [e k hk.1 hk.2.1]; exact hk.2.2.1, fun j j0 j1 j2 => hk.2.2.2 j j0 j1 (by rw [← e j j0 j1]; exact j2)⟩, fun w k hk => w k ⟨hk.1, hk.2.1, by rw [← e k hk.1 hk.2.1]; exact hk.2.2.1, fun j j0 j1 j2 => hk.2.2.2 j j0 j1 (by rw [e j j0 j1]; exact j2)⟩⟩
/-! the spheres -/
theorem asc_ext {l m : List Int} (h1 : l.Pairwise (· < ·)) (h2 : m.Pairwise (· < ·)) (h : ∀ x, x ∈ l ↔ x ∈ m) : l = m := by
  have n1 : l.Nodup := h1.imp fun h => by omega
  have n2 : m.Nodup := h2.imp fun h => by omega
  exact List.Perm.eq_of_pairwise (le := (· < ·)) (fun a b _ _ h h' => by omega) h1 h2 ((List.perm_ext_iff_of_nodup n1 n2).mpr h)
theorem rng_asc {lo hi : Int} : (rng lo hi).Pairwise (· < ·) := by
  unfold rng
  rw [List.pairwise_map]
  exact List.pairwise_lt_range.imp fun h => by omega
theorem setI_small (h : ∀ r ∈ ranks, 0 ≤ r ∧ r < 4) : (rng 0 4).filter (fun r => decide (r ∈ ranks)) = setI ranks :=
  asc_ext (rng_asc.filter _) (setI_asc ranks) fun x => by
    rw [List.mem_filter, mem_rng, decide_eq_true_iff, mem_setI]
    exact ⟨fun z => z.2, fun z => ⟨h x z, z⟩⟩
theorem setI_map {f : Int → Int} (hf : ∀ x y, x < y → f x < f y) : setI (ranks.map f) = (setI ranks).map f :=
  asc_ext (setI_asc _) (List.pairwise_map.mpr ((setI_asc ranks).imp fun h => hf _ _ h)) fun x => by
    rw [mem_setI, List.mem_map, List.mem_map]
    exact ⟨fun ⟨y, h, e⟩ => ⟨y, mem_setI.mpr h, e⟩, fun ⟨y, h, e⟩ => ⟨y, mem_setI.mp h, e⟩⟩
theorem spheres_up (hl : ranks.length = (points many).length) : spheres (ranks.map fun r => 2 * r + 1) many = spheres ranks many := by
  unfold spheres
  rw [setI_map (fun x y h => by omega), List.map_map]
  refine List.map_congr_left fun r _ => ?_
  show sphere (ranks.map fun r => 2 * r + 1) (points many) (2 * r + 1) = sphere ranks (points many) r
  unfold sphere
  congr 1
  refine List.filter_congr fun k hk => ?_
  have hk := mem_rng.mp hk
  have e : (ranks.map fun r => 2 * r + 1).getD k.toNat 0 = 2 * ranks.getD k.toNat 0 + 1 := by
    rw [List.getD_eq_getElem?_getD, List.getD_eq_getElem?_getD, List.getElem?_map, List.getElem?_eq_getElem (by omega)]
    rfl
  rw [e]
  exact decide_eq_decide.mpr (by omega)
theorem spheres_ok (h8 : (points many).length ≤ 8) : sphOk many (spheres ranks many) := fun sp h => by
  obtain ⟨r, _, rfl⟩ := List.mem_map.mp h
  refine ⟨?_, fun p hp => ?_⟩
  · unfold sphere
    rw [List.length_map]
    have := List.length_filter_le (fun k : Int => decide (ranks.getD k.toNat 0 ≤ r)) (rng 0 ((points many).length : Int))
    rw [rng_len] at this
    omega
  · obtain ⟨k, h0, h1, _, rfl⟩ := sphere_mem.mp hp
    exact rows_mem h0 h1
theorem would_false : ∀ (L : List (List (List Int))) (n : Int), would L .fls a n = true
  | [], _ => rfl
  | sp :: L, n => by
    show wouldS (sp :: L) .fls a = true
    rw [wouldS, if_neg (by simp [fits])]
    exact would_false L n
theorem least_fits {p : List Int} (h : p ∈ leastP ranks a many) : fits a p = true := by
  obtain ⟨k, hk, rfl⟩ := List.mem_map.mp h
  exact (someK_mem (List.mem_filter.mp hk).1).2.2
end
theorem leastP_len {ranks : List Int} {s : Sy} {many : Int} : (leastP ranks s many).length ≤ (points many).length := by
  unfold leastP
  rw [List.length_map]
  have h1 := someK_len (s := s) (rows := points many)
  have h2 := List.length_filter_le (fun k : Int => decide (ranks.getD k.toNat 0 = leastR ranks s (points many))) (someK s (points many))
  omega
theorem same_no {ranks : List Int} {many : Int} (a b c : Sy) : ((decide ((((points many).filter fun point => (((fits a point) != (fits b point)))).map fun point => point) = [])) && (((holds ranks (a, c) many) != (holds ranks (b, c) many)))) = false := by
  cases e : (decide ((((points many).filter fun point => (((fits a point) != (fits b point)))).map fun point => point) = [])) with
  | false => rfl
  | true =>
    have h := List.filter_eq_nil_iff.mp (List.map_eq_nil_iff.mp (of_decide_eq_true e))
    rw [hp_same (a := a) (b := b) fun p hp => by simpa using h p hp]
    simp
end WB

/-! Rules, layers of rules, what follows. -/
namespace WB
open PySem PySem.Spec PyProof.Rows L2 Evl DL
abbrev Rule := Sy × Sy
def ok (m : Int) (s : Sy) : Prop := s.dep < 8 ∧ s.lt m
def okR (m : Int) (r : Rule) : Prop := ok m r.1 ∧ ok m r.2
def okRs (m : Int) (rules : List Rule) : Prop := rules.length ≤ 100 ∧ ∀ r ∈ rules, okR m r
def breaks (r : Rule) (p : List Int) : Bool := fits r.1 p && !fits r.2 p
def cBreaks : Con := fun ds Φ => ∃ r p, ds = [pT eS eS r, tT D.int p] ∧ okR p.length r ∧ Φ (.bl (breaks r p))
def pw (s : Sy) (many : Int) : List (List Int) := (points many).filter fun p => fits s p
def cPw : Con := fun ds Φ => ∃ s many, ds = [eS s, .int many] ∧ ((1 ≤ many ∧ many ≤ 3) ∧ ok many s) ∧ Φ (lT (tT D.int) (pw s many))
def tolB (r : Rule) (rules : List Rule) (p : List Int) : Bool := fits r.1 p && (fits r.2 p && !((rules.map fun one => breaks one p).any id))
def tol (r : Rule) (rules : List Rule) (many : Int) : Option (List Int) := (points many).find? (tolB r rules)
def cTol : Con := fun ds Φ => ∃ r rules many, ds = [pT eS eS r, lT (pT eS eS) rules, .int many] ∧ ((1 ≤ many ∧ many ≤ 3) ∧ okR many r ∧ okRs many rules) ∧ Φ (oT (tT D.int) (tol r rules many))
def isfree (r : Rule) (rules : List Rule) (many : Int) : Bool := decide (((pw r.1 many).length : Int) = 0) || !(tol r rules many).isNone
def cFree : Con := fun ds Φ => ∃ r rules many, ds = [pT eS eS r, lT (pT eS eS) rules, .int many] ∧ ((1 ≤ many ∧ many ≤ 3) ∧ okR many r ∧ okRs many rules) ∧ Φ (.bl (isfree r rules many))
theorem isN_oT {o : Option (List Int)} : (oT (tT D.int) o).isN = o.isNone := by cases o <;> rfl
def getR (rules : List Rule) (k : Int) : Rule := rules.getD k.toNat (.fls, .fls)
inductive Lay where
  | no (l : List Int) | yes (ls : List (List Int))
def eLay : Lay → D
  | .no l => .tup [.str "no", tT D.int l]
  | .yes ls => .tup [.str "yes", tT (tT D.int) ls]
def level (rules : List Rule) (many : Int) (left : List Int) : List Int := (left.filter fun k => isfree (getR rules k) (left.map (getR rules)) many).map fun k => k
def lessL (rules : List Rule) (many : Int) (left : List Int) : List Int := (left.filter fun k => !decide (k ∈ level rules many left)).map fun k => k
def layGo (rules : List Rule) (many : Int) : Nat → List Int → List (List Int) → Lay
  | 0, left, found => if left = [] then .yes found else .no left
  | n + 1, left, found => if left = [] then .yes found else if level rules many left = [] then .no left else layGo rules many n (lessL rules many left) (found ++ [level rules many left])
def layers (rules : List Rule) (many : Int) : Lay := layGo rules many rules.length (rng 0 (rules.length : Int)) []
def cLayers : Con := fun ds Φ => ∃ rules many, ds = [lT (pT eS eS) rules, .int many] ∧ ((1 ≤ many ∧ many ≤ 3) ∧ okRs many rules) ∧ Φ (eLay (layers rules many))
/-! what is asked about -/
inductive Val where
  | nums (l : List Int) | mix (l : List Int) (b : Bool) | tex (s : Str) | lis (l : List Int) | nun | txt (s : Str)
def eV : Val → D
  | .nums l => tT D.int l
  | .mix l b => .tup (l.map D.int ++ [.bl b])
  | .tex s => .tup [.str s]
  | .lis l => lT D.int l
  | .nun => .non
  | .txt s => .str s
def Val.sm : Val → Prop
  | .nums l => l.length ≤ 100 | .mix l _ => l.length ≤ 100 | .lis l => l.length ≤ 100 | .txt s => PyData.strOk s = true | .tex s => PyData.strOk s = true | .nun => True
theorem ifn {b : Bool} (h : false = b) : ¬ b = true := by subst h; exact fun z => Bool.noConfusion z
def stuckB (rules : List Rule) (many : Int) (l : List Int) : Bool :=
  if ((!true) || (decide ((l.length : Int) = 0))) = true then false else
  if (!((l.map fun k => (true && ((!false) && ((decide (0 ≤ k)) && (decide (k < (rules.length : Int))))))).all id)) = true then false else
  if (((rng 0 ((l.length : Int) - 1)).map fun j => (decide ((l.getD ((j + 1)).toNat 0) ≤ (l.getD (j).toNat 0)))).any id) = true then false else
  (!(((l.map (getR rules)).map fun rule => (isfree rule (l.map (getR rules)) many)).any id))
/-- an item that is no place -/
def elemB (n : Int) : D → Bool
  | .int k => (true && ((!false) && ((decide (0 ≤ k)) && (decide (k < n)))))
  | _ => false
def elemR : D → Bool
  | .int k => (true && ((!false) && (decide (0 ≤ k))))
  | _ => false
theorem mix_all {f : D → Bool} {l : List Int} {b : Bool} (h : f (.bl b) = false) : ((l.map D.int ++ [D.bl b]).map f).all id = false := by
  rw [List.map_append, List.all_append]
  simp [h]
theorem mix_len {l : List Int} {b : Bool} : (false || decide ((((l.map D.int ++ [D.bl b]).length : Nat) : Int) = 0)) = false := by
  rw [List.length_append, List.length_map]
  simp
  omega
def stuckV (rules : List Rule) (many : Int) : Val → Bool
  | .nums l => stuckB rules many l
  | _ => false
def cStuck : Con := fun ds Φ => ∃ rules many v, ds = [lT (pT eS eS) rules, .int many, eV v] ∧ ((1 ≤ many ∧ many ≤ 3) ∧ okRs many rules ∧ v.sm) ∧ Φ (.bl (stuckV rules many v))
def rop (rules : List Rule) (told : List (List Int)) (p : List Int) : Int := lmax ([0] ++ (((rng 0 (told.length : Int)).filter fun k => ((told.getD k.toNat []).map fun j => breaks (getR rules j) p).any id).map fun k => k + 1))
/-- the levels hold places of the rules -/
def lvOk (rules : List Rule) (told : List (List Int)) : Prop := told.length ≤ 100 ∧ ∀ l ∈ told, l.length ≤ 100 ∧ ∀ k ∈ l, 0 ≤ k ∧ k < (rules.length : Int)
def cRopT : Con := fun ds Φ => ∃ rules told p, ds = [lT (pT eS eS) rules, tT (tT D.int) told, tT D.int p] ∧ ((∃ m, okRs m rules ∧ (p.length : Int) = m) ∧ lvOk rules told) ∧ Φ (.int (rop rules told p))
def ranksOf (rules : List Rule) (many : Int) : Option (List Int) := match layers rules many with
  | .no _ => none
  | .yes ls => some ((points many).map fun p => rop rules ls p)
def cRanksOf : Con := fun ds Φ => ∃ rules many, ds = [lT (pT eS eS) rules, .int many] ∧ ((1 ≤ many ∧ many ≤ 3) ∧ okRs many rules) ∧ Φ (oT (tT D.int) (ranksOf rules many))
def isRanksV (many : Int) : Val → Bool
  | .nums l => if ((!true) || (!decide ((l.length : Int) = (1 * 2 ^ (many).toNat)))) = true then false else ((l.map fun one => (true && ((!false) && (decide (0 ≤ one))))).all id)
  | _ => false
def cIsRanks : Con := fun ds Φ => ∃ v many, ds = [eV v, .int many] ∧ ((1 ≤ many ∧ many ≤ 3) ∧ v.sm) ∧ Φ (.bl (isRanksV many v))
inductive Fo where
  | yes (l : List Int) | no (l : List Int)
def eFo : Fo → D
  | .yes l => .tup [.str "yes", tT D.int l]
  | .no l => .tup [.str "no", tT D.int l]
def more (rules : List Rule) (r : Rule) : List Rule := rules ++ [(r.1, .neg r.2)]
def follows (rules : List Rule) (r : Rule) (many : Int) : Fo := if ((pw r.1 many).length : Int) = 0 then .yes [] else match layers (more rules r) many with
  | .no l => .yes l
  | .yes ls => .no ((points many).map fun p => rop (more rules r) ls p)
def okM (m : Int) (rules : List Rule) (r : Rule) : Prop := okRs m rules ∧ rules.length ≤ 20 ∧ okR m r ∧ r.2.dep < 7
def cFollows : Con := fun ds Φ => ∃ rules r many, ds = [lT (pT eS eS) rules, pT eS eS r, .int many] ∧ ((1 ≤ many ∧ many ≤ 3) ∧ okM many rules r) ∧ Φ (eFo (follows rules r many))
def showsB (rules : List Rule) (r : Rule) (many : Int) : Val → Bool
  | .nums l => if ((decide (l = [])) && true) = true then decide (((pw r.1 many).length : Int) = 0) else stuckB (more rules r) many l
  | _ => false
def cShows : Con := fun ds Φ => ∃ rules r many v, ds = [lT (pT eS eS) rules, pT eS eS r, .int many, eV v] ∧ ((1 ≤ many ∧ many ≤ 3) ∧ okM many rules r ∧ v.sm) ∧ Φ (.bl (showsB rules r many v))
def holdsAll (ranks : List Int) (rules : List Rule) (many : Int) : Bool := (rules.map fun one => holds ranks one many).all id
def showsNotB (rules : List Rule) (r : Rule) (many : Int) : Val → Bool
  | .nums l => if (!isRanksV many (.nums l)) = true then false else (holdsAll l rules many && !holds l r many)
  | _ => false
def cShowsNot : Con := fun ds Φ => ∃ rules r many v, ds = [lT (pT eS eS) rules, pT eS eS r, .int many, eV v] ∧ ((1 ≤ many ∧ many ≤ 3) ∧ okM many rules r ∧ v.sm) ∧ Φ (.bl (showsNotB rules r many v))
def closely (rules : List Rule) (r : Rule) (many : Int) : Bool := match ranksOf rules many with
  | none => true
  | some l => holds l r many
def cClosely : Con := fun ds Φ => ∃ rules r many, ds = [lT (pT eS eS) rules, pT eS eS r, .int many] ∧ ((1 ≤ many ∧ many ≤ 3) ∧ okM many rules r) ∧ Φ (.bl (closely rules r many))
/-! the law's own judge of stuck rules -/
def lstuck (rules : List Rule) (r : Rule) (many : Int) (l : List Int) : Bool :=
  if (decide (l = [])) = true then (decide ((((points many).filter fun point => (fits r.1 point)).map fun _ => (1 : Int)) = [])) else
  (decide ((((l.map (getR (more rules r))).filter fun one => (isfree one (l.map (getR (more rules r))) many)).map fun _ => (1 : Int)) = []))
def cLStuck : Con := fun ds Φ => ∃ rules r many l, ds = [lT (pT eS eS) rules, pT eS eS r, .int many, tT D.int l] ∧ ((1 ≤ many ∧ many ≤ 3) ∧ okM many rules r ∧ l.length ≤ 100 ∧ ∀ k ∈ l, 0 ≤ k ∧ k < ((more rules r).length : Int)) ∧ Φ (.bl (lstuck rules r many l))
def lfree (r : Rule) (rules : List Rule) (many : Int) : Bool :=
  if (decide ((((points many).filter fun point => (fits r.1 point)).map fun point => point) = [])) = true then true else
  (!decide ((((((points many).filter fun point => (fits r.1 point)).map fun point => point).filter fun point => ((fits r.2 point) && (decide (((rules.filter fun one => (breaks one point)).map fun _ => (1 : Int)) = [])))).map fun _ => (1 : Int)) = []))
theorem isfree_iff {r : Rule} {rules : List Rule} {many : Int} : isfree r rules many = true ↔ (∀ p ∈ points many, ¬ fits r.1 p = true) ∨ ∃ p ∈ points many, fits r.1 p = true ∧ fits r.2 p = true ∧ ∀ s ∈ rules, ¬ breaks s p = true := by
  unfold isfree pw tol
  rw [Bool.or_eq_true, decide_eq_true_iff]
  refine or_congr ?_ ?_
  · constructor
    · intro h p hp hf
      have : p ∈ (points many).filter fun p => fits r.1 p := List.mem_filter.mpr ⟨hp, hf⟩
      have := List.length_pos_of_mem this
      omega
    · intro h
      rw [List.filter_eq_nil_iff.mpr h]
      rfl
  · have e : (!((points many).find? (tolB r rules)).isNone) = ((points many).find? (tolB r rules)).isSome := by cases (points many).find? (tolB r rules) <;> rfl
    rw [e, List.find?_isSome]
    refine exists_congr fun p => and_congr_right fun _ => ?_
    unfold tolB
    rw [Bool.and_eq_true, Bool.and_eq_true]
    refine and_congr_right fun _ => and_congr_right fun _ => ?_
    simp
theorem lfree_eq {r : Rule} {rules : List Rule} {many : Int} : lfree r rules many = isfree r rules many := by
  refine Bool.eq_iff_iff.mpr (Iff.trans ?_ isfree_iff.symm)
  unfold lfree
  rw [List.map_id']
  by_cases h : ((points many).filter fun point => fits r.1 point) = []
  · rw [if_pos (decide_eq_true h)]
    exact ⟨fun _ => .inl (List.filter_eq_nil_iff.mp h), fun _ => rfl⟩
  · rw [if_neg (fun z => h (of_decide_eq_true z))]
    rw [Bool.not_eq_true', decide_eq_false_iff_not, List.map_eq_nil_iff, List.filter_eq_nil_iff]
    constructor
    · intro z
      refine .inr ?_
      apply Classical.byContradiction
      intro y
      refine z fun p hp w => y ?_
      obtain ⟨p1, p2⟩ := List.mem_filter.mp hp
      obtain ⟨w1, w2⟩ := Bool.and_eq_true_iff.mp w
      exact ⟨p, p1, p2, w1, List.filter_eq_nil_iff.mp (List.map_eq_nil_iff.mp (of_decide_eq_true w2))⟩
    · rintro (z | ⟨p, p1, p2, p3, p4⟩) y
      · exact h (List.filter_eq_nil_iff.mpr z)
      · exact y p (List.mem_filter.mpr ⟨p1, p2⟩) (Bool.and_eq_true_iff.mpr ⟨p3, decide_eq_true (List.map_eq_nil_iff.mpr (List.filter_eq_nil_iff.mpr p4))⟩)
/-! ### walking the layers -/
section
variable {rules : List Rule} {many : Int} {left : List Int} {found : List (List Int)}
theorem getR_ok (h : okRs many rules) {k : Int} (h0 : 0 ≤ k) (h1 : k < (rules.length : Int)) : okR many (getR rules k) := by
  refine h.2 _ ?_
  unfold getR
  rw [List.getD_eq_getElem?_getD, List.getElem?_eq_getElem (by omega)]
  exact List.getElem_mem _
theorem getRs_ok (h : okRs many rules) (hl : ∀ k ∈ left, 0 ≤ k ∧ k < (rules.length : Int)) (hn : left.length ≤ 100) : okRs many (left.map (getR rules)) := ⟨by rw [List.length_map]; exact hn, fun r hr => by
  obtain ⟨k, hk, rfl⟩ := List.mem_map.mp hr
  exact getR_ok h (hl k hk).1 (hl k hk).2⟩
theorem level_eq : level rules many left = left.filter fun k => isfree (getR rules k) (left.map (getR rules)) many := List.map_id' _
theorem lessL_eq : lessL rules many left = left.filter fun k => !decide (k ∈ level rules many left) := List.map_id' _
theorem level_sub {k : Int} (h : k ∈ level rules many left) : k ∈ left := by
  rw [level_eq] at h
  exact (List.mem_filter.mp h).1
theorem level_len : (level rules many left).length ≤ left.length := by
  rw [level_eq]
  exact List.length_filter_le _ _
theorem left_less (h : level rules many left ≠ []) : (lessL rules many left).length < left.length := by
  rw [lessL_eq]
  obtain ⟨k, hk⟩ := List.exists_mem_of_ne_nil _ h
  exact List.length_filter_lt_length_iff_exists.mpr ⟨k, level_sub hk, by simp [hk]⟩
/-- where the loop stands -/
def layI (rules : List Rule) (many : Int) (left : List Int) (found : List (List Int)) : Prop :=
  (∃ n, left.length ≤ n ∧ layGo rules many n left found = layers rules many) ∧ (∀ k ∈ left, 0 ≤ k ∧ k < (rules.length : Int)) ∧ found.length + left.length ≤ rules.length
theorem layI_start : layI rules many (rng 0 (rules.length : Int)) [] := ⟨⟨rules.length, by rw [rng_len]; omega, rfl⟩, fun k hk => mem_rng.mp hk, by rw [rng_len]; simp⟩
theorem layI_end (h : layI rules many [] found) : layers rules many = .yes found := by
  obtain ⟨⟨n, _, h2⟩, _⟩ := h
  rw [← h2]
  cases n <;> rfl
theorem layI_no (h : layI rules many left found) (hn : left ≠ []) (hl : level rules many left = []) : layers rules many = .no left := by
  obtain ⟨⟨n, h1, h2⟩, _⟩ := h
  rw [← h2]
  cases n with
  | zero => exact absurd (List.eq_nil_of_length_eq_zero (by omega)) hn
  | succ n => rw [layGo, if_neg hn, if_pos hl]
theorem layI_step (h : layI rules many left found) (hn : left ≠ []) (hl : level rules many left ≠ []) : layI rules many (lessL rules many left) (found ++ [level rules many left]) := by
  obtain ⟨⟨n, h1, h2⟩, h3, h4⟩ := h
  have h5 := left_less hl
  refine ⟨?_, fun k hk => h3 k (by rw [lessL_eq] at hk; exact (List.mem_filter.mp hk).1), by rw [List.length_append]; simp only [List.length_cons, List.length_nil]; omega⟩
  cases n with
  | zero => exact absurd (List.eq_nil_of_length_eq_zero (by omega)) hn
  | succ n => exact ⟨n, by omega, by rw [← h2, layGo, if_neg hn, if_neg hl]⟩
end
/-! more of the layers -/
section
variable {rules : List Rule} {many : Int} {r : Rule}
theorem okM_more (h : okM many rules r) : okRs many (more rules r) := by
  obtain ⟨h1, h2, h3, h4⟩ := h
  refine ⟨by unfold more; rw [List.length_append]; simp only [List.length_cons, List.length_nil]; omega, fun s hs => ?_⟩
  rcases List.mem_append.mp hs with hs | hs
  · exact h1.2 s hs
  · rw [List.mem_singleton.mp hs]
    exact ⟨h3.1, by show (Sy.neg r.2).dep < 8; simp only [Sy.dep]; omega, h3.2.2⟩
theorem layGo_ok (h : okRs many rules) : ∀ (n : Nat) (left : List Int) (found ls : List (List Int)), left.length ≤ n → layI rules many left found → lvOk rules found → layGo rules many n left found = .yes ls → lvOk rules ls
  | 0, left, found, ls, hn, hI, hf, e => by
    have : left = [] := List.eq_nil_of_length_eq_zero (by omega)
    rw [layGo, if_pos this] at e
    cases e
    exact hf
  | n + 1, left, found, ls, hn, hI, hf, e => by
    rw [layGo] at e
    by_cases hl : left = []
    · rw [if_pos hl] at e
      cases e
      exact hf
    · rw [if_neg hl] at e
      by_cases hv : level rules many left = []
      · rw [if_pos hv] at e; cases e
      · rw [if_neg hv] at e
        have hs := layI_step hI hl hv
        have hll := left_less hv
        refine layGo_ok h n _ _ ls (by omega) hs ⟨by have := hs.2.2; have := h.1; omega, fun l hl' => ?_⟩ e
        rcases List.mem_append.mp hl' with y | y
        · exact hf.2 l y
        · rw [List.mem_singleton.mp y]
          refine ⟨by have := level_len (rules := rules) (many := many) (left := left); have := hI.2.2; have := h.1; omega, fun k hk => hI.2.1 k (level_sub hk)⟩
theorem layers_ok (h : okRs many rules) {ls : List (List Int)} (e : layers rules many = .yes ls) : lvOk rules ls :=
  layGo_ok h rules.length _ [] ls (by rw [rng_len]; omega) layI_start ⟨by simp, fun l hl => nomatch hl⟩ e
theorem ranksOf_len {l : List Int} (e : ranksOf rules many = some l) : l.length = (points many).length := by
  unfold ranksOf at e
  cases y : layers rules many with
  | no ls => rw [y] at e; cases e
  | yes ls =>
    rw [y] at e
    cases e
    exact List.length_map ..
theorem isRanks_len {l : List Int} (hm : 1 ≤ many ∧ many ≤ 3) (h : isRanksV many (.nums l) = true) : l.length = (points many).length := by
  rw [isRanksV] at h
  cases y : ((!true) || (!decide ((l.length : Int) = (1 * 2 ^ (many).toNat)))) with
  | true => rw [if_pos y] at h; cases h
  | false =>
    have e : (l.length : Int) = 1 * 2 ^ many.toNat := by simpa using y
    rw [points_len]
    have e2 : ((2 ^ many.toNat : Nat) : Int) = 2 ^ many.toNat := by rw [Int.natCast_pow]; rfl
    omega
end
theorem v_eqF {K : PySem.W.Frag} {d e : D} {n k : Nat} (hd : d.ok n = true) (he : e.ok k = true) (h : PyData.eqv d.py e.py = false) (hn : n ≤ 64 := by decide) (hk : k ≤ 64 := by decide) : RV2 K (rEqD K) d e (.bl false) := by
  rw [← h]
  exact v_eqD hd he hn hk
theorem enil : (D.tup []).ok 5 = true := rfl
theorem v_nb {K : PySem.W.Frag} {l : List Int} {b : Bool} : RV2 K (rEqD K) (eV (.mix l b)) (.tup []) (.bl false) := v_eqF (n := 5) (k := 5) (show okL (l.map D.int ++ [.bl b]) 4 = true from okL_iff.mpr fun d hd => by
  rcases List.mem_append.mp hd with h | h
  · obtain ⟨i, _, rfl⟩ := List.mem_map.mp h
    rfl
  · rw [List.mem_singleton.mp h]; rfl) rfl (by cases l <;> rfl)
theorem v_nt {K : PySem.W.Frag} {s : Str} (h : PyData.strOk s = true) : RV2 K (rEqD K) (eV (.tex s)) (.tup []) (.bl false) := v_eqF (n := 5) (k := 5) (show okL [D.str s] 4 = true by rw [okL, okL, D.ok, h]; rfl) rfl rfl
theorem v_nl {K : PySem.W.Frag} {l : List Int} : RV2 K (rEqD K) (eV (.lis l)) (.tup []) (.bl false) := v_eqF (k := 5) (Enc.ok (f := lT D.int) l) rfl rfl
theorem v_nn {K : PySem.W.Frag} : RV2 K (rEqD K) (eV .nun) (.tup []) (.bl false) := v_eqF (n := 5) (k := 5) rfl rfl rfl
theorem v_ns {K : PySem.W.Frag} {s : Str} (h : PyData.strOk s = true) : RV2 K (rEqD K) (eV (.txt s)) (.tup []) (.bl false) := v_eqF (n := 5) (k := 5) (show (D.str s).ok 5 = true by rw [D.ok]; exact h) rfl rfl
/-! drawn rules -/
def small (m : Int) (s : Sy) : Prop := s.dep ≤ 2 ∧ s.lt m
def smallR (m : Int) (r : Rule) : Prop := small m r.1 ∧ small m r.2
def smallRs (m : Int) (rules : List Rule) : Prop := ∀ r ∈ rules, smallR m r
def cSay (n : Nat) : Con := fun ds Φ => ∃ letters depth : Int, ds = [.int letters, .int depth, .bl false] ∧ (1 ≤ letters ∧ letters < 1000 ∧ 0 ≤ depth ∧ depth < n) ∧ ∀ s : Sy, (s.dep : Int) ≤ depth → s.lt letters → Φ (eS s)
def cRules : Con := fun ds Φ => ∃ many most : Int, ds = [.int many, .int most] ∧ ((1 ≤ many ∧ many ≤ 3) ∧ 0 ≤ most ∧ most ≤ 10) ∧ ∀ rules : List Rule, (rules.length : Int) ≤ most → smallRs many rules → Φ (lT (pT eS eS) rules)
end WB

/-! What follows: layers, ranks made of them, and all ranks that keep the rules. -/
namespace WB
open PySem PySem.Spec PyProof.Rows L2 Evl DL
section
variable {ranks : List Int} {many : Int} {rules some' : List Rule} {r : Rule}
def Sat (ranks : List Int) (many : Int) (rules : List Rule) : Prop := ∀ r ∈ rules, Hp ranks many r.1 r.2
theorem ex_min {P : Int → Prop} (h : ∃ k : Int, 0 ≤ k ∧ k < ((points many).length : Int) ∧ P k) : ∃ k : Int, (0 ≤ k ∧ k < ((points many).length : Int) ∧ P k) ∧ ∀ j : Int, 0 ≤ j → j < ((points many).length : Int) → P j → rk ranks k ≤ rk ranks j := by
  classical
  obtain ⟨k, h0, h1, h2⟩ := h
  have hm : k ∈ (rng 0 ((points many).length : Int)).filter fun k => decide (P k) := List.mem_filter.mpr ⟨mem_rng.mpr ⟨h0, h1⟩, decide_eq_true h2⟩
  have ne : ((rng 0 ((points many).length : Int)).filter fun k => decide (P k)).map (rk ranks) ≠ [] := fun e => by
    rw [List.map_eq_nil_iff.mp e] at hm
    cases hm
  obtain ⟨m1, m2⟩ := lmin_ok ne
  obtain ⟨i, hi, e⟩ := List.mem_map.mp m1
  obtain ⟨i1, i2⟩ := List.mem_filter.mp hi
  have i3 := mem_rng.mp i1
  refine ⟨i, ⟨i3.1, i3.2, of_decide_eq_true i2⟩, fun j j0 j1 j2 => ?_⟩
  have := m2 _ (List.mem_map.mpr ⟨j, List.mem_filter.mpr ⟨mem_rng.mpr ⟨j0, j1⟩, decide_eq_true j2⟩, rfl⟩)
  rw [← e] at this
  exact this
theorem pt_of {p : List Int} (h : p ∈ points many) : ∃ k : Int, 0 ≤ k ∧ k < ((points many).length : Int) ∧ pt many k = p := by
  obtain ⟨n, hn, e⟩ := List.getElem_of_mem h
  refine ⟨n, by omega, by omega, ?_⟩
  unfold pt
  rw [List.getD_eq_getElem?_getD]
  show ((points many)[n]?).getD [] = p
  rw [List.getElem?_eq_getElem hn]
  exact e
/-- no ranks keep rules none of which is free -/
theorem stuck_unsat (hne : some' ≠ []) (hf : ∀ r ∈ some', ¬ isfree r some' many = true) : ¬ Sat ranks many some' := fun hs => by
  obtain ⟨r0, hr0⟩ := List.exists_mem_of_ne_nil _ hne
  have ha : ∀ r ∈ some', ∃ p ∈ points many, fits r.1 p = true := fun r hr => by
    apply Classical.byContradiction
    intro y
    exact hf r hr (isfree_iff.mpr (.inl fun p hp hq => y ⟨p, hp, hq⟩))
  obtain ⟨p0, hp0, hq0⟩ := ha r0 hr0
  obtain ⟨k0, a0, a1, rfl⟩ := pt_of hp0
  obtain ⟨k, ⟨b0, b1, r, hr, hk⟩, hmin⟩ := ex_min (ranks := ranks) (many := many) (P := fun k => ∃ r ∈ some', fits r.1 (pt many k) = true) ⟨k0, a0, a1, r0, hr0, hq0⟩
  have mn : ∀ s ∈ some', fits s.1 (pt many k) = true → fits s.2 (pt many k) = true := fun s hs' hq => hs s hs' k ⟨b0, b1, hq, fun j j0 j1 j2 => hmin j j0 j1 ⟨s, hs', j2⟩⟩
  refine hf r hr (isfree_iff.mpr (.inr ⟨pt many k, rows_mem b0 b1, hk, mn r hr hk, fun s hs' hb => ?_⟩))
  unfold breaks at hb
  obtain ⟨c1, c2⟩ := Bool.and_eq_true_iff.mp hb
  rw [mn s hs' c1] at c2
  cases c2
theorem Sat.sub {l : List Rule} (h : Sat ranks many rules) (k : ∀ r ∈ l, r ∈ rules) : Sat ranks many l := fun r hr => h r (k r hr)
/-! the layers -/
def tolP (many : Int) (r : Rule) (ok : List Int → Prop) : Prop := (∀ p ∈ points many, ¬ fits r.1 p = true) ∨ ∃ p ∈ points many, fits r.1 p = true ∧ fits r.2 p = true ∧ ok p
structure Ly (rules : List Rule) (many : Int) (left : List Int) (found : List (List Int)) : Prop where
  all : ∀ k ∈ rng 0 (rules.length : Int), k ∈ left ∨ ∃ (i : Nat) (l : List Int), found[i]? = some l ∧ k ∈ l
  tol : ∀ (i : Nat) (l : List Int), found[i]? = some l → ∀ k ∈ l, tolP many (getR rules k) fun p => (∀ j ∈ left, ¬ breaks (getR rules j) p = true) ∧ ∀ (i' : Nat) (l' : List Int), i ≤ i' → found[i']? = some l' → ∀ j ∈ l', ¬ breaks (getR rules j) p = true
  asc : left.Pairwise (· < ·)
theorem ly_step {left : List Int} {found : List (List Int)} (h : Ly rules many left found) : Ly rules many (lessL rules many left) (found ++ [level rules many left]) where
  all := fun k hk => by
    rcases h.all k hk with y | ⟨i, l, h1, h2⟩
    · by_cases z : k ∈ level rules many left
      · exact .inr ⟨found.length, _, by rw [List.getElem?_append_right (Nat.le_refl _), Nat.sub_self]; rfl, z⟩
      · exact .inl (by rw [lessL_eq]; exact List.mem_filter.mpr ⟨y, by simp [z]⟩)
    · refine .inr ⟨i, l, ?_, h2⟩
      rw [List.getElem?_append_left (List.getElem?_eq_some_iff.mp h1).1]
      exact h1
  tol := fun i l hl k hk => by
    have sub : ∀ j ∈ lessL rules many left, j ∈ left := fun j hj => by rw [lessL_eq] at hj; exact (List.mem_filter.mp hj).1
    by_cases hi : i < found.length
    · rw [List.getElem?_append_left hi] at hl
      rcases h.tol i l hl k hk with y | ⟨p, p1, p2, p3, p4, p5⟩
      · exact .inl y
      · refine .inr ⟨p, p1, p2, p3, fun j hj => p4 j (sub j hj), fun i' l' h1 h2 j hj => ?_⟩
        by_cases hi' : i' < found.length
        · rw [List.getElem?_append_left hi'] at h2
          exact p5 i' l' h1 h2 j hj
        · rw [List.getElem?_append_right (by omega)] at h2
          have e : l' = level rules many left := by
            cases z : i' - found.length with
            | zero => rw [z] at h2; cases h2; rfl
            | succ n => rw [z] at h2; cases h2
          rw [e] at hj
          exact p4 j (level_sub hj)
    · rw [List.getElem?_append_right (by omega)] at hl
      have e : l = level rules many left ∧ i = found.length := by
        cases z : i - found.length with
        | zero => rw [z] at hl; cases hl; exact ⟨rfl, by omega⟩
        | succ n => rw [z] at hl; cases hl
      obtain ⟨rfl, rfl⟩ := e
      have hk' := hk
      rw [level_eq] at hk'
      rcases isfree_iff.mp (List.mem_filter.mp hk').2 with y | ⟨p, p1, p2, p3, p4⟩
      · exact .inl y
      · refine .inr ⟨p, p1, p2, p3, fun j hj => p4 _ (List.mem_map.mpr ⟨j, sub j hj, rfl⟩), fun i' l' h1 h2 j hj => ?_⟩
        rw [List.getElem?_append_right h1] at h2
        have e : l' = level rules many left := by
          cases z : i' - found.length with
          | zero => rw [z] at h2; cases h2; rfl
          | succ n => rw [z] at h2; cases h2
        rw [e] at hj
        exact p4 _ (List.mem_map.mpr ⟨j, level_sub hj, rfl⟩)
  asc := by rw [lessL_eq]; exact h.asc.filter _
theorem ly_start : Ly rules many (rng 0 (rules.length : Int)) [] := ⟨fun k hk => .inl hk, fun i l hl => by simp at hl, rng_asc⟩
theorem layGo_yes : ∀ (n : Nat) (left : List Int) (found ls : List (List Int)), left.length ≤ n → Ly rules many left found → layGo rules many n left found = .yes ls → Ly rules many [] ls
  | 0, left, found, ls, hn, hI, e => by
    have hl : left = [] := List.eq_nil_of_length_eq_zero (by omega)
    subst hl
    rw [layGo, if_pos rfl] at e
    cases e
    exact hI
  | n + 1, left, found, ls, hn, hI, e => by
    rw [layGo] at e
    by_cases hl : left = []
    · subst hl
      rw [if_pos rfl] at e
      cases e
      exact hI
    · rw [if_neg hl] at e
      by_cases hv : level rules many left = []
      · rw [if_pos hv] at e; cases e
      · rw [if_neg hv] at e
        exact layGo_yes n _ _ ls (by have := left_less hv; omega) (ly_step hI) e
theorem layGo_no : ∀ (n : Nat) (left : List Int) (found : List (List Int)) (l : List Int), left.length ≤ n → Ly rules many left found → (∀ k ∈ left, 0 ≤ k ∧ k < (rules.length : Int)) → layGo rules many n left found = .no l → l ≠ [] ∧ level rules many l = [] ∧ l.Pairwise (· < ·) ∧ (∀ k ∈ l, 0 ≤ k ∧ k < (rules.length : Int)) ∧ l.length ≤ left.length
  | 0, left, found, l, hn, hI, hk, e => by
    have hl : left = [] := List.eq_nil_of_length_eq_zero (by omega)
    subst hl
    rw [layGo, if_pos rfl] at e
    cases e
  | n + 1, left, found, l, hn, hI, hk, e => by
    rw [layGo] at e
    by_cases hl : left = []
    · rw [if_pos hl] at e
      cases e
    · rw [if_neg hl] at e
      by_cases hv : level rules many left = []
      · rw [if_pos hv] at e
        cases e
        exact ⟨hl, hv, hI.asc, hk, Nat.le_refl _⟩
      · rw [if_neg hv] at e
        have hll := left_less hv
        obtain ⟨z1, z2, z3, z4, z5⟩ := layGo_no n _ _ l (by omega) (ly_step hI) (fun k h => hk k (by rw [lessL_eq] at h; exact (List.mem_filter.mp h).1)) e
        exact ⟨z1, z2, z3, z4, by omega⟩
theorem layers_yes {ls : List (List Int)} (e : layers rules many = .yes ls) : Ly rules many [] ls := layGo_yes rules.length _ [] ls (by rw [rng_len]; omega) ly_start e
theorem layers_no {l : List Int} (e : layers rules many = .no l) : l ≠ [] ∧ level rules many l = [] ∧ l.Pairwise (· < ·) ∧ (∀ k ∈ l, 0 ≤ k ∧ k < (rules.length : Int)) ∧ l.length ≤ rules.length := by
  have z := layGo_no rules.length _ [] l (by rw [rng_len]; omega) ly_start (fun k hk => mem_rng.mp hk) e
  rw [rng_len] at z
  exact ⟨z.1, z.2.1, z.2.2.1, z.2.2.2.1, by have := z.2.2.2.2; omega⟩
theorem getR_mem {k : Int} (h0 : 0 ≤ k) (h1 : k < (rules.length : Int)) : getR rules k ∈ rules := by
  unfold getR
  rw [List.getD_eq_getElem?_getD, List.getElem?_eq_getElem (by omega)]
  exact List.getElem_mem _
theorem level_nil {l : List Int} (h : level rules many l = []) : ∀ r ∈ l.map (getR rules), ¬ isfree r (l.map (getR rules)) many = true := fun r hr => by
  obtain ⟨k, hk, rfl⟩ := List.mem_map.mp hr
  rw [level_eq] at h
  exact List.filter_eq_nil_iff.mp h k hk
theorem layers_no_unsat {l : List Int} (e : layers rules many = .no l) : ¬ Sat ranks many rules := fun hs => by
  obtain ⟨h1, h2, h3, h4, _⟩ := layers_no e
  refine stuck_unsat (ranks := ranks) (fun z => h1 (List.map_eq_nil_iff.mp z)) (level_nil h2) (hs.sub fun r hr => ?_)
  obtain ⟨k, hk, rfl⟩ := List.mem_map.mp hr
  exact getR_mem (h4 k hk).1 (h4 k hk).2
/-! ranks by the layers -/
theorem lmax_le {l : List Int} (hl : l ≠ []) {i : Int} : lmax l ≤ i ↔ ∀ x ∈ l, x ≤ i := by
  obtain ⟨m1, m2⟩ := lmax_ok hl
  exact ⟨fun h x hx => by have := m2 x hx; omega, fun h => h _ m1⟩
theorem rop_le {told : List (List Int)} {p : List Int} {i : Int} (h0 : 0 ≤ i) : rop rules told p ≤ i ↔ ∀ (k : Nat) (l : List Int), told[k]? = some l → (∃ j ∈ l, breaks (getR rules j) p = true) → (k : Int) + 1 ≤ i := by
  unfold rop
  rw [lmax_le (by simp)]
  constructor
  · intro h k l hk ⟨j, hj, hb⟩
    have hlt := (List.getElem?_eq_some_iff.mp hk).1
    refine h _ (List.mem_append.mpr (.inr (List.mem_map.mpr ⟨(k : Int), List.mem_filter.mpr ⟨mem_rng.mpr ⟨by omega, by omega⟩, ?_⟩, rfl⟩)))
    rw [List.any_eq_true]
    refine ⟨_, List.mem_map.mpr ⟨j, ?_, rfl⟩, hb⟩
    rw [List.getD_eq_getElem?_getD]
    show j ∈ (told[k]?).getD []
    rw [hk]
    exact hj
  · intro h x hx
    rcases List.mem_append.mp hx with hx | hx
    · rw [List.mem_singleton.mp hx]; exact h0
    · obtain ⟨k, hk, rfl⟩ := List.mem_map.mp hx
      obtain ⟨k1, k2⟩ := List.mem_filter.mp hk
      have k3 := mem_rng.mp k1
      obtain ⟨y, hy, hb⟩ := List.any_eq_true.mp k2
      obtain ⟨j, hj, rfl⟩ := List.mem_map.mp hy
      have z := h k.toNat (told.getD k.toNat []) (by rw [List.getD_eq_getElem?_getD, List.getElem?_eq_getElem (by omega)]; rfl) ⟨j, hj, hb⟩
      omega
theorem rop_nonneg {told : List (List Int)} {p : List Int} : 0 ≤ rop rules told p := by
  unfold rop
  exact (lmax_ok (by simp)).2 0 (by simp)
theorem rk_map {f : List Int → Int} {k : Int} (h0 : 0 ≤ k) (h1 : k < ((points many).length : Int)) : rk ((points many).map f) k = f (pt many k) := by
  unfold rk pt
  rw [List.getD_eq_getElem?_getD, List.getD_eq_getElem?_getD, List.getElem?_map, List.getElem?_eq_getElem (by omega)]
  rfl
theorem zrank_sat {ls : List (List Int)} (e : layers rules many = .yes ls) : Sat ((points many).map fun p => rop rules ls p) many rules := fun r hr k hk => by
  have L := layers_yes e
  obtain ⟨n, hn, en⟩ := List.getElem_of_mem hr
  have er : getR rules (n : Int) = r := by
    unfold getR
    rw [List.getD_eq_getElem?_getD]
    show ((rules[n]?).getD _) = r
    rw [List.getElem?_eq_getElem hn]
    exact en
  rcases L.all (n : Int) (mem_rng.mpr ⟨by omega, by omega⟩) with y | ⟨i, l, h1, h2⟩
  · cases y
  · obtain ⟨k0, k1, k2, k3⟩ := hk
    rcases L.tol i l h1 n h2 with y | ⟨p, p1, p2, p3, p4, p5⟩
    · rw [er] at y
      exact absurd k2 (y _ (rows_mem k0 k1))
    · rw [er] at p2 p3
      obtain ⟨k', a0, a1, rfl⟩ := pt_of p1
      have hle := k3 k' a0 a1 p2
      rw [rk_map k0 k1, rk_map a0 a1] at hle
      have h5 : rop rules ls (pt many k') ≤ (i : Int) := (rop_le (by omega)).mpr fun j l' hj ⟨x, hx, hb⟩ => by
        by_cases z : i ≤ j
        · exact absurd hb (p5 j l' z hj x hx)
        · omega
      have h6 := (rop_le (i := (i : Int)) (by omega)).mp (show rop rules ls (pt many k) ≤ (i : Int) by omega)
      apply Classical.byContradiction
      intro hf
      have := h6 i l h1 ⟨(n : Int), h2, by
        rw [er]
        unfold breaks
        rw [k2]
        simpa using hf⟩
      omega
/-! what follows of rules -/
theorem shift {ranks : List Int} (hs : Sat ranks many rules) (hn : ¬ Hp ranks many r.1 r.2) : ∃ ranks' : List Int, ranks'.length = (points many).length ∧ Sat ranks' many (more rules r) := by
  have ⟨k0, hk0, hf⟩ : ∃ k0, Mn ranks many r.1 k0 ∧ ¬ fits r.2 (pt many k0) = true := by
    apply Classical.byContradiction
    intro y
    exact hn fun k hk => by
      apply Classical.byContradiction
      intro z
      exact y ⟨k, hk, z⟩
  refine ⟨(rng 0 ((points many).length : Int)).map fun k => if k = k0 then 2 * rk ranks k0 else 2 * rk ranks k + 1, by rw [List.length_map, rng_len]; omega, ?_⟩
  have er : ∀ k : Int, 0 ≤ k → k < ((points many).length : Int) → rk ((rng 0 ((points many).length : Int)).map fun k => if k = k0 then 2 * rk ranks k0 else 2 * rk ranks k + 1) k = if k = k0 then 2 * rk ranks k0 else 2 * rk ranks k + 1 := fun k h0 h1 => by
    unfold rk
    rw [List.getD_eq_getElem?_getD, List.getElem?_map, rng_get (by omega)]
    have : (0 : Int) + (k.toNat : Int) = k := by omega
    rw [this]
    rfl
  have back : ∀ (a : Sy) (k : Int), Mn ((rng 0 ((points many).length : Int)).map fun k => if k = k0 then 2 * rk ranks k0 else 2 * rk ranks k + 1) many a k → Mn ranks many a k := fun a k ⟨h0, h1, h2, h3⟩ => ⟨h0, h1, h2, fun j j0 j1 j2 => by
    have z := h3 j j0 j1 j2
    rw [er k h0 h1, er j j0 j1] at z
    by_cases e1 : k = k0
    · rw [if_pos e1] at z
      subst e1
      by_cases e2 : j = k
      · subst e2; omega
      · rw [if_neg e2] at z; omega
    · rw [if_neg e1] at z
      by_cases e2 : j = k0
      · subst e2; rw [if_pos rfl] at z; omega
      · rw [if_neg e2] at z; omega⟩
  intro s hs' k hk
  rcases List.mem_append.mp hs' with y | y
  · exact hs s y k (back _ k hk)
  · rw [List.mem_singleton.mp y] at hk ⊢
    have e : k = k0 := by
      apply Classical.byContradiction
      intro ne
      have z := hk.2.2.2 k0 hk0.1 hk0.2.1 hk0.2.2.1
      rw [er k hk.1 hk.2.1, er k0 hk0.1 hk0.2.1, if_neg ne, if_pos rfl] at z
      have := hk0.2.2.2 k hk.1 hk.2.1 hk.2.2.1
      omega
    subst e
    show (!fits r.2 (pt many k)) = true
    simpa using hf
def Fo.isYes : Fo → Bool
  | .yes _ => true
  | .no _ => false
theorem follows_yes {l : List Int} (e : follows rules r many = .yes l) : ∀ ranks, Sat ranks many rules → Hp ranks many r.1 r.2 := fun ranks hs => by
  unfold follows at e
  by_cases h : ((pw r.1 many).length : Int) = 0
  · intro k hk
    have : pt many k ∈ pw r.1 many := List.mem_filter.mpr ⟨rows_mem hk.1 hk.2.1, hk.2.2.1⟩
    have := List.length_pos_of_mem this
    omega
  · rw [if_neg h] at e
    cases y : layers (more rules r) many with
    | yes ls => rw [y] at e; cases e
    | no l' =>
      apply Classical.byContradiction
      intro hn
      obtain ⟨ranks', _, hs'⟩ := shift hs hn
      exact layers_no_unsat y hs'
theorem follows_no {l : List Int} (e : follows rules r many = .no l) : Sat l many rules ∧ ¬ Hp l many r.1 r.2 ∧ Sat l many (more rules r) ∧ l.length = (points many).length ∧ (∀ x ∈ l, 0 ≤ x) ∧ ∃ ls, layers (more rules r) many = .yes ls := by
  unfold follows at e
  by_cases h : ((pw r.1 many).length : Int) = 0
  · rw [if_pos h] at e; cases e
  · rw [if_neg h] at e
    cases y : layers (more rules r) many with
    | no ls => rw [y] at e; cases e
    | yes ls =>
      rw [y] at e
      cases e
      have hs := zrank_sat y
      refine ⟨hs.sub fun s hs' => List.mem_append.mpr (.inl hs'), fun hh => ?_, hs, List.length_map .., fun x hx => ?_, ls, rfl⟩
      · have : ∃ p, p ∈ pw r.1 many := List.exists_mem_of_length_pos (by omega)
        obtain ⟨p, hp⟩ := this
        obtain ⟨p1, p2⟩ := List.mem_filter.mp hp
        obtain ⟨k, a0, a1, rfl⟩ := pt_of p1
        obtain ⟨j, hj⟩ := mn_ex (ranks := (points many).map fun p => rop (more rules r) ls p) (many := many) (a := r.1) ⟨k, a0, a1, p2⟩
        have h1 := hh j hj
        have h2 : fits (.neg r.2) (pt many j) = true := hs (r.1, .neg r.2) (List.mem_append.mpr (.inr (List.mem_singleton.mpr rfl))) j hj
        rw [show fits (.neg r.2) (pt many j) = !fits r.2 (pt many j) from rfl, h1] at h2
        cases h2
      · obtain ⟨p, _, rfl⟩ := List.mem_map.mp hx
        exact rop_nonneg
theorem yes_iff : (follows rules r many).isYes = true ↔ ∀ ranks, Sat ranks many rules → Hp ranks many r.1 r.2 := by
  cases e : follows rules r many with
  | yes l => exact ⟨fun _ => follows_yes e, fun _ => rfl⟩
  | no l =>
    obtain ⟨h1, h2, _⟩ := follows_no e
    exact ⟨fun h => (nomatch h), fun h => absurd (h l h1) h2⟩
end
end WB

namespace WB
open PySem PySem.Spec PyProof.Rows L2 Evl DL
section
variable {ranks : List Int} {many : Int} {rules : List Rule} {r : Rule}
theorem all_id {α : Type} {l : List α} {f : α → Bool} : (l.map f).all id = true ↔ ∀ x ∈ l, f x = true := by
  rw [List.all_eq_true]
  exact ⟨fun h x hx => h _ (List.mem_map.mpr ⟨x, hx, rfl⟩), fun h y hy => by
    obtain ⟨x, hx, rfl⟩ := List.mem_map.mp hy
    exact h x hx⟩
theorem any_id {α : Type} {l : List α} {f : α → Bool} : (l.map f).any id = true ↔ ∃ x ∈ l, f x = true := by
  rw [List.any_eq_true]
  exact ⟨fun ⟨y, hy, h⟩ => by
    obtain ⟨x, hx, rfl⟩ := List.mem_map.mp hy
    exact ⟨x, hx, h⟩, fun ⟨x, hx, h⟩ => ⟨_, List.mem_map.mpr ⟨x, hx, rfl⟩, h⟩⟩
theorem stuckB_iff {l : List Int} : stuckB rules many l = true ↔ l ≠ [] ∧ (∀ k ∈ l, 0 ≤ k ∧ k < (rules.length : Int)) ∧ (∀ j : Int, 0 ≤ j → j < (l.length : Int) - 1 → l.getD j.toNat 0 < l.getD (j + 1).toNat 0) ∧ ∀ s ∈ l.map (getR rules), ¬ isfree s (l.map (getR rules)) many = true := by
  unfold stuckB
  by_cases h1 : ((!true) || (decide ((l.length : Int) = 0))) = true
  · rw [if_pos h1]
    refine ⟨fun h => (nomatch h), fun h => absurd ?_ h.1⟩
    have : (l.length : Int) = 0 := by simpa using h1
    exact List.eq_nil_of_length_eq_zero (by omega)
  · rw [if_neg h1]
    have n1 : l ≠ [] := fun e => h1 (by rw [e]; rfl)
    by_cases h2 : (l.map fun k => (true && ((!false) && ((decide (0 ≤ k)) && (decide (k < (rules.length : Int))))))).all id = true
    · have n2 : ∀ k ∈ l, 0 ≤ k ∧ k < (rules.length : Int) := fun k hk => by
        have := all_id.mp h2 k hk
        simpa using this
      rw [if_neg (by rw [h2]; exact fun z => Bool.noConfusion z)]
      by_cases h3 : (((rng 0 ((l.length : Int) - 1)).map fun j => (decide ((l.getD ((j + 1)).toNat 0) ≤ (l.getD (j).toNat 0)))).any id) = true
      · rw [if_pos h3]
        refine ⟨fun h => (nomatch h), fun h => ?_⟩
        obtain ⟨j, hj, hd⟩ := any_id.mp h3
        have hj' := mem_rng.mp hj
        have := h.2.2.1 j hj'.1 hj'.2
        have := of_decide_eq_true hd
        omega
      · rw [if_neg h3]
        have n3 : ∀ j : Int, 0 ≤ j → j < (l.length : Int) - 1 → l.getD j.toNat 0 < l.getD (j + 1).toNat 0 := fun j h0 hl => by
          apply Classical.byContradiction
          intro z
          exact h3 (any_id.mpr ⟨j, mem_rng.mpr ⟨h0, hl⟩, decide_eq_true (by omega)⟩)
        rw [Bool.not_eq_true', Bool.eq_false_iff]
        exact ⟨fun h => ⟨n1, n2, n3, fun s hs z => h (any_id.mpr ⟨s, hs, z⟩)⟩, fun h z => by
          obtain ⟨s, hs, y⟩ := any_id.mp z
          exact h.2.2.2 s hs y⟩
    · rw [if_pos (by cases y : (l.map fun k => (true && ((!false) && ((decide (0 ≤ k)) && (decide (k < (rules.length : Int))))))).all id with | true => exact absurd y h2 | false => rfl)]
      refine ⟨fun h => (nomatch h), fun h => absurd (all_id.mpr fun k hk => ?_) h2⟩
      have := h.2.1 k hk
      simp [this.1, this.2]
theorem stuckB_unsat {l : List Int} (h : stuckB rules many l = true) : ¬ Sat ranks many rules := fun hs => by
  obtain ⟨h1, h2, _, h4⟩ := stuckB_iff.mp h
  refine stuck_unsat (ranks := ranks) (fun z => h1 (List.map_eq_nil_iff.mp z)) h4 (hs.sub fun s hs' => ?_)
  obtain ⟨k, hk, rfl⟩ := List.mem_map.mp hs'
  exact getR_mem (h2 k hk).1 (h2 k hk).2
theorem asc_at {l : List Int} (h : l.Pairwise (· < ·)) (j : Int) (h0 : 0 ≤ j) (h1 : j < (l.length : Int) - 1) : l.getD j.toNat 0 < l.getD (j + 1).toNat 0 := by
  have e : (j + 1).toNat = j.toNat + 1 := by omega
  rw [e, List.getD_eq_getElem?_getD, List.getD_eq_getElem?_getD, List.getElem?_eq_getElem (by omega), List.getElem?_eq_getElem (by omega)]
  exact List.pairwise_iff_getElem.mp h j.toNat (j.toNat + 1) (by omega) (by omega) (by omega)
theorem stuckB_of {l : List Int} (e : layers rules many = .no l) : stuckB rules many l = true := by
  obtain ⟨h1, h2, h3, h4, _⟩ := layers_no e
  exact stuckB_iff.mpr ⟨h1, h4, asc_at h3, level_nil h2⟩
/-! what `follows` tells -/
theorem fo_yes {l : List Int} (e : follows rules r many = .yes l) : (l = [] ∧ pw r.1 many = []) ∨ (l ≠ [] ∧ layers (more rules r) many = .no l) := by
  unfold follows at e
  by_cases h : ((pw r.1 many).length : Int) = 0
  · rw [if_pos h] at e
    cases e
    exact .inl ⟨rfl, List.eq_nil_of_length_eq_zero (by omega)⟩
  · rw [if_neg h] at e
    cases y : layers (more rules r) many with
    | yes ls => rw [y] at e; cases e
    | no l' =>
      rw [y] at e
      cases e
      exact .inr ⟨(layers_no y).1, rfl⟩
theorem fo_len {l : List Int} (e : follows rules r many = .yes l) (h : rules.length ≤ 20) : l.length ≤ 100 ∧ ∀ k ∈ l, 0 ≤ k ∧ k < ((more rules r).length : Int) := by
  rcases fo_yes e with ⟨rfl, _⟩ | ⟨_, y⟩
  · exact ⟨by simp, fun k hk => nomatch hk⟩
  · obtain ⟨_, _, _, h4, h5⟩ := layers_no y
    refine ⟨?_, h4⟩
    unfold more at h5
    rw [List.length_append] at h5
    simp only [List.length_cons, List.length_nil] at h5
    omega
theorem fo_lstuck {l : List Int} (e : follows rules r many = .yes l) : lstuck rules r many l = true := by
  unfold lstuck
  rcases fo_yes e with ⟨rfl, h⟩ | ⟨hne, y⟩
  · rw [if_pos (decide_eq_true rfl)]
    exact decide_eq_true (List.map_eq_nil_iff.mpr h)
  · rw [if_neg (by simpa using hne)]
    exact decide_eq_true (List.map_eq_nil_iff.mpr (List.filter_eq_nil_iff.mpr (level_nil (layers_no y).2.1)))
theorem fo_shows {l : List Int} (e : follows rules r many = .yes l) : showsB rules r many (.nums l) = true := by
  rw [showsB]
  rcases fo_yes e with ⟨rfl, h⟩ | ⟨hne, y⟩
  · rw [if_pos (by rw [decide_eq_true rfl]; rfl), h]
    rfl
  · rw [if_neg (by simpa using hne)]
    exact stuckB_of y
theorem holdsAll_iff : holdsAll ranks rules many = true ↔ Sat ranks many rules := by
  unfold holdsAll
  rw [all_id]
  exact ⟨fun h s hs => holds_iff.mp (h s hs), fun h s hs => holds_iff.mpr (h s hs)⟩
theorem isRanks_iff {l : List Int} (hm : 1 ≤ many ∧ many ≤ 3) : isRanksV many (.nums l) = true ↔ l.length = (points many).length ∧ ∀ x ∈ l, 0 ≤ x := by
  refine ⟨fun h => ⟨isRanks_len hm h, fun x hx => ?_⟩, fun ⟨h1, h2⟩ => ?_⟩
  · rw [isRanksV] at h
    cases y : ((!true) || (!decide ((l.length : Int) = (1 * 2 ^ (many).toNat)))) with
    | true => rw [if_pos y] at h; cases h
    | false =>
      rw [if_neg (by rw [y]; exact fun z => Bool.noConfusion z)] at h
      have := all_id.mp h x hx
      simpa using this
  · rw [isRanksV]
    have e2 : ((2 ^ many.toNat : Nat) : Int) = 2 ^ many.toNat := by rw [Int.natCast_pow]; rfl
    have e : (l.length : Int) = 1 * 2 ^ many.toNat := by rw [h1, points_len]; omega
    rw [if_neg (by rw [decide_eq_true e]; exact fun z => Bool.noConfusion z)]
    exact all_id.mpr fun x hx => by simp [h2 x hx]
theorem showsNot_iff {l : List Int} (hm : 1 ≤ many ∧ many ≤ 3) : showsNotB rules r many (.nums l) = true ↔ (l.length = (points many).length ∧ ∀ x ∈ l, 0 ≤ x) ∧ Sat l many rules ∧ ¬ Hp l many r.1 r.2 := by
  rw [showsNotB]
  by_cases h : isRanksV many (.nums l) = true
  · rw [if_neg (by rw [h]; exact fun z => Bool.noConfusion z), Bool.and_eq_true, holdsAll_iff, Bool.not_eq_true', Bool.eq_false_iff]
    exact ⟨fun ⟨a, b⟩ => ⟨(isRanks_iff hm).mp h, a, fun z => b (holds_iff.mpr z)⟩, fun ⟨_, a, b⟩ => ⟨a, fun z => b (holds_iff.mp z)⟩⟩
  · rw [if_pos (by cases y : isRanksV many (.nums l) with | true => exact absurd y h | false => rfl)]
    exact ⟨fun z => (nomatch z), fun z => absurd ((isRanks_iff hm).mpr z.1) h⟩
theorem fo_not {l : List Int} {l' : List Int} (hm : 1 ≤ many ∧ many ≤ 3) (e : follows rules r many = .yes l) : showsNotB rules r many (.nums l') = false := by
  rw [Bool.eq_false_iff]
  intro h
  obtain ⟨_, h2, h3⟩ := (showsNot_iff hm).mp h
  exact h3 (follows_yes e l' h2)
theorem fo_close {l : List Int} (e : follows rules r many = .yes l) : closely rules r many = true := by
  unfold closely ranksOf
  cases y : layers rules many with
  | no l' => rfl
  | yes ls => exact holds_iff.mpr (follows_yes e _ (zrank_sat y))
theorem fo_no_shows {l : List Int} (hm : 1 ≤ many ∧ many ≤ 3) (e : follows rules r many = .no l) : showsNotB rules r many (.nums l) = true ∧ showsB rules r many (.nums l) = false := by
  obtain ⟨h1, h2, h3, h4, h5, _⟩ := follows_no e
  refine ⟨(showsNot_iff hm).mpr ⟨⟨h4, h5⟩, h1, h2⟩, ?_⟩
  have ne : l ≠ [] := fun z => by
    rw [z] at h4
    have := points_len (many := many)
    have : 0 < 2 ^ many.toNat := Nat.pow_pos (by decide)
    simp at h4
    omega
  rw [showsB, if_neg (by simpa using ne), Bool.eq_false_iff]
  exact fun z => stuckB_unsat z h3
theorem close_self (h : r ∈ rules) : closely rules r many = true := by
  unfold closely ranksOf
  cases y : layers rules many with
  | no l' => rfl
  | yes ls => exact holds_iff.mpr (zrank_sat y r h)
theorem follows_self (h : r ∈ rules) : (follows rules r many).isYes = true := yes_iff.mpr fun ranks hs => hs r h
/-! all ranks below most -/
def lrN (most : Int) : Nat → List (List Int)
  | 0 => [[]]
  | n + 1 => (lrN most n).flatMap fun one => (rng 0 most).map fun rank => one ++ [rank]
theorem lrN_mem {most : Int} : ∀ {n : Nat} {l : List Int}, l ∈ lrN most n ↔ l.length = n ∧ ∀ x ∈ l, 0 ≤ x ∧ x < most
  | 0, l => ⟨fun h => by rw [List.mem_singleton.mp h]; exact ⟨rfl, fun x hx => nomatch hx⟩, fun h => by rw [List.eq_nil_of_length_eq_zero h.1]; exact List.mem_singleton.mpr rfl⟩
  | n + 1, l => by
    unfold lrN
    rw [List.mem_flatMap]
    constructor
    · rintro ⟨one, h1, h2⟩
      obtain ⟨x, hx, rfl⟩ := List.mem_map.mp h2
      obtain ⟨a, b⟩ := lrN_mem.mp h1
      refine ⟨by rw [List.length_append, a]; rfl, fun y hy => ?_⟩
      rcases List.mem_append.mp hy with hy | hy
      · exact b y hy
      · rw [List.mem_singleton.mp hy]; exact mem_rng.mp hx
    · rintro ⟨h1, h2⟩
      have ne : l ≠ [] := fun z => by rw [z] at h1; cases h1
      refine ⟨l.dropLast, lrN_mem.mpr ⟨by rw [List.length_dropLast]; omega, fun x hx => h2 x (List.dropLast_subset _ hx)⟩, List.mem_map.mpr ⟨l.getLast ne, mem_rng.mpr (h2 _ (List.getLast_mem ne)), List.dropLast_concat_getLast ne⟩⟩
theorem lrN_len {most : Int} (h : most ≤ 4) : ∀ n, (lrN most n).length ≤ 4 ^ n
  | 0 => Nat.le_refl 1
  | n + 1 => by
    have e : ∀ l : List (List Int), (l.flatMap fun one => (rng 0 most).map fun rank => one ++ [rank]).length ≤ 4 * l.length := fun l => by
      induction l with
      | nil => simp
      | cons x l ih =>
        rw [List.flatMap_cons, List.length_append, List.length_map, rng_len, List.length_cons]
        omega
    have := e (lrN most n)
    have := lrN_len h n
    rw [Nat.pow_succ]
    show ((lrN most n).flatMap _).length ≤ _
    omega
def cLRanks : Con := fun ds Φ => ∃ many most, ds = [.int many, .int most] ∧ ((1 ≤ many ∧ many ≤ 2) ∧ 0 ≤ most ∧ most ≤ 4) ∧ Φ (lT (tT D.int) (lrN most (points many).length))
/-! ranks made small -/
def cnt (ranks : List Int) (x : Int) : Nat := ((setI ranks).filter fun y => decide (y < x)).length
theorem cnt_lt {x y : Int} (hx : x ∈ ranks) (h : x < y) : cnt ranks x < cnt ranks y := by
  unfold cnt
  have e : ((setI ranks).filter fun z => decide (z < x)) = (((setI ranks).filter fun z => decide (z < y)).filter fun z => decide (z < x)) := by
    rw [List.filter_filter]
    refine List.filter_congr fun z _ => ?_
    by_cases c : z < x
    · have : z < y := by omega
      simp [c, this]
    · simp [c]
  rw [e]
  exact List.length_filter_lt_length_iff_exists.mpr ⟨x, List.mem_filter.mpr ⟨mem_setI.mpr hx, decide_eq_true h⟩, by simp⟩
theorem cnt_le {x y : Int} (hx : x ∈ ranks) (hy : y ∈ ranks) : cnt ranks x ≤ cnt ranks y ↔ x ≤ y := by
  constructor
  · intro h
    apply Classical.byContradiction
    intro z
    have := cnt_lt (ranks := ranks) hy (show y < x by omega)
    omega
  · intro h
    by_cases e : x = y
    · rw [e]; exact Nat.le_refl _
    · exact Nat.le_of_lt (cnt_lt hx (by omega))
theorem cnt_top {x : Int} (hx : x ∈ ranks) : cnt ranks x < ranks.length := by
  unfold cnt
  have h1 : ((setI ranks).filter fun y => decide (y < x)).length < (setI ranks).length := List.length_filter_lt_length_iff_exists.mpr ⟨x, mem_setI.mpr hx, by simp⟩
  have := setI_len ranks
  omega
theorem make_small (hl : ranks.length = (points many).length) : ∃ ranks' : List Int, ranks'.length = (points many).length ∧ (∀ x ∈ ranks', 0 ≤ x ∧ x < ((points many).length : Int)) ∧ ∀ a b : Sy, Hp ranks' many a b ↔ Hp ranks many a b := by
  refine ⟨ranks.map fun x => (cnt ranks x : Int), by rw [List.length_map, hl], fun x hx => ?_, fun a b => ?_⟩
  · obtain ⟨y, hy, rfl⟩ := List.mem_map.mp hx
    have := cnt_top hy
    omega
  · have er : ∀ k : Int, 0 ≤ k → k < ((points many).length : Int) → rk (ranks.map fun x => (cnt ranks x : Int)) k = (cnt ranks (rk ranks k) : Int) := fun k h0 h1 => by
      unfold rk
      rw [List.getD_eq_getElem?_getD, List.getD_eq_getElem?_getD, List.getElem?_map, List.getElem?_eq_getElem (by omega)]
      rfl
    have em : ∀ k, Mn (ranks.map fun x => (cnt ranks x : Int)) many a k ↔ Mn ranks many a k := fun k => by
      unfold Mn
      refine and_congr_right fun h0 => and_congr_right fun h1 => and_congr_right fun _ => ?_
      refine forall_congr' fun j => forall_congr' fun j0 => forall_congr' fun j1 => forall_congr' fun _ => ?_
      rw [er k h0 h1, er j j0 j1]
      have := cnt_le (ranks := ranks) (rk_mem hl h0 h1) (rk_mem hl j0 j1)
      omega
    exact forall_congr' fun k => by rw [em k]
theorem four {n : Int} (hm : 1 ≤ n ∧ n ≤ 2) : (points n).length ≤ 4 := by
  rw [points_len]
  have : 2 ^ n.toNat ≤ 2 ^ 2 := Nat.pow_le_pow_right (by decide) (by omega)
  omega
/-- those that keep the rules but not the rule -/
def againstB (rules : List Rule) (r : Rule) (many : Int) (ranks : List Int) : Bool := decide (((rules.filter fun one => !lholds ranks one many).map fun _ => (1 : Int)) = []) && !lholds ranks r many
theorem against_iff : againstB rules r many ranks = true ↔ Sat ranks many rules ∧ ¬ Hp ranks many r.1 r.2 := by
  unfold againstB
  rw [Bool.and_eq_true, decide_eq_true_iff, List.map_eq_nil_iff, List.filter_eq_nil_iff, Bool.not_eq_true', Bool.eq_false_iff]
  refine and_congr ⟨fun h s hs => lholds_iff.mp (by simpa using h s hs), fun h s hs => by simpa using lholds_iff.mpr (h s hs)⟩ ⟨fun h z => h (lholds_iff.mpr z), fun h z => h (lholds_iff.mp z)⟩
theorem against_nil (hm : 1 ≤ many ∧ many ≤ 2) : (lrN 4 (points many).length).filter (againstB rules r many) = [] ↔ (follows rules r many).isYes = true := by
  rw [List.filter_eq_nil_iff]
  constructor
  · intro h
    cases e : follows rules r many with
    | yes l => rfl
    | no l =>
      obtain ⟨h1, h2, _, h4, _⟩ := follows_no e
      obtain ⟨ranks', k1, k2, k3⟩ := make_small h4
      have := four hm
      refine absurd (against_iff.mpr ⟨fun s hs => (k3 _ _).mpr (h1 s hs), fun z => h2 ((k3 _ _).mp z)⟩) (h ranks' (lrN_mem.mpr ⟨k1, fun x hx => ?_⟩))
      have := k2 x hx
      omega
  · intro h ranks _ z
    obtain ⟨a, b⟩ := against_iff.mp z
    exact b (yes_iff.mp h ranks a)
end
end WB

namespace WB
open PySem PySem.Spec PyProof.Rows L2 Evl DL
section
variable {ranks : List Int} {many : Int} {rules : List Rule} {r : Rule}
def Fo.tag : Fo → Str
  | .yes _ => "yes"
  | .no _ => "no"
def Fo.val : Fo → List Int
  | .yes l => l
  | .no l => l
theorem eFo_eq (fo : Fo) : eFo fo = .tup [.str fo.tag, tT D.int fo.val] := by cases fo <;> rfl
theorem tag_yes {fo : Fo} : decide (fo.tag = "yes") = fo.isYes := by
  cases fo with
  | yes l => exact decide_eq_true rfl
  | no l => exact decide_eq_false (show ¬ (("no" : Str) = "yes") by decide)
theorem tag_no {fo : Fo} : (!decide (fo.tag = "no")) = fo.isYes := by
  cases fo with
  | yes l => rw [decide_eq_false (show ¬ ((Fo.yes l).tag = "no") from (show ¬ (("yes" : Str) = "no") by decide))]; rfl
  | no l => rw [decide_eq_true (show (Fo.no l).tag = "no" from rfl)]; rfl
theorem tag_nyes {fo : Fo} : (!decide (fo.tag = "yes")) = !fo.isYes := by rw [tag_yes]
theorem of_yes (h : (follows rules r many).isYes = true) : follows rules r many = .yes (follows rules r many).val := by
  cases e : follows rules r many with
  | yes l => rfl
  | no l => rw [e] at h; cases h
theorem of_no (h : (follows rules r many).isYes = false) : follows rules r many = .no (follows rules r many).val := by
  cases e : follows rules r many with
  | no l => rfl
  | yes l => rw [e] at h; cases h
theorem okM_of (hl : rules.length ≤ 20) (hs : smallRs many rules) (h : okR many r) (h7 : r.2.dep < 7) : okM many rules r := ⟨⟨by omega, fun s hs' => ⟨⟨by have := (hs s hs').1.1; omega, (hs s hs').1.2⟩, ⟨by have := (hs s hs').2.1; omega, (hs s hs').2.2⟩⟩⟩, hl, h, h7⟩
theorem ok_small {s : Sy} (h : small many s) : ok many s := ⟨by have := h.1; omega, h.2⟩
theorem okR_small (h : smallR many r) : okR many r := ⟨ok_small h.1, ok_small h.2⟩
theorem ok_let0 (hm : 1 ≤ many ∧ many ≤ 3) : ok many (.letter 0) := ⟨by decide, by show (0 : Int) ≤ 0 ∧ 0 < many; omega⟩
theorem ok_orS {a b : Sy} (ha : small many a) (hb : ok many b) (h : b.dep ≤ 2) : ok many (.or a b) := ⟨by have := ha.1; simp only [Sy.dep]; omega, ha.2, hb.2⟩
theorem ok_andS {a b : Sy} (ha : small many a) (hb : ok many b) (h : b.dep ≤ 2) : ok many (.and a b) := ⟨by have := ha.1; simp only [Sy.dep]; omega, ha.2, hb.2⟩
theorem odd_ok (h : okM many rules r) : ∀ v ∈ [Val.nun, .mix [] true, .lis [0], .nums [(rules.length : Int) + 1], .nums [0, 0], .txt "0"], ∃ v', eV v = eV v' ∧ v'.sm ∧ showsB rules r many v' = false := fun v hv => by
  simp only [List.mem_cons, List.not_mem_nil, or_false] at hv
  rcases hv with rfl | rfl | rfl | rfl | rfl | rfl
  · exact ⟨_, rfl, trivial, rfl⟩
  · exact ⟨_, rfl, (show ([] : List Int).length ≤ 100 by decide), rfl⟩
  · exact ⟨_, rfl, (show ([0] : List Int).length ≤ 100 by decide), rfl⟩
  · refine ⟨_, rfl, (show ([(rules.length : Int) + 1] : List Int).length ≤ 100 by simp), ?_⟩
    rw [showsB, if_neg (by simp), Bool.eq_false_iff]
    intro z
    have := (stuckB_iff.mp z).2.1 _ (List.mem_singleton.mpr rfl)
    unfold more at this
    rw [List.length_append] at this
    simp only [List.length_cons, List.length_nil] at this
    omega
  · refine ⟨_, rfl, (show ([0, 0] : List Int).length ≤ 100 by decide), ?_⟩
    rw [showsB, if_neg (by simp), Bool.eq_false_iff]
    intro z
    have := (stuckB_iff.mp z).2.2.1 0 (by decide) (by decide)
    exact absurd this (by decide)
  · exact ⟨_, rfl, (show PyData.strOk "0" = true by decide +kernel), rfl⟩
theorem nots_sm (v : Val) (hv : v ∈ [Val.nun, .nums [], .nums [0], .txt "0"]) : v.sm := by
  simp only [List.mem_cons, List.not_mem_nil, or_false] at hv
  rcases hv with rfl | rfl | rfl | rfl
  · trivial
  · exact (show ([] : List Int).length ≤ 100 by decide)
  · exact (show ([0] : List Int).length ≤ 100 by decide)
  · exact (show PyData.strOk "0" = true by decide +kernel)
theorem nots_ok (hm : 1 ≤ many ∧ many ≤ 3) : decide (([Val.nun, .nums [], .nums [0], .txt "0"].map fun v => showsNotB rules r many v) = (List.replicate (4 : Int).toNat [false]).flatten) = true := by
  have two : 2 ≤ (points many).length := by
    rw [points_len]
    have : 2 ^ 1 ≤ 2 ^ many.toNat := Nat.pow_le_pow_right (by decide) (by omega)
    omega
  have e1 : showsNotB rules r many (.nums []) = false := by
    rw [Bool.eq_false_iff]
    intro z
    have := ((showsNot_iff hm).mp z).1.1
    simp only [List.length_nil] at this
    omega
  have e2 : showsNotB rules r many (.nums [0]) = false := by
    rw [Bool.eq_false_iff]
    intro z
    have := ((showsNot_iff hm).mp z).1.1
    simp only [List.length_cons, List.length_nil] at this
    omega
  simp only [List.map_cons, List.map_nil, e1, e2]
  rfl
theorem in_against (hm : 1 ≤ many ∧ many ≤ 3) (hl : ranks.length = (points many).length) (h4 : ∀ x ∈ ranks, 0 ≤ x ∧ x < 4) : decide (ranks ∈ (lrN 4 (points many).length).filter (againstB rules r many)) = showsNotB rules r many (.nums ranks) := by
  refine Bool.eq_iff_iff.mpr ((decide_eq_true_iff).trans ((List.mem_filter).trans (Iff.trans ?_ (showsNot_iff hm).symm)))
  exact ⟨fun z => ⟨⟨hl, fun x hx => (h4 x hx).1⟩, against_iff.mp z.2⟩, fun z => ⟨lrN_mem.mpr ⟨hl, h4⟩, against_iff.mpr z.2⟩⟩
theorem no_fact (h1 : Sat ranks many rules) (h2 : ¬ Hp ranks many r.1 r.2) : (false || ((!decide (((rules.filter fun one => !lholds ranks one many).map fun _ => (1 : Int)) = [])) || lholds ranks r many)) = false := by
  have e1 : ((rules.filter fun one => !lholds ranks one many).map fun _ => (1 : Int)) = [] := List.map_eq_nil_iff.mpr (List.filter_eq_nil_iff.mpr fun s hs => by simpa using lholds_iff.mpr (h1 s hs))
  have e2 : lholds ranks r many = false := Bool.eq_false_iff.mpr fun z => h2 (lholds_iff.mp z)
  rw [decide_eq_true e1, e2]
  rfl
theorem first_rule {l : List Rule} (hm : 1 ≤ many ∧ many ≤ 3) (h : smallRs many l) : ∃ r : Rule, atI (l ++ [(Sy.letter 0, Sy.letter (many - 1))]) 0 = some r ∧ smallR many r := by
  cases l with
  | nil => exact ⟨_, rfl, ⟨by simp [Sy.dep], (show (0 : Int) ≤ 0 ∧ 0 < many by omega)⟩, ⟨by simp [Sy.dep], (show (0 : Int) ≤ many - 1 ∧ many - 1 < many by omega)⟩⟩
  | cons a l => exact ⟨a, atI_nat (j := 0) rfl, h a (List.mem_cons_self ..)⟩
theorem hp_weak {a b c : Sy} (h : Hp ranks many a b) : Hp ranks many a (.or b c) := fun k hk => fits_or.mpr (.inl (h k hk))
theorem yes_weak (h : (follows rules r many).isYes = true) (c : Sy) : (follows rules (r.1, .or r.2 c) many).isYes = true := yes_iff.mpr fun ranks hs => hp_weak (yes_iff.mp h ranks hs)
theorem yes_both (h : (follows rules r many).isYes = true) (c : Sy) : (follows rules (r.1, c) many).isYes = (follows rules (.and r.1 r.2, c) many).isYes := by
  refine Bool.eq_iff_iff.mpr ((yes_iff).trans (Iff.trans ?_ (yes_iff).symm))
  exact forall_congr' fun ranks => forall_congr' fun hs => ⟨fun z => hp_cm (yes_iff.mp h ranks hs) z, fun z => hp_cut (yes_iff.mp h ranks hs) z⟩
end
end WB

/-! More of the layers: the law's own levels, rules that are exceptional. -/
namespace WB
open PySem PySem.Spec PyProof.Rows L2 Evl DL
section
variable {ranks : List Int} {many : Int} {rules : List Rule} {r : Rule}
def cRopL : Con := fun ds Φ => ∃ rules told p, ds = [lT (pT eS eS) rules, lT (tT D.int) told, tT D.int p] ∧ ((∃ m, okRs m rules ∧ (p.length : Int) = m) ∧ lvOk rules told) ∧ Φ (.int (rop rules told p))
def cARanks : Con := fun ds Φ => ∃ many most, ds = [.int many, .int most] ∧ ((1 ≤ many ∧ many ≤ 2) ∧ 0 ≤ most ∧ most ≤ 4) ∧ Φ (lT (tT D.int) (lrN most (points many).length))
def excB (rules : List Rule) (many : Int) (k : Int) : Bool := ((pw (getR rules k).1 many).map fun point => ((rules.map fun one => breaks one point).any id)).all id
def exceptional (rules : List Rule) (many : Int) : List Int := (rng 0 (rules.length : Int)).filter (excB rules many)
def cExc : Con := fun ds Φ => ∃ rules many, ds = [lT (pT eS eS) rules, .int many] ∧ ((1 ≤ many ∧ many ≤ 3) ∧ okRs many rules) ∧ Φ (tT D.int (exceptional rules many))
/-- the law's levels: as the layers, or with what is stuck -/
def lvIs (rules : List Rule) (many : Int) (lv : List (List Int)) (st : Option (List Int)) : Prop := match layers rules many with
  | .yes ls => lv = ls ∧ st = none
  | .no l => st = some l
def cLevels : Con := fun ds Φ => ∃ rules many, ds = [lT (pT eS eS) rules, .int many] ∧ ((1 ≤ many ∧ many ≤ 3) ∧ okRs many rules) ∧ ∀ lv st, lvIs rules many lv st → Φ (.tup [lT (tT D.int) lv, oT (tT D.int) st])
/-- where the law's loop stands: what is left, the levels, what is stuck -/
structure LvS where
  left : List Int
  found : List (List Int)
  stuck : Option (List Int)
def lvI (rules : List Rule) (many : Int) (s : LvS) : Prop := match s.stuck with
  | none => layI rules many s.left s.found
  | some l => layers rules many = .no l ∧ (∀ k ∈ s.left, 0 ≤ k ∧ k < (rules.length : Int)) ∧ s.left.length ≤ rules.length ∧ s.found.length ≤ rules.length + 1
end
end WB

namespace WB
open PySem PySem.Spec PyProof.Rows L2 Evl DL
section
variable {ranks : List Int} {many : Int} {rules : List Rule} {r : Rule}
/-! ### sorted ints -/
theorem sortI_perm {l : List Int} : (sortD D.int l).Perm l := List.mergeSort_perm l _
theorem sortI_asc {l : List Int} : (sortD D.int l).Pairwise (· ≤ ·) := by
  have e : leD D.int = fun a b : Int => decide (a ≤ b) := PySem.W.dataLe_int fun x => x
  have h := PySem.W.sort_pairwise (PySem.W.sortLe_total (PyProof.Rows.listOrd PyProof.Rows.itemOrd) false fun x : Int => PySem.W.keyToks (D.int x).py) l
  have h2 : (sortD D.int l).Pairwise fun a b => leD D.int a b = true := h
  rw [e] at h2
  exact h2.imp fun h => of_decide_eq_true h
theorem insI_in {x : Int} : ∀ {s : List Int}, s.Pairwise (· < ·) → x ∈ s → (insI x s).length ≤ s.length
  | z :: s, hs, h => by
    have h1 := List.pairwise_cons.mp hs
    unfold insI
    by_cases c : x < z
    · rcases List.mem_cons.mp h with e | e
      · omega
      · have := h1.1 x e
        omega
    · rw [if_neg c]
      by_cases c2 : x = z
      · rw [if_pos c2]
        exact Nat.le_refl _
      · rw [if_neg c2, List.length_cons, List.length_cons]
        have := insI_in h1.2 ((List.mem_cons.mp h).resolve_left c2)
        omega
theorem insI_le {x : Int} : ∀ {s : List Int}, (insI x s).length ≤ s.length + 1
  | [] => by simp [insI]
  | z :: s => by
    unfold insI
    split
    · exact Nat.le_refl _
    · split
      · omega
      · rw [List.length_cons, List.length_cons]
        have := insI_le (x := x) (s := s)
        omega
theorem nodup_of : ∀ {l : List Int}, (setI l).length = l.length → l.Nodup
  | [], _ => List.nodup_nil
  | x :: l, h => by
    have h2 : (insI x (setI l)).length = l.length + 1 := h
    have h3 := setI_len l
    have h4 := insI_le (x := x) (s := setI l)
    have e : (setI l).length = l.length := by omega
    refine List.nodup_cons.mpr ⟨fun hx => ?_, nodup_of e⟩
    have := insI_in (setI_asc l) (mem_setI.mpr hx)
    omega
theorem strict_of {l : List Int} (h : l.Pairwise (· ≤ ·)) (hl : (setI l).length = l.length) : l.Pairwise (· < ·) :=
  (List.pairwise_and_iff.mpr ⟨h, nodup_of hl⟩).imp fun ⟨a, b⟩ => by omega
theorem setI_of_strict {l : List Int} (h : l.Pairwise (· < ·)) : (setI l).length = l.length := by
  rw [asc_ext (setI_asc l) h fun x => mem_setI]
end
end WB
namespace WB
open PySem PySem.Spec PyProof.Rows L2 Evl DL
section
variable {ranks : List Int} {many : Int} {rules : List Rule} {r : Rule}
/-! ### values drawn and judged -/
def rightB (rules : List Rule) (ys : List Int) : Bool := (!decide (ys = [])) && (decide (((setI ys).length : Int) = (ys.length : Int)) && decide (lmax ([0] ++ ys) < (rules.length : Int)))
def freeN (rules : List Rule) (many : Int) (ys : List Int) : Bool := decide ((((ys.map (getR rules)).filter fun one => isfree one (ys.map (getR rules)) many).map fun _ => (1 : Int)) = [])
theorem right_iff {ys : List Int} (h : ∀ y ∈ ys, 0 ≤ y) : rightB rules ys = true ↔ ys ≠ [] ∧ (setI ys).length = ys.length ∧ ∀ y ∈ ys, 0 ≤ y ∧ y < (rules.length : Int) := by
  unfold rightB
  rw [Bool.and_eq_true, Bool.and_eq_true, Bool.not_eq_true', decide_eq_false_iff_not, decide_eq_true_iff, decide_eq_true_iff]
  refine and_congr_right fun hne => and_congr ⟨fun e => by omega, fun e => by omega⟩ ?_
  obtain ⟨m1, m2⟩ := lmax_ok (l := [0] ++ ys) (by simp)
  constructor
  · intro hl y hy
    have := m2 y (List.mem_append.mpr (.inr hy))
    exact ⟨h y hy, by omega⟩
  · intro hy
    rcases List.mem_append.mp m1 with z | z
    · obtain ⟨y, hy'⟩ := List.exists_mem_of_ne_nil _ hne
      have := hy y hy'
      rw [List.mem_singleton.mp z]
      omega
    · exact (hy _ z).2
theorem judged_eq {ys : List Int} (hs : ys.Pairwise (· ≤ ·)) (h : ∀ y ∈ ys, 0 ≤ y) : stuckB rules many ys = (rightB rules ys && freeN rules many ys) := by
  refine Bool.eq_iff_iff.mpr (stuckB_iff.trans ?_)
  rw [Bool.and_eq_true, right_iff h]
  unfold freeN
  rw [decide_eq_true_iff, List.map_eq_nil_iff, List.filter_eq_nil_iff]
  constructor
  · rintro ⟨h1, h2, h3, h4⟩
    refine ⟨⟨h1, ?_, h2⟩, h4⟩
    refine setI_of_strict (List.pairwise_iff_getElem.mpr ?_)
    have step : ∀ (n i : Nat), i + n + 1 < ys.length → ys.getD i 0 < ys.getD (i + n + 1) 0 := fun n => by
      induction n with
      | zero => intro i hi; have := h3 i (by omega) (by omega); have e : ((i : Int) + 1).toNat = i + 1 := by omega
                rw [e] at this; exact this
      | succ n ih =>
        intro i hi
        have a := ih i (by omega)
        have b := h3 ((i + n + 1 : Nat) : Int) (by omega) (by omega)
        have e : (((i + n + 1 : Nat) : Int) + 1).toNat = i + (n + 1) + 1 := by omega
        rw [e] at b
        have e2 : (((i + n + 1 : Nat) : Int)).toNat = i + n + 1 := by omega
        rw [e2] at b
        omega
    intro i j hi hj hij
    have := step (j - i - 1) i (by omega)
    have e : i + (j - i - 1) + 1 = j := by omega
    rw [e, List.getD_eq_getElem?_getD, List.getD_eq_getElem?_getD, List.getElem?_eq_getElem hi, List.getElem?_eq_getElem hj] at this
    exact this
  · rintro ⟨⟨h1, h2, h3⟩, h4⟩
    exact ⟨h1, h3, asc_at (strict_of hs h2), h4⟩
def cJudged : Con := fun ds Φ => ∃ rules many, ds = [lT (pT eS eS) rules, .int many] ∧ ((1 ≤ many ∧ many ≤ 3) ∧ okRs many rules) ∧ Φ (.bl true)
end
end WB
namespace WB
open PySem PySem.Spec PyProof.Rows L2 Evl DL
section
variable {many : Int} {rules : List Rule}
theorem jud_sm (v : Val) (hv : v ∈ [Val.nun, .lis [0], .mix [] true, .nums [-1], .tex "0"]) : v.sm := by
  simp only [List.mem_cons, List.not_mem_nil, or_false] at hv
  rcases hv with rfl | rfl | rfl | rfl | rfl
  · trivial
  · exact (show ([0] : List Int).length ≤ 100 by decide)
  · exact (show ([] : List Int).length ≤ 100 by decide)
  · exact (show ([-1] : List Int).length ≤ 100 by decide)
  · exact (show PyData.strOk "0" = true by decide +kernel)
theorem jud_ok : decide (([Val.nun, .lis [0], .mix [] true, .nums [-1], .tex "0"].map fun v => stuckV rules many v) = (List.replicate (5 : Int).toNat [false]).flatten) = true := by
  have e1 : stuckV rules many (.nums [-1]) = false := by
    rw [stuckV, Bool.eq_false_iff]
    intro z
    have := (stuckB_iff.mp z).2.1 _ (List.mem_singleton.mpr rfl)
    omega
  simp only [List.map_cons, List.map_nil, e1]
  rfl
end
end WB

namespace WB
open PySem PySem.Spec PyProof.Rows L2 Evl DL
section
variable {many : Int} {rules : List Rule} {r : Rule}
/-! ### k77: what the law works out of each rule -/
abbrev ptsP (s : Sy) (many : Int) : List (List Int) := ((points many).filter fun point => fits s point).map fun point => point
abbrev noBr (rules : List Rule) (point : List Int) : Bool := decide (((rules.filter fun rule => breaks rule point).map fun _ => (1 : Int)) = [])
theorem noBr_eq {p : List Int} : noBr rules p = !((rules.map fun one => breaks one p).any id) := by
  refine Bool.eq_iff_iff.mpr ?_
  rw [decide_eq_true_iff, List.map_eq_nil_iff, List.filter_eq_nil_iff, Bool.not_eq_true', Bool.eq_false_iff]
  constructor
  · intro h z
    obtain ⟨x, hx, hb⟩ := any_id.mp z
    exact h x hx hb
  · intro h x hx hb
    exact h (any_id.mpr ⟨x, hx, hb⟩)
theorem ptsP_eq {s : Sy} : ptsP s many = pw s many := List.map_id' _
theorem due_eq {k : Int} : decide ((((ptsP (getR rules k).1 many).filter fun point => noBr rules point).map fun _ => (1 : Int)) = []) = excB rules many k := by
  refine Bool.eq_iff_iff.mpr ?_
  rw [decide_eq_true_iff, List.map_eq_nil_iff, List.filter_eq_nil_iff, ptsP_eq, excB, all_id]
  refine forall_congr' fun p => forall_congr' fun _ => ?_
  rw [noBr_eq]
  cases (rules.map fun one => breaks one p).any id <;> simp
abbrev hereL (r : Rule) (rules : List Rule) (many : Int) : List (List Int) := ((ptsP r.1 many).filter fun point => (fits r.2 point && noBr rules point)).map fun point => point
theorem here_eq : hereL r rules many = (points many).filter (tolB r rules) := by
  unfold hereL
  rw [ptsP_eq, List.map_id', pw, List.filter_filter]
  refine congrArg (fun f => List.filter f (points many)) (funext fun p => ?_)
  rw [noBr_eq, tolB, Bool.and_comm]
theorem here_first : atI ((hereL r rules many).map some ++ [none]) 0 = some (tol r rules many) := by
  rw [here_eq, tol, ← List.head?_filter]
  cases (points many).filter (tolB r rules) with
  | nil => rfl
  | cons x l =>
    unfold atI ixN
    simp
    rw [if_pos (by omega)]
    rfl
theorem here_data : lT (tT D.int) (hereL r rules many) = lT (oT (tT D.int)) ((hereL r rules many).map some) := by
  generalize hereL r rules many = l
  unfold lT
  rw [List.map_map]
  rfl
theorem here_free : (decide (ptsP r.1 many = []) || !decide (hereL r rules many = [])) = isfree r rules many := by
  rw [← lfree_eq, lfree]
  by_cases h : ptsP r.1 many = []
  · rw [decide_eq_true h, if_pos rfl, Bool.true_or]
  · rw [decide_eq_false h, if_neg Bool.false_ne_true, Bool.false_or]
    refine congrArg (fun b => !b) (Bool.eq_iff_iff.mpr ?_)
    rw [decide_eq_true_iff, decide_eq_true_iff, List.map_eq_nil_iff, List.map_eq_nil_iff]
theorem here_len : (hereL r rules many).length ≤ (points many).length := by
  rw [here_eq]
  exact List.length_filter_le _ _
theorem ptsP_len {s : Sy} : (ptsP s many).length ≤ (points many).length := by
  rw [ptsP_eq]
  exact List.length_filter_le _ _
theorem pw_pts {s : Sy} : (!decide (pw s many = ptsP s many)) = false := by
  rw [ptsP_eq, decide_eq_true rfl]
  rfl
theorem sm_tol (hm : 1 ≤ many ∧ many ≤ 3) : (oT (tT D.int) (tol r rules many)).sm 7 := by
  cases e : tol r rules many with
  | none => exact sm_non
  | some p =>
    have := points_mem hm (List.mem_of_find?_eq_some e)
    exact sm_tT (by omega) fun _ _ => sm_int
theorem exc_len : (exceptional rules many).length ≤ rules.length := by
  have := List.length_filter_le (excB rules many) (rng 0 (rules.length : Int))
  rw [rng_len] at this
  unfold exceptional
  omega
/-! ### .. of drawn ranks -/
theorem lleast_eq {ranks : List Int} {s : Sy} (hl : ranks.length = (points many).length) : ((someK s (points many)).filter fun k => decide (ranks.getD k.toNat 0 = lmin ((someK s (points many)).map fun j => ranks.getD j.toNat 0))).map (fun k => (points many).getD k.toNat []) = leastP ranks s many := by
  unfold leastP leastR lminD
  by_cases h : someK s (points many) = []
  · rw [h]; rfl
  · rw [if_neg fun e => h (List.map_eq_nil_iff.mp e)]
theorem odd_ranks {ranks : List Int} (hm : 1 ≤ many ∧ many ≤ 3) (hl : ranks.length = (points many).length) : ∀ v ∈ [Val.nun, .lis ranks, .nums (DL.cutD ranks (some 1) none), .nums (DL.cutD ranks none (some (-1)) ++ [-1]), .mix (DL.cutD ranks none (some (-1))) true], ∃ v', eV v = eV v' ∧ v'.sm ∧ isRanksV many v' = false := fun v hv => by
  have h8 := points_len8 hm
  have hc : ∀ (a b : Option Int), (DL.cutD ranks a b).length ≤ ranks.length := fun a b => by
    unfold DL.cutD
    rw [List.length_take, List.length_drop]
    omega
  have h1 : 1 ≤ ranks.length := by
    rw [hl, points_len]
    exact Nat.one_le_two_pow
  simp only [List.mem_cons, List.not_mem_nil, or_false] at hv
  rcases hv with rfl | rfl | rfl | rfl | rfl
  · exact ⟨_, rfl, trivial, rfl⟩
  · exact ⟨_, rfl, (show ranks.length ≤ 100 by omega), rfl⟩
  · refine ⟨_, rfl, (show (DL.cutD ranks (some 1) none).length ≤ 100 by have := hc (some 1) none; omega), ?_⟩
    rw [Bool.eq_false_iff]
    intro z
    have := (isRanks_iff hm).mp z
    have e := DL.cutD_from (xs := ranks) (k := 1)
    rw [show ((1 : Nat) : Int) = 1 from rfl] at e
    rw [e, List.length_drop] at this
    omega
  · refine ⟨_, rfl, (show (DL.cutD ranks none (some (-1)) ++ [-1]).length ≤ 100 by have := hc none (some (-1)); rw [List.length_append]; simp only [List.length_cons, List.length_nil]; omega), ?_⟩
    rw [Bool.eq_false_iff]
    intro z
    have := ((isRanks_iff hm).mp z).2 (-1) (by simp)
    omega
  · exact ⟨_, rfl, (show (DL.cutD ranks none (some (-1))).length ≤ 100 by have := hc none (some (-1)); omega), rfl⟩
def cRanked : Con := fun ds Φ => ∃ many, ds = [.int many] ∧ (1 ≤ many ∧ many ≤ 3) ∧ Φ (.bl true)
end
end WB

namespace WB
open PySem PySem.Spec PyProof.Rows L2 Evl DL
section
variable {many : Int} {rules : List Rule} {r : Rule} {lv : List (List Int)} {p : List Int}
/-! ### k77: the highest level that a point breaks, step by step -/
abbrev brk (rules : List Rule) (lv : List (List Int)) (p : List Int) (k : Int) : Bool := !decide ((((lv.getD k.toNat []).filter fun j => breaks (getR rules j) p).map fun _ => (1 : Int)) = [])
def hiStep (rules : List Rule) (lv : List (List Int)) (p : List Int) (h k : Int) : Int := if brk rules lv p k = true then k + 1 else h
def hiF (rules : List Rule) (lv : List (List Int)) (p : List Int) (ks : List Int) : Int := ks.foldl (hiStep rules lv p) 0
theorem hiF_snoc {ks : List Int} {k : Int} : hiF rules lv p (ks ++ [k]) = hiStep rules lv p (hiF rules lv p ks) k := by
  unfold hiF
  rw [List.foldl_append]
  rfl
theorem brk_eq {k : Int} : brk rules lv p k = ((lv.getD k.toNat []).map fun j => breaks (getR rules j) p).any id := by
  refine Bool.eq_iff_iff.mpr ?_
  rw [any_id, Bool.not_eq_true', decide_eq_false_iff_not, List.map_eq_nil_iff, List.filter_eq_nil_iff]
  constructor
  · intro h
    apply Classical.byContradiction
    intro z
    exact h fun j hj hb => z ⟨j, hj, hb⟩
  · rintro ⟨j, hj, hb⟩ h
    exact h j hj hb
theorem lmax_snoc {l : List Int} {x : Int} (h : ∀ y ∈ l, y ≤ x) : lmax (l ++ [x]) = x := by
  obtain ⟨h1, h2⟩ := lmax_ok (l := l ++ [x]) (by simp)
  have h3 := h2 x (by simp)
  rcases List.mem_append.mp h1 with z | z
  · have := h _ z; omega
  · exact List.mem_singleton.mp z
theorem rng_succ0 {n : Nat} : rng 0 ((n + 1 : Nat) : Int) = rng 0 (n : Int) ++ [(n : Int)] := by
  unfold rng
  rw [show (((n + 1 : Nat) : Int) - 0).toNat = n + 1 by omega, show ((n : Int) - 0).toNat = n by omega, List.range_succ, List.map_append]
  simp
theorem hi_rop : hiF rules lv p (rng 0 (lv.length : Int)) = rop rules lv p := by
  unfold rop
  generalize lv.length = n
  induction n with
  | zero => rfl
  | succ n ih =>
    rw [rng_succ0, hiF_snoc, ih, hiStep, brk_eq, List.filter_append, List.map_append]
    cases e : ((lv.getD ((n : Nat) : Int).toNat []).map fun j => breaks (getR rules j) p).any id with
    | true =>
      rw [if_pos rfl, show (List.filter (fun k : Int => ((lv.getD k.toNat []).map fun j => breaks (getR rules j) p).any id) [(n : Int)]) = [(n : Int)] by rw [List.filter_cons, if_pos e, List.filter_nil], List.map_cons, List.map_nil, ← List.append_assoc, lmax_snoc]
      intro y hy
      rcases List.mem_append.mp hy with hy | hy
      · rw [List.mem_singleton.mp hy]; omega
      · obtain ⟨k, hk, rfl⟩ := List.mem_map.mp hy
        have := (mem_rng.mp (List.mem_filter.mp hk).1).2
        omega
    | false =>
      rw [if_neg Bool.false_ne_true, show (List.filter (fun k : Int => ((lv.getD k.toNat []).map fun j => breaks (getR rules j) p).any id) [(n : Int)]) = [] by rw [List.filter_cons, if_neg (by rw [e]; exact Bool.false_ne_true), List.filter_nil], List.map_nil, List.append_nil]
abbrev zr (rules : List Rule) (lv : List (List Int)) (many : Int) : List Int := (points many).map (rop rules lv)
theorem lvIs_none (h : lvIs rules many lv none) : layers rules many = .yes lv := by
  unfold lvIs at h
  cases e : layers rules many with
  | yes ls => rw [e] at h; rw [h.1]
  | no l => rw [e] at h; cases h
theorem lvIs_some {l : List Int} (h : lvIs rules many lv (some l)) : layers rules many = .no l := by
  unfold lvIs at h
  cases e : layers rules many with
  | yes ls => rw [e] at h; cases h.2
  | no l' => rw [e] at h; cases h; rfl
theorem ranksOf_yes (e : layers rules many = .yes lv) : ranksOf rules many = some (zr rules lv many) := by rw [ranksOf, e]
theorem ranksOf_no {l : List Int} (e : layers rules many = .no l) : ranksOf rules many = none := by rw [ranksOf, e]
theorem z_ok (hm : 1 ≤ many ∧ many ≤ 3) : isRanksV many (.nums (zr rules lv many)) = true := (isRanks_iff hm).mpr ⟨List.length_map _, fun x hx => by
  obtain ⟨q, _, rfl⟩ := List.mem_map.mp hx
  exact rop_nonneg⟩
theorem z_bad (e : layers rules many = .yes lv) : (!decide (((rules.filter fun rule => ((!lholds (zr rules lv many) rule many) || (!decide (holds (zr rules lv many) rule many = true)))).map fun _ => (1 : Int)) = [])) = false := by
  rw [Bool.not_eq_false', decide_eq_true_iff, List.map_eq_nil_iff, List.filter_eq_nil_iff]
  intro rule hr
  have h := zrank_sat e rule hr
  have h1 : lholds (zr rules lv many) rule many = true := lholds_iff.mpr h
  have h2 : holds (zr rules lv many) rule many = true := holds_iff.mpr h
  rw [h1, h2]
  decide
abbrev allB (ranks : List Int) (rules : List Rule) (many : Int) : Bool := decide (((rules.filter fun rule => !lholds ranks rule many).map fun _ => (1 : Int)) = [])
theorem allB_iff {ranks : List Int} : allB ranks rules many = true ↔ Sat ranks many rules := by
  rw [decide_eq_true_iff, List.map_eq_nil_iff, List.filter_eq_nil_iff]
  refine forall_congr' fun s => forall_congr' fun _ => ?_
  rw [Bool.not_eq_true, Bool.not_eq_false']
  exact lholds_iff
theorem some_iff {st : Option (List Int)} (hm : 1 ≤ many ∧ many ≤ 2) (h : lvIs rules many lv st) : ((!decide ((((lrN 4 (points many).length).filter fun ranks => allB ranks rules many).map fun _ => (1 : Int)) = [])) != (oT (tT D.int) st).isN) = false := by
  have key : (!decide ((((lrN 4 (points many).length).filter fun ranks => allB ranks rules many).map fun _ => (1 : Int)) = [])) = st.isNone := by
    cases st with
    | none =>
      have hs := zrank_sat (lvIs_none h)
      obtain ⟨ranks', h1, h2, h3⟩ := make_small (many := many) (ranks := zr rules lv many) (List.length_map _)
      have h4 := four hm
      show _ = true
      rw [Bool.not_eq_true', decide_eq_false_iff_not, List.map_eq_nil_iff, List.filter_eq_nil_iff]
      intro z
      exact z ranks' (lrN_mem.mpr ⟨h1, fun x hx => ⟨(h2 x hx).1, by have := (h2 x hx).2; omega⟩⟩) (allB_iff.mpr fun s hs' => (h3 _ _).mpr (hs s hs'))
    | some l =>
      show _ = false
      rw [Bool.not_eq_false', decide_eq_true_iff, List.map_eq_nil_iff, List.filter_eq_nil_iff]
      intro ranks _ z
      exact layers_no_unsat (lvIs_some h) (allB_iff.mp z)
  rw [key, isN_oT]
  cases st <;> rfl
theorem okRs_small (hl : (rules.length : Int) ≤ 5) (hs : smallRs many rules) : okRs many rules := ⟨by omega, fun r hr => okR_small (hs r hr)⟩
end
end WB

namespace WB
open PySem PySem.Spec PyProof.Rows L2 Evl DL
/-! ### all sets of worlds 0 .. n - 1, as ascending tuples -/
theorem rng_snoc {n : Nat} : rng 0 ((n + 1 : Nat) : Int) = rng 0 (n : Int) ++ [(n : Int)] := by
  unfold rng
  rw [show (((n + 1 : Nat) : Int) - 0).toNat = n + 1 by omega, show ((n : Int) - 0).toNat = n by omega, List.range_succ, List.map_append]
  simp
def bitsN : Nat → List (List Int)
  | 0 => [[]]
  | n + 1 => bitsN n ++ (bitsN n).map fun one => one ++ [(n : Int)]
theorem bits_len : ∀ n, (bitsN n).length = 2 ^ n
  | 0 => rfl
  | n + 1 => by
    rw [bitsN, List.length_append, List.length_map, bits_len n, Nat.pow_succ]
    omega
theorem bits_32 {n : Nat} (h : n ≤ 5) : (bitsN n).length ≤ 32 := by
  rw [bits_len]
  exact Nat.pow_le_pow_right (by decide) h
theorem mem_bits : ∀ {n : Nat} {k : List Int}, k ∈ bitsN n ↔ ∃ p : Int → Bool, k = (rng 0 (n : Int)).filter p
  | 0, k => by
    constructor
    · intro h
      exact ⟨fun _ => true, List.mem_singleton.mp h⟩
    · rintro ⟨p, rfl⟩
      exact List.mem_singleton.mpr rfl
  | n + 1, k => by
    rw [bitsN, List.mem_append, List.mem_map]
    have ne : ∀ x ∈ rng 0 (n : Int), x ≠ (n : Int) := fun x hx => by have := mem_rng.mp hx; omega
    constructor
    · rintro (h | ⟨j, h, rfl⟩)
      · obtain ⟨p, rfl⟩ := mem_bits.mp h
        refine ⟨fun x => p x && decide (x ≠ (n : Int)), ?_⟩
        rw [rng_snoc, List.filter_append]
        have : List.filter (fun x => p x && decide (x ≠ (n : Int))) [(n : Int)] = [] := by simp
        rw [this, List.append_nil]
        exact List.filter_congr fun x hx => by simp [ne x hx]
      · obtain ⟨p, rfl⟩ := mem_bits.mp h
        refine ⟨fun x => p x || decide (x = (n : Int)), ?_⟩
        rw [rng_snoc, List.filter_append]
        have : List.filter (fun x => p x || decide (x = (n : Int))) [(n : Int)] = [(n : Int)] := by simp
        rw [this]
        exact congrArg (· ++ _) (List.filter_congr fun x hx => by simp [ne x hx])
    · rintro ⟨p, rfl⟩
      rw [rng_snoc, List.filter_append]
      cases h : p (n : Int) with
      | true =>
        right
        exact ⟨_, mem_bits.mpr ⟨p, rfl⟩, by simp [h]⟩
      | false =>
        left
        have : List.filter p [(n : Int)] = [] := by simp [h]
        rw [this, List.append_nil]
        exact mem_bits.mpr ⟨p, rfl⟩
theorem five {n : Nat} (h : n ≤ 5) : n = 0 ∨ n = 1 ∨ n = 2 ∨ n = 3 ∨ n = 4 ∨ n = 5 := by omega
theorem bits_nodup {n : Nat} (h : n ≤ 5) : (bitsN n).Nodup := by
  rcases five h with rfl | rfl | rfl | rfl | rfl | rfl <;> decide +kernel
theorem bits_masks {n : Nat} (h : n ≤ 5) : ((rng 0 (1 * 2 ^ ((n : Int)).toNat)).map fun mask => (((rng 0 (n : Int)).filter fun x1 => ((Builtin.bitAnd (mask / 2 ^ (x1).toNat) 1) != 0)).map fun x1 => x1)) = bitsN n := by
  rcases five h with rfl | rfl | rfl | rfl | rfl | rfl <;> decide +kernel
/-- .. that are not empty -/
def wsN (n : Nat) : List (List Int) := ((bitsN n).filter fun some => (decide (0 < (some.length : Int)))).map fun some => some
theorem ws_tail {n : Nat} (h : n ≤ 5) : wsN n = (bitsN n).tail := by
  rcases five h with rfl | rfl | rfl | rfl | rfl | rfl <;> decide +kernel
theorem bits_last {n : Nat} (h : n ≤ 5) : (bitsN n).getLast? = some (rng 0 (n : Int)) := by
  rcases five h with rfl | rfl | rfl | rfl | rfl | rfl <;> decide +kernel
theorem bits_head {n : Nat} : ∃ r, bitsN n = [] :: r := by
  induction n with
  | zero => exact ⟨[], rfl⟩
  | succ n ih =>
    obtain ⟨r, e⟩ := ih
    refine ⟨r ++ (bitsN n).map fun one => one ++ [(n : Int)], ?_⟩
    rw [bitsN]
    conv => lhs; arg 1; rw [e]
    rfl
theorem mem_ws {n : Nat} {k : List Int} : k ∈ wsN n ↔ k ∈ bitsN n ∧ k ≠ [] := by
  unfold wsN
  rw [List.map_id', List.mem_filter, decide_eq_true_iff]
  refine and_congr_right fun _ => ?_
  cases k with
  | nil => simp
  | cons x l => simp
theorem ws_nodup {n : Nat} (h : n ≤ 5) : (wsN n).Nodup := by
  unfold wsN
  rw [List.map_id']
  exact (bits_nodup h).filter _
theorem ws_len {n : Nat} : (wsN n).length ≤ (bitsN n).length := by
  unfold wsN
  rw [List.length_map]
  exact List.length_filter_le _ _
/-- a set: ascending, within 0 .. n - 1 -/
theorem bit_asc {n : Nat} {k : List Int} (h : k ∈ bitsN n) : k.Pairwise (· < ·) := by
  obtain ⟨p, rfl⟩ := mem_bits.mp h
  exact rng_asc.filter _
theorem bit_in {n : Nat} {k : List Int} (h : k ∈ bitsN n) {x : Int} (hx : x ∈ k) : 0 ≤ x ∧ x < (n : Int) := by
  obtain ⟨p, rfl⟩ := mem_bits.mp h
  exact mem_rng.mp (List.mem_filter.mp hx).1
theorem bit_len {n : Nat} {k : List Int} (h : k ∈ bitsN n) : k.length ≤ n := by
  obtain ⟨p, rfl⟩ := mem_bits.mp h
  have := List.length_filter_le p (rng 0 (n : Int))
  rw [rng_len] at this
  omega
theorem bit_of {n : Nat} {k : List Int} (h : k.Pairwise (· < ·)) (hk : ∀ x ∈ k, 0 ≤ x ∧ x < (n : Int)) : k ∈ bitsN n := by
  refine mem_bits.mpr ⟨fun x => decide (x ∈ k), asc_unique h (rng_asc.filter _) fun x => ?_⟩
  rw [List.mem_filter, mem_rng, decide_eq_true_iff]
  exact ⟨fun z => ⟨hk x z, z⟩, fun z => z.2⟩
theorem full_bit {n : Nat} : rng 0 (n : Int) ∈ bitsN n := bit_of rng_asc fun x hx => mem_rng.mp hx
/-- what is outside -/
abbrev outerL (many : Int) (some : List Int) : List Int := ((rng 0 many).filter fun x => (!decide (x ∈ some))).map fun x => x
theorem mem_outer {many : Int} {some : List Int} {x : Int} : x ∈ outerL many some ↔ (0 ≤ x ∧ x < many) ∧ x ∉ some := by
  unfold outerL
  rw [List.map_id', List.mem_filter, mem_rng]
  simp
theorem outer_asc {many : Int} {some : List Int} : (outerL many some).Pairwise (· < ·) := by
  unfold outerL
  rw [List.map_id']
  exact rng_asc.filter _
theorem outer_len {many : Int} {some : List Int} : (outerL many some).length ≤ many.toNat := by
  rw [List.length_map]
  have := List.length_filter_le (fun x => !decide (x ∈ some)) (rng 0 many)
  rw [rng_len] at this
  omega
theorem outer_bit {n : Nat} {some : List Int} : outerL (n : Int) some ∈ bitsN n := bit_of outer_asc fun x hx => (mem_outer.mp hx).1
theorem outer_inj {n : Nat} {a b : List Int} (ha : a ∈ bitsN n) (hb : b ∈ bitsN n) (h : outerL (n : Int) a = outerL (n : Int) b) : a = b := by
  refine asc_unique (bit_asc ha) (bit_asc hb) fun x => ?_
  have := mem_outer (many := (n : Int)) (some := a) (x := x)
  rw [h, mem_outer] at this
  constructor
  · intro z
    have q := bit_in ha z
    apply Classical.byContradiction
    intro y
    exact (this.mp ⟨q, y⟩).2 z
  · intro z
    have q := bit_in hb z
    apply Classical.byContradiction
    intro y
    exact (this.mpr ⟨q, y⟩).2 z
theorem outer_nil {n : Nat} {a : List Int} (ha : a ∈ bitsN n) : outerL (n : Int) a = [] ↔ a = rng 0 (n : Int) := by
  constructor
  · intro h
    refine asc_unique (bit_asc ha) rng_asc fun x => ⟨fun z => mem_rng.mpr (bit_in ha z), fun z => ?_⟩
    apply Classical.byContradiction
    intro y
    have := mem_outer.mpr ⟨mem_rng.mp z, y⟩
    rw [h] at this
    cases this
  · rintro rfl
    refine List.eq_nil_iff_forall_not_mem.mpr fun x hx => ?_
    have := mem_outer.mp hx
    exact this.2 (mem_rng.mpr this.1)
/-! ### dicts from sets -/
section
variable {β : Type}
def tabA (ks : List (List Int)) (g : List Int → β) : List (List Int × β) := ks.map fun k => (k, g k)
theorem tab_keys {ks : List (List Int)} {g : List Int → β} : (tabA ks g).map (fun p => p.1) = ks := by
  unfold tabA
  rw [List.map_map]
  exact List.map_id' _
theorem getA_tab {ks : List (List Int)} {g : List Int → β} {k : List Int} (h : k ∈ ks) : getA (tabA ks g) k = some (g k) := by
  unfold getA tabA
  induction ks with
  | nil => cases h
  | cons j ks ih =>
    rw [List.map_cons]
    by_cases e : j = k
    · rw [List.find?_cons_of_pos (by simp [e]), e]
      rfl
    · rw [List.find?_cons_of_neg (by simp [e])]
      exact ih ((List.mem_cons.mp h).resolve_left fun z => e z.symm)
theorem putA_new {l : List (List Int × β)} {k : List Int} {b : β} (h : ∀ p ∈ l, p.1 ≠ k) : putA l k b = l ++ [(k, b)] := by
  unfold putA
  rw [if_neg]
  intro z
  obtain ⟨p, hp, e⟩ := List.any_eq_true.mp z
  exact h p hp (of_decide_eq_true e)
theorem map_keep {l : List (List Int × β)} {k : List Int} {b : β} (h : ∀ p ∈ l, p.1 ≠ k) : (l.map fun p => if p.1 = k then (p.1, b) else p) = l := by
  have : (l.map fun p => if p.1 = k then (p.1, b) else p) = l.map id := List.map_congr_left fun p hp => if_neg (h p hp)
  rw [this, List.map_id]
theorem putA_last {l : List (List Int × β)} {k : List Int} {b b' : β} (h : ∀ p ∈ l, p.1 ≠ k) : putA (l ++ [(k, b)]) k b' = l ++ [(k, b')] := by
  unfold putA
  rw [if_pos (by simp), List.map_append, map_keep h]
  simp
theorem putA_tab {ks : List (List Int)} {g : List Int → β} {k : List Int} {b : β} (h : k ∈ ks) : putA (tabA ks g) k b = tabA ks fun j => if j = k then b else g j := by
  unfold putA tabA
  rw [if_pos]
  · rw [List.map_map]
    refine List.map_congr_left fun j _ => ?_
    by_cases e : j = k
    · simp [e]
    · simp [e]
  · rw [List.any_eq_true]
    exact ⟨(k, g k), List.mem_map.mpr ⟨k, h, rfl⟩, decide_eq_true rfl⟩
theorem getA_isSome {l : List (List Int × β)} {k : List Int} : (getA l k).isSome = true ↔ k ∈ l.map (fun p => p.1) := by
  unfold getA
  rw [Option.isSome_map, List.find?_isSome, List.mem_map]
  simp
theorem getA_of {l : List (List Int × β)} (hn : (l.map fun p => p.1).Nodup) {p : List Int × β} (h : p ∈ l) : getA l p.1 = some p.2 := by
  induction l with
  | nil => cases h
  | cons q l ih =>
    unfold getA
    rw [List.map_cons, List.nodup_cons] at hn
    rcases List.mem_cons.mp h with rfl | h
    · rw [List.find?_cons_of_pos (by simp)]
      rfl
    · rw [List.find?_cons_of_neg (by
        intro z
        have z : q.1 = p.1 := of_decide_eq_true z
        exact hn.1 (by rw [z]; exact List.mem_map.mpr ⟨p, h, rfl⟩))]
      exact ih hn.2 h
theorem eqA_self [DecidableEq β] {l : List (List Int × β)} (hn : (l.map fun p => p.1).Nodup) : eqA l l = true := by
  unfold eqA
  rw [Bool.and_eq_true, List.all_eq_true]
  exact ⟨by simp, fun p hp => decide_eq_true (getA_of hn hp)⟩
theorem tab_snoc {ks : List (List Int)} {k : List Int} {g : List Int → β} : tabA (ks ++ [k]) g = tabA ks g ++ [(k, g k)] := by
  unfold tabA
  rw [List.map_append]
  rfl
end
abbrev Dct := List (List Int × List Int)
def ga (l : Dct) (k : List Int) : List Int := (getA l k).getD []
theorem ga_some {l : Dct} {k : List Int} (h : k ∈ l.map (fun p => p.1)) : getA l k = some (ga l k) := by
  have := getA_isSome.mpr h
  unfold ga
  cases e : getA l k with
  | none => rw [e] at this; cases this
  | some v => rfl
theorem ga_tab {ks : List (List Int)} {g : List Int → List Int} {k : List Int} (h : k ∈ ks) : ga (tabA ks g) k = g k := by
  unfold ga
  rw [getA_tab h]
  rfl
end WB

namespace WB
open PySem PySem.Spec PyProof.Rows L2 Evl DL
/-! ### choices, giving up: what the defs work out -/
abbrev keysA (l : Dct) : List (List Int) := l.map fun p => p.1
def cBits : Con := fun ds Φ => ∃ n : Nat, ds = [.int n] ∧ n ≤ 5 ∧ Φ (lT (tT D.int) (bitsN n))
def cWs : Con := fun ds Φ => ∃ n : Nat, ds = [.int n] ∧ n ≤ 5 ∧ Φ (lT (tT D.int) (wsN n))
abbrev chose (ranks some : List Int) : List Int := (some.filter fun x => (decide ((ranks.getD (x).toNat 0) = (lmin (some.map fun x => (ranks.getD (x).toNat 0)))))).map fun x => x
def choiceL (ranks : List Int) : Dct := tabA (wsN ranks.length) (chose ranks)
def cChoice : Con := fun ds Φ => ∃ ranks : List Int, ds = [tT D.int ranks] ∧ ranks.length ≤ 5 ∧ Φ (dicT (tT D.int) (choiceL ranks))
def smallA (l : Dct) : Prop := l.length ≤ 100 ∧ ∀ p ∈ l, p.2.length ≤ 10
theorem ga_len {l : Dct} (h : smallA l) {k : List Int} : (ga l k).length ≤ 10 := by
  unfold ga getA
  cases e : l.find? fun p => decide (p.1 = k) with
  | none => simp
  | some p => exact h.2 p (List.mem_of_find?_eq_some e)
def cBel : Con := fun ds Φ => ∃ (l : Dct) (n : Nat), ds = [dicT (tT D.int) l, .int n] ∧ (n ≤ 5 ∧ rng 0 (n : Int) ∈ keysA l) ∧ Φ (tT D.int (ga l (rng 0 (n : Int))))
abbrev entailsB (b s : List Int) : Bool := ((b.map fun x => (decide (x ∈ s))).all id)
theorem entails_iff {b s : List Int} : entailsB b s = true ↔ ∀ x ∈ b, x ∈ s := by
  unfold entailsB
  rw [all_id]
  exact forall_congr' fun x => forall_congr' fun _ => decide_eq_true_iff
def cEnt : Con := fun ds Φ => ∃ b s : List Int, ds = [tT D.int b, tT D.int s] ∧ (b.length ≤ 100 ∧ s.length ≤ 100) ∧ Φ (.bl (entailsB b s))
def givenUp (l : Dct) (n : Nat) (sm : List Int) : List Int :=
  if ((decide (((outerL (n : Int) sm).length : Int) = 0)) || (((ga l (rng 0 (n : Int))).map fun x => (decide (x ∈ outerL (n : Int) sm))).any id)) = true then ga l (rng 0 (n : Int)) else setI (ga l (rng 0 (n : Int)) ++ ga l (outerL (n : Int) sm))
def cGiven : Con := fun ds Φ => ∃ (l : Dct) (n : Nat) (sm : List Int), ds = [dicT (tT D.int) l, .int n, tT D.int sm] ∧ ((1 ≤ n ∧ n ≤ 5) ∧ sm.length ≤ 100 ∧ (∀ k ∈ wsN n, k ∈ keysA l) ∧ smallA l) ∧ Φ (tT D.int (givenUp l n sm))
def remaind (b sm : List Int) (n : Nat) : List (List Int) := if ((decide (((outerL (n : Int) sm).length : Int) = 0)) || (!(entailsB b sm))) = true then [b] else (outerL (n : Int) sm).map fun x => (sortD D.int (b ++ [x]))
def cRem : Con := fun ds Φ => ∃ (b sm : List Int) (n : Nat), ds = [tT D.int b, tT D.int sm, .int n] ∧ (n ≤ 5 ∧ b.length ≤ 20 ∧ sm.length ≤ 20) ∧ Φ (lT (tT D.int) (remaind b sm n))
theorem rem_ne {b sm : List Int} {n : Nat} : remaind b sm n ≠ [] := by
  unfold remaind
  split
  · simp
  · rename_i h
    intro z
    have z := List.map_eq_nil_iff.mp z
    apply h
    rw [z]
    rfl
theorem rem_len {b sm : List Int} {n : Nat} (h : n ≤ 5) : (remaind b sm n).length ≤ 5 := by
  unfold remaind
  split
  · simp
  · rw [List.length_map]
    have := outer_len (many := (n : Int)) (some := sm)
    omega
def partialM (b sm : List Int) (n : Nat) (ch : List Int) : List Int := if ((decide (((remaind b sm n).length : Int) = 1)) && (decide (((remaind b sm n).getD (0 : Int).toNat []) = b))) = true then b else setI (b ++ ch)
def cPart : Con := fun ds Φ => ∃ (b sm : List Int) (n : Nat) (ch : List Int), ds = [tT D.int b, tT D.int sm, .int n, tT D.int ch] ∧ (n ≤ 5 ∧ b.length ≤ 20 ∧ sm.length ≤ 20 ∧ ch.length ≤ 20) ∧ Φ (tT D.int (partialM b sm n ch))
abbrev inB (a sm : List Int) : List Int := (a.filter fun x => (decide (x ∈ sm))).map fun x => x
def faultAt (after b : List Int) (n : Nat) (sm : List Int) : Option Str :=
  if (!((b.map fun x => (decide (x ∈ after))).all id)) = true then some "within" else
  if ((!(entailsB b sm)) && (!decide (after = b))) = true then some "idle" else
  if ((decide (0 < ((outerL (n : Int) sm).length : Int))) && (entailsB after sm)) = true then some "success" else
  if (!decide (inB after sm = inB b sm)) = true then some "back" else none
def faultL (l : Dct) (b : List Int) (n : Nat) : Option (Str × List Int) := (bitsN n).findSome? fun sm => (faultAt (ga l sm) b n sm).map fun w => (w, sm)
theorem fault_at {l : Dct} {b : List Int} {n : Nat} {pre post : List (List Int)} {sm : List Int} {w : Str} (hx : bitsN n = pre ++ sm :: post) (h : ∀ p ∈ pre, faultAt (ga l p) b n p = none) (e : faultAt (ga l sm) b n sm = some w) : faultL l b n = some (w, sm) := by
  unfold faultL
  rw [hx, List.findSome?_append, List.findSome?_eq_none_iff.mpr fun p hp => by rw [h p hp]; rfl, Option.none_or, List.findSome?_cons, e]
  rfl
theorem fault_none {l : Dct} {b : List Int} {n : Nat} (h : ∀ p ∈ bitsN n, faultAt (ga l p) b n p = none) : faultL l b n = none := List.findSome?_eq_none_iff.mpr fun p hp => by rw [h p hp]; rfl
theorem none_fault {l : Dct} {b : List Int} {n : Nat} (h : faultL l b n = none) : ∀ p ∈ bitsN n, faultAt (ga l p) b n p = none := fun p hp => by
  have := List.findSome?_eq_none_iff.mp h p hp
  exact Option.map_eq_none_iff.mp this
def cFlt : Con := fun ds Φ => ∃ (l : Dct) (b : List Int) (n : Nat), ds = [dicT (tT D.int) l, tT D.int b, .int n] ∧ (n ≤ 5 ∧ (∀ k ∈ bitsN n, k ∈ keysA l) ∧ b.length ≤ 20 ∧ smallA l) ∧ Φ (oT (pT D.str (tT D.int)) (faultL l b n))
/-- the law's own: all values are sets of worlds -/
def cLFlt : Con := fun ds Φ => ∃ (l : Dct) (b : List Int) (n : Nat), ds = [dicT (tT D.int) l, tT D.int b, .int n] ∧ (n ≤ 5 ∧ (∀ k ∈ bitsN n, k ∈ keysA l) ∧ b.length ≤ 20 ∧ smallA l ∧ ∀ k ∈ bitsN n, ∀ x ∈ ga l k, 0 ≤ x ∧ x < (n : Int)) ∧ Φ (oT (pT D.str (tT D.int)) (faultL l b n))
def faultAt' (after b : List Int) (n : Nat) (sm : List Int) : Option Str :=
  if (!decide (((b.filter fun x => (!decide (x ∈ after))).map fun x => x) = [])) = true then some "within" else
  if ((!(decide (((b.filter fun x => (!decide (x ∈ sm))).map fun x => x) = []))) && (!decide (after = b))) = true then some "idle" else
  if ((!decide (outerL (n : Int) sm = [])) && (decide (((after.filter fun x => (decide (x ∈ outerL (n : Int) sm))).map fun x => x) = []))) = true then some "success" else
  if (!decide (inB after sm = inB b sm)) = true then some "back" else none
theorem notin_nil {b s : List Int} : (decide (((b.filter fun x => (!decide (x ∈ s))).map fun x => x) = [])) = entailsB b s := by
  refine Bool.eq_iff_iff.mpr ?_
  rw [decide_eq_true_iff, entails_iff, List.map_eq_nil_iff, List.filter_eq_nil_iff]
  refine forall_congr' fun x => forall_congr' fun _ => ?_
  simp
theorem fault_eq {after b : List Int} {n : Nat} {sm : List Int} (h : ∀ x ∈ after, 0 ≤ x ∧ x < (n : Int)) : faultAt' after b n sm = faultAt after b n sm := by
  unfold faultAt' faultAt
  rw [notin_nil, notin_nil]
  have e1 : (!decide (outerL (n : Int) sm = [])) = decide (0 < ((outerL (n : Int) sm).length : Int)) := by
    cases outerL (n : Int) sm with
    | nil => rfl
    | cons x l =>
      rw [decide_eq_false (by simp), decide_eq_true (by simp only [List.length_cons]; omega)]
      rfl
  have e2 : (decide (((after.filter fun x => (decide (x ∈ outerL (n : Int) sm))).map fun x => x) = [])) = entailsB after sm := by
    refine Bool.eq_iff_iff.mpr ?_
    rw [decide_eq_true_iff, entails_iff, List.map_eq_nil_iff, List.filter_eq_nil_iff]
    refine forall_congr' fun x => forall_congr' fun hx => ?_
    rw [decide_eq_true_iff, mem_outer]
    have := h x hx
    constructor
    · intro z
      apply Classical.byContradiction
      exact fun y => z ⟨this, y⟩
    · exact fun z y => y.2 z
  rw [e1, e2]
def selC (b : List Int) (n : Nat) (sm : List Int) : Bool := ((decide (0 < ((outerL (n : Int) sm).length : Int))) && (entailsB b sm))
abbrev offB (a b : List Int) : List Int := (a.filter fun x => (!decide (x ∈ b))).map fun x => x
def selA (l : Dct) (b : List Int) (n : Nat) : Dct := ((bitsN n).filter (selC b n)).map fun sm => (outerL (n : Int) sm, offB (ga l sm) b)
theorem sel_keys {l : Dct} {b : List Int} {n : Nat} : keysA (selA l b n) = ((bitsN n).filter (selC b n)).map (outerL (n : Int)) := by
  unfold keysA selA
  rw [List.map_map]
  rfl
theorem outer_nodup {n : Nat} (h : n ≤ 5) {ks : List (List Int)} (hk : ks.Sublist (bitsN n)) : (ks.map (outerL (n : Int))).Nodup := by
  refine List.pairwise_map.mpr (List.Pairwise.imp_of_mem (fun {a b} ha hb hne e => ?_) ((bits_nodup h).sublist hk))
  exact hne (outer_inj (hk.subset ha) (hk.subset hb) e)
theorem sel_nodup {l : Dct} {b : List Int} {n : Nat} (h : n ≤ 5) : (keysA (selA l b n)).Nodup := by
  rw [sel_keys]
  exact outer_nodup h List.filter_sublist
def cSel : Con := fun ds Φ => ∃ (l : Dct) (b : List Int) (n : Nat), ds = [dicT (tT D.int) l, tT D.int b, .int n] ∧ (n ≤ 5 ∧ (∀ k ∈ bitsN n, k ∈ keysA l) ∧ b.length ≤ 20 ∧ smallA l) ∧ Φ (dicT (tT D.int) (selA l b n))
theorem sel_step {l : Dct} {b : List Int} {n : Nat} (h : n ≤ 5) {pre post : List (List Int)} {sm : List Int} (hx : bitsN n = pre ++ sm :: post) : ∀ p ∈ ((pre.filter (selC b n)).map fun sm => (outerL (n : Int) sm, offB (ga l sm) b)), p.1 ≠ outerL (n : Int) sm := fun p hp e => by
  obtain ⟨q, hq, rfl⟩ := List.mem_map.mp hp
  have hq := (List.mem_filter.mp hq).1
  have hn := bits_nodup h
  rw [hx] at hn
  have h1 : q ∈ bitsN n := by rw [hx]; exact List.mem_append_left _ hq
  have h2 : sm ∈ bitsN n := by rw [hx]; exact List.mem_append_right _ (List.mem_cons_self ..)
  have := outer_inj h1 h2 e
  subst this
  exact (List.nodup_append.mp hn).2.2 q hq q (List.mem_cons_self ..) rfl
theorem pre_new {ks pre post : List (List Int)} {sm : List Int} (hn : ks.Nodup) (hx : ks = pre ++ sm :: post) {g : List Int → List Int} : ∀ p ∈ tabA pre g, p.1 ≠ sm := fun p hp e => by
  obtain ⟨q, hq, rfl⟩ := List.mem_map.mp hp
  rw [hx] at hn
  have e : q = sm := e
  subst e
  exact (List.nodup_append.mp hn).2.2 q hq q (List.mem_cons_self ..) rfl
end WB

namespace WB
open PySem PySem.Spec PyProof.Rows L2 Evl DL
/-! ### k81: the laws of giving up -/
section
variable {n : Nat} {b sm ch v : List Int} {t l : Dct} {ranks : List Int}
theorem keys_tab {ks : List (List Int)} (h : keysA l = ks) (hn : ks.Nodup) : l = tabA ks (ga l) := by
  subst h
  unfold tabA keysA
  rw [List.map_map]
  have : l = l.map id := by rw [List.map_id]
  conv => lhs; rw [this]
  refine List.map_congr_left fun p hp => ?_
  show p = (p.1, ga l p.1)
  have e := getA_of hn hp
  unfold ga
  rw [e]
  rfl
theorem selC_iff : selC b n sm = true ↔ outerL (n : Int) sm ≠ [] ∧ ∀ x ∈ b, x ∈ sm := by
  unfold selC
  rw [Bool.and_eq_true, entails_iff, decide_eq_true_iff]
  refine and_congr_left fun _ => ?_
  cases outerL (n : Int) sm with
  | nil => simp
  | cons x l => simp
theorem inside_and : ((decide (((b.filter fun x => (!decide (x ∈ sm))).map fun x => x) = [])) && (!decide (outerL (n : Int) sm = []))) = selC b n sm := by
  rw [notin_nil]
  refine Bool.eq_iff_iff.mpr ?_
  rw [selC_iff, Bool.and_eq_true, entails_iff, Bool.not_eq_true', decide_eq_false_iff_not]
  exact and_comm
theorem sortI_mem {l : List Int} {x : Int} : x ∈ sortD D.int l ↔ x ∈ l := sortI_perm.mem_iff
theorem sortI_strict {l : List Int} (h : l.Nodup) : (sortD D.int l).Pairwise (· < ·) := by
  have h1 : (sortD D.int l).Nodup := sortI_perm.nodup_iff.mpr h
  have h2 := List.pairwise_and_iff.mpr ⟨sortI_asc (l := l), h1⟩
  exact h2.imp fun ⟨a, b⟩ => by omega
theorem setI_sort {l : List Int} (h : l.Nodup) : setI l = sortD D.int l := asc_unique (setI_asc l) (sortI_strict h) fun x => mem_setI.trans sortI_mem.symm
theorem off_nodup (hb : b ∈ bitsN n) (hs : ∀ x ∈ b, x ∈ sm) (hc : ch.Sublist (outerL (n : Int) sm)) : (b ++ ch).Nodup := by
  refine List.nodup_append.mpr ⟨(bit_asc hb).imp fun h => by omega, (outer_asc.sublist hc).imp fun h => by omega, fun x hx y hy e => ?_⟩
  subst e
  exact (mem_outer.mp (hc.subset hy)).2 (hs x hx)
theorem rem_sel (h : selC b n sm = true) : remaind b sm n = (outerL (n : Int) sm).map fun x => sortD D.int (b ++ [x]) := by
  obtain ⟨h1, h2⟩ := selC_iff.mp h
  unfold remaind
  rw [if_neg]
  intro z
  rcases Bool.or_eq_true_iff.mp z with z | z
  · have := of_decide_eq_true z
    exact h1 (List.length_eq_zero_iff.mp (by omega))
  · rw [entails_iff.mpr h2] at z
    cases z
theorem rem_no (h : ¬ selC b n sm = true) : remaind b sm n = [b] := by
  unfold remaind
  rw [if_pos]
  rw [Bool.or_eq_true_iff]
  by_cases z : outerL (n : Int) sm = []
  · left; rw [z]; rfl
  · right
    cases e : entailsB b sm with
    | false => rfl
    | true => exact absurd (selC_iff.mpr ⟨z, entails_iff.mp e⟩) h
theorem part_sel (hb : b ∈ bitsN n) (h : selC b n sm = true) (hc : ch.Sublist (outerL (n : Int) sm)) : partialM b sm n ch = sortD D.int (b ++ ch) := by
  obtain ⟨h1, h2⟩ := selC_iff.mp h
  unfold partialM
  rw [if_neg, setI_sort (off_nodup hb h2 hc)]
  intro z
  have z := of_decide_eq_true (Bool.and_eq_true_iff.mp z).2
  rw [rem_sel h] at z
  cases e : outerL (n : Int) sm with
  | nil => exact h1 e
  | cons x l =>
    rw [e] at z
    have z : sortD D.int (b ++ [x]) = b := z
    have := (sortI_perm (l := b ++ [x])).length_eq
    rw [z, List.length_append] at this
    simp at this
theorem part_no (h : ¬ selC b n sm = true) : partialM b sm n [] = b := by
  unfold partialM
  rw [rem_no h, if_pos]
  show (decide ((1 : Int) = 1) && decide (b = b)) = true
  simp
/-- what the law draws behind giving up -/
def good (b : List Int) (n : Nat) (sm v : List Int) : Prop := (selC b n sm = true ∧ ∃ ch, ch ≠ [] ∧ ch.Sublist (outerL (n : Int) sm) ∧ v = sortD D.int (b ++ ch)) ∨ (¬ selC b n sm = true ∧ v = b)
theorem good_in (hb : b ∈ bitsN n) (hn : n ≤ 5) (h : good b n sm v) : (∀ x ∈ v, 0 ≤ x ∧ x < (n : Int)) ∧ v.length ≤ 10 := by
  have hbl := bit_len hb
  rcases h with ⟨h, ch, _, hs, rfl⟩ | ⟨_, rfl⟩
  · refine ⟨fun x hx => ?_, ?_⟩
    · rcases List.mem_append.mp (sortI_mem.mp hx) with z | z
      · exact bit_in hb z
      · exact (mem_outer.mp (hs.subset z)).1
    · have := (sortI_perm (l := b ++ ch)).length_eq
      have h1 := hs.length_le
      have h2 := outer_len (many := (n : Int)) (some := sm)
      rw [List.length_append] at this
      omega
  · exact ⟨fun x hx => bit_in hb hx, by omega⟩
theorem in_eq {a : List Int} (ha : a.Pairwise (· < ·)) (hb : b.Pairwise (· < ·)) (h : ∀ x ∈ sm, x ∈ a ↔ x ∈ b) : inB a sm = inB b sm := by
  unfold inB
  rw [List.map_id', List.map_id']
  refine asc_unique (ha.filter _) (hb.filter _) fun x => ?_
  rw [List.mem_filter, List.mem_filter, decide_eq_true_iff]
  constructor
  · exact fun z => ⟨(h x z.2).mp z.1, z.2⟩
  · exact fun z => ⟨(h x z.2).mpr z.1, z.2⟩
theorem no_fault {after : List Int} (h1 : ∀ x ∈ b, x ∈ after) (h2 : (∀ x ∈ b, x ∈ sm) ∨ after = b) (h3 : outerL (n : Int) sm = [] ∨ ∃ x ∈ after, x ∉ sm) (h4 : inB after sm = inB b sm) : faultAt after b n sm = none := by
  unfold faultAt
  rw [if_neg, if_neg, if_neg, if_neg]
  · rw [decide_eq_true h4]; decide
  · intro z
    obtain ⟨z1, z2⟩ := Bool.and_eq_true_iff.mp z
    rcases h3 with h3 | ⟨x, hx, hs⟩
    · rw [h3] at z1
      exact absurd z1 (by decide)
    · exact hs (entails_iff.mp z2 x hx)
  · intro z
    obtain ⟨z1, z2⟩ := Bool.and_eq_true_iff.mp z
    rcases h2 with h2 | h2
    · rw [entails_iff.mpr h2] at z1; cases z1
    · rw [decide_eq_true h2] at z2; cases z2
  · intro z
    have e : ((b.map fun x => (decide (x ∈ after))).all id) = true := entails_iff.mpr h1
    rw [e] at z
    cases z
theorem good_fault (hb : b ∈ bitsN n) (hne : b ≠ []) (hs : sm ∈ bitsN n) (h : good b n sm v) : faultAt v b n sm = none := by
  rcases h with ⟨h, ch, hc, hsub, rfl⟩ | ⟨h, rfl⟩
  · obtain ⟨h1, h2⟩ := selC_iff.mp h
    have hnd := off_nodup hb h2 hsub
    refine no_fault (fun x hx => sortI_mem.mpr (List.mem_append_left _ hx)) (.inl h2) (.inr ?_) (in_eq (sortI_strict hnd) (bit_asc hb) fun x hx => ?_)
    · obtain ⟨y, hy⟩ := List.exists_mem_of_ne_nil ch hc
      exact ⟨y, sortI_mem.mpr (List.mem_append_right _ hy), (mem_outer.mp (hsub.subset hy)).2⟩
    · rw [sortI_mem, List.mem_append]
      exact ⟨fun z => z.resolve_right fun y => (mem_outer.mp (hsub.subset y)).2 hx, .inl⟩
  · refine no_fault (fun x hx => hx) (.inr rfl) ?_ rfl
    by_cases z : outerL (n : Int) sm = []
    · exact .inl z
    · right
      apply Classical.byContradiction
      intro y
      refine h (selC_iff.mpr ⟨z, fun x hx => ?_⟩)
      apply Classical.byContradiction
      exact fun w => y ⟨x, hx, w⟩
def pickOf (b : List Int) (n : Nat) (t : Dct) : Dct := (t.filter fun q => selC b n q.1).map fun q => (outerL (n : Int) q.1, offB q.2 b)
theorem told_sel (h : keysA t = bitsN n) (hn : n ≤ 5) : selA t b n = pickOf b n t := by
  unfold pickOf selA
  rw [keys_tab h (bits_nodup hn)]
  unfold tabA
  rw [List.filter_map, List.map_map]
  refine List.map_congr_left fun q hq => ?_
  have hq := (List.mem_filter.mp hq).1
  show (outerL (n : Int) q, offB (ga (tabA (bitsN n) (ga t)) q) b) = (outerL (n : Int) q, offB (ga t q) b)
  rw [ga_tab hq]
theorem ga_good (h : keysA t = bitsN n) (hn : n ≤ 5) (hg : ∀ q ∈ t, good b n q.1 q.2) {k : List Int} (hk : k ∈ bitsN n) : good b n k (ga t k) := by
  have : k ∈ keysA t := by rw [h]; exact hk
  have hnd : (keysA t).Nodup := by rw [h]; exact bits_nodup hn
  obtain ⟨q, hq, rfl⟩ := List.mem_map.mp this
  have e := getA_of hnd hq
  unfold ga
  rw [e]
  exact hg q hq
theorem told_fault (hb : b ∈ bitsN n) (hne : b ≠ []) (h : keysA t = bitsN n) (hn : n ≤ 5) (hg : ∀ q ∈ t, good b n q.1 q.2) : faultL t b n = none := fault_none fun p hp => good_fault hb hne hp (ga_good h hn hg hp)
theorem tab_small {g : List Int → List Int} (hn : n ≤ 5) (h : ∀ k ∈ bitsN n, (g k).length ≤ 10) : smallA (tabA (bitsN n) g) := by
  have := bits_32 hn
  refine ⟨by unfold tabA; rw [List.length_map]; omega, fun p hp => ?_⟩
  obtain ⟨k, hk, rfl⟩ := List.mem_map.mp hp
  exact h k hk
/-- what is chosen behind giving up that keeps the laws is never nothing -/
theorem sel_ne (h : faultL l b n = none) {q : List Int × List Int} (hq : q ∈ selA l b n) : q.2 ≠ [] := by
  obtain ⟨s, hs, rfl⟩ := List.mem_map.mp hq
  obtain ⟨hs, hc⟩ := List.mem_filter.mp hs
  obtain ⟨h1, h2⟩ := selC_iff.mp hc
  have e := none_fault h s hs
  have hent : ¬ entailsB (ga l s) s = true := fun z => by
    unfold faultAt at e
    by_cases c1 : (!((b.map fun x => (decide (x ∈ ga l s))).all id)) = true
    · rw [if_pos c1] at e; cases e
    rw [if_neg c1] at e
    by_cases c2 : ((!(entailsB b s)) && (!decide (ga l s = b))) = true
    · rw [if_pos c2] at e; cases e
    rw [if_neg c2] at e
    have c3 : ((decide (0 < ((outerL (n : Int) s).length : Int))) && (entailsB (ga l s) s)) = true := by
      rw [z, Bool.and_true]
      exact (Bool.and_eq_true_iff.mp hc).1
    rw [if_pos c3] at e
    cases e
  intro z
  apply hent
  refine entails_iff.mpr fun x hx => ?_
  apply Classical.byContradiction
  intro y
  have : x ∈ offB (ga l s) b := by
    unfold offB
    rw [List.map_id', List.mem_filter]
    refine ⟨hx, ?_⟩
    rw [Bool.not_eq_true', decide_eq_false_iff_not]
    exact fun w => y (h2 x w)
  have z : offB (ga l s) b = [] := z
  rw [z] at this
  cases this
theorem sel_key (hn : n ≤ 5) {k : List Int} (hk : k ∈ keysA (selA l b n)) (h : faultL l b n = none) : decide (ga (selA l b n) k = []) = false := by
  obtain ⟨q, hq, rfl⟩ := List.mem_map.mp hk
  have e := getA_of (sel_nodup hn) hq
  unfold ga
  rw [e]
  exact decide_eq_false (sel_ne h hq)
theorem sel_keyne : ∀ p ∈ selA l b n, p.1 ≠ [] := fun p hp => by
  obtain ⟨s, hs, rfl⟩ := List.mem_map.mp hp
  exact (selC_iff.mp (List.mem_filter.mp hs).2).1
theorem sel_len (hn : n ≤ 5) : (selA l b n).length ≤ 32 := by
  have := bits_32 hn
  have h1 := List.length_filter_le (selC b n) (bitsN n)
  unfold selA
  rw [List.length_map]
  omega
/-! by ranks -/
theorem mem_chose {s : List Int} {x : Int} : x ∈ chose ranks s ↔ x ∈ s ∧ ∀ y ∈ s, ranks.getD x.toNat 0 ≤ ranks.getD y.toNat 0 := by
  unfold chose
  rw [List.map_id', List.mem_filter, decide_eq_true_iff]
  refine and_congr_right fun hx => ?_
  have hne : (s.map fun x => ranks.getD x.toNat 0) ≠ [] := fun e => by rw [List.map_eq_nil_iff.mp e] at hx; cases hx
  obtain ⟨h1, h2⟩ := lmin_ok hne
  constructor
  · intro h y hy
    rw [h]
    exact h2 _ (List.mem_map.mpr ⟨y, hy, rfl⟩)
  · intro h
    obtain ⟨y, hy, e⟩ := List.mem_map.mp h1
    have a := h y hy
    have b := h2 _ (List.mem_map.mpr ⟨x, hx, rfl⟩)
    have e : ranks.getD y.toNat 0 = _ := e
    omega
theorem chose_asc {s : List Int} (h : s.Pairwise (· < ·)) : (chose ranks s).Pairwise (· < ·) := by
  unfold chose
  rw [List.map_id']
  exact h.filter _
theorem chose_ne {s : List Int} (h : s ≠ []) : chose ranks s ≠ [] := by
  have hne : (s.map fun x => ranks.getD x.toNat 0) ≠ [] := fun e => h (List.map_eq_nil_iff.mp e)
  obtain ⟨h1, h2⟩ := lmin_ok hne
  obtain ⟨y, hy, e⟩ := List.mem_map.mp h1
  have e : ranks.getD y.toNat 0 = _ := e
  exact List.ne_nil_of_mem (mem_chose.mpr ⟨hy, fun z hz => by rw [e]; exact h2 _ (List.mem_map.mpr ⟨z, hz, rfl⟩)⟩)
theorem chose_len {s : List Int} : (chose ranks s).length ≤ s.length := by
  unfold chose
  rw [List.map_id']
  exact List.length_filter_le _ _
abbrev ChR (ranks : List Int) (n : Nat) : Dct := tabA (wsN n) (chose ranks)
abbrev FR (ranks : List Int) (n : Nat) : List Int := chose ranks (rng 0 (n : Int))
abbrev GR (ranks : List Int) (n : Nat) (sm : List Int) : List Int := givenUp (ChR ranks n) n sm
theorem full_ws (h1 : 1 ≤ n) : rng 0 (n : Int) ∈ wsN n := mem_ws.mpr ⟨full_bit, by
  intro e
  have := congrArg List.length e
  rw [rng_len] at this
  simp at this
  omega⟩
theorem ga_full (h1 : 1 ≤ n) : ga (ChR ranks n) (rng 0 (n : Int)) = FR ranks n := ga_tab (full_ws h1)
theorem mem_GR (h1 : 1 ≤ n) {x : Int} : x ∈ GR ranks n sm ↔ x ∈ FR ranks n ∨ x ∈ chose ranks (outerL (n : Int) sm) := by
  unfold GR givenUp
  rw [ga_full h1]
  by_cases c : ((decide (((outerL (n : Int) sm).length : Int) = 0)) || (((FR ranks n).map fun x => (decide (x ∈ outerL (n : Int) sm))).any id)) = true
  · rw [if_pos c]
    refine ⟨.inl, fun h => h.elim id fun h => ?_⟩
    obtain ⟨h2, h3⟩ := mem_chose.mp h
    rcases Bool.or_eq_true_iff.mp c with c | c
    · have c := of_decide_eq_true c
      have c : outerL (n : Int) sm = [] := List.length_eq_zero_iff.mp (by omega)
      rw [c] at h2
      cases h2
    · obtain ⟨y, hy, hy2⟩ := any_id.mp c
      have hy2 := of_decide_eq_true hy2
      have := (mem_chose.mp hy).2
      refine mem_chose.mpr ⟨mem_rng.mpr (mem_outer.mp h2).1, fun z hz => ?_⟩
      have a := h3 y hy2
      have b := this z hz
      omega
  · rw [if_neg c, mem_setI, List.mem_append]
    have ho : outerL (n : Int) sm ∈ wsN n := mem_ws.mpr ⟨outer_bit, fun e => c (by rw [e]; rfl)⟩
    rw [ga_tab ho]
theorem GR_asc (h1 : 1 ≤ n) : (GR ranks n sm).Pairwise (· < ·) := by
  unfold GR givenUp
  split
  · rw [ga_full h1]
    exact chose_asc rng_asc
  · exact setI_asc _
theorem FR_in {x : Int} (h : x ∈ FR ranks n) : 0 ≤ x ∧ x < (n : Int) := mem_rng.mp (mem_chose.mp h).1
theorem FR_bit : FR ranks n ∈ bitsN n := bit_of (chose_asc rng_asc) fun x hx => FR_in hx
theorem FR_ne (h1 : 1 ≤ n) : FR ranks n ≠ [] := chose_ne fun e => by
  have := congrArg List.length e
  rw [rng_len] at this
  simp at this
  omega
theorem GR_in (h1 : 1 ≤ n) {x : Int} (h : x ∈ GR ranks n sm) : 0 ≤ x ∧ x < (n : Int) := by
  rcases (mem_GR h1).mp h with h | h
  · exact FR_in h
  · exact (mem_outer.mp (mem_chose.mp h).1).1
theorem GR_bit (h1 : 1 ≤ n) : GR ranks n sm ∈ bitsN n := bit_of (GR_asc h1) fun x hx => GR_in h1 hx
theorem GR_len (h1 : 1 ≤ n) (hn : n ≤ 5) : (GR ranks n sm).length ≤ 10 := by
  have := bit_len (GR_bit (ranks := ranks) (sm := sm) h1)
  omega
theorem rows_fault (h1 : 1 ≤ n) : faultL (tabA (bitsN n) (GR ranks n)) (FR ranks n) n = none := fault_none fun sm hs => by
  rw [ga_tab hs]
  refine no_fault (fun x hx => (mem_GR h1).mpr (.inl hx)) ?_ ?_ (in_eq (GR_asc h1) (chose_asc rng_asc) fun x hx => ?_)
  · by_cases z : ∀ x ∈ FR ranks n, x ∈ sm
    · exact .inl z
    · right
      refine asc_unique (GR_asc h1) (chose_asc rng_asc) fun x => (mem_GR h1).trans ⟨fun h => h.elim id fun h => ?_, .inl⟩
      have : ∃ y, y ∈ FR ranks n ∧ y ∉ sm := by
        apply Classical.byContradiction
        intro w
        refine z fun y hy => ?_
        apply Classical.byContradiction
        exact fun q => w ⟨y, hy, q⟩
      obtain ⟨y, hy, hy2⟩ := this
      obtain ⟨h2, h3⟩ := mem_chose.mp h
      refine mem_chose.mpr ⟨mem_rng.mpr (mem_outer.mp h2).1, fun w hw => ?_⟩
      have a := h3 y (mem_outer.mpr ⟨FR_in hy, hy2⟩)
      have b := (mem_chose.mp hy).2 w hw
      omega
  · by_cases z : outerL (n : Int) sm = []
    · exact .inl z
    · right
      obtain ⟨y, hy⟩ := List.exists_mem_of_ne_nil _ (chose_ne (ranks := ranks) z)
      exact ⟨y, (mem_GR h1).mpr (.inr hy), (mem_outer.mp (mem_chose.mp hy).1).2⟩
  · rw [mem_GR h1]
    exact ⟨fun h => h.resolve_right fun y => (mem_outer.mp (mem_chose.mp y).1).2 hx, .inl⟩
theorem both_bit {one two : List Int} (h : one ∈ bitsN n) : inB one two ∈ bitsN n := by
  unfold inB
  rw [List.map_id']
  exact bit_of ((bit_asc h).filter _) fun x hx => bit_in h (List.mem_filter.mp hx).1
theorem outer_both {one two : List Int} {x : Int} : x ∈ outerL (n : Int) (inB one two) ↔ x ∈ outerL (n : Int) one ∨ x ∈ outerL (n : Int) two := by
  rw [mem_outer, mem_outer, mem_outer]
  unfold inB
  rw [List.map_id', List.mem_filter, decide_eq_true_iff]
  constructor
  · rintro ⟨h1, h2⟩
    by_cases z : x ∈ one
    · exact .inr ⟨h1, fun y => h2 ⟨z, y⟩⟩
    · exact .inl ⟨h1, z⟩
  · rintro (⟨h1, h2⟩ | ⟨h1, h2⟩)
    · exact ⟨h1, fun y => h2 y.1⟩
    · exact ⟨h1, fun y => h2 y.2⟩
theorem either_fact (h1 : 1 ≤ n) {one two : List Int} : GR ranks n (inB one two) ∈ [setI (GR ranks n one ++ GR ranks n two), GR ranks n one, GR ranks n two] := by
  have part : ∀ {A B : List Int}, (∀ x ∈ A, x ∈ B) → (∃ x ∈ A, x ∈ chose ranks B) → ∀ y, y ∈ chose ranks A ↔ y ∈ A ∧ y ∈ chose ranks B := fun {A B} hs ⟨x, hx, hb⟩ y => by
    constructor
    · intro h
      obtain ⟨k1, k2⟩ := mem_chose.mp h
      refine ⟨k1, mem_chose.mpr ⟨hs y k1, fun z hz => ?_⟩⟩
      have a := k2 x hx
      have b := (mem_chose.mp hb).2 z hz
      omega
    · rintro ⟨k1, k2⟩
      exact mem_chose.mpr ⟨k1, fun z hz => (mem_chose.mp k2).2 z (hs z hz)⟩
  have s1 : ∀ x ∈ outerL (n : Int) one, x ∈ outerL (n : Int) (inB one two) := fun x hx => outer_both.mpr (.inl hx)
  have s2 : ∀ x ∈ outerL (n : Int) two, x ∈ outerL (n : Int) (inB one two) := fun x hx => outer_both.mpr (.inr hx)
  have cov : ∀ y, y ∈ chose ranks (outerL (n : Int) (inB one two)) → y ∈ outerL (n : Int) one ∨ y ∈ outerL (n : Int) two := fun y hy => outer_both.mp (mem_chose.mp hy).1
  by_cases A : ∃ x ∈ outerL (n : Int) one, x ∈ chose ranks (outerL (n : Int) (inB one two))
  · have pA := part s1 A
    by_cases B : ∃ x ∈ outerL (n : Int) two, x ∈ chose ranks (outerL (n : Int) (inB one two))
    · have pB := part s2 B
      refine List.mem_cons.mpr (.inl (asc_unique (GR_asc h1) (setI_asc _) fun y => ?_))
      rw [mem_setI, List.mem_append, mem_GR h1, mem_GR h1, mem_GR h1, pA, pB]
      constructor
      · rintro (h | h)
        · exact .inl (.inl h)
        · exact (cov y h).elim (fun z => .inl (.inr ⟨z, h⟩)) fun z => .inr (.inr ⟨z, h⟩)
      · rintro ((h | h) | (h | h))
        · exact .inl h
        · exact .inr h.2
        · exact .inl h
        · exact .inr h.2
    · refine List.mem_cons_of_mem _ (List.mem_cons.mpr (.inl (asc_unique (GR_asc h1) (GR_asc h1) fun y => ?_)))
      rw [mem_GR h1, mem_GR h1, pA]
      exact or_congr_right ⟨fun h => ⟨(cov y h).resolve_right fun z => B ⟨y, z, h⟩, h⟩, fun h => h.2⟩
  · by_cases B : ∃ x ∈ outerL (n : Int) two, x ∈ chose ranks (outerL (n : Int) (inB one two))
    · have pB := part s2 B
      refine List.mem_cons_of_mem _ (List.mem_cons_of_mem _ (List.mem_singleton.mpr (asc_unique (GR_asc h1) (GR_asc h1) fun y => ?_)))
      rw [mem_GR h1, mem_GR h1, pB]
      exact or_congr_right ⟨fun h => ⟨(cov y h).resolve_left fun z => A ⟨y, z, h⟩, h⟩, fun h => h.2⟩
    · have e : outerL (n : Int) (inB one two) = [] := by
        apply Classical.byContradiction
        intro z
        obtain ⟨y, hy⟩ := List.exists_mem_of_ne_nil _ (chose_ne (ranks := ranks) z)
        exact (cov y hy).elim (fun w => A ⟨y, w, hy⟩) fun w => B ⟨y, w, hy⟩
      have e1 : outerL (n : Int) one = [] := List.eq_nil_iff_forall_not_mem.mpr fun x hx => by
        have := s1 x hx
        rw [e] at this
        cases this
      refine List.mem_cons_of_mem _ (List.mem_cons.mpr (.inl (asc_unique (GR_asc h1) (GR_asc h1) fun y => ?_)))
      rw [mem_GR h1, mem_GR h1, e, e1]
theorem ent_fact (h1 : 1 ≤ n) {one two : List Int} : ((!(entailsB (GR ranks n (inB one two)) one)) && (!decide (offB (GR ranks n one) (GR ranks n (inB one two)) = []))) = false := by
  cases e : entailsB (GR ranks n (inB one two)) one with
  | true => rfl
  | false =>
    rw [Bool.not_false, Bool.true_and, Bool.not_eq_false', decide_eq_true_iff]
    unfold offB
    rw [List.map_id', List.filter_eq_nil_iff]
    intro y hy
    rw [Bool.not_eq_true, Bool.not_eq_false', decide_eq_true_iff]
    have : ∃ x, x ∈ GR ranks n (inB one two) ∧ x ∉ one := by
      apply Classical.byContradiction
      intro w
      refine absurd (entails_iff.mpr fun x hx => ?_) (by rw [e]; exact Bool.false_ne_true)
      apply Classical.byContradiction
      exact fun q => w ⟨x, hx, q⟩
    obtain ⟨x, hx, hx2⟩ := this
    have hxo : x ∈ outerL (n : Int) one := mem_outer.mpr ⟨GR_in h1 hx, hx2⟩
    rcases (mem_GR h1).mp hy with hy | hy
    · exact (mem_GR h1).mpr (.inl hy)
    · obtain ⟨k1, k2⟩ := mem_chose.mp hy
      have a := k2 x hxo
      rcases (mem_GR h1).mp hx with hx | hx
      · refine (mem_GR h1).mpr (.inl (mem_chose.mpr ⟨mem_rng.mpr (mem_outer.mp k1).1, fun z hz => ?_⟩))
        have b := (mem_chose.mp hx).2 z hz
        omega
      · refine (mem_GR h1).mpr (.inr (mem_chose.mpr ⟨outer_both.mpr (.inl k1), fun z hz => ?_⟩))
        have b := (mem_chose.mp hx).2 z hz
        omega
theorem cut_last (hn : n ≤ 5) : bitsN n = DL.cutD (bitsN n) none (some (-1)) ++ [rng 0 (n : Int)] := by
  rcases five hn with rfl | rfl | rfl | rfl | rfl | rfl <;> decide +kernel
theorem at_last (hn : n ≤ 5) : atI (bitsN n) (-1) = some (rng 0 (n : Int)) := by
  rcases five hn with rfl | rfl | rfl | rfl | rfl | rfl <;> decide +kernel
theorem last_fact (hn : n ≤ 5) {b : List Int} : keysA (selA l b n) = ((DL.cutD (bitsN n) none (some (-1))).filter fun sm => (decide (((b.filter fun x => (!decide (x ∈ sm))).map fun x => x) = []))).map fun sm => outerL (n : Int) sm := by
  rw [sel_keys]
  have hnd := bits_nodup hn
  have hc := cut_last hn
  have hm : ∀ x ∈ DL.cutD (bitsN n) none (some (-1)), x ∈ bitsN n ∧ x ≠ rng 0 (n : Int) := by
    rw [hc] at hnd
    intro x hx
    refine ⟨by rw [hc]; exact List.mem_append_left _ hx, fun e => ?_⟩
    exact (List.nodup_append.mp hnd).2.2 x hx _ (List.mem_singleton.mpr rfl) e
  conv => lhs; rw [hc]
  have e0 : [rng 0 (n : Int)].filter (selC b n) = [] := List.filter_eq_nil_iff.mpr fun x hx z => by
    rw [List.mem_singleton.mp hx] at z
    exact (selC_iff.mp z).1 ((outer_nil full_bit).mpr rfl)
  rw [List.filter_append, e0, List.append_nil]
  refine congrArg _ (List.filter_congr fun x hx => ?_)
  rw [notin_nil]
  refine Bool.eq_iff_iff.mpr ?_
  rw [selC_iff, entails_iff]
  exact ⟨fun z => z.2, fun z => ⟨fun y => (hm x hx).2 ((outer_nil (hm x hx).1).mp y), z⟩⟩
end
end WB

namespace WB
open PySem PySem.Spec PyProof.Rows L2 Evl DL
section
variable {n : Nat} {b sm ch v : List Int} {t l : Dct} {ranks : List Int}
abbrev chosenL (o mk : List Int) : List Int := ((rng 0 (o.length : Int)).filter fun k => (decide ((mk.getD (k).toNat 0) = 1))).map fun k => (o.getD (k).toNat 0)
theorem rng_map {o : List Int} : (rng 0 (o.length : Int)).map (fun k => o.getD k.toNat 0) = o := by
  unfold rng
  rw [List.map_map]
  apply List.ext_getElem
  · simp
  · intro i h1 h2
    rw [List.getElem_map, List.getElem_range]
    show o.getD (0 + (i : Int)).toNat 0 = o[i]
    rw [show (0 + (i : Int)).toNat = i by omega, List.getD_eq_getElem?_getD, List.getElem?_eq_getElem h2]
    rfl
theorem chosen_sub {o mk : List Int} : (chosenL o mk).Sublist o := by
  have : (chosenL o mk).Sublist ((rng 0 (o.length : Int)).map fun k => o.getD k.toNat 0) := List.filter_sublist.map _
  rwa [rng_map] at this
theorem chosen_ne {o ms : List Int} {j : Nat} (hj : j < o.length) (hl : ms.length = o.length) : chosenL o (ms.set j 1) ≠ [] := by
  intro e
  have e := List.map_eq_nil_iff.mp e
  have := List.filter_eq_nil_iff.mp e (j : Int) (mem_rng.mpr ⟨by omega, by omega⟩)
  apply this
  rw [decide_eq_true_iff, Int.toNat_natCast, List.getD_eq_getElem?_getD, List.getElem?_set_self (by omega)]
  rfl
theorem chosen_len {o mk : List Int} : (chosenL o mk).length ≤ o.length := chosen_sub.length_le
structure TP where
  told : Dct
  picked : Dct
def Iv1 (b : List Int) (n : Nat) (i : Nat) (s : TP) : Prop := keysA s.told = (bitsN n).take i ∧ (∀ q ∈ s.told, good b n q.1 q.2) ∧ s.picked = pickOf b n s.told
theorem iv_new {i : Nat} {s : TP} (hn : n ≤ 5) (h : Iv1 b n i s) (hi : (bitsN n)[i]? = some sm) : (∀ p ∈ s.told, p.1 ≠ sm) ∧ (∀ p ∈ s.picked, p.1 ≠ outerL (n : Int) sm) ∧ sm ∈ bitsN n ∧ s.told.length = i ∧ i < (bitsN n).length ∧ s.picked.length ≤ i := by
  obtain ⟨h1, h2, h3⟩ := h
  have hlt := (List.getElem?_eq_some_iff.mp hi).1
  have hm := List.mem_of_getElem? hi
  have hnd := bits_nodup hn
  have key : ∀ p ∈ s.told, p.1 ∈ bitsN n ∧ p.1 ≠ sm := fun p hp => by
    have : p.1 ∈ (bitsN n).take i := by rw [← h1]; exact List.mem_map.mpr ⟨p, hp, rfl⟩
    refine ⟨List.mem_of_mem_take this, fun e => ?_⟩
    rw [e] at this
    obtain ⟨j, hj, ej⟩ := List.mem_take_iff_getElem.mp this
    have := (List.getElem?_inj (i := j) (j := i) (by omega) hnd).mp (by rw [List.getElem?_eq_getElem (by omega), ej, hi])
    omega
  refine ⟨fun p hp => (key p hp).2, fun p hp => ?_, hm, ?_, hlt, ?_⟩
  · rw [h3] at hp
    obtain ⟨q, hq, rfl⟩ := List.mem_map.mp hp
    have hq := (List.mem_filter.mp hq).1
    exact fun e => (key q hq).2 (outer_inj (key q hq).1 hm e)
  · have := congrArg List.length h1
    rw [List.length_map, List.length_take] at this
    omega
  · rw [h3]
    unfold pickOf
    rw [List.length_map]
    have e := congrArg List.length h1
    rw [List.length_map, List.length_take] at e
    have := List.length_filter_le (fun q : List Int × List Int => selC b n q.1) s.told
    omega
theorem take_snoc {i : Nat} (hi : (bitsN n)[i]? = some sm) : (bitsN n).take (i + 1) = (bitsN n).take i ++ [sm] := by
  rw [List.take_add_one, hi]
  rfl
theorem off_sort (hs : ∀ x ∈ b, x ∈ sm) (hb : b ∈ bitsN n) (hc : ch.Sublist (outerL (n : Int) sm)) : offB (sortD D.int (b ++ ch)) b = ch := by
  unfold offB
  rw [List.map_id']
  refine asc_unique ((sortI_strict (off_nodup hb hs hc)).filter _) (outer_asc.sublist hc) fun x => ?_
  rw [List.mem_filter, sortI_mem, List.mem_append, Bool.not_eq_true', decide_eq_false_iff_not]
  constructor
  · rintro ⟨h | h, h2⟩
    · exact absurd h h2
    · exact h
  · intro h
    exact ⟨.inr h, fun z => (mem_outer.mp (hc.subset h)).2 (hs x z)⟩
theorem iv_sel {i : Nat} {s : TP} (h : Iv1 b n i s) (hi : (bitsN n)[i]? = some sm) (hb : b ∈ bitsN n) (hsel : selC b n sm = true) (hc : ch ≠ []) (hsub : ch.Sublist (outerL (n : Int) sm)) : Iv1 b n (i + 1) ⟨s.told ++ [(sm, sortD D.int (b ++ ch))], s.picked ++ [(outerL (n : Int) sm, ch)]⟩ := by
  obtain ⟨h1, h2, h3⟩ := h
  refine ⟨?_, fun q hq => ?_, ?_⟩
  · rw [take_snoc hi, ← h1]
    unfold keysA
    rw [List.map_append]
    rfl
  · rcases List.mem_append.mp hq with hq | hq
    · exact h2 q hq
    · rw [List.mem_singleton.mp hq]
      exact .inl ⟨hsel, ch, hc, hsub, rfl⟩
  · show s.picked ++ [(outerL (n : Int) sm, ch)] = pickOf b n (s.told ++ [(sm, sortD D.int (b ++ ch))])
    unfold pickOf
    rw [List.filter_append, List.map_append, ← pickOf, ← h3, List.filter_cons, if_pos hsel, List.filter_nil, List.map_cons, List.map_nil]
    show _ = s.picked ++ [(outerL (n : Int) sm, offB (sortD D.int (b ++ ch)) b)]
    rw [off_sort (selC_iff.mp hsel).2 hb hsub]
theorem iv_no {i : Nat} {s : TP} (h : Iv1 b n i s) (hi : (bitsN n)[i]? = some sm) (hsel : ¬ selC b n sm = true) : Iv1 b n (i + 1) ⟨s.told ++ [(sm, b)], s.picked⟩ := by
  obtain ⟨h1, h2, h3⟩ := h
  refine ⟨?_, fun q hq => ?_, ?_⟩
  · rw [take_snoc hi, ← h1]
    unfold keysA
    rw [List.map_append]
    rfl
  · rcases List.mem_append.mp hq with hq | hq
    · exact h2 q hq
    · rw [List.mem_singleton.mp hq]
      exact .inr ⟨hsel, rfl⟩
  · show s.picked = pickOf b n (s.told ++ [(sm, b)])
    unfold pickOf
    rw [List.filter_append, List.map_append, ← pickOf, ← h3, List.filter_cons, if_neg hsel, List.filter_nil, List.map_nil, List.append_nil]
theorem getA_last {β : Type} {l : List (List Int × β)} {k : List Int} {v : β} (h : ∀ p ∈ l, p.1 ≠ k) : getA (l ++ [(k, v)]) k = some v := by
  unfold getA
  rw [List.find?_append, List.find?_eq_none.mpr fun p hp => by simp [h p hp]]
  simp
theorem elif_no (h : ¬ selC b n sm = true) : ((!decide (remaind b sm n = [b])) || (!decide (partialM b sm n [] = b))) = false := by
  rw [rem_no h, part_no h]
  simp
theorem ent_in : (entailsB b sm != decide (((b.filter fun x => (!decide (x ∈ sm))).map fun x => x) = [])) = false := by
  rw [notin_nil]
  simp
/-- a drawn set that isn't empty -/
theorem drawn_set (hn : n ≤ 5) {v : Int} (h0 : 0 ≤ v) (h1 : v < ((bitsN n).length : Int) - 1) : ∃ x : List Int, atI (bitsN n) (1 + v) = some x ∧ x ∈ bitsN n ∧ x ≠ [] := by
  obtain ⟨k, rfl⟩ : ∃ k : Nat, v = k := ⟨v.toNat, by omega⟩
  have hk : k + 1 < (bitsN n).length := by omega
  refine ⟨(bitsN n)[k + 1], ?_, List.getElem_mem _, fun e => ?_⟩
  · have := atI_nat (xs := bitsN n) (j := k + 1) (v := (bitsN n)[k + 1]) (List.getElem?_eq_getElem hk)
    rwa [show ((k + 1 : Nat) : Int) = 1 + (k : Int) by omega] at this
  · obtain ⟨r, er⟩ := bits_head (n := n)
    have h0 : (bitsN n)[0]? = some [] := by rw [er]; rfl
    have := (List.getElem?_inj (i := k + 1) (j := 0) hk (bits_nodup hn)).mp (by rw [List.getElem?_eq_getElem hk, e, h0])
    omega
theorem first_keys (h : keysA t = bitsN n) {k : List Int} (hk : k ∈ bitsN n) : k ∈ keysA t := by rw [h]; exact hk
/-- the bent one -/
abbrev bentA (t : Dct) (n : Nat) (k y : List Int) : Dct := tabA (bitsN n) fun j => if j = k then y else ga t j
theorem bent_keys {k y j : List Int} (hj : j ∈ bitsN n) : j ∈ keysA (bentA t n k y) := by
  have e : keysA (bentA t n k y) = bitsN n := tab_keys
  rw [e]
  exact hj
theorem bent_val {k y j : List Int} (hn : n ≤ 5) (ht : keysA t = bitsN n) (hg : ∀ q ∈ t, good b n q.1 q.2) (hb : b ∈ bitsN n) (hy : y ∈ bitsN n) (hj : j ∈ bitsN n) : (∀ x ∈ ga (bentA t n k y) j, 0 ≤ x ∧ x < (n : Int)) ∧ (ga (bentA t n k y) j).length ≤ 10 := by
  rw [ga_tab hj]
  by_cases e : j = k
  · rw [if_pos e]
    exact ⟨fun x hx => bit_in hy hx, by have := bit_len hy; omega⟩
  · rw [if_neg e]
    exact good_in hb hn (ga_good ht hn hg hj)
theorem bent_small {k y : List Int} (hn : n ≤ 5) (ht : keysA t = bitsN n) (hg : ∀ q ∈ t, good b n q.1 q.2) (hb : b ∈ bitsN n) (hy : y ∈ bitsN n) : smallA (bentA t n k y) := tab_small hn fun j hj => by
  have := (bent_val (k := k) hn ht hg hb hy hj).2
  rwa [ga_tab hj] at this
theorem told_small (hn : n ≤ 5) (ht : keysA t = bitsN n) (hg : ∀ q ∈ t, good b n q.1 q.2) (hb : b ∈ bitsN n) : smallA t := by
  refine ⟨?_, fun p hp => (good_in hb hn (hg p hp)).2⟩
  have := congrArg List.length ht
  rw [List.length_map] at this
  have := bits_32 hn
  omega
theorem not_dec {p : Prop} {i : Decidable p} (h : p) : (!@decide p i) = false := by rw [decide_eq_true h]; rfl
theorem fault_no : (!(oT (pT D.str (tT D.int)) (none : Option (Str × List Int))).isN) = false := rfl
theorem sm_flt {o : Option (Str × List Int)} (h : ∀ x, o = some x → x.2.length ≤ 100000) : (oT (pT D.str (tT D.int)) o).sm 7 := sm_oT fun x hx => sm_pT sm_str (sm_tT (h x hx) fun _ _ => sm_int)
theorem flt_len (hn : n ≤ 5) {x : Str × List Int} (h : faultL l b n = some x) : x.2.length ≤ 100000 := by
  unfold faultL at h
  obtain ⟨s, hs, e⟩ := List.exists_of_findSome?_eq_some h
  cases hf : faultAt (ga l s) b n s with
  | none => rw [hf] at e; cases e
  | some w =>
    rw [hf] at e
    cases e
    have := bit_len hs
    show s.length ≤ 100000
    omega
end
end WB

namespace WB
open PySem PySem.Spec PyProof.Rows L2 Evl DL
/-! ### choices judged -/
section
variable {n : Nat} {l : Dct} {g s : List Int}
abbrev commonL (l : Dct) (g s : List Int) : List Int := inB (ga l g) s
def cfB (l : Dct) (g s : List Int) : Bool := ((s.map fun x => (decide (x ∈ g))).all id) && ((decide (0 < ((commonL l g s).length : Int))) && (!decide (ga l s = commonL l g s)))
def faultC (l : Dct) (n : Nat) : Option (List Int × List Int) := (wsN n).findSome? fun g => ((wsN n).find? (cfB l g)).map fun s => (g, s)
theorem faultC_at {pre post pre2 post2 : List (List Int)} (hx : wsN n = pre ++ g :: post) (h : ∀ p ∈ pre, ∀ q ∈ wsN n, cfB l p q = false) (hx2 : wsN n = pre2 ++ s :: post2) (h2 : ∀ q ∈ pre2, cfB l g q = false) (e : cfB l g s = true) : faultC l n = some (g, s) := by
  unfold faultC
  have e1 : (wsN n).find? (cfB l g) = some s := by
    rw [hx2, List.find?_append, List.find?_eq_none.mpr fun q hq => by rw [h2 q hq]; exact Bool.false_ne_true, Option.none_or, List.find?_cons_of_pos e]
  have e2 : ∀ p ∈ pre, ((wsN n).find? (cfB l p)).map (fun s => (p, s)) = none := fun p hp => by
    rw [List.find?_eq_none.mpr fun q hq => by rw [h p hp q hq]; exact Bool.false_ne_true]
    rfl
  generalize hw : wsN n = ws at e1 e2 hx ⊢
  conv => lhs; arg 2; rw [hx]
  rw [List.findSome?_append, List.findSome?_eq_none_iff.mpr e2, Option.none_or, List.findSome?_cons, e1]
  rfl
theorem faultC_none (h : ∀ g ∈ wsN n, ∀ s ∈ wsN n, cfB l g s = false) : faultC l n = none := List.findSome?_eq_none_iff.mpr fun g hg => by
  rw [List.find?_eq_none.mpr fun s hs => by rw [h g hg s hs]; exact Bool.false_ne_true]
  rfl
theorem none_faultC (h : faultC l n = none) : ∀ g ∈ wsN n, ∀ s ∈ wsN n, cfB l g s = false := fun g hg s hs => by
  have := List.findSome?_eq_none_iff.mp h g hg
  have := List.find?_eq_none.mp (Option.map_eq_none_iff.mp this) s hs
  cases e : cfB l g s with
  | false => rfl
  | true => exact absurd e this
theorem some_faultC {p : List Int × List Int} (h : faultC l n = some p) : p.1 ∈ wsN n ∧ p.2 ∈ wsN n ∧ cfB l p.1 p.2 = true := by
  obtain ⟨g, hg, e⟩ := List.exists_of_findSome?_eq_some h
  obtain ⟨s, hs, rfl⟩ := Option.map_eq_some_iff.mp e
  exact ⟨hg, List.mem_of_find?_eq_some hs, List.find?_some hs⟩
def cCF : Con := fun ds Φ => ∃ (l : Dct) (n : Nat), ds = [dicT (tT D.int) l, .int n] ∧ (n ≤ 5 ∧ (∀ k ∈ wsN n, k ∈ keysA l) ∧ smallA l) ∧ Φ (oT (pT (tT D.int) (tT D.int)) (faultC l n))
def cRev : Con := fun ds Φ => ∃ (l : Dct) (n : Nat) (sm : List Int), ds = [dicT (tT D.int) l, .int n, tT D.int sm] ∧ sm ∈ keysA l ∧ Φ (tT D.int (ga l sm))
theorem cut_one (h : n ≤ 5) : DL.cutD (bitsN n) (some 1) none = wsN n := by
  rw [ws_tail h]
  have := cutD_from (xs := bitsN n) (k := 1)
  rw [show ((1 : Nat) : Int) = 1 from rfl] at this
  rw [this, List.drop_one]
/-- the law's own -/
theorem cfB_law : ((decide (((s.filter fun x => (!decide (x ∈ g))).map fun x => (1 : Int)) = [])) && ((!decide (commonL l g s = [])) && (!decide (commonL l g s = ga l s)))) = cfB l g s := by
  unfold cfB
  have e1 : decide (((s.filter fun x => (!decide (x ∈ g))).map fun x => (1 : Int)) = []) = ((s.map fun x => (decide (x ∈ g))).all id) := by
    refine Bool.eq_iff_iff.mpr ?_
    rw [decide_eq_true_iff, List.map_eq_nil_iff, List.filter_eq_nil_iff, all_id]
    refine forall_congr' fun x => forall_congr' fun _ => ?_
    simp
  have e2 : (!decide (commonL l g s = [])) = decide (0 < ((commonL l g s).length : Int)) := by
    cases commonL l g s with
    | nil => rfl
    | cons x r =>
      rw [decide_eq_false (by simp), decide_eq_true (by simp only [List.length_cons]; omega)]
      rfl
  have e3 : decide (commonL l g s = ga l s) = decide (ga l s = commonL l g s) := by
    by_cases z : commonL l g s = ga l s
    · rw [decide_eq_true z, decide_eq_true z.symm]
    · rw [decide_eq_false z, decide_eq_false fun y => z y.symm]
  rw [e1, e2, e3]
theorem ws_filter : (bitsN n).filter (fun s => !decide (s = [])) = wsN n := by
  unfold wsN
  rw [List.map_id']
  refine List.filter_congr fun x _ => ?_
  cases x with
  | nil => rfl
  | cons y r =>
    rw [decide_eq_false (by simp), decide_eq_true (by simp only [List.length_cons]; omega)]
    rfl
/-! ranks made of a choice -/
inductive Rf where
  | no (p : List Int × List Int) | yes (r : List Int)
def eRf : Rf → D
  | .no p => .tup [.str "no", pT (tT D.int) (tT D.int) p]
  | .yes r => .tup [.str "yes", tT D.int r]
def setAll (r ks : List Int) (v : Int) : List Int := ks.foldl (fun r x => r.set x.toNat v) r
theorem setAll_len {ks : List Int} {v : Int} : ∀ {r : List Int}, (setAll r ks v).length = r.length := by
  unfold setAll
  induction ks with
  | nil => intro r; rfl
  | cons x ks ih => intro r; rw [List.foldl_cons, ih, List.length_set]
theorem setAll_get {ks : List Int} {v : Int} {x : Int} : ∀ {r : List Int}, (∀ y ∈ ks, 0 ≤ y ∧ y < (r.length : Int)) → 0 ≤ x → (setAll r ks v).getD x.toNat 0 = if x ∈ ks then v else r.getD x.toNat 0 := by
  unfold setAll
  induction ks with
  | nil => intro r _ _; simp
  | cons y ks ih =>
    intro r h hx
    rw [List.foldl_cons, ih (fun z hz => by rw [List.length_set]; exact h z (List.mem_cons_of_mem _ hz)) hx]
    have hy := h y (List.mem_cons_self ..)
    by_cases e : x ∈ ks
    · rw [if_pos e, if_pos (List.mem_cons_of_mem _ e)]
    · rw [if_neg e]
      by_cases e2 : x = y
      · subst e2
        rw [if_pos (List.mem_cons_self ..), List.getD_eq_getElem?_getD, List.getElem?_set_self (by omega)]
        rfl
      · rw [if_neg fun z => (List.mem_cons.mp z).elim e2 e, List.getD_eq_getElem?_getD, List.getD_eq_getElem?_getD, List.getElem?_set_ne (by omega)]
abbrev lessC (l : Dct) (left : List Int) : List Int := offB left (ga l left)
def peel (l : Dct) : Nat → List Int → List Int → Int → List Int
  | 0, _, r, _ => r
  | f + 1, left, r, k => if left = [] then r else peel l f (lessC l left) (setAll r (ga l left) k) (k + 1)
abbrev rankC (l : Dct) (n : Nat) : List Int := peel l n (rng 0 (n : Int)) (List.replicate n 0) 0
def ranksFor (l : Dct) (n : Nat) : Rf := match faultC l n with
  | some p => .no p
  | none => .yes (rankC l n)
/-- each set has something chosen of it -/
def chOk (l : Dct) (n : Nat) : Prop := ∀ k ∈ wsN n, k ∈ keysA l ∧ ga l k ≠ [] ∧ (ga l k).Sublist k
def cRF : Con := fun ds Φ => ∃ (l : Dct) (n : Nat), ds = [dicT (tT D.int) l, .int n] ∧ ((1 ≤ n ∧ n ≤ 5) ∧ chOk l n ∧ smallA l) ∧ Φ (eRf (ranksFor l n))
theorem less_bit {left : List Int} (h : left ∈ bitsN n) : lessC l left ∈ bitsN n := by
  unfold lessC offB
  rw [List.map_id']
  exact bit_of ((bit_asc h).filter _) fun x hx => bit_in h (List.mem_filter.mp hx).1
theorem mem_less {left : List Int} {x : Int} : x ∈ lessC l left ↔ x ∈ left ∧ x ∉ ga l left := by
  unfold lessC offB
  rw [List.map_id', List.mem_filter, Bool.not_eq_true', decide_eq_false_iff_not]
theorem less_len {left : List Int} (h : chOk l n) (hb : left ∈ bitsN n) (hne : left ≠ []) : (lessC l left).length < left.length := by
  obtain ⟨_, h2, h3⟩ := h left (mem_ws.mpr ⟨hb, hne⟩)
  obtain ⟨y, hy⟩ := List.exists_mem_of_ne_nil _ h2
  unfold lessC offB
  rw [List.map_id']
  refine Nat.lt_of_le_of_ne (List.length_filter_le _ _) fun e => ?_
  have := List.length_filter_eq_length_iff.mp e y (h3.subset hy)
  rw [Bool.not_eq_true', decide_eq_false_iff_not] at this
  exact this hy
theorem peel_fuel (h : chOk l n) : ∀ (f f' : Nat) (left r : List Int) (k : Int), left ∈ bitsN n → left.length ≤ f → left.length ≤ f' → peel l f left r k = peel l f' left r k
  | 0, 0, _, _, _, _, _, _ => rfl
  | 0, f' + 1, left, r, k, _, h1, _ => by
    rw [peel, peel, if_pos (List.length_eq_zero_iff.mp (by omega))]
  | f + 1, 0, left, r, k, _, _, h2 => by
    rw [peel, peel, if_pos (List.length_eq_zero_iff.mp (by omega))]
  | f + 1, f' + 1, left, r, k, hb, h1, h2 => by
    rw [peel, peel]
    by_cases e : left = []
    · rw [if_pos e, if_pos e]
    · rw [if_neg e, if_neg e]
      have := less_len h hb e
      exact peel_fuel h f f' _ _ _ (less_bit hb) (by omega) (by omega)
/-- where the peeling stands: what is told of the worlds that are done -/
structure Pl (l : Dct) (n : Nat) (left r : List Int) (k : Int) : Prop where
  bit : left ∈ bitsN n
  len : r.length = n
  k0 : 0 ≤ k
  dns : ∀ v, (0 ≤ v ∧ v < k) ↔ ∃ x, (0 ≤ x ∧ x < (n : Int)) ∧ x ∉ left ∧ r.getD x.toNat 0 = v
  ch : ∀ s ∈ wsN n, (∃ x ∈ s, x ∉ left) → ∀ y, y ∈ ga l s ↔ y ∈ s ∧ y ∉ left ∧ ∀ z ∈ s, z ∉ left → r.getD y.toNat 0 ≤ r.getD z.toNat 0
theorem pl_start : Pl l n (rng 0 (n : Int)) (List.replicate n 0) 0 where
  bit := full_bit
  len := List.length_replicate
  k0 := Int.le_refl _
  dns := fun v => ⟨fun h => by omega, fun ⟨x, h1, h2, _⟩ => absurd (mem_rng.mpr h1) h2⟩
  ch := fun s hs ⟨x, hx, h2⟩ => absurd (mem_rng.mpr (bit_in (mem_ws.mp hs).1 hx)) h2
theorem pl_step {left r : List Int} {k : Int} (hok : chOk l n) (hf : ∀ g ∈ wsN n, ∀ s ∈ wsN n, cfB l g s = false) (h : Pl l n left r k) (hne : left ≠ []) : Pl l n (lessC l left) (setAll r (ga l left) k) (k + 1) := by
  have hw := mem_ws.mpr ⟨h.bit, hne⟩
  obtain ⟨_, h2, h3⟩ := hok left hw
  have hin : ∀ y ∈ ga l left, 0 ≤ y ∧ y < (r.length : Int) := fun y hy => by
    rw [h.len]
    exact bit_in h.bit (h3.subset hy)
  have get : ∀ x, 0 ≤ x → (setAll r (ga l left) k).getD x.toNat 0 = if x ∈ ga l left then k else r.getD x.toNat 0 := fun x hx => setAll_get hin hx
  have notin : ∀ {x}, x ∉ lessC l left ↔ x ∉ left ∨ x ∈ ga l left := fun {x} => by
    rw [mem_less]
    constructor
    · intro z
      by_cases y : x ∈ left
      · right
        apply Classical.byContradiction
        exact fun w => z ⟨y, w⟩
      · exact .inl y
    · rintro (z | z) ⟨y, w⟩
      · exact z y
      · exact w z
  have old : ∀ x, x ∉ left → x ∉ ga l left := fun x hx z => hx (h3.subset z)
  have olt : ∀ x, 0 ≤ x → x < (n : Int) → x ∉ left → r.getD x.toNat 0 < k ∧ 0 ≤ r.getD x.toNat 0 := fun x h0 h1 hx => by
    have := (h.dns (r.getD x.toNat 0)).mpr ⟨x, ⟨h0, h1⟩, hx, rfl⟩
    omega
  refine ⟨less_bit h.bit, by rw [setAll_len]; exact h.len, by have := h.k0; omega, fun v => ?_, fun s hs hex y => ?_⟩
  · constructor
    · intro hv
      by_cases e : v = k
      · obtain ⟨y, hy⟩ := List.exists_mem_of_ne_nil _ h2
        have hyi := hin y hy
        rw [h.len] at hyi
        exact ⟨y, hyi, notin.mpr (.inr hy), by rw [get y hyi.1, if_pos hy, e]⟩
      · obtain ⟨x, hx, h4, h5⟩ := (h.dns v).mp (by omega)
        exact ⟨x, hx, notin.mpr (.inl h4), by rw [get x hx.1, if_neg (old x h4), h5]⟩
    · rintro ⟨x, hx, h4, h5⟩
      rw [get x hx.1] at h5
      have := h.k0
      rcases notin.mp h4 with h4 | h4
      · rw [if_neg (old x h4)] at h5
        have := olt x hx.1 hx.2 h4
        omega
      · rw [if_pos h4] at h5
        omega
  · have sin : ∀ {z}, z ∈ s → 0 ≤ z ∧ z < (n : Int) := fun hz => bit_in (mem_ws.mp hs).1 hz
    by_cases c : ∃ x ∈ s, x ∉ left
    · obtain ⟨x, hx, hxl⟩ := c
      rw [h.ch s hs ⟨x, hx, hxl⟩ y]
      constructor
      · rintro ⟨a1, a2, a3⟩
        refine ⟨a1, notin.mpr (.inl a2), fun z hz hzl => ?_⟩
        rw [get y (sin a1).1, get z (sin hz).1, if_neg (old y a2)]
        rcases notin.mp hzl with q | q
        · rw [if_neg (old z q)]; exact a3 z hz q
        · rw [if_pos q]
          have := olt y (sin a1).1 (sin a1).2 a2
          omega
      · rintro ⟨a1, a2, a3⟩
        have b := a3 x hx (notin.mpr (.inl hxl))
        rw [get y (sin a1).1, get x (sin hx).1, if_neg (old x hxl)] at b
        have hx2 := olt x (sin hx).1 (sin hx).2 hxl
        rcases notin.mp a2 with q | q
        · refine ⟨a1, q, fun z hz hzl => ?_⟩
          have b2 := a3 z hz (notin.mpr (.inl hzl))
          rwa [get y (sin a1).1, get z (sin hz).1, if_neg (old y q), if_neg (old z hzl)] at b2
        · rw [if_pos q] at b
          omega
    · have hsub : ∀ x ∈ s, x ∈ left := fun x hx => by
        apply Classical.byContradiction
        exact fun z => c ⟨x, hx, z⟩
      obtain ⟨x, hx, hxl⟩ := hex
      have hxc : x ∈ ga l left := (notin.mp hxl).resolve_left fun z => z (hsub x hx)
      have nf := hf left hw s hs
      have e1 : ((s.map fun x => (decide (x ∈ left))).all id) = true := all_id.mpr fun x hx => decide_eq_true (hsub x hx)
      have e2 : decide (0 < ((commonL l left s).length : Int)) = true := by
        have : x ∈ commonL l left s := by
          unfold commonL inB
          rw [List.map_id', List.mem_filter, decide_eq_true_iff]
          exact ⟨hxc, hx⟩
        have := List.length_pos_of_mem this
        exact decide_eq_true (by omega)
      have e3 : ga l s = commonL l left s := by
        unfold cfB at nf
        rw [e1, e2, Bool.true_and, Bool.true_and, Bool.not_eq_false', decide_eq_true_iff] at nf
        exact nf
      rw [e3]
      unfold commonL inB
      rw [List.map_id', List.mem_filter, decide_eq_true_iff]
      constructor
      · rintro ⟨a1, a2⟩
        refine ⟨a2, notin.mpr (.inr a1), fun z hz hzl => ?_⟩
        have q := (notin.mp hzl).resolve_left fun w => w (hsub z hz)
        rw [get y (sin a2).1, get z (sin hz).1, if_pos a1, if_pos q]
        exact Int.le_refl _
      · rintro ⟨a1, a2, _⟩
        exact ⟨(notin.mp a2).resolve_left fun w => w (hsub y a1), a1⟩
theorem pl_end (hok : chOk l n) (hf : ∀ g ∈ wsN n, ∀ s ∈ wsN n, cfB l g s = false) : ∀ (f : Nat) (left r : List Int) (k : Int), left.length ≤ f → Pl l n left r k → ∃ k', Pl l n [] (peel l f left r k) k'
  | 0, left, r, k, h1, h => by
    have e := List.length_eq_zero_iff.mp (show left.length = 0 by omega)
    subst e
    exact ⟨k, h⟩
  | f + 1, left, r, k, h1, h => by
    rw [peel]
    by_cases e : left = []
    · rw [if_pos e]
      subst e
      exact ⟨k, h⟩
    · rw [if_neg e]
      have := less_len hok h.bit e
      exact pl_end hok hf f _ _ _ (by omega) (pl_step hok hf h e)
/-- ranks found tell the choice again, without gaps -/
theorem rankC_ok (hok : chOk l n) (hf : faultC l n = none) : (rankC l n).length = n ∧ (∀ s ∈ wsN n, chose (rankC l n) s = ga l s) ∧ ∃ k, 0 ≤ k ∧ ∀ v, (0 ≤ v ∧ v < k) ↔ ∃ x, (0 ≤ x ∧ x < (n : Int)) ∧ (rankC l n).getD x.toNat 0 = v := by
  obtain ⟨k, h⟩ := pl_end hok (none_faultC hf) n (rng 0 (n : Int)) (List.replicate n 0) 0 (by rw [rng_len]; omega) pl_start
  refine ⟨h.len, fun s hs => ?_, k, h.k0, fun v => ?_⟩
  · have hsne := (mem_ws.mp hs).2
    obtain ⟨x, hx⟩ := List.exists_mem_of_ne_nil _ hsne
    have hb := (mem_ws.mp hs).1
    refine asc_unique (chose_asc (bit_asc hb)) ((bit_asc hb).sublist (hok s hs).2.2) fun y => ?_
    rw [mem_chose, h.ch s hs ⟨x, hx, List.not_mem_nil⟩ y]
    exact ⟨fun ⟨a, b⟩ => ⟨a, List.not_mem_nil, fun z hz _ => b z hz⟩, fun ⟨a, _, b⟩ => ⟨a, fun z hz => b z hz List.not_mem_nil⟩⟩
  · rw [h.dns v]
    exact exists_congr fun x => and_congr_right fun _ => ⟨fun z => z.2, fun z => ⟨List.not_mem_nil, z⟩⟩
theorem dense {r : List Int} {k : Int} (hl : r.length = n) (h1 : 1 ≤ n) (hk : ∀ v, (0 ≤ v ∧ v < k) ↔ ∃ x, (0 ≤ x ∧ x < (n : Int)) ∧ r.getD x.toNat 0 = v) : setI r = rng 0 (lmax r + 1) := by
  have mem : ∀ v, v ∈ r ↔ 0 ≤ v ∧ v < k := fun v => by
    rw [hk v]
    constructor
    · intro hv
      obtain ⟨i, hi, e⟩ := List.mem_iff_getElem.mp hv
      exact ⟨(i : Int), ⟨by omega, by omega⟩, by rw [Int.toNat_natCast, List.getD_eq_getElem?_getD, List.getElem?_eq_getElem hi]; exact e⟩
    · rintro ⟨x, hx, e⟩
      rw [List.getD_eq_getElem?_getD, List.getElem?_eq_getElem (by omega)] at e
      rw [← e]
      exact List.getElem_mem _
  have hne : r ≠ [] := fun e => by rw [e] at hl; simp at hl; omega
  obtain ⟨m1, m2⟩ := lmax_ok hne
  have h5 := (mem _).mp m1
  have h6 : lmax r + 1 = k := by
    apply Classical.byContradiction
    intro z
    have := m2 (lmax r + 1) ((mem _).mpr ⟨by omega, by omega⟩)
    omega
  rw [h6]
  refine asc_unique (setI_asc r) rng_asc fun x => ?_
  rw [mem_setI, mem_rng, mem]
end
end WB

namespace WB
open PySem PySem.Spec PyProof.Rows L2 Evl DL
section
variable {n : Nat} {l : Dct} {g s : List Int} {ranks : List Int}
def cChoiceN : List D → (MO → Prop) → Prop := fun ds Φ => ∃ ranks : List Int, ds = [tT D.int ranks] ∧ ranks.length ≤ 5 ∧ Φ (odT (tT D.int) (choiceL ranks))
/-! ### pairs that break the law of choices -/
inductive Pv where
  | tups (l : List (List Int)) | lis (l : List (List Int)) | nun
def ePv : Pv → D
  | .tups l => tT (tT D.int) l
  | .lis l => lT (tT D.int) l
  | .nun => .non
def Pv.sm : Pv → Prop
  | .tups l => l.length ≤ 20 ∧ ∀ x ∈ l, x.length ≤ 20
  | .lis l => l.length ≤ 20
  | .nun => True
def brkP (l : Dct) (n : Nat) (a b : List Int) : Bool :=
  if ((!decide (a ∈ wsN n)) || ((!decide (b ∈ wsN n)) || (!((b.map fun x => (decide (x ∈ a))).all id)))) = true then false else ((decide (0 < ((commonL l a b).length : Int))) && (!decide (ga l b = commonL l a b)))
def breaksV (l : Dct) (n : Nat) : Pv → Bool
  | .tups [a, b] => brkP l n a b
  | _ => false
def cBrk : Con := fun ds Φ => ∃ (l : Dct) (n : Nat) (v : Pv), ds = [dicT (tT D.int) l, .int n, ePv v] ∧ (n ≤ 5 ∧ (∀ k ∈ wsN n, k ∈ keysA l) ∧ smallA l ∧ v.sm) ∧ Φ (.bl (breaksV l n v))
theorem brkP_eq {a b : List Int} (ha : a ∈ wsN n) (hb : b ∈ wsN n) : brkP l n a b = cfB l a b := by
  unfold brkP cfB
  rw [decide_eq_true ha, decide_eq_true hb]
  cases ((b.map fun x => (decide (x ∈ a))).all id) <;> rfl
theorem brkP_law {a b : List Int} (ha : a ∈ bitsN n) (hb : b ∈ bitsN n) : brkP l n a b = (((!decide (a = [])) && ((!decide (b = [])) && (decide (((b.filter fun x => (!decide (x ∈ a))).map fun x => (1 : Int)) = [])))) && ((!decide (commonL l a b = [])) && (!decide (commonL l a b = ga l b)))) := by
  by_cases ea : a = []
  · have : ¬ a ∈ wsN n := fun z => (mem_ws.mp z).2 ea
    unfold brkP
    rw [decide_eq_false this, decide_eq_true ea]
    rfl
  · by_cases eb : b = []
    · have : ¬ b ∈ wsN n := fun z => (mem_ws.mp z).2 eb
      unfold brkP
      rw [decide_eq_false this, decide_eq_true eb, decide_eq_true (mem_ws.mpr ⟨ha, ea⟩), decide_eq_false ea]
      rfl
    · rw [brkP_eq (mem_ws.mpr ⟨ha, ea⟩) (mem_ws.mpr ⟨hb, eb⟩), decide_eq_false ea, decide_eq_false eb, ← cfB_law]
      rfl
/-! ### what is a choice -/
inductive Cv where
  | nums (l : List Int) | lis (l : List Int) | nun
def eC : Cv → D
  | .nums l => tT D.int l
  | .lis l => lT D.int l
  | .nun => .non
def Cv.sm : Cv → Prop
  | .nums l => l.length ≤ 20
  | .lis l => l.length ≤ 20
  | .nun => True
inductive Ci where
  | dic (l : List (List Int × Cv)) | nun | lst (d : D)
def eCi : Ci → D
  | .dic l => dicT eC l
  | .nun => .non
  | .lst d => .lst [d]
def okAt (l : List (List Int × Cv)) (n : Nat) (s : List Int) : Bool := match getA l s with
  | some (.nums c) => !((!true) || ((decide ((c.length : Int) = 0)) || (!decide (c ∈ bitsN n)))) && ((c.map fun x => (decide (x ∈ s))).all id)
  | _ => false
def isChoiceB (n : Nat) : Ci → Bool
  | .dic l => decide ((l.length : Int) = ((wsN n).length : Int)) && (wsN n).all (okAt l n)
  | _ => false
def cIsC : Con := fun ds Φ => ∃ (v : Ci) (n : Nat), ds = [eCi v, .int n] ∧ (n ≤ 5 ∧ (∀ l, v = .dic l → ∀ p ∈ l, p.2.sm)) ∧ Φ (.bl (isChoiceB n v))
theorem isC_no {l : List (List Int × Cv)} (hs : s ∈ wsN n) (h : okAt l n s = false) : isChoiceB n (.dic l) = false := by
  show (decide ((l.length : Int) = ((wsN n).length : Int)) && (wsN n).all (okAt l n)) = false
  rw [Bool.and_eq_false_iff]
  right
  rw [List.all_eq_false]
  exact ⟨s, hs, by rw [h]; exact Bool.false_ne_true⟩
theorem getA_sm {l : List (List Int × Cv)} (h : ∀ p ∈ l, p.2.sm) {k : List Int} {c : Cv} (e : getA l k = some c) : c.sm := by
  unfold getA at e
  obtain ⟨p, hp, rfl⟩ := Option.map_eq_some_iff.mp e
  exact h p (List.mem_of_find?_eq_some hp)
/-- a choice, as such -/
abbrev numsA (l : Dct) : List (List Int × Cv) := l.map fun p => (p.1, Cv.nums p.2)
theorem dic_nums : dicT (tT D.int) l = dicT eC (numsA l) := by
  unfold dicT numsA
  rw [List.map_map, List.map_map]
  rfl
theorem od_nums : odT (tT D.int) l = odT eC (numsA l) := by
  unfold odT numsA
  rw [List.map_map, List.map_map]
  rfl
theorem getA_nums {k : List Int} : getA (numsA l) k = (getA l k).map Cv.nums := by
  unfold getA numsA
  induction l with
  | nil => rfl
  | cons p l ih =>
    rw [List.map_cons]
    by_cases e : p.1 = k
    · rw [List.find?_cons_of_pos (by simp [e]), List.find?_cons_of_pos (by simp [e])]
      rfl
    · rw [List.find?_cons_of_neg (by simp [e]), List.find?_cons_of_neg (by simp [e])]
      exact ih
theorem chOk_is (h : chOk l n) (hk : keysA l = wsN n) : isChoiceB n (.dic (numsA l)) = true := by
  show (decide (((numsA l).length : Int) = ((wsN n).length : Int)) && (wsN n).all (okAt (numsA l) n)) = true
  rw [Bool.and_eq_true, decide_eq_true_iff, List.all_eq_true]
  have e := congrArg List.length hk
  rw [List.length_map] at e
  refine ⟨by rw [List.length_map, e], fun s hs => ?_⟩
  obtain ⟨h1, h2, h3⟩ := h s hs
  have hb := (mem_ws.mp hs).1
  unfold okAt
  rw [getA_nums, ga_some h1]
  show (!((!true) || ((decide (((ga l s).length : Int) = 0)) || (!decide (ga l s ∈ bitsN n)))) && (((ga l s).map fun x => (decide (x ∈ s))).all id)) = true
  have a1 : decide (((ga l s).length : Int) = 0) = false := decide_eq_false fun z => h2 (List.length_eq_zero_iff.mp (by omega))
  have a2 : decide (ga l s ∈ bitsN n) = true := decide_eq_true (bit_of ((bit_asc hb).sublist h3) fun x hx => bit_in hb (h3.subset hx))
  have a3 : (((ga l s).map fun x => (decide (x ∈ s))).all id) = true := all_id.mpr fun x hx => decide_eq_true (h3.subset hx)
  rw [a1, a2, a3]
  rfl
/-! ### the law's facts -/
theorem choice_ok (h1 : 1 ≤ n) (hl : ranks.length = n) : chOk (ChR ranks n) n := fun k hk => by
  have e : keysA (ChR ranks n) = wsN n := tab_keys
  refine ⟨by rw [e]; exact hk, ?_, ?_⟩
  · rw [ga_tab hk]; exact chose_ne (mem_ws.mp hk).2
  · rw [ga_tab hk]
    unfold chose
    rw [List.map_id']
    exact List.filter_sublist
theorem tab_ok {G : List Int → List Int} (h : ∀ k ∈ wsN n, G k ≠ [] ∧ (G k).Sublist k) : chOk (tabA (wsN n) G) n := fun k hk => by
  have e : keysA (tabA (wsN n) G) = wsN n := tab_keys
  rw [ga_tab hk]
  exact ⟨by rw [e]; exact hk, h k hk⟩
theorem tab_small2 {G : List Int → List Int} (hn : n ≤ 5) (h : ∀ k ∈ wsN n, G k ≠ [] ∧ (G k).Sublist k) : smallA (tabA (wsN n) G) := by
  have h32 := bits_32 hn
  have := ws_len (n := n)
  refine ⟨by unfold tabA; rw [List.length_map]; omega, fun p hp => ?_⟩
  obtain ⟨k, hk, rfl⟩ := List.mem_map.mp hp
  have h1 := (h k hk).2.length_le
  have h2 := bit_len (mem_ws.mp hk).1
  show (G k).length ≤ 10
  omega
/-- ranks that are told make the same choice -/
theorem told_choice {G : List Int → List Int} (h1 : 1 ≤ n) (hn : n ≤ 5) (h : ∀ k ∈ wsN n, G k ≠ [] ∧ (G k).Sublist k) (hf : faultC (tabA (wsN n) G) n = none) : eqA (choiceL (rankC (tabA (wsN n) G) n)) (tabA (wsN n) G) = true ∧ decide (setI (rankC (tabA (wsN n) G) n) = rng 0 (lmax (rankC (tabA (wsN n) G) n) + 1)) = true := by
  obtain ⟨k1, k2, k, k3, k4⟩ := rankC_ok (tab_ok h) hf
  refine ⟨?_, decide_eq_true (dense k1 h1 k4)⟩
  have : choiceL (rankC (tabA (wsN n) G) n) = tabA (wsN n) G := by
    unfold choiceL
    rw [k1]
    unfold tabA
    refine List.map_congr_left fun s hs => ?_
    have e := k2 s hs
    rw [ga_tab hs] at e
    unfold tabA at e
    rw [e]
  rw [this]
  exact eqA_self (by
    have e : (tabA (wsN n) G).map (fun p => p.1) = wsN n := tab_keys
    rw [e]
    exact ws_nodup hn)
theorem rankC_in {x : Int} (hok : chOk l n) (hf : faultC l n = none) (hx : x ∈ rankC l n) : 0 ≤ x ∧ x < 100 ∨ 100 ≤ x := by
  obtain ⟨k1, k2, k, k3, k4⟩ := rankC_ok hok hf
  obtain ⟨i, hi, e⟩ := List.mem_iff_getElem.mp hx
  have := (k4 x).mpr ⟨(i : Int), ⟨by omega, by omega⟩, by rw [Int.toNat_natCast, List.getD_eq_getElem?_getD, List.getElem?_eq_getElem hi]; exact e⟩
  omega
theorem peel_bd (hok : chOk l n) : ∀ (f : Nat) (left r : List Int) (k : Int), left ∈ bitsN n → r.length = n → 0 ≤ k → (∀ x ∈ r, 0 ≤ x ∧ x ≤ k) → ∀ x ∈ peel l f left r k, 0 ≤ x ∧ x ≤ k + f
  | 0, left, r, k, _, _, _, h, x, hx => by have := h x hx; omega
  | f + 1, left, r, k, hb, hl, hk, h, x, hx => by
    rw [peel] at hx
    by_cases e : left = []
    · rw [if_pos e] at hx
      have := h x hx
      omega
    · rw [if_neg e] at hx
      have := peel_bd hok f (lessC l left) (setAll r (ga l left) k) (k + 1) (less_bit hb) (by rw [setAll_len]; exact hl) (by omega) (fun y hy => by
        obtain ⟨i, hi, e2⟩ := List.mem_iff_getElem.mp hy
        have hi2 : i < r.length := by rwa [setAll_len] at hi
        obtain ⟨_, _, h3⟩ := hok left (mem_ws.mpr ⟨hb, e⟩)
        have := setAll_get (r := r) (ks := ga l left) (v := k) (x := (i : Int)) (fun z hz => by rw [hl]; exact bit_in hb (h3.subset hz)) (by omega)
        rw [Int.toNat_natCast, List.getD_eq_getElem?_getD, List.getElem?_eq_getElem hi] at this
        have this : y = _ := e2.symm.trans this
        rw [this]
        split
        · omega
        · rw [List.getD_eq_getElem?_getD, List.getElem?_eq_getElem hi2]
          have := h r[i] (List.getElem_mem _)
          show 0 ≤ r[i] ∧ r[i] ≤ k + 1
          omega) x hx
      omega
theorem rankC_bd (hok : chOk l n) : ∀ x ∈ rankC l n, 0 ≤ x ∧ x ≤ (n : Int) := fun x hx => by
  have := peel_bd hok n (rng 0 (n : Int)) (List.replicate n 0) 0 full_bit List.length_replicate (by omega) (fun y hy => by rw [List.eq_of_mem_replicate hy]; omega) x hx
  omega
theorem peel_len : ∀ (f : Nat) (left r : List Int) (k : Int), (peel l f left r k).length = r.length
  | 0, _, _, _ => rfl
  | f + 1, left, r, k => by
    rw [peel]
    split
    · rfl
    · rw [peel_len f, setAll_len]
theorem rankC_len : (rankC l n).length = n := by rw [rankC, peel_len, List.length_replicate]
/-- giving up, as the law has it -/
theorem after_eq {b : List Int} {sm : List Int} (hs : smallA l) (hb : ga l (rng 0 (n : Int)) = b) (hbb : b ∈ bitsN n) (hsm : sm ∈ bitsN n) (hok : chOk l n) : givenUp l n sm = if selC b n sm = true then (((rng 0 (n : Int)).filter fun x => ((decide (x ∈ b)) || (decide (x ∈ ga l (outerL (n : Int) sm))))).map fun x => x) else b := by
  unfold givenUp
  rw [hb]
  by_cases c : ((decide (((outerL (n : Int) sm).length : Int) = 0)) || ((b.map fun x => (decide (x ∈ outerL (n : Int) sm))).any id)) = true
  · rw [if_pos c, if_neg]
    intro z
    obtain ⟨z1, z2⟩ := selC_iff.mp z
    rcases Bool.or_eq_true_iff.mp c with c | c
    · have c := of_decide_eq_true c
      exact z1 (List.length_eq_zero_iff.mp (by omega))
    · obtain ⟨y, hy, hy2⟩ := any_id.mp c
      exact (mem_outer.mp (of_decide_eq_true hy2)).2 (z2 y hy)
  · have ho : outerL (n : Int) sm ≠ [] := fun e => c (by rw [e]; rfl)
    have hc : selC b n sm = true := selC_iff.mpr ⟨ho, fun x hx => by
      apply Classical.byContradiction
      intro w
      refine c (Bool.or_eq_true_iff.mpr (.inr (any_id.mpr ⟨x, hx, decide_eq_true (mem_outer.mpr ⟨bit_in hbb hx, w⟩)⟩)))⟩
    rw [if_neg c, if_pos hc, List.map_id']
    obtain ⟨_, _, h3⟩ := hok _ (mem_ws.mpr ⟨outer_bit (some := sm), ho⟩)
    refine asc_unique (setI_asc _) (rng_asc.filter _) fun x => ?_
    rw [mem_setI, List.mem_append, List.mem_filter, mem_rng, Bool.or_eq_true, decide_eq_true_iff, decide_eq_true_iff]
    constructor
    · rintro (h | h)
      · exact ⟨bit_in hbb h, .inl h⟩
      · exact ⟨(mem_outer.mp (h3.subset h)).1, .inr h⟩
    · exact fun h => h.2
theorem after_ent {b sm : List Int} (hok : chOk l n) (hsm : sm ∈ bitsN n) (ho : outerL (n : Int) sm ≠ []) : entailsB (if selC b n sm = true then (((rng 0 (n : Int)).filter fun x => ((decide (x ∈ b)) || (decide (x ∈ ga l (outerL (n : Int) sm))))).map fun x => x) else b) sm = false := by
  rw [Bool.eq_false_iff]
  intro z
  have z := entails_iff.mp z
  by_cases c : selC b n sm = true
  · rw [if_pos c] at z
    obtain ⟨_, h2, h3⟩ := hok _ (mem_ws.mpr ⟨outer_bit (some := sm), ho⟩)
    obtain ⟨y, hy⟩ := List.exists_mem_of_ne_nil _ h2
    have hyo := mem_outer.mp (h3.subset hy)
    refine hyo.2 (z y ?_)
    rw [List.map_id', List.mem_filter, mem_rng, Bool.or_eq_true, decide_eq_true_iff, decide_eq_true_iff]
    exact ⟨hyo.1, .inr hy⟩
  · rw [if_neg c] at z
    exact c (selC_iff.mpr ⟨ho, z⟩)
/-- the odd values of one set -/
theorem bent_no {G : List Int → List Int} {k : List Int} {c : Cv} (hn : n ≤ 5) (hk : k ∈ wsN n) (hc : c = .nums [] ∨ c = .lis k ∨ c = .nums [(n : Int)] ∨ c = .nums (k ++ k) ∨ c = .nun) : isChoiceB n (.dic (putA (numsA (tabA (wsN n) G)) k c)) = false := by
  have e0 : numsA (tabA (wsN n) G) = tabA (wsN n) fun j => Cv.nums (G j) := by
    unfold numsA tabA
    rw [List.map_map]
    rfl
  rw [e0, putA_tab hk]
  refine isC_no hk ?_
  unfold okAt
  rw [getA_tab hk, if_pos rfl]
  have hkb := mem_ws.mp hk
  rcases hc with rfl | rfl | rfl | rfl | rfl
  · rfl
  · rfl
  · show (!((!true) || ((decide ((([(n : Int)] : List Int).length : Int) = 0)) || (!decide ([(n : Int)] ∈ bitsN n)))) && _) = false
    have h0 : decide ([(n : Int)] ∈ bitsN n) = false := decide_eq_false fun z => by have := bit_in z (List.mem_singleton.mpr rfl); omega
    rw [h0]
    simp
  · show (!((!true) || ((decide (((k ++ k).length : Int) = 0)) || (!decide (k ++ k ∈ bitsN n)))) && _) = false
    have h0 : decide (k ++ k ∈ bitsN n) = false := decide_eq_false fun z => by
      have := bit_asc z
      obtain ⟨y, hy⟩ := List.exists_mem_of_ne_nil _ hkb.2
      have := (List.pairwise_append.mp this).2.2 y hy y hy
      omega
    rw [h0]
    simp
  · rfl
end
end WB

namespace WB
open PySem PySem.Spec PyProof.Rows L2 Evl DL
section
variable {n : Nat} {l : Dct} {g s : List Int} {ranks : List Int}
theorem nums_sm (h : smallA l) : ∀ l', Ci.dic (numsA l) = .dic l' → ∀ p ∈ l', p.2.sm := fun l' e p hp => by
  cases e
  obtain ⟨q, hq, rfl⟩ := List.mem_map.mp hp
  have := h.2 q hq
  show q.2.length ≤ 20
  omega
theorem bent_sm {k : List Int} {c : Cv} (h : smallA l) (hc : c.sm) : ∀ l', Ci.dic (putA (numsA l) k c) = .dic l' → ∀ p ∈ l', p.2.sm := fun l' e p hp => by
  cases e
  have key : ∀ (m : List (List Int × Cv)), (∀ q ∈ m, q.2.sm) → ∀ q ∈ putA m k c, q.2.sm := by
    intro m hm q hq
    unfold putA at hq
    split at hq
    · obtain ⟨r, hr, rfl⟩ := List.mem_map.mp hq
      split
      · exact hc
      · exact hm r hr
    · rcases List.mem_append.mp hq with hq | hq
      · exact hm q hq
      · rw [List.mem_singleton.mp hq]; exact hc
  exact key _ (nums_sm h _ rfl) p hp
theorem tab_of (hkk : keysA l = wsN n) (hn : n ≤ 5) : l = tabA (wsN n) (ga l) := keys_tab hkk (ws_nodup hn)
theorem told_l (h1 : 1 ≤ n) (hn : n ≤ 5) (hok : chOk l n) (hkk : keysA l = wsN n) (hf : faultC l n = none) : eqA (choiceL (rankC l n)) l = true ∧ setI (rankC l n) = rng 0 (lmax (rankC l n) + 1) := by
  have e := tab_of hkk hn
  have := told_choice (G := ga l) h1 hn (fun k hk => (hok k hk).2) (by rw [← e]; exact hf)
  rw [← e] at this
  exact ⟨this.1, of_decide_eq_true this.2⟩
theorem full_in (h1 : 1 ≤ n) (hok : chOk l n) : rng 0 (n : Int) ∈ keysA l ∧ ga l (rng 0 (n : Int)) ∈ bitsN n := by
  have := hok _ (full_ws h1)
  exact ⟨this.1, bit_of (rng_asc.sublist this.2.2) fun x hx => mem_rng.mp (this.2.2.subset hx)⟩
theorem many_brk : brkP l n [(n : Int)] [(n : Int)] = false := by
  have h0 : ¬ [(n : Int)] ∈ wsN n := fun z => by have := bit_in (mem_ws.mp z).1 (List.mem_singleton.mpr rfl); omega
  unfold brkP
  rw [decide_eq_false h0]
  rfl
theorem rank_max (h1 : 1 ≤ n) (hok : chOk l n) : 0 ≤ lmax (rankC l n) ∧ lmax (rankC l n) ≤ (n : Int) := by
  refine rankC_bd hok _ (lmax_ok (fun e => ?_)).1
  have := rankC_len (l := l) (n := n)
  rw [e] at this
  simp at this
  omega
theorem emp_no (h1 : 1 ≤ n) : isChoiceB n (.dic []) = false := by
  show (decide (((0 : Nat) : Int) = ((wsN n).length : Int)) && _) = false
  rw [decide_eq_false, Bool.false_and]
  have := List.length_pos_of_mem (full_ws h1)
  omega
theorem neB {x : List Int} (h : (!decide (x = [])) = true) : x ≠ [] := fun e => by rw [decide_eq_true e] at h; cases h
theorem out_and {o av sm : List Int} (h : o ≠ [] → entailsB av sm = false) : ((!decide (o = [])) && (entailsB av sm)) = false := by
  by_cases e : o = []
  · rw [decide_eq_true e]; rfl
  · rw [h e, Bool.and_false]
theorem odd_sm {a b : List Int} (ha : a ∈ bitsN n) (hb : b ∈ bitsN n) (hn : n ≤ 5) {v : Pv} (h : v ∈ [Pv.nun, .lis [a, b], .tups [a], .tups [[(n : Int)], [(n : Int)]]]) : v.sm := by
  have h1 := bit_len ha
  simp only [List.mem_cons, List.not_mem_nil, or_false] at h
  rcases h with rfl | rfl | rfl | rfl
  · trivial
  · show (2 : Nat) ≤ 20; omega
  · refine ⟨show (1 : Nat) ≤ 20 by omega, fun x hx => ?_⟩
    rw [List.mem_singleton.mp hx]; omega
  · refine ⟨show (2 : Nat) ≤ 20 by omega, fun x hx => ?_⟩
    simp only [List.mem_cons, List.not_mem_nil, or_false, or_self] at hx
    rw [hx]
    show (1 : Nat) ≤ 20
    omega
theorem sm_fau (hn : n ≤ 5) : (oT (pT (tT D.int) (tT D.int)) (faultC l n)).sm 7 := sm_oT fun x hx => by
  obtain ⟨h1, h2, _⟩ := some_faultC hx
  have := bit_len (mem_ws.mp h1).1
  have := bit_len (mem_ws.mp h2).1
  exact sm_pT (sm_tT (by omega) fun _ _ => sm_int) (sm_tT (by omega) fun _ _ => sm_int)
theorem sm_no (hn : n ≤ 5) {q : List Int × List Int} (h1 : q.1 ∈ wsN n) (h2 : q.2 ∈ wsN n) : (eRf (.no q)).sm 7 := by
  have := bit_len (mem_ws.mp h1).1
  have := bit_len (mem_ws.mp h2).1
  refine ⟨show (2 : Nat) ≤ 100000 by omega, fun d hd => ?_⟩
  rcases List.mem_cons.mp hd with rfl | hd
  · exact sm_str
  · rw [List.mem_singleton.mp hd]
    exact sm_pT (sm_tT (by omega) fun _ _ => sm_int) (sm_tT (by omega) fun _ _ => sm_int)
end
end WB

namespace WB
open PySem PySem.Spec PyProof.Rows L2 Evl DL
theorem rep0 {n : Nat} : (List.replicate (n : Int).toNat [(0 : Int)]).flatten = List.replicate n 0 := by
  rw [Int.toNat_natCast]
  induction n with
  | zero => rfl
  | succ n ih => rw [List.replicate_succ, List.flatten_cons, ih, List.replicate_succ]; rfl
theorem setAll_snoc {r pre : List Int} {x v : Int} : setAll r (pre ++ [x]) v = (setAll r pre v).set x.toNat v := by
  unfold setAll
  rw [List.foldl_append]
  rfl
/-! ### ranks moved -/
section
variable {ranks learned : List Int} {wy : Str} {x y : Int}
def leastM (ranks learned : List Int) : Int := lmin ((((rng 0 (ranks.length : Int)).filter fun x => (decide (x ∈ learned))).map fun x => x).map fun x => (ranks.getD (x).toNat 0))
def firstM (ranks learned : List Int) (x : Int) : Int := if ((decide (leastM ranks learned < (ranks.getD (x).toNat 0))) || (!decide (x ∈ learned))) then 1 else 0
def secondM (learned : List Int) (x : Int) : Int := if (!decide (x ∈ learned)) then 1 else 0
def keyM (wy : Str) (ranks learned : List Int) (x : Int) : List Int := if decide (wy = "natural") = true then [firstM ranks learned x, ranks.getD x.toNat 0, 0] else if decide (wy = "lexicographic") = true then [secondM learned x, ranks.getD x.toNat 0, 0] else [firstM ranks learned x, ranks.getD x.toNat 0, secondM learned x]
def codeM (k : List Int) : Int := TS.code 64 k
abbrev codesM (wy : Str) (ranks learned : List Int) : List Int := (rng 0 (ranks.length : Int)).map fun x => codeM (keyM wy ranks learned x)
def movedM (wy : Str) (ranks learned : List Int) : List Int := (codesM wy ranks learned).map fun c => (cnt (codesM wy ranks learned) c : Int)
def cMoved : Con := fun ds Φ => ∃ (ranks learned : List Int) (wy : Str), ds = [tT D.int ranks, tT D.int learned, .str wy] ∧ (ranks.length ≤ 8 ∧ (∃ x ∈ learned, 0 ≤ x ∧ x < (ranks.length : Int)) ∧ learned.length ≤ 100 ∧ ∀ r ∈ ranks, 0 ≤ r ∧ r < 64) ∧ Φ (tT D.int (movedM wy ranks learned))
theorem first01 : firstM ranks learned x = 0 ∨ firstM ranks learned x = 1 := by
  unfold firstM
  split
  · exact .inr rfl
  · exact .inl rfl
theorem second01 : secondM learned x = 0 ∨ secondM learned x = 1 := by
  unfold secondM
  split
  · exact .inr rfl
  · exact .inl rfl
theorem code3 {a b c : Int} : codeM [a, b, c] = a * 4096 + b * 64 + c := by
  show a * 64 ^ 2 + (b * 64 ^ 1 + (c * 64 ^ 0 + 0)) = _
  have h2 : (64 : Int) ^ 2 = 4096 := by decide
  have h1 : (64 : Int) ^ 1 = 64 := by decide
  have h0 : (64 : Int) ^ 0 = 1 := by decide
  rw [h2, h1, h0]
  omega
/-- a key as three numbers -/
theorem key3 : ∃ a c : Int, keyM wy ranks learned x = [a, ranks.getD x.toNat 0, c] ∧ (a = 0 ∨ a = 1) ∧ (c = 0 ∨ c = 1) := by
  unfold keyM
  split
  · exact ⟨_, _, rfl, first01, .inl rfl⟩
  · split
    · exact ⟨_, _, rfl, second01, .inl rfl⟩
    · exact ⟨_, _, rfl, first01, second01⟩
theorem rk_bd (h : ∀ r ∈ ranks, 0 ≤ r ∧ r < 64) (hx : 0 ≤ x ∧ x < (ranks.length : Int)) : 0 ≤ ranks.getD x.toNat 0 ∧ ranks.getD x.toNat 0 < 64 := by
  rw [List.getD_eq_getElem?_getD, List.getElem?_eq_getElem (by omega)]
  exact h _ (List.getElem_mem _)
theorem key_bd (h : ∀ r ∈ ranks, 0 ≤ r ∧ r < 64) (hx : x ∈ rng 0 (ranks.length : Int)) : (keyM wy ranks learned x).length = 3 ∧ TS.Bd 64 (keyM wy ranks learned x) := by
  obtain ⟨a, c, e, ha, hc⟩ := key3 (wy := wy) (ranks := ranks) (learned := learned) (x := x)
  have hb := rk_bd h (mem_rng.mp hx)
  rw [e]
  refine ⟨rfl, fun m hm => ?_⟩
  simp only [List.mem_cons, List.not_mem_nil, or_false] at hm
  rcases hm with rfl | rfl | rfl
  · omega
  · exact hb
  · omega
theorem key_inj (h : ∀ r ∈ ranks, 0 ≤ r ∧ r < 64) (hx : x ∈ rng 0 (ranks.length : Int)) (hy : y ∈ rng 0 (ranks.length : Int)) (e : codeM (keyM wy ranks learned x) = codeM (keyM wy ranks learned y)) : keyM wy ranks learned x = keyM wy ranks learned y := by
  obtain ⟨a, c, e1, ha, hc⟩ := key3 (wy := wy) (ranks := ranks) (learned := learned) (x := x)
  obtain ⟨a', c', e2, ha', hc'⟩ := key3 (wy := wy) (ranks := ranks) (learned := learned) (x := y)
  have hb := rk_bd h (mem_rng.mp hx)
  have hb' := rk_bd h (mem_rng.mp hy)
  rw [e1, e2, code3, code3] at e
  rw [e1, e2]
  have h1 : a = a' := by omega
  have h2 : ranks.getD x.toNat 0 = ranks.getD y.toNat 0 := by omega
  have h3 : c = c' := by omega
  rw [h1, h2, h3]
theorem idx_asc : ∀ {L : List Int} {x : Int}, L.Pairwise (· < ·) → x ∈ L → idxD x L = (L.filter fun y => decide (y < x)).length
  | [], x, _, h => nomatch h
  | y :: L, x, hp, h => by
    have h1 := List.pairwise_cons.mp hp
    by_cases e : y = x
    · subst e
      rw [idxD, List.idxOf_cons, beq_self_eq_true]
      have : (y :: L).filter (fun z => decide (z < y)) = [] := List.filter_eq_nil_iff.mpr fun z hz => by
        rw [decide_eq_true_iff]
        rcases List.mem_cons.mp hz with rfl | hz
        · omega
        · have := h1.1 z hz; omega
      rw [this]
      rfl
    · have hx : x ∈ L := (List.mem_cons.mp h).resolve_left fun z => e z.symm
      have hlt := h1.1 x hx
      rw [idxD, List.idxOf_cons, beq_eq_false_iff_ne.mpr e, List.filter_cons, if_pos (decide_eq_true hlt), List.length_cons]
      show idxD x L + 1 = _
      rw [idx_asc h1.2 hx]
theorem idx_map {α β : Type} [DecidableEq α] [DecidableEq β] {f : α → β} {x : α} : ∀ {l : List α}, (∀ y ∈ l, f y = f x → y = x) → idxD x l = idxD (f x) (l.map f)
  | [], _ => rfl
  | y :: l, h => by
    rw [List.map_cons, idxD, idxD, List.idxOf_cons, List.idxOf_cons]
    by_cases e : y = x
    · subst e
      rw [beq_self_eq_true, beq_self_eq_true]
      rfl
    · rw [beq_eq_false_iff_ne.mpr e, beq_eq_false_iff_ne.mpr fun z => e (h y (List.mem_cons_self ..) z)]
      show idxD x l + 1 = idxD (f x) (l.map f) + 1
      rw [idx_map fun z hz => h z (List.mem_cons_of_mem _ hz)]
/-- the place of a key in the sorted keys -/
theorem idx_cnt (h : ∀ r ∈ ranks, 0 ≤ r ∧ r < 64) {r : List (List Int)} (hn : r.Nodup) (hm : ∀ k, k ∈ r ↔ k ∈ (rng 0 (ranks.length : Int)).map (keyM wy ranks learned)) (hp : r.Pairwise fun x y => TS.code 64 x ≤ TS.code 64 y) (hx : x ∈ rng 0 (ranks.length : Int)) : idxD (keyM wy ranks learned x) r = cnt (codesM wy ranks learned) (codeM (keyM wy ranks learned x)) := by
  have inj : ∀ k ∈ r, ∀ j ∈ r, codeM k = codeM j → k = j := fun k hk j hj e => by
    obtain ⟨u, hu, rfl⟩ := List.mem_map.mp ((hm k).mp hk)
    obtain ⟨v, hv, rfl⟩ := List.mem_map.mp ((hm j).mp hj)
    exact key_inj h hu hv e
  have hkx : keyM wy ranks learned x ∈ r := (hm _).mpr (List.mem_map.mpr ⟨x, hx, rfl⟩)
  have asc : (r.map codeM).Pairwise (· < ·) := by
    rw [List.pairwise_map]
    have nn := List.nodup_iff_pairwise_ne.mp hn
    have := hp.and nn
    refine this.imp_of_mem fun {a b} ha hb ⟨h1, h2⟩ => ?_
    have : codeM a ≠ codeM b := fun e => h2 (inj a ha b hb e)
    have h1 : codeM a ≤ codeM b := h1
    omega
  have es : r.map codeM = setI (codesM wy ranks learned) := asc_unique asc (setI_asc _) fun c => by
    rw [mem_setI, List.mem_map, List.mem_map]
    constructor
    · rintro ⟨k, hk, rfl⟩
      obtain ⟨u, hu, rfl⟩ := List.mem_map.mp ((hm k).mp hk)
      exact ⟨u, hu, rfl⟩
    · rintro ⟨u, hu, rfl⟩
      exact ⟨_, (hm _).mpr (List.mem_map.mpr ⟨u, hu, rfl⟩), rfl⟩
  rw [idx_map (f := codeM) fun k hk e => inj k hk _ hkx e, idx_asc asc (List.mem_map.mpr ⟨_, hkx, rfl⟩), es]
  rfl
end
def cSet : Con := fun ds Φ => ∃ s many, ds = [eS s, .int many] ∧ ((1 ≤ many ∧ many ≤ 3) ∧ s.dep < 8 ∧ s.lt many) ∧ Φ (tT D.int (someK s (points many)))
def cChosen : Con := fun ds Φ => ∃ ranks sm : List Int, ds = [tT D.int ranks, tT D.int sm] ∧ (sm ≠ [] ∧ (∀ x ∈ sm, 0 ≤ x ∧ x < (ranks.length : Int)) ∧ sm.length ≤ 100) ∧ Φ (tT D.int (chose ranks sm))
theorem getD_pts {many k : Int} (h : 0 ≤ k ∧ k < ((points many).length : Int)) : (points many).getD k.toNat [] ∈ points many := by
  rw [List.getD_eq_getElem?_getD, List.getElem?_eq_getElem (by omega)]
  exact List.getElem_mem _
end WB

namespace WB
open PySem PySem.Spec PyProof.Rows L2 Evl DL
section
variable {ranks : List Int} {many : Int} {one two : Sy} {n : Nat} {A B : List Int} {x y : Int} {wy : Str}
/-! ### choices of ranks -/
theorem mem_full : x ∈ rng 0 (n : Int) ↔ 0 ≤ x ∧ x < (n : Int) := mem_rng
theorem chose_in (h : x ∈ chose ranks A) : x ∈ A := (mem_chose.mp h).1
/-- the law of choices, of ranks -/
theorem no_fault_ranks : faultC (ChR ranks n) n = none := faultC_none fun g hg s hs => by
  unfold cfB
  rw [Bool.and_eq_false_iff]
  cases e1 : ((s.map fun x => (decide (x ∈ g))).all id) with
  | false => exact .inl rfl
  | true =>
    right
    have hsub := all_id.mp e1
    rw [Bool.and_eq_false_iff]
    by_cases e2 : 0 < ((commonL (ChR ranks n) g s).length : Int)
    · right
      rw [Bool.not_eq_false', decide_eq_true_iff, ga_tab hs]
      have hc : ∀ {z}, z ∈ commonL (ChR ranks n) g s ↔ z ∈ chose ranks g ∧ z ∈ s := fun {z} => by
        unfold commonL inB
        rw [List.map_id', List.mem_filter, decide_eq_true_iff, ga_tab hg]
      obtain ⟨z, hz⟩ := List.exists_mem_of_ne_nil (commonL (ChR ranks n) g s) (fun e => by rw [e] at e2; simp at e2)
      obtain ⟨hz1, hz2⟩ := hc.mp hz
      have hz3 := mem_chose.mp hz1
      have asc : (commonL (ChR ranks n) g s).Pairwise (· < ·) := by
        unfold commonL inB
        rw [List.map_id', ga_tab hg]
        exact (chose_asc (bit_asc (mem_ws.mp hg).1)).filter _
      refine asc_unique (chose_asc (bit_asc (mem_ws.mp hs).1)) asc fun x => ?_
      rw [hc, mem_chose, mem_chose]
      constructor
      · rintro ⟨h1, h2⟩
        refine ⟨⟨of_decide_eq_true (hsub x h1), fun y hy => ?_⟩, h1⟩
        have a1 := h2 z hz2
        have a2 := hz3.2 y hy
        omega
      · rintro ⟨⟨h1, h2⟩, h3⟩
        exact ⟨h3, fun y hy => h2 y (of_decide_eq_true (hsub y hy))⟩
    · left
      exact decide_eq_false e2
/-- ranks that choose alike are ordered alike -/
theorem alike_lt {r' : List Int} (h : ∀ s ∈ wsN n, chose r' s = chose ranks s) (hx : 0 ≤ x ∧ x < (n : Int)) (hy : 0 ≤ y ∧ y < (n : Int)) : (decide ((ranks.getD x.toNat 0) < (ranks.getD y.toNat 0)) != decide ((r'.getD x.toNat 0) < (r'.getD y.toNat 0))) = false := by
  have key : ∀ r : List Int, (r.getD x.toNat 0 < r.getD y.toNat 0) ↔ ¬ y ∈ chose r ((rng 0 (n : Int)).filter fun z => decide (z = x ∨ z = y)) := fun r => by
    rw [mem_chose]
    have mem : ∀ z, z ∈ ((rng 0 (n : Int)).filter fun z => decide (z = x ∨ z = y)) ↔ z = x ∨ z = y := fun z => by
      rw [List.mem_filter, decide_eq_true_iff, mem_rng]
      refine ⟨fun h => h.2, fun h => ⟨?_, h⟩⟩
      rcases h with rfl | rfl
      · exact hx
      · exact hy
    constructor
    · rintro h ⟨_, h2⟩
      have := h2 x ((mem x).mpr (.inl rfl))
      omega
    · intro h
      apply Classical.byContradiction
      intro z
      refine h ⟨(mem y).mpr (.inr rfl), fun w hw => ?_⟩
      rcases (mem w).mp hw with rfl | rfl
      · omega
      · exact Int.le_refl _
  have hs : ((rng 0 (n : Int)).filter fun z => decide (z = x ∨ z = y)) ∈ wsN n := mem_ws.mpr ⟨bit_of (rng_asc.filter _) fun z hz => mem_rng.mp (List.mem_filter.mp hz).1, fun e => by
    have : x ∈ ((rng 0 (n : Int)).filter fun z => decide (z = x ∨ z = y)) := List.mem_filter.mpr ⟨mem_rng.mpr hx, decide_eq_true (.inl rfl)⟩
    rw [e] at this
    exact nomatch this⟩
  have e : (ranks.getD x.toNat 0 < ranks.getD y.toNat 0) ↔ (r'.getD x.toNat 0 < r'.getD y.toNat 0) := by rw [key ranks, key r', h _ hs]
  have e2 : decide (ranks.getD x.toNat 0 < ranks.getD y.toNat 0) = decide (r'.getD x.toNat 0 < r'.getD y.toNat 0) := decide_eq_decide.mpr e
  rw [e2]
  simp
theorem rank_lt (h1 : 1 ≤ n) (hl : ranks.length = n) (hx : 0 ≤ x ∧ x < (n : Int)) (hy : 0 ≤ y ∧ y < (n : Int)) : (decide ((ranks.getD x.toNat 0) < (ranks.getD y.toNat 0)) != decide (((rankC (ChR ranks n) n).getD x.toNat 0) < ((rankC (ChR ranks n) n).getD y.toNat 0))) = false :=
  alike_lt (fun s hs => by
    have := (rankC_ok (choice_ok h1 hl) no_fault_ranks).2.1 s hs
    rw [ga_tab hs] at this
    exact this) hx hy
/-! ### ranks moved, in order -/
theorem moved_len : (movedM wy ranks A).length = ranks.length := by
  unfold movedM codesM
  rw [List.length_map, List.length_map, rng_len]
  omega
theorem moved_get (hx : 0 ≤ x ∧ x < (ranks.length : Int)) : (movedM wy ranks A).getD x.toNat 0 = (cnt (codesM wy ranks A) (codeM (keyM wy ranks A x)) : Int) := by
  unfold movedM codesM
  rw [List.getD_eq_getElem?_getD, List.getElem?_map, List.getElem?_map, rng_get (by omega)]
  have e : 0 + (x.toNat : Int) = x := by omega
  rw [e]
  rfl
theorem code_mem (hx : 0 ≤ x ∧ x < (ranks.length : Int)) : codeM (keyM wy ranks A x) ∈ codesM wy ranks A := List.mem_map.mpr ⟨x, mem_rng.mpr hx, rfl⟩
theorem moved_le (hx : 0 ≤ x ∧ x < (ranks.length : Int)) (hy : 0 ≤ y ∧ y < (ranks.length : Int)) : (movedM wy ranks A).getD x.toNat 0 ≤ (movedM wy ranks A).getD y.toNat 0 ↔ codeM (keyM wy ranks A x) ≤ codeM (keyM wy ranks A y) := by
  rw [moved_get hx, moved_get hy, ← cnt_le (code_mem hx) (code_mem hy)]
  omega
theorem moved_bd (hx : x ∈ movedM wy ranks A) : 0 ≤ x ∧ x < (ranks.length : Int) := by
  unfold movedM at hx
  obtain ⟨c, hc, rfl⟩ := List.mem_map.mp hx
  have := cnt_top hc
  unfold codesM at this
  rw [List.length_map, rng_len] at this
  unfold codesM
  omega
theorem lex_code : codeM (keyM "lexicographic" ranks A x) = secondM A x * 4096 + ranks.getD x.toNat 0 * 64 := by
  unfold keyM
  rw [if_neg (by decide), if_pos (by decide), code3]
  omega
theorem nat_code : codeM (keyM "natural" ranks A x) = firstM ranks A x * 4096 + ranks.getD x.toNat 0 * 64 := by
  unfold keyM
  rw [if_pos (by decide), code3]
  omega
theorem second_in (h : x ∈ A) : secondM A x = 0 := by
  unfold secondM
  rw [decide_eq_true h]
  rfl
theorem second_out (h : x ∉ A) : secondM A x = 1 := by
  unfold secondM
  rw [decide_eq_false h]
  rfl
theorem getD_bd (h : ∀ r ∈ ranks, 0 ≤ r ∧ r < 64) : 0 ≤ ranks.getD x.toNat 0 ∧ ranks.getD x.toNat 0 < 64 := by
  rw [List.getD_eq_getElem?_getD]
  cases e : ranks[x.toNat]? with
  | none => exact ⟨Int.le_refl _, by decide⟩
  | some z => exact h z (List.mem_of_getElem? e)
/-- learning both, one after the other -/
theorem lex_both (hl : ranks.length = n) (hn : n ≤ 5) (hb : ∀ r ∈ ranks, 0 ≤ r ∧ r < 64) (hA : A ∈ bitsN n) (hB : B ∈ bitsN n) (hne : ((A.filter fun x => (decide (x ∈ B))).map fun x => x) ≠ []) : chose (movedM "lexicographic" (movedM "lexicographic" ranks A) B) (rng 0 (n : Int)) = chose ranks ((A.filter fun x => (decide (x ∈ B))).map fun x => x) := by
  have mem : ∀ {z}, z ∈ ((A.filter fun x => (decide (x ∈ B))).map fun x => x) ↔ z ∈ A ∧ z ∈ B := fun {z} => by rw [List.map_id', List.mem_filter, decide_eq_true_iff]
  have l1 : (movedM "lexicographic" ranks A).length = n := by rw [moved_len, hl]
  have b1 : ∀ r ∈ movedM "lexicographic" ranks A, 0 ≤ r ∧ r < 64 := fun r hr => by have := moved_bd hr; omega
  have o1 : ∀ {x y : Int}, (0 ≤ x ∧ x < (n : Int)) → (0 ≤ y ∧ y < (n : Int)) → ((movedM "lexicographic" ranks A).getD x.toNat 0 ≤ (movedM "lexicographic" ranks A).getD y.toNat 0 ↔ secondM A x * 4096 + ranks.getD x.toNat 0 * 64 ≤ secondM A y * 4096 + ranks.getD y.toNat 0 * 64) := fun {x y} hx hy => by
    rw [moved_le (by rw [hl]; exact hx) (by rw [hl]; exact hy), lex_code, lex_code]
  have o2 : ∀ {x y : Int}, (0 ≤ x ∧ x < (n : Int)) → (0 ≤ y ∧ y < (n : Int)) → ((movedM "lexicographic" (movedM "lexicographic" ranks A) B).getD x.toNat 0 ≤ (movedM "lexicographic" (movedM "lexicographic" ranks A) B).getD y.toNat 0 ↔ secondM B x * 4096 + (movedM "lexicographic" ranks A).getD x.toNat 0 * 64 ≤ secondM B y * 4096 + (movedM "lexicographic" ranks A).getD y.toNat 0 * 64) := fun {x y} hx hy => by
    rw [moved_le (by rw [l1]; exact hx) (by rw [l1]; exact hy), lex_code, lex_code]
  obtain ⟨z, hz⟩ := List.exists_mem_of_ne_nil _ hne
  obtain ⟨hzA, hzB⟩ := mem.mp hz
  have hzi := bit_in hA hzA
  have asc : ((A.filter fun x => (decide (x ∈ B))).map fun x => x).Pairwise (· < ·) := by rw [List.map_id']; exact (bit_asc hA).filter _
  refine asc_unique (chose_asc rng_asc) (chose_asc asc) fun x => ?_
  rw [mem_chose, mem_chose, mem_rng]
  constructor
  · rintro ⟨hx, h⟩
    have e1 := (o2 hx hzi).mp (h z (mem_rng.mpr hzi))
    rw [second_in hzB] at e1
    have bx := getD_bd (x := x) b1
    have bz := getD_bd (x := z) b1
    have hxB : x ∈ B := by
      apply Classical.byContradiction
      intro w
      rw [second_out w] at e1
      omega
    rw [second_in hxB] at e1
    have e2 := (o1 hx hzi).mp (by omega)
    have cx := getD_bd (x := x) hb
    have cz := getD_bd (x := z) hb
    rw [second_in hzA] at e2
    have hxA : x ∈ A := by
      apply Classical.byContradiction
      intro w
      rw [second_out w] at e2
      omega
    refine ⟨mem.mpr ⟨hxA, hxB⟩, fun y hy => ?_⟩
    obtain ⟨hyA, hyB⟩ := mem.mp hy
    have hyi := bit_in hA hyA
    have f1 := (o2 hx hyi).mp (h y (mem_rng.mpr hyi))
    rw [second_in hxB, second_in hyB] at f1
    have f2 := (o1 hx hyi).mp (by omega)
    rw [second_in hxA, second_in hyA] at f2
    omega
  · rintro ⟨hx, h⟩
    obtain ⟨hxA, hxB⟩ := mem.mp hx
    have hxi := bit_in hA hxA
    refine ⟨hxi, fun y hy => ?_⟩
    have hyi := mem_rng.mp hy
    refine (o2 hxi hyi).mpr ?_
    have bx := getD_bd (x := x) b1
    have bY := getD_bd (x := y) b1
    have cx := getD_bd (x := x) hb
    have cy := getD_bd (x := y) hb
    rw [second_in hxB]
    by_cases hyB : y ∈ B
    · rw [second_in hyB]
      have : (movedM "lexicographic" ranks A).getD x.toNat 0 ≤ (movedM "lexicographic" ranks A).getD y.toNat 0 := by
        refine (o1 hxi hyi).mpr ?_
        rw [second_in hxA]
        by_cases hyA : y ∈ A
        · rw [second_in hyA]
          have := h y (mem.mpr ⟨hyA, hyB⟩)
          omega
        · rw [second_out hyA]
          omega
      omega
    · rw [second_out hyB]
      omega
theorem lex_second (hl : ranks.length = n) (hn : n ≤ 5) (hb : ∀ r ∈ ranks, 0 ≤ r ∧ r < 64) (hA : A ∈ bitsN n) (hB : B ∈ bitsN n) (hBne : B ≠ []) (he : ((A.filter fun x => (decide (x ∈ B))).map fun x => x) = []) : chose (movedM "lexicographic" (movedM "lexicographic" ranks A) B) (rng 0 (n : Int)) = chose ranks B := by
  have out : ∀ {z}, z ∈ B → z ∉ A := fun {z} hz hA' => by
    have : z ∈ ((A.filter fun x => (decide (x ∈ B))).map fun x => x) := by rw [List.map_id', List.mem_filter, decide_eq_true_iff]; exact ⟨hA', hz⟩
    rw [he] at this
    exact nomatch this
  have l1 : (movedM "lexicographic" ranks A).length = n := by rw [moved_len, hl]
  have b1 : ∀ r ∈ movedM "lexicographic" ranks A, 0 ≤ r ∧ r < 64 := fun r hr => by have := moved_bd hr; omega
  have o1 : ∀ {x y : Int}, (0 ≤ x ∧ x < (n : Int)) → (0 ≤ y ∧ y < (n : Int)) → ((movedM "lexicographic" ranks A).getD x.toNat 0 ≤ (movedM "lexicographic" ranks A).getD y.toNat 0 ↔ secondM A x * 4096 + ranks.getD x.toNat 0 * 64 ≤ secondM A y * 4096 + ranks.getD y.toNat 0 * 64) := fun {x y} hx hy => by
    rw [moved_le (by rw [hl]; exact hx) (by rw [hl]; exact hy), lex_code, lex_code]
  have o2 : ∀ {x y : Int}, (0 ≤ x ∧ x < (n : Int)) → (0 ≤ y ∧ y < (n : Int)) → ((movedM "lexicographic" (movedM "lexicographic" ranks A) B).getD x.toNat 0 ≤ (movedM "lexicographic" (movedM "lexicographic" ranks A) B).getD y.toNat 0 ↔ secondM B x * 4096 + (movedM "lexicographic" ranks A).getD x.toNat 0 * 64 ≤ secondM B y * 4096 + (movedM "lexicographic" ranks A).getD y.toNat 0 * 64) := fun {x y} hx hy => by
    rw [moved_le (by rw [l1]; exact hx) (by rw [l1]; exact hy), lex_code, lex_code]
  obtain ⟨z, hzB⟩ := List.exists_mem_of_ne_nil _ hBne
  have hzi := bit_in hB hzB
  refine asc_unique (chose_asc rng_asc) (chose_asc (bit_asc hB)) fun x => ?_
  rw [mem_chose, mem_chose, mem_rng]
  constructor
  · rintro ⟨hx, h⟩
    have e1 := (o2 hx hzi).mp (h z (mem_rng.mpr hzi))
    rw [second_in hzB] at e1
    have bx := getD_bd (x := x) b1
    have bz := getD_bd (x := z) b1
    have hxB : x ∈ B := by
      apply Classical.byContradiction
      intro w
      rw [second_out w] at e1
      omega
    refine ⟨hxB, fun y hyB => ?_⟩
    have hyi := bit_in hB hyB
    have f1 := (o2 hx hyi).mp (h y (mem_rng.mpr hyi))
    rw [second_in hxB, second_in hyB] at f1
    have f2 := (o1 hx hyi).mp (by omega)
    rw [second_out (out hxB), second_out (out hyB)] at f2
    omega
  · rintro ⟨hxB, h⟩
    have hxi := bit_in hB hxB
    refine ⟨hxi, fun y hy => ?_⟩
    have hyi := mem_rng.mp hy
    refine (o2 hxi hyi).mpr ?_
    have bx := getD_bd (x := x) b1
    have bY := getD_bd (x := y) b1
    rw [second_in hxB]
    by_cases hyB : y ∈ B
    · rw [second_in hyB]
      have : (movedM "lexicographic" ranks A).getD x.toNat 0 ≤ (movedM "lexicographic" ranks A).getD y.toNat 0 := by
        refine (o1 hxi hyi).mpr ?_
        rw [second_out (out hxB), second_out (out hyB)]
        have := h y hyB
        omega
      omega
    · rw [second_out hyB]
      omega
/-- first is 0 for just what is chosen -/
theorem least_ex (hA : A ∈ bitsN ranks.length) (hne : A ≠ []) : (∃ z ∈ A, ranks.getD z.toNat 0 = leastM ranks A) ∧ ∀ z ∈ A, leastM ranks A ≤ ranks.getD z.toNat 0 := by
  have e : (((rng 0 (ranks.length : Int)).filter fun x => (decide (x ∈ A))).map fun x => x) = A := by
    rw [List.map_id']
    refine asc_unique (rng_asc.filter _) (bit_asc hA) fun x => ?_
    rw [List.mem_filter, decide_eq_true_iff, mem_rng]
    exact ⟨fun h => h.2, fun h => ⟨bit_in hA h, h⟩⟩
  unfold leastM
  rw [e]
  obtain ⟨m1, m2⟩ := lmin_ok (l := A.map fun x => ranks.getD x.toNat 0) (fun z => hne (List.map_eq_nil_iff.mp z))
  obtain ⟨z, hz, ez⟩ := List.mem_map.mp m1
  exact ⟨⟨z, hz, ez⟩, fun w hw => m2 _ (List.mem_map.mpr ⟨w, hw, rfl⟩)⟩
theorem first_zero (hA : A ∈ bitsN ranks.length) (hne : A ≠ []) : firstM ranks A x = 0 ↔ x ∈ chose ranks A := by
  obtain ⟨⟨z, hz, ez⟩, hm⟩ := least_ex hA hne
  unfold firstM
  rw [mem_chose]
  by_cases hx : x ∈ A
  · rw [decide_eq_true hx]
    by_cases c : leastM ranks A < ranks.getD x.toNat 0
    · rw [decide_eq_true c]
      refine ⟨fun h => by simp at h, fun h => ?_⟩
      have := h.2 z hz
      omega
    · rw [decide_eq_false c]
      refine ⟨fun _ => ⟨hx, fun y hy => ?_⟩, fun _ => rfl⟩
      have := hm y hy
      omega
  · rw [decide_eq_false hx, Bool.not_false, Bool.or_true]
    exact ⟨fun h => by simp at h, fun h => absurd h.1 hx⟩
theorem nat_best (hl : ranks.length = n) (hb : ∀ r ∈ ranks, 0 ≤ r ∧ r < 64) (hA : A ∈ bitsN n) (hne : A ≠ []) : chose (movedM "natural" ranks A) (rng 0 (n : Int)) = chose ranks A := by
  subst hl
  have o : ∀ {x y : Int}, (0 ≤ x ∧ x < (ranks.length : Int)) → (0 ≤ y ∧ y < (ranks.length : Int)) → ((movedM "natural" ranks A).getD x.toNat 0 ≤ (movedM "natural" ranks A).getD y.toNat 0 ↔ firstM ranks A x * 4096 + ranks.getD x.toNat 0 * 64 ≤ firstM ranks A y * 4096 + ranks.getD y.toNat 0 * 64) := fun {x y} hx hy => by
    rw [moved_le hx hy, nat_code, nat_code]
  obtain ⟨z, hz⟩ := List.exists_mem_of_ne_nil _ (chose_ne (ranks := ranks) hne)
  have hz0 := (first_zero hA hne).mpr hz
  have hzi := bit_in hA (chose_in hz)
  have f01 : ∀ x, firstM ranks A x = 0 ∨ firstM ranks A x = 1 := fun x => first01
  refine asc_unique (chose_asc rng_asc) (chose_asc (bit_asc hA)) fun x => ?_
  have cx := getD_bd (x := x) hb
  have cz := getD_bd (x := z) hb
  rw [mem_chose, mem_rng]
  constructor
  · rintro ⟨hx, h⟩
    have e1 := (o hx hzi).mp (h z (mem_rng.mpr hzi))
    rw [hz0] at e1
    refine (first_zero hA hne).mp ?_
    rcases f01 x with h1 | h1
    · exact h1
    · rw [h1] at e1; omega
  · intro hx
    have hxi := bit_in hA (chose_in hx)
    have hx0 := (first_zero hA hne).mpr hx
    refine ⟨hxi, fun y hy => ?_⟩
    have hyi := mem_rng.mp hy
    have cy := getD_bd (x := y) hb
    refine (o hxi hyi).mpr ?_
    rw [hx0]
    rcases f01 y with h1 | h1
    · have := (mem_chose.mp hx).2 y (chose_in ((first_zero hA hne).mp h1))
      rw [h1]
      omega
    · rw [h1]; omega
end
end WB

namespace WB
open PySem PySem.Spec PyProof.Rows L2 Evl DL
section
variable {ranks levels : List Int} {many : Int} {one two : Sy} {A B : List Int} {rules : List Rule}
abbrev nP (many : Int) : Nat := (points many).length
theorem set_bit : someK one (points many) ∈ bitsN (nP many) := bit_of (by
  unfold someK
  rw [List.map_id']
  exact rng_asc.filter _) fun x hx => by
  obtain ⟨h0, h1, _⟩ := someK_mem hx
  exact ⟨h0, h1⟩
theorem mem_set {x : Int} : x ∈ someK one (points many) ↔ (0 ≤ x ∧ x < (nP many : Int)) ∧ fits one ((points many).getD x.toNat []) = true := ⟨fun h => by
  obtain ⟨h0, h1, h2⟩ := someK_mem h
  exact ⟨⟨h0, h1⟩, h2⟩, fun ⟨⟨h0, h1⟩, h2⟩ => mem_someK h0 h1 h2⟩
theorem getD_map {l : List (List Int)} : (rng 0 (l.length : Int)).map (fun k => l.getD k.toNat []) = l := by
  refine List.ext_getElem (by rw [List.length_map, rng_len]; omega) fun i h1 h2 => ?_
  have e : (rng 0 (l.length : Int))[i]? = some (0 + (i : Int)) := rng_get (by omega)
  rw [List.getElem_map]
  have e2 : (rng 0 (l.length : Int))[i]'(by rw [List.length_map] at h1; exact h1) = (i : Int) := by
    have := List.getElem?_eq_some_iff.mp e
    obtain ⟨_, e3⟩ := this
    rw [e3]
    omega
  rw [e2, Int.toNat_natCast, List.getD_eq_getElem?_getD, List.getElem?_eq_getElem h2]
  rfl
theorem pw_set : pw one many = (someK one (points many)).map fun k => ((points many).getD (k).toNat []) := by
  unfold pw someK
  rw [List.map_id']
  conv => lhs; rw [← getD_map (l := points many)]
  rw [List.filter_map]
  rfl
abbrev rightV (ranks : List Int) (many : Int) (one two : Sy) : Bool := ((decide (someK one (points many) = [])) || (decide ((((chose ranks (someK one (points many))).filter fun x => (!(fits two ((points many).getD (x).toNat [])))).map fun x => x) = [])))
theorem holds_right : holds ranks (one, two) many = rightV ranks many one two := by
  refine Bool.eq_iff_iff.mpr ?_
  rw [holds_iff, Bool.or_eq_true, decide_eq_true_iff, decide_eq_true_iff, List.map_eq_nil_iff, List.filter_eq_nil_iff]
  constructor
  · intro h
    right
    intro x hx
    have := h x (mn_iff.mpr (mem_chose.mp hx))
    rw [show fits two ((points many).getD x.toNat []) = true from this]
    decide
  · rintro (h | h) k hk
    · have := (mn_iff.mp hk).1
      rw [h] at this
      exact nomatch this
    · have := h k (mem_chose.mpr (mn_iff.mp hk))
      simpa using this
theorem inside_right (r : List Int) (h : (someK one (points many)) ≠ []) : decide ((((chose r (someK one (points many))).filter fun x => (!decide (x ∈ someK two (points many)))).map fun x => x) = []) = rightV r many one two := by
  unfold rightV
  rw [decide_eq_false h, Bool.false_or]
  have : ((chose r (someK one (points many))).filter fun x => (!decide (x ∈ someK two (points many)))) = ((chose r (someK one (points many))).filter fun x => (!(fits two ((points many).getD (x).toNat [])))) := by
    refine List.filter_congr fun x hx => ?_
    have hi := (mem_set.mp (chose_in hx)).1
    congr 1
    refine Bool.eq_iff_iff.mpr ?_
    rw [decide_eq_true_iff, mem_set]
    exact ⟨fun h => h.2, fun h => ⟨hi, h⟩⟩
  rw [this]
theorem right_test (r : List Int) (h : (someK one (points many)) ≠ []) : (decide ((((chose r (someK one (points many))).filter fun x => (!decide (x ∈ someK two (points many)))).map fun x => x) = []) != rightV r many one two) = false := by
  rw [inside_right r h]
  simp
theorem sphere_first (h1 : 1 ≤ nP many) : (spheres ranks many).getD (0 : Int).toNat [] = (chose ranks (rng 0 (nP many : Int))).map (fun x => ((points many).getD (x).toNat [])) ∨ ranks.length ≠ nP many := by
  by_cases hl : ranks.length = nP many
  · left
    have hne : ranks ≠ [] := fun e => by rw [e] at hl; simp at hl; omega
    unfold spheres
    have hs := setI_asc ranks
    cases e : setI ranks with
    | nil =>
      obtain ⟨z, hz⟩ := List.exists_mem_of_ne_nil _ hne
      have := mem_setI.mpr hz
      rw [e] at this
      exact nomatch this
    | cons r0 rest =>
      rw [e] at hs
      have hr0 : r0 ∈ ranks := mem_setI.mp (by rw [e]; exact List.mem_cons_self ..)
      have hmin : ∀ z ∈ ranks, r0 ≤ z := fun z hz => by
        have := mem_setI.mpr hz
        rw [e] at this
        rcases List.mem_cons.mp this with rfl | h
        · exact Int.le_refl _
        · have := (List.pairwise_cons.mp hs).1 z h
          omega
      have gm : ∀ {x : Int}, 0 ≤ x ∧ x < (nP many : Int) → ranks.getD x.toNat 0 ∈ ranks := fun {x} hx => by
        rw [List.getD_eq_getElem?_getD, List.getElem?_eq_getElem (by omega)]
        exact List.getElem_mem _
      show sphere ranks (points many) r0 = _
      unfold sphere
      refine congrArg (List.map _) ?_
      refine asc_unique (rng_asc.filter _) (chose_asc rng_asc) fun x => ?_
      rw [List.mem_filter, mem_chose, decide_eq_true_iff, mem_rng]
      refine and_congr_right fun hx => ?_
      constructor
      · intro h y hy
        have := hmin _ (gm (mem_rng.mp hy))
        omega
      · intro h
        obtain ⟨i, hi, ei⟩ := List.mem_iff_getElem.mp hr0
        have := h (i : Int) (mem_rng.mpr ⟨by omega, by omega⟩)
        rw [Int.toNat_natCast, List.getD_eq_getElem?_getD, List.getD_eq_getElem?_getD, List.getElem?_eq_getElem hi] at this
        rw [List.getD_eq_getElem?_getD]
        have e3 : (some ranks[i]).getD 0 = r0 := ei
        rw [e3] at this
        exact this
  · exact .inr hl
theorem believed_ga (hl : ranks.length = nP many) (h1 : 1 ≤ nP many) : ga (choiceL ranks) (rng 0 (nP many : Int)) = chose ranks (rng 0 (nP many : Int)) := by
  unfold choiceL
  rw [hl]
  exact ga_tab (full_ws h1)
theorem chosen_ga (hl : ranks.length = nP many) (h : (someK one (points many)) ≠ []) : ga (choiceL ranks) (someK one (points many)) = chose ranks (someK one (points many)) := by
  unfold choiceL
  rw [hl]
  exact ga_tab (mem_ws.mpr ⟨set_bit, h⟩)
theorem keys_choice (hl : ranks.length = nP many) : keysA (choiceL ranks) = wsN (nP many) := by
  have e : keysA (choiceL ranks) = wsN ranks.length := tab_keys
  rw [e, hl]
theorem none_yes {r : Rule} (h : ranksOf rules many = none) : (follows rules r many).isYes = true := by
  refine yes_iff.mpr fun rk hs => ?_
  unfold ranksOf at h
  cases e : layers rules many with
  | yes ls => rw [e] at h; cases h
  | no l => exact absurd hs (layers_no_unsat e)
theorem some_sat (h : ranksOf rules many = some levels) : Sat levels many rules := by
  unfold ranksOf at h
  cases e : layers rules many with
  | yes ls =>
    rw [e] at h
    cases h
    exact zrank_sat e
  | no l => rw [e] at h; cases h
theorem close_holds {r : Rule} (h : ranksOf rules many = some levels) : closely rules r many = holds levels r many := by
  unfold closely
  rw [h]
theorem sat_nil (h : Sat levels many rules) : decide (((rules.filter fun rule => (!(holds levels rule many))).map fun rule => (1 : Int)) = []) = true := by
  rw [decide_eq_true_iff, List.map_eq_nil_iff, List.filter_eq_nil_iff]
  intro r hr
  rw [show holds levels r many = true from holds_iff.mpr (h r hr)]
  decide
theorem pts_pos (h : 1 ≤ many ∧ many ≤ 2) : 1 ≤ nP many := by
  unfold nP
  rw [points_len]
  exact Nat.one_le_two_pow
theorem pts_four (h : 1 ≤ many ∧ many ≤ 2) : nP many ≤ 5 := by
  unfold nP
  rw [points_len]
  have : (2 : Nat) ^ many.toNat ≤ 2 ^ 2 := Nat.pow_le_pow_right (by decide) (by omega)
  omega
theorem spheres_pos (h : 1 ≤ ranks.length) : 1 ≤ (spheres ranks many).length := by
  unfold spheres
  rw [List.length_map]
  obtain ⟨z, hz⟩ := List.exists_mem_of_ne_nil ranks (fun e => by rw [e] at h; simp at h)
  exact List.length_pos_of_mem (mem_setI.mpr hz)
end
end WB

namespace K83
open PySem PySem.Spec PyProof.Rows L2 Evl DL WB
def topS (i : Nat) : Stmt := PySem.Challenge.pw_worldwright_k83_whole_defaults_and_belie.main.body.getD i (.Pass ⟨0, 0, 0, 0⟩)
section
variable {P : Program} {w : World} {K : PySem.W.Frag} {mg : Str → Option Value} {base : Heap}
abbrev s_points_of : Stmt := topS 11
abbrev n_points_of : List Str := ["many", "found", "k", "point", "bit"]
theorem sc_points_of : FnScope n_points_of ["many"] (defScope s_points_of) := ⟨rfl, rfl, rfl, by decide +kernel, rfl, by decide +kernel, by decide +kernel⟩
theorem ok_points_of {f : Addr} {fd : FuncData} (F : Fun K "points_of" "points_of" s_points_of f fd) (m_range : mg "range" = none) : FnOk P w K mg base CX0 (1 + 1) f fd ["many"] (spP K cPoints) := by
  refine fn_pure F sc_points_of (fun ds Φ ⟨many, hd, hm, hΦ⟩ => by rw [hd]; rfl) fun cdv A outer s0 H E hr ds Φ ⟨many, hd, hm, hΦ⟩ => ?_
  subst hd
  refine xs_cons (xs_asgV 1 (xv_lst (xl_cons (xv_tup xa_nil) xa_nil)) ?_ sc_points_of.nd)
  refine xs_loop (f := D.int) (xs := (rng 0 many)) (js := [2]) (fun k => [D.int k]) (fun n : Nat => [.pd (.int many), .pd (lT (tT D.int) (ptsN n)), .un, .un, .un]) (fun pre => pre.length) (xw_range1 (xl_cons (xv_var 0) xa_nil) (by omega) m_range (by omega)) (pg_name (i := 2) sc_points_of.nd rfl (by first | exact Or.inl rfl | exact Or.inr rfl)) (fun _ _ => gt_name) le_refl (fun pre k post hx => ?_) ?_ PassesOwn.never
  ·
    have hlen : pre.length < 3 := by
      have := congrArg List.length hx
      rw [rng_len, List.length_append, List.length_cons] at this
      omega
    have h8 := pow8 (n := pre.length) (by omega)
    have hl := ptsN_len pre.length
    have hl1 := ptsN_len (pre.length + 1)
    have h9 := pow8 (n := pre.length + 1) (by omega)
    refine xs_cons (xs_asgMap2 (f := (tT D.int)) (xs := ptsN pre.length) 1 [3] [4] (fun point => [(tT D.int) point]) (fun bit => [D.int bit]) D.int (fun point => [0, 1]) (tT D.int) (fun point bit => (point ++ [bit])) [("point", 3), ("bit", 4)] [4] (xw_listT (f := (tT D.int)) (xv_var 1)) (fun _ _ _ _ _ => pg_name (i := 3) sc_points_of.nd rfl (by first | exact Or.inl rfl | exact Or.inr rfl)) (fun _ _ => gt_name) (fun point hpoint _ _ _ _ _ => (xw_tupT (f := D.int) (xv_tup (xl_cons xv_int (xl_cons xv_int xa_nil))))) (fun _ _ _ _ _ => pg_name (i := 4) sc_points_of.nd rfl (by first | exact Or.inl rfl | exact Or.inr rfl)) (fun _ _ => (fun _ _ => gt_name)) (fun point hpoint bit hbit _ _ _ _ _ => (xv_catT (f := D.int) (xv_var 3) (xv_tup (hl := by simp) (xl_cons (xv_var 4) xa_nil)) (by have := ptsN_mem hpoint; simp; omega))) (by show (ptsN (pre.length + 1)).length < 100000; omega) ?_ (blkOk_by (N := n_points_of) (sc := defScope s_points_of) (by decide +kernel)) sc_points_of.nd (sw_true rfl rfl rfl (by decide +kernel)))
    refine xs_freeze 1 ?_
    refine xs_nil ?_
    rw [List.length_append]
    exact le_eq (le_eq (le_un (le_un (le_un le_nil))))
  ·
    refine xs_cons (xs_retV (xv_var 1) ?_)
    rw [rng_len, Int.sub_zero]
    exact hΦ
abbrev s_fits : Stmt := topS 12
theorem sc_fits : FnScope ["saying", "point", "kind", "first"] ["saying", "point"] (defScope s_fits) := ⟨rfl, rfl, rfl, by decide +kernel, rfl, by decide +kernel, by decide +kernel⟩
theorem ok_fits {f : Addr} {fd : FuncData} {n : Nat} (F : Fun K "fits" "fits" s_fits f fd) (G : Cal P w K mg base n "fits" ["saying", "point"] (spP K (cFits n))) : FnOk P w K mg base CX0 (n + 1) f fd ["saying", "point"] (spP K (cFits (n + 1))) := by
  refine fn_pure F sc_fits (fun ds Φ ⟨s, p, h, _⟩ => by rw [h]; rfl) fun cdv A outer s0 H E hr ds Φ ⟨s, p, hd, hn, hb, hΦ⟩ => ?_
  subst hd
  cases s with
  | letter i =>
    refine xs_cons (xs_asgV 2 (xv_ix ix_tup (v_ixT rfl) (xv_var 0) xv_int) ?_ sc_fits.nd)
    refine xs_cons (xs_if (xb_cmp op_eq v_eqS (xv_var 2) xv_str) (fun _ => ?_) (fun h => absurd h (by decide +kernel)))
    exact xs_cons (xs_retV (xv_cmp op_eq v_eqI (xv_ix ix_tup (v_ixTT (atI_getD hb.1 hb.2)) (xv_var 1) (xv_ix ix_tup (v_ixT rfl) (xv_var 0) xv_int)) xv_int) hΦ)
  | fls  =>
    refine xs_cons (xs_asgV 2 (xv_ix ix_tup (v_ixT rfl) (xv_var 0) xv_int) ?_ sc_fits.nd)
    refine xs_cons (xs_if (xb_cmp op_eq v_eqS (xv_var 2) xv_str) (fun h => absurd h (by decide +kernel)) (fun _ => xs_nil ?_))
    refine xs_cons (xs_if (xb_cmp op_eq v_eqS (xv_var 2) xv_str) (fun _ => ?_) (fun h => absurd h (by decide +kernel)))
    exact xs_cons (xs_retV xv_bl hΦ)
  | neg a =>
    refine xs_cons (xs_asgV 2 (xv_ix ix_tup (v_ixT rfl) (xv_var 0) xv_int) ?_ sc_fits.nd)
    refine xs_cons (xs_if (xb_cmp op_eq v_eqS (xv_var 2) xv_str) (fun h => absurd h (by decide +kernel)) (fun _ => xs_nil ?_))
    refine xs_cons (xs_if (xb_cmp op_eq v_eqS (xv_var 2) xv_str) (fun h => absurd h (by decide +kernel)) (fun _ => xs_nil ?_))
    refine xs_cons (xs_asgV 3 (xv_call G hr (xl_cons (xv_ix ix_tup (v_ixT rfl) (xv_var 0) xv_int) (xl_cons (xv_var 1) xa_nil)) ⟨a, p, rfl, by simp [Sy.dep] at hn; omega, hb, rfl⟩) ?_ sc_fits.nd)
    refine xs_cons (xs_if (xb_cmp op_eq v_eqS (xv_var 2) xv_str) (fun _ => ?_) (fun h => absurd h (by decide +kernel)))
    exact xs_cons (xs_retV (xv_not (xv_var 3)) hΦ)
  | and a b =>
    refine xs_cons (xs_asgV 2 (xv_ix ix_tup (v_ixT rfl) (xv_var 0) xv_int) ?_ sc_fits.nd)
    refine xs_cons (xs_if (xb_cmp op_eq v_eqS (xv_var 2) xv_str) (fun h => absurd h (by decide +kernel)) (fun _ => xs_nil ?_))
    refine xs_cons (xs_if (xb_cmp op_eq v_eqS (xv_var 2) xv_str) (fun h => absurd h (by decide +kernel)) (fun _ => xs_nil ?_))
    refine xs_cons (xs_asgV 3 (xv_call G hr (xl_cons (xv_ix ix_tup (v_ixT rfl) (xv_var 0) xv_int) (xl_cons (xv_var 1) xa_nil)) ⟨a, p, rfl, by simp [Sy.dep] at hn; omega, hb.1, rfl⟩) ?_ sc_fits.nd)
    refine xs_cons (xs_if (xb_cmp op_eq v_eqS (xv_var 2) xv_str) (fun h => absurd h (by decide +kernel)) (fun _ => xs_nil ?_))
    refine xs_cons (xs_if (xb_cmp op_eq v_eqS (xv_var 2) xv_str) (fun _ => ?_) (fun h => absurd h (by decide +kernel)))
    exact xs_cons (xs_retV (xv_and (xv_var 3) (fun _ => xv_one (xv_call G hr (xl_cons (xv_ix ix_tup (v_ixT rfl) (xv_var 0) xv_int) (xl_cons (xv_var 1) xa_nil)) ⟨b, p, rfl, by simp [Sy.dep] at hn; omega, hb.2, rfl⟩))) hΦ)
  | or a b =>
    refine xs_cons (xs_asgV 2 (xv_ix ix_tup (v_ixT rfl) (xv_var 0) xv_int) ?_ sc_fits.nd)
    refine xs_cons (xs_if (xb_cmp op_eq v_eqS (xv_var 2) xv_str) (fun h => absurd h (by decide +kernel)) (fun _ => xs_nil ?_))
    refine xs_cons (xs_if (xb_cmp op_eq v_eqS (xv_var 2) xv_str) (fun h => absurd h (by decide +kernel)) (fun _ => xs_nil ?_))
    refine xs_cons (xs_asgV 3 (xv_call G hr (xl_cons (xv_ix ix_tup (v_ixT rfl) (xv_var 0) xv_int) (xl_cons (xv_var 1) xa_nil)) ⟨a, p, rfl, by simp [Sy.dep] at hn; omega, hb.1, rfl⟩) ?_ sc_fits.nd)
    refine xs_cons (xs_if (xb_cmp op_eq v_eqS (xv_var 2) xv_str) (fun h => absurd h (by decide +kernel)) (fun _ => xs_nil ?_))
    refine xs_cons (xs_if (xb_cmp op_eq v_eqS (xv_var 2) xv_str) (fun h => absurd h (by decide +kernel)) (fun _ => xs_nil ?_))
    refine xs_cons (xs_if (xb_cmp op_eq v_eqS (xv_var 2) xv_str) (fun _ => ?_) (fun h => absurd h (by decide +kernel)))
    exact xs_cons (xs_retV (xv_or (xv_var 3) (fun _ => xv_one (xv_call G hr (xl_cons (xv_ix ix_tup (v_ixT rfl) (xv_var 0) xv_int) (xl_cons (xv_var 1) xa_nil)) ⟨b, p, rfl, by simp [Sy.dep] at hn; omega, hb.2, rfl⟩))) hΦ)
  | imp a b =>
    refine xs_cons (xs_asgV 2 (xv_ix ix_tup (v_ixT rfl) (xv_var 0) xv_int) ?_ sc_fits.nd)
    refine xs_cons (xs_if (xb_cmp op_eq v_eqS (xv_var 2) xv_str) (fun h => absurd h (by decide +kernel)) (fun _ => xs_nil ?_))
    refine xs_cons (xs_if (xb_cmp op_eq v_eqS (xv_var 2) xv_str) (fun h => absurd h (by decide +kernel)) (fun _ => xs_nil ?_))
    refine xs_cons (xs_asgV 3 (xv_call G hr (xl_cons (xv_ix ix_tup (v_ixT rfl) (xv_var 0) xv_int) (xl_cons (xv_var 1) xa_nil)) ⟨a, p, rfl, by simp [Sy.dep] at hn; omega, hb.1, rfl⟩) ?_ sc_fits.nd)
    refine xs_cons (xs_if (xb_cmp op_eq v_eqS (xv_var 2) xv_str) (fun h => absurd h (by decide +kernel)) (fun _ => xs_nil ?_))
    refine xs_cons (xs_if (xb_cmp op_eq v_eqS (xv_var 2) xv_str) (fun h => absurd h (by decide +kernel)) (fun _ => xs_nil ?_))
    refine xs_cons (xs_if (xb_cmp op_eq v_eqS (xv_var 2) xv_str) (fun h => absurd h (by decide +kernel)) (fun _ => xs_nil ?_))
    exact xs_cons (xs_retV (xv_or (xv_not (xv_var 3)) (fun _ => xv_one (xv_call G hr (xl_cons (xv_ix ix_tup (v_ixT rfl) (xv_var 0) xv_int) (xl_cons (xv_var 1) xa_nil)) ⟨b, p, rfl, by simp [Sy.dep] at hn; omega, hb.2, rfl⟩))) hΦ)
abbrev s_least_points : Stmt := topS 20
abbrev n_least_points : List Str := ["ranks", "saying", "many", "rows", "some", "k", "least"]
theorem sc_least_points : FnScope n_least_points ["ranks", "saying", "many"] (defScope s_least_points) := ⟨rfl, rfl, rfl, by decide +kernel, rfl, by decide +kernel, by decide +kernel⟩
theorem ok_least_points {f : Addr} {fd : FuncData} (F : Fun K "least_points" "least_points" s_least_points f fd) (c_fits : Cal P w K mg base 8 "fits" ["saying", "point"] (spP K (cFits 8))) (c_points_of : Cal P w K mg base 2 "points_of" ["many"] (spP K cPoints)) (m_len : mg "len" = none) (m_range : mg "range" = none) (m_min : mg "min" = none) : FnOk P w K mg base CX0 (9 + 1) f fd ["ranks", "saying", "many"] (spP K cLeast) := by
  refine fn_pure F sc_least_points (fun ds Φ ⟨ranks, s, many, hd, ⟨hm, hl, hsd, hsl⟩, hΦ⟩ => by rw [hd]; rfl) fun cdv A outer s0 H E hr ds Φ ⟨ranks, s, many, hd, ⟨hm, hl, hsd, hsl⟩, hΦ⟩ => ?_
  subst hd
  have h8 := points_len8 hm
  have m_some : ∀ {k : Int}, k ∈ someK s (points many) → 0 ≤ k ∧ k < (points many).length := fun h => ⟨(someK_mem h).1, (someK_mem h).2.1⟩
  have hsm := someK_len (s := s) (rows := points many)
  have hu65 := hu_65 hr
  refine xs_cons (xs_asgV 3 (xv_call c_points_of (hr.mono (by decide)) (xl_cons (xv_var 2) xa_nil) ⟨many, rfl, hm, rfl⟩) ?_ sc_least_points.nd)
  refine xs_cons (xs_asgLc (f := D.int) (xs := (rng 0 ((points many).length : Int))) 4 [5] (fun k => [D.int k]) (fun k => (fits s ((points many).getD (k).toNat []))) D.int (fun k => k) [("k", 5)] (xw_range1 (xl_cons (xv_lenLT (f := (tT D.int)) (xv_var 3) m_len) xa_nil) (by omega) m_range (by omega)) (fun _ _ _ _ _ => pg_name (i := 5) sc_least_points.nd rfl (by first | exact Or.inl rfl | exact Or.inr rfl)) (fun _ _ => gt_name) .one (fun k hk => jt_wb fun _ _ _ _ _ => (xb_val (xv_call c_fits (hr.mono (by decide)) (xl_cons (xv_var 1) (xl_cons (xv_ix ix_list (v_ixLT (f := (tT D.int)) (atI_getD (d := []) (by have mk := mem_rng.mp hk; omega) (by have mk := mem_rng.mp hk; omega))) (xv_var 3) (xv_var 5)) xa_nil)) ⟨s, ((points many).getD (k).toNat []), rfl, hsd, (by rw [points_mem hm (rows_mem (mem_rng.mp hk).1 (mem_rng.mp hk).2)]; exact hsl), rfl⟩))) (fun k hk pk _ _ _ _ _ => (xv_var 5)) (by rw [rng_len]; omega) ?_ (blkOk_by (N := n_least_points) (sc := defScope s_least_points) (by decide +kernel)) sc_least_points.nd (sw_true rfl rfl rfl (by decide +kernel)))
  refine xs_freeze 4 ?_
  refine xs_cons (xs_asgV 6 (xv_minD (xo_map (f := D.int) (xs := (someK s (points many))) [5] (fun k => [D.int k]) D.int (fun k => (ranks.getD (k).toNat 0)) [("k", 5)] (xw_listT (f := D.int) (xv_var 4)) (fun _ _ _ _ _ => pg_name (i := 5) sc_least_points.nd rfl (by first | exact Or.inl rfl | exact Or.inr rfl)) (fun _ _ => gt_name) (fun k hk _ _ _ _ _ => (xv_ix ix_tup (v_ixTT (f := D.int) (atI_getD (by have mk := m_some hk; omega) (by have mk := m_some hk; omega))) (xv_var 0) (xv_var 5))) (by omega) (blkOk_by (N := n_least_points) (sc := defScope s_least_points) (by decide +kernel)) sc_least_points.nd).frz xv_int m_min hu65 (pk_cons pe_wp pk_nil)) ?_ sc_least_points.nd)
  exact xs_cons (xs_retV (xo_lc (f := D.int) (xs := (someK s (points many))) [5] (fun k => [D.int k]) (fun k => (decide ((ranks.getD (k).toNat 0) = (leastR ranks s (points many))))) (tT D.int) (fun k => ((points many).getD (k).toNat [])) [("k", 5)] (xw_listT (f := D.int) (xv_var 4)) (fun _ _ _ _ _ => pg_name (i := 5) sc_least_points.nd rfl (by first | exact Or.inl rfl | exact Or.inr rfl)) (fun _ _ => gt_name) .one (fun k hk => jt_wb fun _ _ _ _ _ => (xb_cmp op_eq v_eqI (xv_ix ix_tup (v_ixTT (f := D.int) (atI_getD (by have mk := m_some hk; omega) (by have mk := m_some hk; omega))) (xv_var 0) (xv_var 5)) (xv_var 6))) (fun k hk pk _ _ _ _ _ => (xv_ix ix_list (v_ixLT (f := (tT D.int)) (atI_getD (d := []) (by have mk := m_some hk; omega) (by have mk := m_some hk; omega))) (xv_var 3) (xv_var 5))) (by omega) (blkOk_by (N := n_least_points) (sc := defScope s_least_points) (by decide +kernel)) sc_least_points.nd).frz hΦ)
abbrev s_holds : Stmt := topS 21
abbrev n_holds : List Str := ["ranks", "rule", "many", "point"]
theorem sc_holds : FnScope n_holds ["ranks", "rule", "many"] (defScope s_holds) := ⟨rfl, rfl, rfl, by decide +kernel, rfl, by decide +kernel, by decide +kernel⟩
theorem ok_holds {f : Addr} {fd : FuncData} (F : Fun K "holds" "holds" s_holds f fd) (c_fits : Cal P w K mg base 8 "fits" ["saying", "point"] (spP K (cFits 8))) (c_least_points : Cal P w K mg base 10 "least_points" ["ranks", "saying", "many"] (spP K cLeast)) (m_all : mg "all" = none) : FnOk P w K mg base CX0 (10 + 1) f fd ["ranks", "rule", "many"] (spP K cHolds) := by
  refine fn_pure F sc_holds (fun ds Φ ⟨ranks, r, many, hd, ⟨hm, hl, ha, hb⟩, hΦ⟩ => by rw [hd]; rfl) fun cdv A outer s0 H E hr ds Φ ⟨ranks, r, many, hd, ⟨hm, hl, ha, hb⟩, hΦ⟩ => ?_
  subst hd
  have h8 := points_len8 hm
  have hpl := leastP_len (ranks := ranks) (s := r.1) (many := many)
  have hpm : ∀ p ∈ leastP ranks r.1 many, p ∈ points many := leastP_mem
  exact xs_cons (xs_retV (xv_all (xo_map (f := (tT D.int)) (xs := (leastP ranks r.1 many)) [3] (fun point => [(tT D.int) point]) D.bl (fun point => (fits r.2 point)) [("point", 3)] (xw_listT (f := (tT D.int)) (xv_call c_least_points (hr.mono (by decide)) (xl_cons (xv_var 0) (xl_cons (xv_ix ix_tup (v_ixT (f := eS r.1) rfl) (xv_var 1) xv_int) (xl_cons (xv_var 2) xa_nil))) ⟨ranks, r.1, many, rfl, ⟨hm, hl, ha⟩, rfl⟩)) (fun _ _ _ _ _ => pg_name (i := 3) sc_holds.nd rfl (by first | exact Or.inl rfl | exact Or.inr rfl)) (fun _ _ => gt_name) (fun point hpoint _ _ _ _ _ => (xv_call c_fits (hr.mono (by decide)) (xl_cons (xv_ix ix_tup (v_ixT (f := eS r.2) rfl) (xv_var 1) xv_int) (xl_cons (xv_var 3) xa_nil)) ⟨r.2, point, rfl, hb.1, (by rw [points_mem hm (hpm _ hpoint)]; exact hb.2), rfl⟩)) (by omega) (blkOk_by (N := n_holds) (sc := defScope s_holds) (by decide +kernel)) sc_holds.nd).frz m_all) hΦ)
abbrev s_law_points : Stmt := topS 32
abbrev n_law_points : List Str := ["many", "found", "k", "one"]
theorem sc_law_points : FnScope n_law_points ["many"] (defScope s_law_points) := ⟨rfl, rfl, rfl, by decide +kernel, rfl, by decide +kernel, by decide +kernel⟩
theorem ok_law_points {f : Addr} {fd : FuncData} (F : Fun K "_law_points" "_law_points" s_law_points f fd) (m_range : mg "range" = none) (m_sorted : mg "sorted" = none) : FnOk P w K mg base CX0 (1 + 1) f fd ["many"] (spP K cPoints) := by
  refine fn_pure F sc_law_points (fun ds Φ ⟨many, hd, hm, hΦ⟩ => by rw [hd]; rfl) fun cdv A outer s0 H E hr ds Φ ⟨many, hd, hm, hΦ⟩ => ?_
  subst hd
  refine xs_cons (xs_asgV 1 (xv_lst (xl_cons (xv_tup xa_nil) xa_nil) (by simp)) ?_ sc_law_points.nd)
  refine xs_loop (f := D.int) (xs := (rng 0 many)) (js := [2]) (fun k => [D.int k]) (fun n : Nat => [.pd (.int many), .pd (lT (tT D.int) (lpN n)), .un, .un]) (fun pre => pre.length) (xw_range1 (xl_cons (xv_var 0) xa_nil) (by omega) m_range (by omega)) (pg_name (i := 2) sc_law_points.nd rfl (by first | exact Or.inl rfl | exact Or.inr rfl)) (fun _ _ => gt_name) le_refl (fun pre k post hx => ?_) ?_ PassesOwn.never
  ·
    have hlen : pre.length < 3 := by
      have := congrArg List.length hx
      rw [rng_len, List.length_append, List.length_cons] at this
      omega
    have h8 := pow8 (n := pre.length) (by omega)
    have hl := lpN_len pre.length
    have hl1 := lpN_len (pre.length + 1)
    have h9 := pow8 (n := pre.length + 1) (by omega)
    refine xs_cons (xs_asgV 1 (xo_catL (f := (tT D.int)) (xo_map (f := (tT D.int)) (xs := lpN pre.length) [3] (fun one => [(tT D.int) one]) (tT D.int) (fun one => (one ++ [0])) [("one", 3)] (xw_listT (f := (tT D.int)) (xv_var 1)) (fun _ _ _ _ _ => pg_name (i := 3) sc_law_points.nd rfl (by first | exact Or.inl rfl | exact Or.inr rfl)) (fun _ _ => gt_name) (fun one hone _ _ _ _ _ => (xv_catT (f := D.int) (xv_var 3) (xv_tup (xl_cons xv_int xa_nil)) (by have := lpN_mem hone; simp; omega))) (by omega) (blkOk_by (N := n_law_points) (sc := defScope s_law_points) (by decide +kernel)) sc_law_points.nd).frz (xo_map (f := (tT D.int)) (xs := lpN pre.length) [3] (fun one => [(tT D.int) one]) (tT D.int) (fun one => (one ++ [1])) [("one", 3)] (xw_listT (f := (tT D.int)) (xv_var 1)) (fun _ _ _ _ _ => pg_name (i := 3) sc_law_points.nd rfl (by first | exact Or.inl rfl | exact Or.inr rfl)) (fun _ _ => gt_name) (fun one hone _ _ _ _ _ => (xv_catT (f := D.int) (xv_var 3) (xv_tup (xl_cons xv_int xa_nil)) (by have := lpN_mem hone; simp; omega))) (by omega) (blkOk_by (N := n_law_points) (sc := defScope s_law_points) (by decide +kernel)) sc_law_points.nd).frz (by simp; omega)).frz ?_ sc_law_points.nd)
    refine xs_nil ?_
    rw [List.length_append]
    exact le_eq (le_eq (le_un (le_un le_nil)))
  ·
    rw [rng_len, Int.sub_zero]
    have hu65 := hu_65 hr
    exact xs_cons (xs_retV (xo_sorted (f := (tT D.int)) (xv_var 1) (so_tup fun x hx => by have := lpN_mem hx; intro e; rw [e] at this; simp at this; omega) hu65 m_sorted).frz (by rw [lp_sorted (by omega) (by omega)]; exact hΦ))
abbrev s_law_fits : Stmt := topS 33
theorem sc_law_fits : FnScope ["saying", "point", "kind", "first", "second"] ["saying", "point"] (defScope s_law_fits) := ⟨rfl, rfl, rfl, by decide +kernel, rfl, by decide +kernel, by decide +kernel⟩
theorem ok_law_fits {f : Addr} {fd : FuncData} {n : Nat} (F : Fun K "_law_fits" "_law_fits" s_law_fits f fd) (G : Cal P w K mg base n "_law_fits" ["saying", "point"] (spP K (cFits n))) : FnOk P w K mg base CX0 (n + 1) f fd ["saying", "point"] (spP K (cFits (n + 1))) := by
  refine fn_pure F sc_law_fits (fun ds Φ ⟨s, p, h, _⟩ => by rw [h]; rfl) fun cdv A outer s0 H E hr ds Φ ⟨s, p, hd, hn, hb, hΦ⟩ => ?_
  subst hd
  cases s with
  | letter i =>
    refine xs_cons (xs_asgV 2 (xv_ix ix_tup (v_ixT rfl) (xv_var 0) xv_int) ?_ sc_law_fits.nd)
    refine xs_cons (xs_if (xb_cmp op_eq v_eqS (xv_var 2) xv_str) (fun _ => ?_) (fun h => absurd h (by decide +kernel)))
    exact xs_cons (xs_retV (xv_cmp op_eq v_eqI (xv_ix ix_tup (v_ixTT (atI_getD hb.1 hb.2)) (xv_var 1) (xv_ix ix_tup (v_ixT rfl) (xv_var 0) xv_int)) xv_int) hΦ)
  | fls  =>
    refine xs_cons (xs_asgV 2 (xv_ix ix_tup (v_ixT rfl) (xv_var 0) xv_int) ?_ sc_law_fits.nd)
    refine xs_cons (xs_if (xb_cmp op_eq v_eqS (xv_var 2) xv_str) (fun h => absurd h (by decide +kernel)) (fun _ => xs_nil ?_))
    refine xs_cons (xs_if (xb_cmp op_eq v_eqS (xv_var 2) xv_str) (fun _ => ?_) (fun h => absurd h (by decide +kernel)))
    exact xs_cons (xs_retV xv_bl hΦ)
  | neg a =>
    refine xs_cons (xs_asgV 2 (xv_ix ix_tup (v_ixT rfl) (xv_var 0) xv_int) ?_ sc_law_fits.nd)
    refine xs_cons (xs_if (xb_cmp op_eq v_eqS (xv_var 2) xv_str) (fun h => absurd h (by decide +kernel)) (fun _ => xs_nil ?_))
    refine xs_cons (xs_if (xb_cmp op_eq v_eqS (xv_var 2) xv_str) (fun h => absurd h (by decide +kernel)) (fun _ => xs_nil ?_))
    refine xs_cons (xs_asgV 3 (xv_call G hr (xl_cons (xv_ix ix_tup (v_ixT rfl) (xv_var 0) xv_int) (xl_cons (xv_var 1) xa_nil)) ⟨a, p, rfl, by simp [Sy.dep] at hn; omega, hb, rfl⟩) ?_ sc_law_fits.nd)
    refine xs_cons (xs_if (xb_cmp op_eq v_eqS (xv_var 2) xv_str) (fun _ => ?_) (fun h => absurd h (by decide +kernel)))
    exact xs_cons (xs_retV (xv_not (xv_var 3)) hΦ)
  | and a b =>
    refine xs_cons (xs_asgV 2 (xv_ix ix_tup (v_ixT rfl) (xv_var 0) xv_int) ?_ sc_law_fits.nd)
    refine xs_cons (xs_if (xb_cmp op_eq v_eqS (xv_var 2) xv_str) (fun h => absurd h (by decide +kernel)) (fun _ => xs_nil ?_))
    refine xs_cons (xs_if (xb_cmp op_eq v_eqS (xv_var 2) xv_str) (fun h => absurd h (by decide +kernel)) (fun _ => xs_nil ?_))
    refine xs_cons (xs_asgV 3 (xv_call G hr (xl_cons (xv_ix ix_tup (v_ixT rfl) (xv_var 0) xv_int) (xl_cons (xv_var 1) xa_nil)) ⟨a, p, rfl, by simp [Sy.dep] at hn; omega, hb.1, rfl⟩) ?_ sc_law_fits.nd)
    refine xs_cons (xs_if (xb_cmp op_eq v_eqS (xv_var 2) xv_str) (fun h => absurd h (by decide +kernel)) (fun _ => xs_nil ?_))
    refine xs_cons (xs_asgV 4 (xv_call G hr (xl_cons (xv_ix ix_tup (v_ixT rfl) (xv_var 0) xv_int) (xl_cons (xv_var 1) xa_nil)) ⟨b, p, rfl, by simp [Sy.dep] at hn; omega, hb.2, rfl⟩) ?_ sc_law_fits.nd)
    refine xs_cons (xs_if (xb_cmp op_eq v_eqS (xv_var 2) xv_str) (fun _ => ?_) (fun h => absurd h (by decide +kernel)))
    exact xs_cons (xs_retV (xv_and (xv_var 3) (fun _ => xv_one (xv_var 4))) hΦ)
  | or a b =>
    refine xs_cons (xs_asgV 2 (xv_ix ix_tup (v_ixT rfl) (xv_var 0) xv_int) ?_ sc_law_fits.nd)
    refine xs_cons (xs_if (xb_cmp op_eq v_eqS (xv_var 2) xv_str) (fun h => absurd h (by decide +kernel)) (fun _ => xs_nil ?_))
    refine xs_cons (xs_if (xb_cmp op_eq v_eqS (xv_var 2) xv_str) (fun h => absurd h (by decide +kernel)) (fun _ => xs_nil ?_))
    refine xs_cons (xs_asgV 3 (xv_call G hr (xl_cons (xv_ix ix_tup (v_ixT rfl) (xv_var 0) xv_int) (xl_cons (xv_var 1) xa_nil)) ⟨a, p, rfl, by simp [Sy.dep] at hn; omega, hb.1, rfl⟩) ?_ sc_law_fits.nd)
    refine xs_cons (xs_if (xb_cmp op_eq v_eqS (xv_var 2) xv_str) (fun h => absurd h (by decide +kernel)) (fun _ => xs_nil ?_))
    refine xs_cons (xs_asgV 4 (xv_call G hr (xl_cons (xv_ix ix_tup (v_ixT rfl) (xv_var 0) xv_int) (xl_cons (xv_var 1) xa_nil)) ⟨b, p, rfl, by simp [Sy.dep] at hn; omega, hb.2, rfl⟩) ?_ sc_law_fits.nd)
    refine xs_cons (xs_if (xb_cmp op_eq v_eqS (xv_var 2) xv_str) (fun h => absurd h (by decide +kernel)) (fun _ => xs_nil ?_))
    refine xs_cons (xs_if (xb_cmp op_eq v_eqS (xv_var 2) xv_str) (fun _ => ?_) (fun h => absurd h (by decide +kernel)))
    exact xs_cons (xs_retV (xv_or (xv_var 3) (fun _ => xv_one (xv_var 4))) hΦ)
  | imp a b =>
    refine xs_cons (xs_asgV 2 (xv_ix ix_tup (v_ixT rfl) (xv_var 0) xv_int) ?_ sc_law_fits.nd)
    refine xs_cons (xs_if (xb_cmp op_eq v_eqS (xv_var 2) xv_str) (fun h => absurd h (by decide +kernel)) (fun _ => xs_nil ?_))
    refine xs_cons (xs_if (xb_cmp op_eq v_eqS (xv_var 2) xv_str) (fun h => absurd h (by decide +kernel)) (fun _ => xs_nil ?_))
    refine xs_cons (xs_asgV 3 (xv_call G hr (xl_cons (xv_ix ix_tup (v_ixT rfl) (xv_var 0) xv_int) (xl_cons (xv_var 1) xa_nil)) ⟨a, p, rfl, by simp [Sy.dep] at hn; omega, hb.1, rfl⟩) ?_ sc_law_fits.nd)
    refine xs_cons (xs_if (xb_cmp op_eq v_eqS (xv_var 2) xv_str) (fun h => absurd h (by decide +kernel)) (fun _ => xs_nil ?_))
    refine xs_cons (xs_asgV 4 (xv_call G hr (xl_cons (xv_ix ix_tup (v_ixT rfl) (xv_var 0) xv_int) (xl_cons (xv_var 1) xa_nil)) ⟨b, p, rfl, by simp [Sy.dep] at hn; omega, hb.2, rfl⟩) ?_ sc_law_fits.nd)
    refine xs_cons (xs_if (xb_cmp op_eq v_eqS (xv_var 2) xv_str) (fun h => absurd h (by decide +kernel)) (fun _ => xs_nil ?_))
    refine xs_cons (xs_if (xb_cmp op_eq v_eqS (xv_var 2) xv_str) (fun h => absurd h (by decide +kernel)) (fun _ => xs_nil ?_))
    exact xs_cons (xs_retV (xv_or (xv_var 4) (fun _ => xv_one (xv_not (xv_var 3)))) (by show Φ (.bl (fits b p || !fits a p)); rw [Bool.or_comm]; exact hΦ))
abbrev s_law_holds : Stmt := topS 35
abbrev n_law_holds : List Str := ["ranks", "rule", "many", "rows", "some", "k", "least"]
theorem sc_law_holds : FnScope n_law_holds ["ranks", "rule", "many"] (defScope s_law_holds) := ⟨rfl, rfl, rfl, by decide +kernel, rfl, by decide +kernel, by decide +kernel⟩
theorem ok_law_holds {f : Addr} {fd : FuncData} (F : Fun K "_law_holds" "_law_holds" s_law_holds f fd) (c_law_fits : Cal P w K mg base 8 "_law_fits" ["saying", "point"] (spP K (cFits 8))) (c_law_points : Cal P w K mg base 2 "_law_points" ["many"] (spP K cPoints)) (m_len : mg "len" = none) (m_range : mg "range" = none) (m_min : mg "min" = none) : FnOk P w K mg base CX0 (9 + 1) f fd ["ranks", "rule", "many"] (spP K cLHolds) := by
  refine fn_pure F sc_law_holds (fun ds Φ ⟨ranks, r, many, hd, ⟨hm, hl, ha, hb⟩, hΦ⟩ => by rw [hd]; rfl) fun cdv A outer s0 H E hr ds Φ ⟨ranks, r, many, hd, ⟨hm, hl, ha, hb⟩, hΦ⟩ => ?_
  subst hd
  have h8 := points_len8 hm
  have m_some : ∀ {k : Int}, k ∈ someK r.1 (points many) → 0 ≤ k ∧ k < (points many).length := fun h => ⟨(someK_mem h).1, (someK_mem h).2.1⟩
  have hsm := someK_len (s := r.1) (rows := points many)
  have hu65 := hu_65 hr
  have hu64 := hu_64 hr
  refine xs_cons (xs_asgV 3 (xv_call c_law_points (hr.mono (by decide)) (xl_cons (xv_var 2) xa_nil) ⟨many, rfl, hm, rfl⟩) ?_ sc_law_holds.nd)
  refine xs_cons (xs_asgLc (f := D.int) (xs := (rng 0 ((points many).length : Int))) 4 [5] (fun k => [D.int k]) (fun k => (fits r.1 ((points many).getD (k).toNat []))) D.int (fun k => k) [("k", 5)] (xw_range1 (xl_cons (xv_lenLT (f := (tT D.int)) (xv_var 3) m_len) xa_nil) (by omega) m_range (by omega)) (fun _ _ _ _ _ => pg_name (i := 5) sc_law_holds.nd rfl (by first | exact Or.inl rfl | exact Or.inr rfl)) (fun _ _ => gt_name) .one (fun k hk => jt_wb fun _ _ _ _ _ => (xb_val (xv_call c_law_fits (hr.mono (by decide)) (xl_cons (xv_ix ix_tup (v_ixT (f := eS r.1) rfl) (xv_var 1) xv_int) (xl_cons (xv_ix ix_list (v_ixLT (f := (tT D.int)) (atI_getD (d := []) (by have mk := mem_rng.mp hk; omega) (by have mk := mem_rng.mp hk; omega))) (xv_var 3) (xv_var 5)) xa_nil)) ⟨r.1, ((points many).getD (k).toNat []), rfl, ha.1, (by rw [points_mem hm (rows_mem (mem_rng.mp hk).1 (mem_rng.mp hk).2)]; exact ha.2), rfl⟩))) (fun k hk pk _ _ _ _ _ => (xv_var 5)) (by rw [rng_len]; omega) ?_ (blkOk_by (N := n_law_holds) (sc := defScope s_law_holds) (by decide +kernel)) sc_law_holds.nd (sw_true rfl rfl rfl (by decide +kernel)))
  refine xs_freeze 4 ?_
  refine xs_cons (xs_if (xb_cmp (op_eqD hu64) (v_eq (f := (lT D.int))) (xv_var 4) xv_nilL) (fun h1 => ?_) (fun h1 => ?_))
  ·
    exact xs_cons (xs_retV xv_bl (by have hc : someK r.1 (points many) = [] := of_decide_eq_true h1.symm; rw [lholds, if_pos hc] at hΦ; exact hΦ))
  ·
    refine xs_nil ?_
    refine xs_cons (xs_asgV 6 (xv_min (xo_map (f := D.int) (xs := (someK r.1 (points many))) [5] (fun k => [D.int k]) D.int (fun k => (ranks.getD (k).toNat 0)) [("k", 5)] (xw_listT (f := D.int) (xv_var 4)) (fun _ _ _ _ _ => pg_name (i := 5) sc_law_holds.nd rfl (by first | exact Or.inl rfl | exact Or.inr rfl)) (fun _ _ => gt_name) (fun k hk _ _ _ _ _ => (xv_ix ix_tup (v_ixTT (f := D.int) (atI_getD (by have mk := m_some hk; omega) (by have mk := m_some hk; omega))) (xv_var 0) (xv_var 5))) (by omega) (blkOk_by (N := n_law_holds) (sc := defScope s_law_holds) (by decide +kernel)) sc_law_holds.nd).frz (by intro e; exact of_decide_eq_false h1.symm (List.map_eq_nil_iff.mp e)) m_min) ?_ sc_law_holds.nd)
    exact xs_cons (xs_retV (xv_cmp (op_eqD hu64) (v_eq (f := (lT D.int))) (xo_lc (f := D.int) (xs := (someK r.1 (points many))) [5] (fun k => [D.int k]) (fun k => ((decide ((ranks.getD (k).toNat 0) = (lmin ((someK r.1 (points many)).map fun k => ranks.getD k.toNat 0)))) && (!(fits r.2 ((points many).getD (k).toNat []))))) D.int (fun k => 1) [("k", 5)] (xw_listT (f := D.int) (xv_var 4)) (fun _ _ _ _ _ => pg_name (i := 5) sc_law_holds.nd rfl (by first | exact Or.inl rfl | exact Or.inr rfl)) (fun _ _ => gt_name) .one (fun k hk => jt_wb fun _ _ _ _ _ => (xt_w (xb_and (xb_cmp op_eq v_eqI (xv_ix ix_tup (v_ixTT (f := D.int) (atI_getD (by have mk := m_some hk; omega) (by have mk := m_some hk; omega))) (xv_var 0) (xv_var 5)) (xv_var 6)) (fun _ => (xw_and1 (xb_not (xb_val (xv_call c_law_fits (hr.mono (by decide)) (xl_cons (xv_ix ix_tup (v_ixT (f := eS r.2) rfl) (xv_var 1) xv_int) (xl_cons (xv_ix ix_list (v_ixLT (f := (tT D.int)) (atI_getD (d := []) (by have mk := m_some hk; omega) (by have mk := m_some hk; omega))) (xv_var 3) (xv_var 5)) xa_nil)) ⟨r.2, ((points many).getD (k).toNat []), rfl, hb.1, (by rw [points_mem hm (rows_mem (m_some hk).1 (m_some hk).2)]; exact hb.2), rfl⟩)))))))) (fun k hk pk _ _ _ _ _ => xv_int) (by omega) (blkOk_by (N := n_law_holds) (sc := defScope s_law_holds) (by decide +kernel)) sc_law_holds.nd).frz xv_nilL) (by have hc : ¬ someK r.1 (points many) = [] := of_decide_eq_false h1.symm; rw [lholds, if_neg hc] at hΦ; exact hΦ))
end
end K83

namespace K83
open PySem PySem.Spec PyProof.Rows L2 Evl DL WB
section
variable {P : Program} {w : World} {K : PySem.W.Frag} {mg : Str → Option Value} {base : Heap}
abbrev s_points_where : Stmt := topS 13
abbrev n_points_where : List Str := ["saying", "many", "point"]
theorem sc_points_where : FnScope n_points_where ["saying", "many"] (defScope s_points_where) := ⟨rfl, rfl, rfl, by decide +kernel, rfl, by decide +kernel, by decide +kernel⟩
theorem ok_points_where {f : Addr} {fd : FuncData} (F : Fun K "points_where" "points_where" s_points_where f fd) (c_fits : Cal P w K mg base 8 "fits" ["saying", "point"] (spP K (cFits 8))) (c_points_of : Cal P w K mg base 2 "points_of" ["many"] (spP K cPoints)) : FnOk P w K mg base CX0 (9 + 1) f fd ["saying", "many"] (spP K cPw) := by
  refine fn_pure F sc_points_where (fun ds Φ ⟨s, many, hd, ⟨hm, hsd, hsl⟩, hΦ⟩ => by rw [hd]; rfl) fun cdv A outer s0 H E hr ds Φ ⟨s, many, hd, ⟨hm, hsd, hsl⟩, hΦ⟩ => ?_
  subst hd
  have h8 := points_len8 hm
  exact xs_cons (xs_retV (xo_lc (f := (tT D.int)) (xs := (points many)) [2] (fun point => [(tT D.int) point]) (fun point => (fits s point)) (tT D.int) (fun point => point) [("point", 2)] (xw_listT (f := (tT D.int)) (xv_call c_points_of (hr.mono (by decide)) (xl_cons (xv_var 1) xa_nil) ⟨many, rfl, hm, rfl⟩)) (fun _ _ _ _ _ => pg_name (i := 2) sc_points_where.nd rfl (by first | exact Or.inl rfl | exact Or.inr rfl)) (fun _ _ => gt_name) .one (fun point hpoint => jt_wb fun _ _ _ _ _ => (xb_val (xv_call c_fits (hr.mono (by decide)) (xl_cons (xv_var 0) (xl_cons (xv_var 2) xa_nil)) ⟨s, point, rfl, hsd, (by rw [points_mem hm hpoint]; exact hsl), rfl⟩))) (fun point hpoint ppoint _ _ _ _ _ => (xv_var 2)) (by omega) (blkOk_by (N := n_points_where) (sc := defScope s_points_where) (by decide +kernel)) sc_points_where.nd).frz (by rw [List.map_id']; exact hΦ))
abbrev s_breaks : Stmt := topS 14
abbrev n_breaks : List Str := ["rule", "point"]
theorem sc_breaks : FnScope n_breaks ["rule", "point"] (defScope s_breaks) := ⟨rfl, rfl, rfl, by decide +kernel, rfl, by decide +kernel, by decide +kernel⟩
theorem ok_breaks {f : Addr} {fd : FuncData} (F : Fun K "breaks" "breaks" s_breaks f fd) (c_fits : Cal P w K mg base 8 "fits" ["saying", "point"] (spP K (cFits 8))) : FnOk P w K mg base CX0 (8 + 1) f fd ["rule", "point"] (spP K cBreaks) := by
  refine fn_pure F sc_breaks (fun ds Φ ⟨r, p, hd, ⟨ha, hb⟩, hΦ⟩ => by rw [hd]; rfl) fun cdv A outer s0 H E hr ds Φ ⟨r, p, hd, ⟨ha, hb⟩, hΦ⟩ => ?_
  subst hd
  exact xs_cons (xs_retV (xv_and (xv_call c_fits (hr.mono (by decide)) (xl_cons (xv_ix ix_tup (v_ixT (f := eS r.1) rfl) (xv_var 0) xv_int) (xl_cons (xv_var 1) xa_nil)) ⟨r.1, p, rfl, ha.1, ha.2, rfl⟩) (fun _ => (xv_one (xv_not (xv_call c_fits (hr.mono (by decide)) (xl_cons (xv_ix ix_tup (v_ixT (f := eS r.2) rfl) (xv_var 0) xv_int) (xl_cons (xv_var 1) xa_nil)) ⟨r.2, p, rfl, hb.1, hb.2, rfl⟩))))) hΦ)
abbrev s_tolerating : Stmt := topS 15
abbrev n_tolerating : List Str := ["rule", "rules", "many", "point", "one"]
theorem sc_tolerating : FnScope n_tolerating ["rule", "rules", "many"] (defScope s_tolerating) := ⟨rfl, rfl, rfl, by decide +kernel, rfl, by decide +kernel, by decide +kernel⟩
theorem ok_tolerating {f : Addr} {fd : FuncData} (F : Fun K "tolerating" "tolerating" s_tolerating f fd) (c_fits : Cal P w K mg base 8 "fits" ["saying", "point"] (spP K (cFits 8))) (c_points_of : Cal P w K mg base 2 "points_of" ["many"] (spP K cPoints)) (c_breaks : Cal P w K mg base 9 "breaks" ["rule", "point"] (spP K cBreaks)) (m_any : mg "any" = none) : FnOk P w K mg base CX0 (9 + 1) f fd ["rule", "rules", "many"] (spP K cTol) := by
  refine fn_pure F sc_tolerating (fun ds Φ ⟨r, rules, many, hd, ⟨hm, hr1, hrs⟩, hΦ⟩ => by rw [hd]; rfl) fun cdv A outer s0 H E hr ds Φ ⟨r, rules, many, hd, ⟨hm, hr1, hrs⟩, hΦ⟩ => ?_
  subst hd
  have h8 := points_len8 hm
  have hrl := hrs.1
  refine xs_loopP (f := (tT D.int)) (xs := (points many)) (js := [3]) (fun point => [(tT D.int) point]) (fun n : Nat => stG n_tolerating [.pd (pT eS eS r), .pd (lT (pT eS eS) rules), .pd (.int many)]) (fun pre => pre.length) (fun pre => ∀ p ∈ pre, tolB r rules p = false) (xw_listT (f := (tT D.int)) (xv_call c_points_of (hr.mono (by decide)) (xl_cons (xv_var 2) xa_nil) ⟨many, rfl, hm, rfl⟩)) (pg_name (i := 3) sc_tolerating.nd rfl (by first | exact Or.inl rfl | exact Or.inr rfl)) (fun _ _ => gt_name) le_refl (fun p hp => nomatch hp) (fun pre point post hx hiv => ?_) (fun hiv => ?_) PassesOwn.never
  ·
    have hpm : point ∈ points many := by rw [hx]; simp
    have hpl := points_mem hm hpm
    refine xs_cons (xs_if (xt_w (xb_and (xb_val (xv_call c_fits (hr.mono (by decide)) (xl_cons (xv_ix ix_tup (v_ixT (f := eS r.1) rfl) (xv_var 0) xv_int) (xl_cons (xv_var 3) xa_nil)) ⟨r.1, point, rfl, hr1.1.1, (by rw [hpl]; exact hr1.1.2), rfl⟩)) (fun _ => (xb_and (xb_val (xv_call c_fits (hr.mono (by decide)) (xl_cons (xv_ix ix_tup (v_ixT (f := eS r.2) rfl) (xv_var 0) xv_int) (xl_cons (xv_var 3) xa_nil)) ⟨r.2, point, rfl, hr1.2.1, (by rw [hpl]; exact hr1.2.2), rfl⟩)) (fun _ => (xw_and1 (xb_not (xb_val (xv_any (xo_map (f := (pT eS eS)) (xs := rules) [4] (fun one => [(pT eS eS) one]) D.bl (fun one => (breaks one point)) [("one", 4)] (xw_listT (f := (pT eS eS)) (xv_var 1)) (fun _ _ _ _ _ => pg_name (i := 4) sc_tolerating.nd rfl (by first | exact Or.inl rfl | exact Or.inr rfl)) (fun _ _ => gt_name) (fun one hone _ _ _ _ _ => (xv_call c_breaks (hr.mono (by decide)) (xl_cons (xv_var 4) (xl_cons (xv_var 3) xa_nil)) ⟨one, point, rfl, (by rw [hpl]; exact hrs.2 one hone), rfl⟩)) (by omega) (blkOk_by (N := n_tolerating) (sc := defScope s_tolerating) (by decide +kernel)) sc_tolerating.nd).frz m_any))))))))) (fun h1 => ?_) (fun h1 => ?_))
    ·
      exact xs_cons (xs_retV (xv_var 3) (by
          have e : tol r rules many = some point := by
            unfold tol
            rw [hx, List.find?_append, List.find?_eq_none.mpr (fun p hp => by rw [hiv p hp]; exact Bool.noConfusion), Option.none_or, List.find?_cons_of_pos (show tolB r rules point = true from h1.symm)]
          rw [e] at hΦ
          exact hΦ))
    ·
      refine xs_nil ?_
      exact xs_nil ⟨(by repeat (first | exact le_nil | refine le_eq ?_ | refine le_un ?_)), fun p hp => by
        rcases List.mem_append.mp hp with hp | hp
        · exact hiv p hp
        · rw [List.mem_singleton.mp hp]; exact h1.symm⟩
  ·
    exact xs_cons (xs_retV xv_non (by
      have e : tol r rules many = none := List.find?_eq_none.mpr (fun p hp => by rw [hiv p hp]; exact Bool.noConfusion)
      rw [e] at hΦ
      exact hΦ))
abbrev s_is_free : Stmt := topS 16
abbrev n_is_free : List Str := ["rule", "rules", "many"]
theorem sc_is_free : FnScope n_is_free ["rule", "rules", "many"] (defScope s_is_free) := ⟨rfl, rfl, rfl, by decide +kernel, rfl, by decide +kernel, by decide +kernel⟩
theorem ok_is_free {f : Addr} {fd : FuncData} (F : Fun K "is_free" "is_free" s_is_free f fd) (c_points_where : Cal P w K mg base 10 "points_where" ["saying", "many"] (spP K cPw)) (c_tolerating : Cal P w K mg base 10 "tolerating" ["rule", "rules", "many"] (spP K cTol)) (m_len : mg "len" = none) : FnOk P w K mg base CX0 (10 + 1) f fd ["rule", "rules", "many"] (spP K cFree) := by
  refine fn_pure F sc_is_free (fun ds Φ ⟨r, rules, many, hd, ⟨hm, hr1, hrs⟩, hΦ⟩ => by rw [hd]; rfl) fun cdv A outer s0 H E hr ds Φ ⟨r, rules, many, hd, ⟨hm, hr1, hrs⟩, hΦ⟩ => ?_
  subst hd
  exact xs_cons (xs_retV (xv_or (xv_cmp op_eq v_eqI (xv_lenLT (f := (tT D.int)) (xv_call c_points_where (hr.mono (by decide)) (xl_cons (xv_ix ix_tup (v_ixT (f := eS r.1) rfl) (xv_var 0) xv_int) (xl_cons (xv_var 2) xa_nil)) ⟨r.1, many, rfl, ⟨hm, hr1.1⟩, rfl⟩) m_len) xv_int) (fun _ => (xv_one (xv_cmp op_notN v_notN (xv_call c_tolerating (hr.mono (by decide)) (xl_cons (xv_var 0) (xl_cons (xv_var 1) (xl_cons (xv_var 2) xa_nil))) ⟨r, rules, many, rfl, ⟨hm, hr1, hrs⟩, rfl⟩) xv_non)))) (by rw [isN_oT]; exact hΦ))
end
end K83

namespace K83
open PySem PySem.Spec PyProof.Rows L2 Evl DL WB
section
variable {P : Program} {w : World} {K : PySem.W.Frag} {mg : Str → Option Value} {base : Heap}

abbrev s_layers : Stmt := topS 17
abbrev n_layers : List Str := ["rules", "many", "left", "found", "some", "k", "level"]
theorem sc_layers : FnScope n_layers ["rules", "many"] (defScope s_layers) := ⟨rfl, rfl, rfl, by decide +kernel, rfl, by decide +kernel, by decide +kernel⟩
theorem ok_layers {f : Addr} {fd : FuncData} (F : Fun K "layers" "layers" s_layers f fd) (c_is_free : Cal P w K mg base 11 "is_free" ["rule", "rules", "many"] (spP K cFree)) (m_len : mg "len" = none) (m_list : mg "list" = none) (m_range : mg "range" = none) (m_tuple : mg "tuple" = none) : FnOk P w K mg base CX0 (11 + 1) f fd ["rules", "many"] (spP K cLayers) := by
  refine fn_pure F sc_layers (fun ds Φ ⟨rules, many, hd, ⟨hm, hrs⟩, hΦ⟩ => by rw [hd]; rfl) fun cdv A outer s0 H E hr ds Φ ⟨rules, many, hd, ⟨hm, hrs⟩, hΦ⟩ => ?_
  subst hd
  have hrl := hrs.1
  refine xs_cons (xs_asgV 2 (xv_listRg (xg_1 (xv_lenLT (f := (pT eS eS)) (xv_var 0) m_len) m_range) ⟨(by omega), (by omega)⟩ ⟨(by omega), (by omega)⟩ m_list) ?_ sc_layers.nd)
  refine xs_cons (xs_asgO 3 (xo_lst (ds := []) xa_nil) ?_ sc_layers.nd)
  refine xs_whl (fun s : List Int × List (List Int) => stG n_layers [.pd (lT (pT eS eS) rules), .pd (.int many), .pd (lT D.int s.1), .ow (.ml (s.2.map (tT D.int)))]) (fun s => s.1.length) (fun s => layI rules many s.1 s.2) (rng 0 (rules.length : Int), []) (by repeat (first | exact le_nil | refine le_eq ?_ | refine le_un ?_)) layI_start (fun ⟨left', found'⟩ hI => ⟨_, (xb_cmp op_gt v_gt (xv_lenLT (f := D.int) (xv_var 2) m_len) xv_int), fun hW => ?_, fun hW => ?_⟩) PassesOwn.never
  ·
    have hl := fun {k : Int} (h : k ∈ left') => hI.2.1 k h
    have hll : found'.length + left'.length ≤ rules.length := hI.2.2
    have hll' : left'.length ≤ 100 := by omega
    have hne : left' ≠ [] := fun e => by subst e; simp at hW
    refine xs_cons (xs_asgV 4 (xo_map (f := D.int) (xs := left') [5] (fun k => [D.int k]) (pT eS eS) (fun k => (rules.getD (k).toNat (.fls, .fls))) [("k", 5)] (xw_listT (f := D.int) (xv_var 2)) (fun _ _ _ _ _ => pg_name (i := 5) sc_layers.nd rfl (by first | exact Or.inl rfl | exact Or.inr rfl)) (fun _ _ => gt_name) (fun k hk _ _ _ _ _ => (xv_ix ix_list (v_ixLT (f := (pT eS eS)) (atI_getD (by have mk := hl hk; omega) (by have mk := hl hk; omega))) (xv_var 0) (xv_var 5))) (by omega) (blkOk_by (N := n_layers) (sc := defScope s_layers) (by decide +kernel)) sc_layers.nd).frz ?_ sc_layers.nd)
    refine xs_cons (xs_asgV 6 (xv_tupleL (f := D.int) (xo_lc (f := D.int) (xs := left') [5] (fun k => [D.int k]) (fun k => (isfree (rules.getD (k).toNat (.fls, .fls)) (left'.map (getR rules)) many)) D.int (fun k => k) [("k", 5)] (xw_listT (f := D.int) (xv_var 2)) (fun _ _ _ _ _ => pg_name (i := 5) sc_layers.nd rfl (by first | exact Or.inl rfl | exact Or.inr rfl)) (fun _ _ => gt_name) .one (fun k hk => jt_wb fun _ _ _ _ _ => (xb_val (xv_call c_is_free (hr.mono (by decide)) (xl_cons (xv_ix ix_list (v_ixLT (f := (pT eS eS)) (atI_getD (by have mk := hl hk; omega) (by have mk := hl hk; omega))) (xv_var 0) (xv_var 5)) (xl_cons (xv_var 4) (xl_cons (xv_var 1) xa_nil))) ⟨(rules.getD (k).toNat (.fls, .fls)), (left'.map (getR rules)), many, rfl, ⟨hm, getR_ok hrs (hl hk).1 (hl hk).2, getRs_ok hrs (fun _ h => hl h) hll'⟩, rfl⟩))) (fun k hk pk _ _ _ _ _ => (xv_var 5)) (by omega) (blkOk_by (N := n_layers) (sc := defScope s_layers) (by decide +kernel)) sc_layers.nd).frz m_tuple) ?_ sc_layers.nd)
    refine xs_cons (xs_if (xb_cmp op_eq v_eqI (xv_lenTT (f := D.int) (xv_var 6) m_len) xv_int) (fun h1 => ?_) (fun h1 => ?_))
    ·
      have hlv : level rules many left' = [] := List.eq_nil_of_length_eq_zero (by have e : ((level rules many left').length : Int) = 0 := of_decide_eq_true h1.symm; omega)
      exact xs_cons (xs_retV (xv_tup (hl := by simp) (xl_cons xv_str (xl_cons (xv_tupleL (f := D.int) (xv_var 2) m_tuple) xa_nil))) (by rw [layI_no hI hne hlv] at hΦ; exact hΦ))
    ·
      refine xs_nil ?_
      have hlv : level rules many left' ≠ [] := fun e => by
        have z : ¬ ((level rules many left').length : Int) = 0 := of_decide_eq_false h1.symm
        rw [e] at z
        exact z rfl
      have hsz : (found'.map (tT D.int)).length < 100000 := by rw [List.length_map]; omega
      refine xs_cons (xs_app 3 (xv_var 6) (fun d hd => ?_) hsz)
      subst hd
      refine xs_cons (xs_asgLc (f := D.int) (xs := left') 2 [5] (fun k => [D.int k]) (fun k => (!decide (k ∈ (level rules many left')))) D.int (fun k => k) [("k", 5)] (xw_listT (f := D.int) (xv_var 2)) (fun _ _ _ _ _ => pg_name (i := 5) sc_layers.nd rfl (by first | exact Or.inl rfl | exact Or.inr rfl)) (fun _ _ => gt_name) .one (fun k hk => jt_wb fun _ _ _ _ _ => (xb_cmp op_notIn_seq v_niT (xv_var 5) (xv_var 6))) (fun k hk pk _ _ _ _ _ => (xv_var 5)) (by omega) ?_ (blkOk_by (N := n_layers) (sc := defScope s_layers) (by decide +kernel)) sc_layers.nd (sw_true rfl rfl rfl (by decide +kernel)))
      refine xs_freeze 2 ?_
      refine xs_nil ⟨(_, found' ++ [level rules many left']), left_less hlv, layI_step hI hne hlv, ?_⟩
      show Le _ (stG n_layers [.pd (lT (pT eS eS) rules), .pd (.int many), .pd (lT D.int (lessL rules many left')), .ow (.ml ((found' ++ [level rules many left']).map (tT D.int)))])
      rw [List.map_append]
      repeat (first | exact le_nil | refine le_eq ?_ | refine le_un ?_)
  ·
    have hl0 : left' = [] := List.eq_nil_of_length_eq_zero (by have := of_decide_eq_false hW; simp only at this; omega)
    subst hl0
    refine xs_freeze 3 ?_
    exact xs_cons (xs_retV (xv_tup (hl := by simp) (xl_cons xv_str (xl_cons (xv_tupleL (f := (tT D.int)) (xv_var 3) m_tuple) xa_nil))) (by rw [layI_end hI] at hΦ; exact hΦ))
end
end K83

namespace K83
open PySem PySem.Spec PyProof.Rows L2 Evl DL WB
section
variable {P : Program} {w : World} {K : PySem.W.Frag} {mg : Str → Option Value} {base : Heap}

abbrev s_rank_of_point : Stmt := topS 18
abbrev n_rank_of_point : List Str := ["rules", "told", "point", "k", "j"]
theorem sc_rank_of_point : FnScope n_rank_of_point ["rules", "told", "point"] (defScope s_rank_of_point) := ⟨rfl, rfl, rfl, by decide +kernel, rfl, by decide +kernel, by decide +kernel⟩
theorem ok_rank_of_point {f : Addr} {fd : FuncData} (F : Fun K "rank_of_point" "rank_of_point" s_rank_of_point f fd) (c_breaks : Cal P w K mg base 9 "breaks" ["rule", "point"] (spP K cBreaks)) (m_len : mg "len" = none) (m_range : mg "range" = none) (m_max : mg "max" = none) (m_any : mg "any" = none) : FnOk P w K mg base CX0 (9 + 1) f fd ["rules", "told", "point"] (spP K cRopT) := by
  refine fn_pure F sc_rank_of_point (fun ds Φ ⟨rules, told, p, hd, ⟨⟨mm, hrs, hpl⟩, htl, ht⟩, hΦ⟩ => by rw [hd]; rfl) fun cdv A outer s0 H E hr ds Φ ⟨rules, told, p, hd, ⟨⟨mm, hrs, hpl⟩, htl, ht⟩, hΦ⟩ => ?_
  subst hd
  have hrl := hrs.1
  have hin : ∀ {k : Int}, k ∈ rng 0 (told.length : Int) → told.getD k.toNat [] ∈ told := fun {k} hk => by
    have := mem_rng.mp hk
    rw [List.getD_eq_getElem?_getD, List.getElem?_eq_getElem (by omega)]
    exact List.getElem_mem _
  exact xs_cons (xs_retV (xv_max (xo_catL (f := D.int) (xv_lst (xl_cons xv_int xa_nil)) (xo_lc (f := D.int) (xs := (rng 0 (told.length : Int))) [3] (fun k => [D.int k]) (fun k => (((told.getD (k).toNat []).map fun j1 => (breaks (rules.getD (j1).toNat (.fls, .fls)) p)).any id)) D.int (fun k => (k + 1)) [("k", 3)] (xw_range1 (xl_cons (xv_lenTT (f := (tT D.int)) (xv_var 1) m_len) xa_nil) (by omega) m_range (by omega)) (fun _ _ _ _ _ => pg_name (i := 3) sc_rank_of_point.nd rfl (by first | exact Or.inl rfl | exact Or.inr rfl)) (fun _ _ => gt_name) .one (fun k hk => jt_wb fun _ _ _ _ _ => (xb_val (xv_any (xo_map (f := D.int) (xs := (told.getD (k).toNat [])) [4] (fun j1 => [D.int j1]) D.bl (fun j1 => (breaks (rules.getD (j1).toNat (.fls, .fls)) p)) [("j", 4)] (xw_tupT (f := D.int) (xv_ix ix_tup (v_ixTT (f := (tT D.int)) (atI_getD (d := []) (by have mk := mem_rng.mp hk; omega) (by have mk := mem_rng.mp hk; omega))) (xv_var 1) (xv_var 3))) (fun _ _ _ _ _ => pg_name (i := 4) sc_rank_of_point.nd rfl (by first | exact Or.inl rfl | exact Or.inr rfl)) (fun _ _ => gt_name) (fun j1 hj1 _ _ _ _ _ => (xv_call c_breaks (hr.mono (by decide)) (xl_cons (xv_ix ix_list (v_ixLT (f := (pT eS eS)) (atI_getD ((ht _ (hin hk)).2 _ hj1).1 ((ht _ (hin hk)).2 _ hj1).2)) (xv_var 0) (xv_var 4)) (xl_cons (xv_var 2) xa_nil)) ⟨(rules.getD (j1).toNat (.fls, .fls)), p, rfl, (by rw [hpl]; exact getR_ok hrs ((ht _ (hin hk)).2 _ hj1).1 ((ht _ (hin hk)).2 _ hj1).2), rfl⟩)) (by have := (ht _ (hin hk)).1; omega) (blkOk_by (N := n_rank_of_point) (sc := (relS _ (defScope s_rank_of_point))) (by decide +kernel)) sc_rank_of_point.nd).frz m_any))) (fun k hk pk _ _ _ _ _ => (xv_bin op_add v_add (xv_var 3) xv_int)) (by rw [rng_len]; omega) (blkOk_by (N := n_rank_of_point) (sc := defScope s_rank_of_point) (by decide +kernel)) sc_rank_of_point.nd).frz (by
      rw [List.length_map]
      have z := List.length_filter_le (fun k : Int => ((told.getD k.toNat []).map fun j1 => (breaks (rules.getD j1.toNat (.fls, .fls)) p)).any id) (rng 0 (told.length : Int))
      rw [rng_len] at z
      simp only [List.length_cons, List.length_nil]
      omega)).frz (by simp) m_max) hΦ)
abbrev s_ranks_of : Stmt := topS 19
abbrev n_ranks_of : List Str := ["rules", "many", "told", "point"]
theorem sc_ranks_of : FnScope n_ranks_of ["rules", "many"] (defScope s_ranks_of) := ⟨rfl, rfl, rfl, by decide +kernel, rfl, by decide +kernel, by decide +kernel⟩
theorem ok_ranks_of {f : Addr} {fd : FuncData} (F : Fun K "ranks_of" "ranks_of" s_ranks_of f fd) (c_layers : Cal P w K mg base 12 "layers" ["rules", "many"] (spP K cLayers)) (c_rank_of_point : Cal P w K mg base 10 "rank_of_point" ["rules", "told", "point"] (spP K cRopT)) (c_points_of : Cal P w K mg base 2 "points_of" ["many"] (spP K cPoints)) (m_tuple : mg "tuple" = none) : FnOk P w K mg base CX0 (12 + 1) f fd ["rules", "many"] (spP K cRanksOf) := by
  refine fn_pure F sc_ranks_of (fun ds Φ ⟨rules, many, hd, ⟨hm, hrs⟩, hΦ⟩ => by rw [hd]; rfl) fun cdv A outer s0 H E hr ds Φ ⟨rules, many, hd, ⟨hm, hrs⟩, hΦ⟩ => ?_
  subst hd
  have h8 := points_len8 hm
  refine xs_cons (xs_asgV 2 (xv_call c_layers (hr.mono (by decide)) (xl_cons (xv_var 0) (xl_cons (xv_var 1) xa_nil)) ⟨rules, many, rfl, ⟨hm, hrs⟩, rfl⟩) ?_ sc_ranks_of.nd)
  cases e : layers rules many with
  | no ls =>
    refine xs_cons (xs_if (xb_cmp op_eq v_eqS (xv_ix ix_tup (v_ixT (f := .str "no") rfl) (xv_var 2) xv_int) xv_str) (fun _ => ?_) (fun h => absurd h (by decide +kernel)))
    exact xs_cons (xs_retV xv_non (by rw [ranksOf, e] at hΦ; exact hΦ))
  | yes ls =>
    have hlv := layers_ok hrs e
    refine xs_cons (xs_if (xb_cmp op_eq v_eqS (xv_ix ix_tup (v_ixT (f := .str "yes") rfl) (xv_var 2) xv_int) xv_str) (fun h => absurd h (by decide +kernel)) (fun _ => xs_nil ?_))
    exact xs_cons (xs_retV (xv_tupleL (f := D.int) (xo_map (f := (tT D.int)) (xs := (points many)) [3] (fun point => [(tT D.int) point]) D.int (fun point => (rop rules ls point)) [("point", 3)] (xw_listT (f := (tT D.int)) (xv_call c_points_of (hr.mono (by decide)) (xl_cons (xv_var 1) xa_nil) ⟨many, rfl, hm, rfl⟩)) (fun _ _ _ _ _ => pg_name (i := 3) sc_ranks_of.nd rfl (by first | exact Or.inl rfl | exact Or.inr rfl)) (fun _ _ => gt_name) (fun point hpoint _ _ _ _ _ => (xv_call c_rank_of_point (hr.mono (by decide)) (xl_cons (xv_var 0) (xl_cons (xv_ix ix_tup (v_ixT rfl) (xv_var 2) xv_int) (xl_cons (xv_var 3) xa_nil))) ⟨rules, ls, point, rfl, ⟨⟨many, hrs, points_mem hm hpoint⟩, hlv⟩, rfl⟩)) (by omega) (blkOk_by (N := n_ranks_of) (sc := defScope s_ranks_of) (by decide +kernel)) sc_ranks_of.nd).frz m_tuple) (by rw [ranksOf, e] at hΦ; exact hΦ))
abbrev s_follows : Stmt := topS 22
abbrev n_follows : List Str := ["rules", "rule", "many", "more", "told"]
theorem sc_follows : FnScope n_follows ["rules", "rule", "many"] (defScope s_follows) := ⟨rfl, rfl, rfl, by decide +kernel, rfl, by decide +kernel, by decide +kernel⟩
theorem ok_follows {f : Addr} {fd : FuncData} (F : Fun K "follows" "follows" s_follows f fd) (c_layers : Cal P w K mg base 12 "layers" ["rules", "many"] (spP K cLayers)) (c_ranks_of : Cal P w K mg base 13 "ranks_of" ["rules", "many"] (spP K cRanksOf)) (c_points_where : Cal P w K mg base 10 "points_where" ["saying", "many"] (spP K cPw)) (m_list : mg "list" = none) (m_len : mg "len" = none) : FnOk P w K mg base CX0 (13 + 1) f fd ["rules", "rule", "many"] (spP K cFollows) := by
  refine fn_pure F sc_follows (fun ds Φ ⟨rules, r, many, hd, ⟨hm, hok⟩, hΦ⟩ => by rw [hd]; rfl) fun cdv A outer s0 H E hr ds Φ ⟨rules, r, many, hd, ⟨hm, hok⟩, hΦ⟩ => ?_
  subst hd
  have hrl := hok.2.1
  have hmore : okRs many (more rules r) := okM_more hok
  refine xs_cons (xs_asgV 3 (xo_catL (f := (pT eS eS)) (l := rules) (l' := [(r.1, (.neg r.2))]) (xo_listL (f := (pT eS eS)) (xv_var 0) m_list).frz (xv_lst (xl_cons (xv_tup (hl := by simp) (xl_cons (xv_ix ix_tup (v_ixT (f := eS r.1) rfl) (xv_var 1) xv_int) (xl_cons (xv_tup (hl := by simp) (xl_cons xv_str (xl_cons (xv_ix ix_tup (v_ixT (f := eS r.2) rfl) (xv_var 1) xv_int) xa_nil))) xa_nil))) xa_nil) (by simp)) (by simp only [List.length_cons, List.length_nil]; omega)).frz ?_ sc_follows.nd)
  refine xs_cons (xs_asgV 4 (xv_call c_layers (hr.mono (by decide)) (xl_cons (xv_var 3) (xl_cons (xv_var 2) xa_nil)) ⟨(more rules r), many, rfl, ⟨hm, hmore⟩, rfl⟩) ?_ sc_follows.nd)
  refine xs_cons (xs_if (xb_cmp op_eq v_eqI (xv_lenLT (f := (tT D.int)) (xv_call c_points_where (hr.mono (by decide)) (xl_cons (xv_ix ix_tup (v_ixT (f := eS r.1) rfl) (xv_var 1) xv_int) (xl_cons (xv_var 2) xa_nil)) ⟨r.1, many, rfl, ⟨hm, hok.2.2.1.1⟩, rfl⟩) m_len) xv_int) (fun h1 => ?_) (fun h1 => ?_))
  ·
    exact xs_cons (xs_retV (xv_tup (hl := by simp) (xl_cons xv_str (xl_cons (xv_tup xa_nil) xa_nil))) (by rw [follows, if_pos (of_decide_eq_true h1.symm)] at hΦ; exact hΦ))
  ·
    refine xs_nil ?_
    cases e : layers (more rules r) many with
    | no ls =>
      refine xs_cons (xs_if (xb_cmp op_eq v_eqS (xv_ix ix_tup (v_ixT (f := .str "no") rfl) (xv_var 4) xv_int) xv_str) (fun h => absurd h (by decide +kernel)) (fun _ => xs_nil ?_))
      exact xs_cons (xs_retV (xv_tup (hl := by simp) (xl_cons xv_str (xl_cons (xv_ix ix_tup (v_ixT rfl) (xv_var 4) xv_int) xa_nil))) (by rw [follows, if_neg (of_decide_eq_false h1.symm), e] at hΦ; exact hΦ))
    | yes ls =>
      refine xs_cons (xs_if (xb_cmp op_eq v_eqS (xv_ix ix_tup (v_ixT (f := .str "yes") rfl) (xv_var 4) xv_int) xv_str) (fun _ => ?_) (fun h => absurd h (by decide +kernel)))
      exact xs_cons (xs_retV (xv_tup (hl := by simp) (xl_cons xv_str (xl_cons (xv_call c_ranks_of (hr.mono (by decide)) (xl_cons (xv_var 3) (xl_cons (xv_var 2) xa_nil)) ⟨more rules r, many, rfl, ⟨hm, hmore⟩, rfl⟩) xa_nil))) (by rw [follows, if_neg (of_decide_eq_false h1.symm), e] at hΦ; rw [ranksOf, e]; exact hΦ))
abbrev s_follows_closely : Stmt := topS 23
abbrev n_follows_closely : List Str := ["rules", "rule", "many", "ranks"]
theorem sc_follows_closely : FnScope n_follows_closely ["rules", "rule", "many"] (defScope s_follows_closely) := ⟨rfl, rfl, rfl, by decide +kernel, rfl, by decide +kernel, by decide +kernel⟩
theorem ok_follows_closely {f : Addr} {fd : FuncData} (F : Fun K "follows_closely" "follows_closely" s_follows_closely f fd) (c_ranks_of : Cal P w K mg base 13 "ranks_of" ["rules", "many"] (spP K cRanksOf)) (c_holds : Cal P w K mg base 11 "holds" ["ranks", "rule", "many"] (spP K cHolds)) : FnOk P w K mg base CX0 (13 + 1) f fd ["rules", "rule", "many"] (spP K cClosely) := by
  refine fn_pure F sc_follows_closely (fun ds Φ ⟨rules, r, many, hd, ⟨hm, hok⟩, hΦ⟩ => by rw [hd]; rfl) fun cdv A outer s0 H E hr ds Φ ⟨rules, r, many, hd, ⟨hm, hok⟩, hΦ⟩ => ?_
  subst hd
  refine xs_cons (xs_asgV 3 (xv_call c_ranks_of (hr.mono (by decide)) (xl_cons (xv_var 0) (xl_cons (xv_var 2) xa_nil)) ⟨rules, many, rfl, ⟨hm, hok.1⟩, rfl⟩) ?_ sc_follows_closely.nd)
  cases e : ranksOf rules many with
  | none =>
    exact xs_cons (xs_retV (xv_or (l := false) (xv_cmp op_isN (v_isN (d := .non)) (xv_var 3) xv_non) (fun h => nomatch h)) (by rw [closely, e] at hΦ; exact hΦ))
  | some l =>
    exact xs_cons (xs_retV (xv_or (xv_cmp op_isN (v_isN (d := tT D.int l)) (xv_var 3) xv_non) (fun _ => (xv_one (xv_call c_holds (hr.mono (by decide)) (xl_cons (xv_var 3) (xl_cons (xv_var 1) (xl_cons (xv_var 2) xa_nil))) ⟨l, r, many, rfl, ⟨hm, ranksOf_len e, hok.2.2.1⟩, rfl⟩)))) (by rw [closely, e] at hΦ; exact hΦ))
end
end K83

namespace K83
open PySem PySem.Spec PyProof.Rows L2 Evl DL WB
abbrev s_start : Stmt := topS 26
abbrev s_pick : Stmt := topS 27
abbrev s_same : Stmt := topS 28
theorem sc_start : FnScope ["script"] ["script"] (defScope s_start) := ⟨rfl, rfl, rfl, by decide +kernel, rfl, by decide +kernel, by decide +kernel⟩
abbrev n_pick : List Str := ["state", "limit", "cell", "drawn"]
theorem sc_pick : FnScope n_pick ["state", "limit"] (defScope s_pick) := ⟨rfl, rfl, rfl, by decide +kernel, rfl, by decide +kernel, by decide +kernel⟩
section
variable {P : Program} {w : World} {K : PySem.W.Frag} {mg : Str → Option Value} {base : Heap}
theorem ok_start {f : Addr} {fd : FuncData} (F : Fun K "_law_start" "_law_start" s_start f fd) : FnOk P w K mg base CX0 (0 + 1) f fd ["script"] (spN K cStart) :=
  fn_newRet F sc_start (fun ds Φ ⟨ns, h, _⟩ => by rw [h]; rfl) rfl fun cdv A outer s0 H E hr ds Φ ⟨ns, h, hΦ⟩ => by
    subst h
    exact (XN.cast (xo_lst (xl_cons (xv_var 0) (xl_cons xv_int (xl_cons xv_int (xl_cons xv_int xa_nil)))) (by simp)).up fun o ho => ⟨stO, hΦ, fun Hb u r => by
      subst ho
      exact st_in ⟨ns, 0, 0, 7, ⟨by omega, by omega, by omega, by omega⟩, rfl⟩ r⟩)
theorem ok_pick {f : Addr} {fd : FuncData} (F : Fun K "_law_pick" "_law_pick" s_pick f fd) (m_len : mg "len" = none) (m_abs : mg "abs" = none) (m_int : mg "int" = none) : FnOk P w K mg base CX0 (0 + 1) f fd ["state", "limit"] (spE K stO cPick) := by
  refine fn_eff (o := stO) stR (fun Hb u o' h r => st_in h r) F sc_pick (fun ds Φ ⟨l, h, _⟩ => by rw [h]; rfl) fun cdv A outer s0 H E hr ds Φ ⟨limit, hd, ⟨hl, hl2⟩, hΦ⟩ => ?_
  subst hd
  have tail : ∀ ns i r z, stB i r z → XSs (cxF P w K mg base n_pick "_law_pick" s_pick f cdv A outer s0 H E) 1 ((defBody s_pick).drop 1) [.ow (stM ns i r z), .pd (.int limit), .un, .un] { nx := fun Γ' => Φ .non ∧ ∃ o', stR o' ∧ Γ'[0]? = some (.ow o'), rt := fun d Γ' => Φ d ∧ ∃ o', stR o' ∧ Γ'[0]? = some (.ow o') } := fun ns i r z ⟨h1, h2, h3, h4⟩ => by
    refine xs_cons (xs_if (xt_borrow 0 (xb_cmp op_gt v_gt (xv_ix ix_list (v_ixL rfl) (xv_var 0) xv_int) xv_int)) (fun c => ?_) (fun c => ?_))
    · refine xs_cons (xs_asgV 3 (xv_borrow 0 (xv_bin op_mod (v_mod (j := limit) (by omega)) (xv_intI (xv_ix ix_list (v_ixL rfl) (xv_var 0) xv_int) m_int) (xv_var 1))) ?_ sc_pick.nd)
      refine xs_cons (xs_setO 0 2 (xv_borrow 0 (xv_bin op_fdiv (v_fdiv (j := limit) ⟨by omega, by omega⟩) (xv_ix ix_list (v_ixL rfl) (xv_var 0) xv_int) (xv_var 1))) xv_int rfl fun d hd => ?_)
      subst hd
      exact xs_cons (xs_retV (xv_var 3) ⟨hΦ _ (Int.emod_nonneg _ (by omega)) (Int.emod_lt_of_pos _ (by omega)), stM ns i (r / limit) z, ⟨ns, i, r / limit, z, ⟨h1, Int.ediv_nonneg h2 (by omega), h3, h4⟩, rfl⟩, rfl⟩)
    · refine xs_nil ?_
      have b0 := Int.emod_nonneg (z * 48271) (b := 2147483647) (by omega)
      have b1 := Int.emod_lt_of_pos (z * 48271) (b := 2147483647) (by omega)
      refine xs_cons (xs_setO 0 3 (xv_borrow 0 (xv_bin op_mod (v_mod (by omega)) (xv_intI (xv_bin op_mul (v_mul (.inr (by omega))) (xv_ix ix_list (v_ixL rfl) (xv_var 0) xv_int) xv_int) m_int) xv_int)) xv_int rfl fun d hd => ?_)
      subst hd
      exact xs_cons (xs_retV (xv_borrow 0 (xv_bin op_mod (v_mod (j := limit) (by omega)) (xv_intI (xv_bin op_add v_add (xv_bin op_fdiv (v_fdiv ⟨by omega, by omega⟩) (xv_ix ix_list (v_ixL rfl) (xv_var 0) xv_int) xv_int) (xv_bin op_mod (v_mod (by omega)) (xv_intI (xv_bin op_mul (v_mul (i := z * 48271 % 2147483647) (j := z * 48271 % 2147483647) (.inr ⟨by omega, by omega⟩)) (xv_ix ix_list (v_ixL rfl) (xv_var 0) xv_int) (xv_ix ix_list (v_ixL rfl) (xv_var 0) xv_int)) m_int) xv_int)) m_int) (xv_var 1)))
        ⟨hΦ _ (Int.emod_nonneg _ (by omega)) (Int.emod_lt_of_pos _ (by omega)), stM ns i r (z * 48271 % 2147483647), ⟨ns, i, r, _, ⟨h1, h2, b0, by omega⟩, rfl⟩, rfl⟩)
  refine xs_case 0 (P := stR) (fun Hb u r => st_out r) fun o' ⟨ns, i, r, z, hb, ho⟩ => ?_
  subst ho
  obtain ⟨h1, h2, h3, h4⟩ := hb
  refine xs_cons (xs_if (xt_borrow 0 (xt_w (xb_and (xb_cmp op_eq v_eqI (xv_ix ix_list (v_ixL rfl) (xv_var 0) xv_int) xv_int) (fun _ => xw_and1 (xb_cmp op_lt v_lt (xv_ix ix_list (v_ixL rfl) (xv_var 0) xv_int) (xv_lenSc (xv_ix ix_list (v_ixL rfl) (xv_var 0) xv_int) m_len)))))) (fun c => ?_) (fun c => ?_))
  · have c2 : i < ns.length := of_decide_eq_true (Bool.and_eq_true_iff.mp c.symm).2
    refine xs_cons (xs_asgV 2 (d := .int (if ns.getD i.toNat 0 < 0 then -ns.getD i.toNat 0 else ns.getD i.toNat 0)) (xv_borrow 0 (xv_abs (xv_ix ix_list (v_ixSc (atI_getD h1 c2)) (xv_ix ix_list (v_ixL rfl) (xv_var 0) xv_int) (xv_ix ix_list (v_ixL rfl) (xv_var 0) xv_int)) m_abs)) ?_ sc_pick.nd)
    refine xs_cons (xs_setO 0 1 (xv_borrow 0 (xv_bin op_add v_add (xv_ix ix_list (v_ixL rfl) (xv_var 0) xv_int) xv_int)) xv_int rfl fun d hd => ?_)
    subst hd
    refine xs_cons (xs_if (xb_cmp op_ge v_ge (xv_var 2) (xv_bin op_pow (v_pow ⟨by omega, by omega, by decide⟩) xv_int xv_int)) (fun c => ?_) (fun c => ?_))
    · refine xs_cons (xs_setO 0 2 (xv_var 2) xv_int rfl fun d hd => ?_)
      subst hd
      refine xs_nil (xs_nil ((tail ns (i + 1) _ z ⟨by omega, ?_, h3, h4⟩).le (le_eq (le_eq (le_un (le_un le_nil))))))
      split <;> omega
    · refine xs_cons (xs_setO 0 3 (xv_borrow 0 (xv_bin op_add v_add (xv_bin op_mod (v_mod (by omega)) (xv_intI (xv_bin op_add v_add (xv_bin op_mul (v_mul (.inr (by omega))) (xv_ix ix_list (v_ixL rfl) (xv_var 0) xv_int) xv_int) (xv_var 2)) m_int) xv_int) xv_int)) xv_int rfl fun d hd => ?_)
      subst hd
      have b0 := Int.emod_nonneg (z * 48271 + (if ns.getD i.toNat 0 < 0 then -ns.getD i.toNat 0 else ns.getD i.toNat 0)) (b := 2147483646) (by omega)
      have b1 := Int.emod_lt_of_pos (z * 48271 + (if ns.getD i.toNat 0 < 0 then -ns.getD i.toNat 0 else ns.getD i.toNat 0)) (b := 2147483646) (by omega)
      exact xs_nil (xs_nil ((tail ns (i + 1) r _ ⟨by omega, h2, by omega, by omega⟩).le (le_eq (le_eq (le_un (le_un le_nil))))))
  · exact xs_nil ((tail ns i r z ⟨h1, h2, h3, h4⟩).le (le_eq (le_eq (le_un (le_un le_nil)))))

abbrev n_same : List Str := ["told", "due", "k"]
theorem sc_same : FnScope n_same ["told", "due"] (defScope s_same) := ⟨rfl, rfl, rfl, by decide +kernel, rfl, by decide +kernel, by decide +kernel⟩
theorem nil_same {l : List D} (f : Int → Int) : (((rng 0 (l.length : Int)).filter fun _ => !true).map f) = [] := by simp
theorem ok_same {f : Addr} {fd : FuncData} {n : Nat} (F : Fun K "_law_same" "_law_same" s_same f fd) (G : Cal P w K mg base n "_law_same" ["told", "due"] (spP K (cSame n))) (m_len : mg "len" = none) (m_range : mg "range" = none) (m_isinstance : mg "isinstance" = none) (m_bool : mg "bool" = none) (m_int : mg "int" = none) (m_str : mg "str" = none) (m_list : mg "list" = none) (m_tuple : mg "tuple" = none) : FnOk P w K mg base CX0 (n + 1) f fd ["told", "due"] (spP K (cSame (n + 1))) := by
  refine fn_pure F sc_same (fun ds Φ ⟨d, h, _⟩ => by rw [h]; rfl) fun cdv A outer s0 H E hr ds Φ ⟨d, hd, ⟨m, hm, hs⟩, hΦ⟩ => ?_
  subst hd
  have hu64 := hu_64 hr
  cases d with
  | non =>
    refine xs_cons (xs_if (xb_cmp op_isN (v_isN (d := .non)) (xv_var 1) xv_non) (fun _ => ?_) (fun h => nomatch h))
    exact xs_cons (xs_retV (xv_cmp op_isN (v_isN (d := .non)) (xv_var 0) xv_non) hΦ)
  | bl b =>
    refine xs_cons (xs_if (xb_cmp op_isN (v_isN (d := .bl b)) (xv_var 1) xv_non) (fun h => nomatch h) (fun _ => xs_nil ?_))
    refine xs_cons (xs_if (xb_val (xv_isi "bool" (xv_var 1) m_isinstance m_bool (b := true))) (fun _ => ?_) (fun h => nomatch h))
    exact xs_cons (xs_retV (xv_and (xv_isi "bool" (xv_var 0) m_isinstance m_bool (b := true)) (fun _ => xv_one (xv_cmp op_eq v_eqB (xv_var 0) (xv_var 1)))) (by simpa using hΦ))
  | int i =>
    refine xs_cons (xs_if (xb_cmp op_isN (v_isN (d := .int i)) (xv_var 1) xv_non) (fun h => nomatch h) (fun _ => xs_nil ?_))
    refine xs_cons (xs_if (xb_val (xv_isi "bool" (xv_var 1) m_isinstance m_bool (b := false))) (fun h => nomatch h) (fun _ => xs_nil ?_))
    refine xs_cons (xs_if (xb_val (xv_isi "int" (xv_var 1) m_isinstance m_int (b := true))) (fun _ => ?_) (fun h => nomatch h))
    exact xs_cons (xs_retV (xv_and (xv_isi "int" (xv_var 0) m_isinstance m_int (b := true)) (fun _ => xv_and (xv_not (xv_isi "bool" (xv_var 0) m_isinstance m_bool (b := false))) (fun _ => xv_one (xv_cmp op_eq v_eqI (xv_var 0) (xv_var 1))))) (by simpa using hΦ))
  | str i =>
    refine xs_cons (xs_if (xb_cmp op_isN (v_isN (d := .str i)) (xv_var 1) xv_non) (fun h => nomatch h) (fun _ => xs_nil ?_))
    refine xs_cons (xs_if (xb_val (xv_isi "bool" (xv_var 1) m_isinstance m_bool (b := false))) (fun h => nomatch h) (fun _ => xs_nil ?_))
    refine xs_cons (xs_if (xb_val (xv_isi "int" (xv_var 1) m_isinstance m_int (b := false))) (fun h => nomatch h) (fun _ => xs_nil ?_))
    refine xs_cons (xs_if (xb_val (xv_isi "str" (xv_var 1) m_isinstance m_str (b := true))) (fun _ => ?_) (fun h => nomatch h))
    exact xs_cons (xs_retV (xv_and (xv_isi "str" (xv_var 0) m_isinstance m_str (b := true)) (fun _ => xv_one (xv_cmp op_eq v_eqS (xv_var 0) (xv_var 1)))) (by simpa using hΦ))
  | lst l =>
    cases m with
    | zero => cases hs
    | succ m =>
      cases hm
      have hl := hs.1
      refine xs_cons (xs_if (xb_cmp op_isN (v_isN (d := .lst l)) (xv_var 1) xv_non) (fun h => nomatch h) (fun _ => xs_nil ?_))
      refine xs_cons (xs_if (xb_val (xv_isi "bool" (xv_var 1) m_isinstance m_bool (b := false))) (fun h => nomatch h) (fun _ => xs_nil ?_))
      refine xs_cons (xs_if (xb_val (xv_isi "int" (xv_var 1) m_isinstance m_int (b := false))) (fun h => nomatch h) (fun _ => xs_nil ?_))
      refine xs_cons (xs_if (xb_val (xv_isi "str" (xv_var 1) m_isinstance m_str (b := false))) (fun h => nomatch h) (fun _ => xs_nil ?_))
      refine xs_cons (xs_if (xt_w (xb_or (xt_w (xb_and (xb_val (xv_isi "list" (xv_var 1) m_isinstance m_list (b := true))) (fun _ => xw_and1 (xb_not (xb_val (xv_isi "list" (xv_var 0) m_isinstance m_list (b := true))))))) (fun _ => xw_or1 (xt_w (xb_and (l := false) (xb_val (xv_isi "tuple" (xv_var 1) m_isinstance m_tuple (b := false))) (fun h => nomatch h)))))) (fun h => nomatch h) (fun _ => xs_nil ?_))
      exact xs_cons (xs_retV (xv_and (xv_cmp op_eq v_eqI (xv_lenL (xv_var 0) m_len) (xv_lenL (xv_var 1) m_len)) (fun _ => xv_one (xv_cmp (op_eqD hu64) (v_eq (f := lT D.int)) (xo_lc (f := D.int) (xs := rng 0 (l.length : Int)) [2] (fun k => [D.int k]) (fun _ => !true) D.int (fun _ => 1) [("k", 2)] (xw_range1 (xl_cons (xv_lenL (xv_var 1) m_len) xa_nil) (by omega) m_range (by omega)) (fun _ _ _ _ _ => pg_name (i := 2) sc_same.nd rfl (by first | exact Or.inl rfl | exact Or.inr rfl)) (fun _ _ => gt_name) .one (fun k hk => jt_wb fun _ _ _ _ _ => (xb_not (xb_val (xv_call G hr (xl_cons (xv_ix ix_list (v_ixL (atI_get (mem_rng.mp hk).1 (mem_rng.mp hk).2)) (xv_var 0) (xv_var 2)) (xl_cons (xv_ix ix_list (v_ixL (atI_get (mem_rng.mp hk).1 (mem_rng.mp hk).2)) (xv_var 1) (xv_var 2)) xa_nil)) ⟨_, rfl, ⟨m, rfl, hs.2 _ (get_in (mem_rng.mp hk).1 (mem_rng.mp hk).2)⟩, rfl⟩)))) (fun k hk pk _ _ _ _ _ => xv_int) (by rw [rng_len]; omega) (blkOk_by (N := n_same) (sc := defScope s_same) (by decide +kernel)) sc_same.nd).frz xv_nilL))) (by rw [nil_same]; simpa using hΦ))
  | tup l =>
    cases m with
    | zero => cases hs
    | succ m =>
      cases hm
      have hl := hs.1
      refine xs_cons (xs_if (xb_cmp op_isN (v_isN (d := .tup l)) (xv_var 1) xv_non) (fun h => nomatch h) (fun _ => xs_nil ?_))
      refine xs_cons (xs_if (xb_val (xv_isi "bool" (xv_var 1) m_isinstance m_bool (b := false))) (fun h => nomatch h) (fun _ => xs_nil ?_))
      refine xs_cons (xs_if (xb_val (xv_isi "int" (xv_var 1) m_isinstance m_int (b := false))) (fun h => nomatch h) (fun _ => xs_nil ?_))
      refine xs_cons (xs_if (xb_val (xv_isi "str" (xv_var 1) m_isinstance m_str (b := false))) (fun h => nomatch h) (fun _ => xs_nil ?_))
      refine xs_cons (xs_if (xt_w (xb_or (xt_w (xb_and (l := false) (xb_val (xv_isi "list" (xv_var 1) m_isinstance m_list (b := false))) (fun h => nomatch h))) (fun _ => xw_or1 (xt_w (xb_and (xb_val (xv_isi "tuple" (xv_var 1) m_isinstance m_tuple (b := true))) (fun _ => xw_and1 (xb_not (xb_val (xv_isi "tuple" (xv_var 0) m_isinstance m_tuple (b := true)))))))))) (fun h => nomatch h) (fun _ => xs_nil ?_))
      exact xs_cons (xs_retV (xv_and (xv_cmp op_eq v_eqI (xv_lenT (xv_var 0) m_len) (xv_lenT (xv_var 1) m_len)) (fun _ => xv_one (xv_cmp (op_eqD hu64) (v_eq (f := lT D.int)) (xo_lc (f := D.int) (xs := rng 0 (l.length : Int)) [2] (fun k => [D.int k]) (fun _ => !true) D.int (fun _ => 1) [("k", 2)] (xw_range1 (xl_cons (xv_lenT (xv_var 1) m_len) xa_nil) (by omega) m_range (by omega)) (fun _ _ _ _ _ => pg_name (i := 2) sc_same.nd rfl (by first | exact Or.inl rfl | exact Or.inr rfl)) (fun _ _ => gt_name) .one (fun k hk => jt_wb fun _ _ _ _ _ => (xb_not (xb_val (xv_call G hr (xl_cons (xv_ix ix_tup (v_ixT (atI_get (mem_rng.mp hk).1 (mem_rng.mp hk).2)) (xv_var 0) (xv_var 2)) (xl_cons (xv_ix ix_tup (v_ixT (atI_get (mem_rng.mp hk).1 (mem_rng.mp hk).2)) (xv_var 1) (xv_var 2)) xa_nil)) ⟨_, rfl, ⟨m, rfl, hs.2 _ (get_in (mem_rng.mp hk).1 (mem_rng.mp hk).2)⟩, rfl⟩)))) (fun k hk pk _ _ _ _ _ => xv_int) (by rw [rng_len]; omega) (blkOk_by (N := n_same) (sc := defScope s_same) (by decide +kernel)) sc_same.nd).frz xv_nilL))) (by rw [nil_same]; simpa using hΦ))
  | ins C ns l => cases m <;> cases hs
  | dic ks l => cases m <;> cases hs
  | sc ns => cases m <;> cases hs

end
abbrev s_saying : Stmt := topS 31
abbrev n_saying : List Str := ["state", "letters", "depth", "boxes", "kind", "first"]
theorem sc_saying : FnScope n_saying ["state", "letters", "depth", "boxes"] (defScope s_saying) := ⟨rfl, rfl, rfl, by decide +kernel, rfl, by decide +kernel, by decide +kernel⟩
section
variable {P : Program} {w : World} {K : PySem.W.Frag} {mg : Str → Option Value} {base : Heap}
theorem ok_saying {f : Addr} {fd : FuncData} {n : Nat} (F : Fun K "_law_saying" "_law_saying" s_saying f fd) (G : Cal P w K mg base (n + 1) "_law_saying" ["state", "letters", "depth", "boxes"] (spE K stO (cSay n))) (c_pick : Cal P w K mg base 1 "_law_pick" ["state", "limit"] (spE K stO cPick)) (m_int : mg "int" = none) : FnOk P w K mg base CX0 (n + 2) f fd ["state", "letters", "depth", "boxes"] (spE K stO (cSay (n + 1))) := by
  refine fn_eff (o := stO) (fun o => o = stO) (fun Hb u o' h r => h ▸ r) F sc_saying (fun ds Φ ⟨_, _, h, _⟩ => by rw [h]; rfl) fun cdv A outer s0 H E hr ds Φ ⟨letters, depth, hd, ⟨hl, hl2, hd0, hd1⟩, hΦ⟩ => ?_
  subst hd
  have hr1 := hr.mono (by omega : 1 ≤ n + 1)
  refine xs_cons (xs_asg 4 (xe_pick 0 c_pick hr1 xv_int ⟨by omega, by omega⟩) (fun d ⟨kind, hd, k0, k8⟩ => ?_) sc_saying.nd)
  subst hd
  refine xs_cons (xs_if (xt_w (xb_or (xb_cmp op_eq v_eqI (xv_var 2) xv_int) (fun _ => xw_or1 (xb_cmp op_eq v_eqI (xv_var 4) xv_int)))) (fun _ => ?_) (fun c0 => xs_nil ?_))
  · refine xs_cons (xs_if (Φ := fun _ => True) (xt_eqI (xe_pick 0 c_pick hr1 xv_int ⟨by omega, by omega⟩) xv_int (fun _ _ _ => trivial)) (fun _ => ?_) (fun _ => xs_nil ?_))
    · exact xs_cons (xs_retV (xv_tup (xl_cons xv_str xa_nil)) ⟨hΦ .fls (by simpa [Sy.dep] using hd0) trivial, stO, rfl, rfl⟩)
    · exact xs_cons (xs_ret (xe_tup (Φ := fun ds => ∃ v, ds = [.str "letter", .int v] ∧ 0 ≤ v ∧ v < letters) (Ψ := fun d => ∃ v, d = .tup [.str "letter", .int v] ∧ 0 ≤ v ∧ v < letters) (xa_then xv_str (xa_one (Ψ := fun ds => ∃ v, ds = [.int v] ∧ 0 ≤ v ∧ v < letters) (xe_pick 0 c_pick hr1 (xv_var 1) ⟨by omega, by omega⟩) (fun d ⟨v, h, h0⟩ => ⟨v, by rw [h], h0⟩)) (fun ds ⟨v, h, h0⟩ => ⟨v, by rw [h], h0⟩)) (fun ds ⟨v, h, h0⟩ => ⟨v, by rw [h], h0⟩) (by decide) (fun ds ⟨v, h, _⟩ => by rw [h]; simp)) (fun d ⟨v, h, h0⟩ => by
        refine ⟨?_, stO, rfl, rfl⟩
        subst h
        exact hΦ (.letter v) (by simpa [Sy.dep] using hd0) h0))
  have c1 : ¬ depth = 0 := fun z => by
    have := (Bool.or_eq_false_iff.mp c0.symm).1
    exact of_decide_eq_false this z
  have sub : ∀ {p pn p1 p2 : Pos} {e3 : Expr} {Γ : List Sl}, True := fun {_ _ _ _ _ _} => trivial
  refine xs_cons (xs_if (xb_cmp op_eq v_eqI (xv_var 4) xv_int) (fun _ => ?_) (fun _ => xs_nil ?_))
  · exact xs_cons (xs_ret (xe_tup (Φ := fun ds => ∃ a : Sy, ds = [.str "not", eS a] ∧ (a.dep : Int) ≤ depth - 1 ∧ a.lt letters) (Ψ := fun d => ∃ a : Sy, d = .tup [.str "not", eS a] ∧ (a.dep : Int) ≤ depth - 1 ∧ a.lt letters) (xa_then xv_str (xa_one (Ψ := fun ds => ∃ a : Sy, ds = [eS a] ∧ (a.dep : Int) ≤ depth - 1 ∧ a.lt letters) (xe_callE 0 (Φ := fun d => ∃ a : Sy, d = eS a ∧ (a.dep : Int) ≤ depth - 1 ∧ a.lt letters) G hr (xl_cons (xv_var 1) (xl_cons (xv_bin op_sub v_sub (xv_var 2) xv_int) (xl_cons (xv_var 3) xa_nil))).up (fun ds h => ⟨letters, depth - 1, h, ⟨hl, hl2, by omega, by omega⟩, fun s h1 h2 => ⟨s, rfl, h1, h2⟩⟩)) (fun d ⟨a, h, h0⟩ => ⟨a, by rw [h], h0⟩)) (fun ds ⟨a, h, h0⟩ => ⟨a, by rw [h], h0⟩)) (fun ds ⟨v, h, h0⟩ => ⟨v, by rw [h], h0⟩) (by decide) (fun ds ⟨v, h, _⟩ => by rw [h]; simp)) (fun d ⟨a, h, h0, h1⟩ => by
        refine ⟨?_, stO, rfl, rfl⟩
        subst h
        exact hΦ (.neg a) (by simp only [Sy.dep]; omega) h1))
  refine xs_cons (xs_if (xt_w (xb_and (xb_cmp op_lt v_lt (xv_var 4) xv_int) (fun _ => xw_and1 (xb_val (xv_var 3))))) (fun h => ?_) (fun _ => xs_nil ?_))
  · simp at h
  refine xs_cons (xs_asg 5 (xe_callE 0 (Φ := fun d => ∃ a : Sy, d = eS a ∧ (a.dep : Int) ≤ depth - 1 ∧ a.lt letters) G hr (xl_cons (xv_var 1) (xl_cons (xv_bin op_sub v_sub (xv_var 2) xv_int) (xl_cons (xv_var 3) xa_nil))).up (fun ds h => ⟨letters, depth - 1, h, ⟨hl, hl2, by omega, by omega⟩, fun s h1 h2 => ⟨s, rfl, h1, h2⟩⟩)) (fun d ⟨a, hd, a1, a2⟩ => ?_) sc_saying.nd)
  subst hd
  have ops : ∃ opn : Str, atI [D.str "and", D.str "or", D.str "if"] (kind % 3) = some (.str opn) ∧ ∀ b : Sy, (b.dep : Int) ≤ depth - 1 → b.lt letters → Φ (.tup [.str opn, eS a, eS b]) := by
    have e : kind % 3 = 0 ∨ kind % 3 = 1 ∨ kind % 3 = 2 := by omega
    rcases e with e | e | e <;> rw [e]
    · exact ⟨"and", rfl, fun b b1 b2 => hΦ (.and a b) (by simp only [Sy.dep]; omega) ⟨a2, b2⟩⟩
    · exact ⟨"or", rfl, fun b b1 b2 => hΦ (.or a b) (by simp only [Sy.dep]; omega) ⟨a2, b2⟩⟩
    · exact ⟨"if", rfl, fun b b1 b2 => hΦ (.imp a b) (by simp only [Sy.dep]; omega) ⟨a2, b2⟩⟩
  obtain ⟨opn, ho, hop⟩ := ops
  exact xs_cons (xs_ret (xe_tup (Φ := fun ds => ∃ b : Sy, ds = [.str opn, eS a, eS b] ∧ (b.dep : Int) ≤ depth - 1 ∧ b.lt letters) (Ψ := fun d => ∃ b : Sy, d = .tup [.str opn, eS a, eS b] ∧ (b.dep : Int) ≤ depth - 1 ∧ b.lt letters) (xa_then (xv_ix ix_list (v_ixL ho) (xv_lst (xl_cons xv_str (xl_cons xv_str (xl_cons xv_str xa_nil)))) (xv_bin op_mod (v_mod (by omega)) (xv_intI (xv_var 4) m_int) xv_int)) (xa_then (Ψ := fun ds => ∃ b : Sy, ds = [eS a, eS b] ∧ (b.dep : Int) ≤ depth - 1 ∧ b.lt letters) (xv_var 5) (xa_one (Ψ := fun ds => ∃ a : Sy, ds = [eS a] ∧ (a.dep : Int) ≤ depth - 1 ∧ a.lt letters) (xe_callE 0 (Φ := fun d => ∃ a : Sy, d = eS a ∧ (a.dep : Int) ≤ depth - 1 ∧ a.lt letters) G hr (xl_cons (xv_var 1) (xl_cons (xv_bin op_sub v_sub (xv_var 2) xv_int) (xl_cons (xv_var 3) xa_nil))).up (fun ds h => ⟨letters, depth - 1, h, ⟨hl, hl2, by omega, by omega⟩, fun s h1 h2 => ⟨s, rfl, h1, h2⟩⟩)) (fun d ⟨a, h, h0⟩ => ⟨a, by rw [h], h0⟩)) (fun ds ⟨b, h, h0⟩ => ⟨b, by rw [h], h0⟩)) (fun ds ⟨b, h, h0⟩ => ⟨b, by rw [h], h0⟩)) (fun ds ⟨v, h, h0⟩ => ⟨v, by rw [h], h0⟩) (by decide) (fun ds ⟨v, h, _⟩ => by rw [h]; simp)) (fun d ⟨b, h, h0, h1⟩ => by
    refine ⟨?_, stO, rfl, rfl⟩
    subst h
    exact hop b h0 h1))
end
section
variable {P : Program} {w : World} {K : PySem.W.Frag} {mg : Str → Option Value} {base : Heap}
theorem cal_saying (D : Dd K mg "_law_saying" s_saying ["state", "letters", "depth", "boxes"]) (c_pick : Cal P w K mg base 1 "_law_pick" ["state", "limit"] (spE K stO cPick)) (m_int : mg "int" = none) : ∀ n, Cal P w K mg base (n + 1) "_law_saying" ["state", "letters", "depth", "boxes"] (spE K stO (cSay n))
  | 0 => Cal.of D fun _ => fn_absurd fun vs H Q E ⟨a, ws, ds, Φ, Hb, u, _, ⟨_, _, _, ⟨_, _, h0, h1⟩, _⟩, _⟩ => by omega
  | n + 1 => Cal.of D fun F => ok_saying F (cal_saying D c_pick m_int n) c_pick m_int
end
end K83

namespace K83
open PySem PySem.Spec PyProof.Rows L2 Evl DL WB
section
variable {P : Program} {w : World} {K : PySem.W.Frag} {mg : Str → Option Value} {base : Heap}
abbrev s_rules : Stmt := topS 36
abbrev n_rules : List Str := ["state", "many", "most", "found", "k", "rule", "side", "one"]
theorem sc_rules : FnScope n_rules ["state", "many", "most"] (defScope s_rules) := ⟨rfl, rfl, rfl, by decide +kernel, rfl, by decide +kernel, by decide +kernel⟩
theorem ok_rules {f : Addr} {fd : FuncData} (F : Fun K "_law_rules" "_law_rules" s_rules f fd) (c_pick : Cal P w K mg base 1 "_law_pick" ["state", "limit"] (spE K stO cPick)) (c_saying : Cal P w K mg base 4 "_law_saying" ["state", "letters", "depth", "boxes"] (spE K stO (cSay 3))) (m_range : mg "range" = none) : FnOk P w K mg base CX0 (4 + 1) f fd ["state", "many", "most"] (spE K stO cRules) := by
  refine fn_eff (o := stO) (fun o => o = stO) (fun Hb u o' h r => h ▸ r) F sc_rules (fun ds Φ ⟨_, _, h, _⟩ => by rw [h]; rfl) fun cdv A outer s0 H E hr ds Φ ⟨many, most, hd, ⟨hm, hm0, hm1⟩, hΦ⟩ => ?_
  subst hd
  have hr1 := hr.mono (by decide : 1 ≤ 4)
  refine xs_cons (xs_asgO 3 (xo_lst (ds := []) xa_nil) ?_ sc_rules.nd)
  refine xs_loopD (js := [4]) (fun rules : List Rule => [.ow stO, .pd (.int many), .pd (.int most), .ow (.ml (rules.map (pT eS eS))), .un, .un, .un, .un]) (fun n rules => rules.length = n ∧ smallRs many rules) [] (xi_range1D (xe_pick 0 c_pick hr1 (xv_bin op_add v_add (xv_var 2) xv_int) ⟨by omega, by omega⟩) (by omega) m_range) (pg_name (i := 4) sc_rules.nd rfl (by first | exact Or.inl rfl | exact Or.inr rfl)) (fun _ => gt_name) (by repeat (first | exact le_nil | refine le_eq ?_ | refine le_un ?_)) ⟨rfl, fun r h => nomatch h⟩ (fun i rules hi ⟨hlen, hok⟩ => ?_) (fun n rules hn ⟨hlen, hok⟩ => ?_) PassesOwn.never
  · have hsz : (rules.map (pT eS eS)).length < 100000 := by rw [List.length_map]; omega
    refine xs_cons (xs_if (Φ := fun _ => True) (xt_eqI (xe_pick 0 c_pick hr1 xv_int ⟨by omega, by omega⟩) xv_int (fun _ _ _ => trivial)) (fun _ => ?_) (fun _ => ?_))
    · refine xs_cons (xs_asgO 5 (xo_lst (ds := []) xa_nil) ?_ sc_rules.nd)
      refine xs_loopI (f := D.int) (xs := rng 0 2) (js := [6]) (fun side => [D.int side]) (fun l : List Sy => [.ow stO, .pd (.int many), .pd (.int most), .ow (.ml (rules.map (pT eS eS))), .un, .ow (.ml (l.map eS)), .un, .un]) (fun n l => l.length = n ∧ ∀ s ∈ l, small many s) [] (xw_range1 (xl_cons xv_int xa_nil) (by omega) m_range (by omega)) (pg_name (i := 6) sc_rules.nd rfl (by first | exact Or.inl rfl | exact Or.inr rfl)) (fun _ _ => gt_name) (by repeat (first | exact le_nil | refine le_eq ?_ | refine le_un ?_)) ⟨rfl, fun r h => nomatch h⟩ (fun j side l hj ⟨ll, lok⟩ => ?_) (fun l ⟨ll, lok⟩ => ?_) PassesOwn.never
      · have hj2 : j < 2 := by
          have := (List.getElem?_eq_some_iff.mp hj).1
          rwa [rng_len] at this
        have hsz2 : (l.map eS).length < 100000 := by rw [List.length_map]; omega
        refine xs_cons (xs_asg 7 (xe_tup (Φ := fun ds => ∃ v, ds = [.str "letter", .int v] ∧ 0 ≤ v ∧ v < many) (Ψ := fun d => ∃ v, d = eS (.letter v) ∧ 0 ≤ v ∧ v < many) (xa_then xv_str (xa_one (Ψ := fun ds => ∃ v, ds = [.int v] ∧ 0 ≤ v ∧ v < many) (xe_pick 0 c_pick hr1 (xv_var 1) ⟨by omega, by omega⟩) (fun d ⟨v, h, h0⟩ => ⟨v, by rw [h], h0⟩)) (fun ds ⟨v, h, h0⟩ => ⟨v, by rw [h], h0⟩)) (fun ds ⟨v, h, h0⟩ => ⟨v, by rw [h]; rfl, h0⟩) (by decide) (fun ds ⟨v, h, _⟩ => by rw [h]; simp)) (fun d ⟨v, hd, hv⟩ => ?_) sc_rules.nd)
        subst hd
        refine xs_cons (xs_app 5 (xe_ixD (f := eS) (l := [.letter v, .neg (.letter v)]) (Ψ := fun d => ∃ s, d = eS s ∧ small many s) (xv_lst (xl_cons (xv_var 7) (xl_cons (xv_tup (hl := by simp) (xl_cons xv_str (xl_cons (xv_var 7) xa_nil))) xa_nil)) (by simp)) (xe_pick 0 c_pick hr1 xv_int ⟨by omega, by omega⟩) (by simp) (fun s hs => by
          simp only [List.mem_cons, List.not_mem_nil, or_false] at hs
          rcases hs with rfl | rfl
          · exact ⟨_, rfl, by simp [Sy.dep], hv⟩
          · exact ⟨_, rfl, by simp [Sy.dep], hv⟩)) (fun d ⟨s, hd, hs⟩ => ?_) hsz2)
        subst hd
        refine xs_nil ⟨l ++ [s], ⟨by rw [List.length_append, ll]; rfl, fun x hx => ?_⟩, ?_⟩
        · rcases List.mem_append.mp hx with hx | hx
          · exact lok x hx
          · rw [List.mem_singleton.mp hx]; exact hs
        · rw [List.map_append]
          repeat (first | exact le_nil | refine le_eq ?_ | refine le_un ?_)
      · refine xs_freeze 5 ?_
        have n2 : l.length = 2 := by rw [ll, rng_len]; rfl
        have h0 : small many (l.getD 0 .fls) := lok _ (by rw [List.getD_eq_getElem?_getD, List.getElem?_eq_getElem (by omega)]; exact List.getElem_mem _)
        have h1 : small many (l.getD 1 .fls) := lok _ (by rw [List.getD_eq_getElem?_getD, List.getElem?_eq_getElem (by omega)]; exact List.getElem_mem _)
        refine xs_cons (xs_app 3 (xv_tup (hl := by simp) (xl_cons (xv_ix ix_list (v_ixLT (f := eS) (l := l) (i := 0) (atI_getD (d := Sy.fls) (by omega) (by omega))) (xv_var 5) xv_int) (xl_cons (xv_ix ix_list (v_ixLT (f := eS) (l := l) (i := 1) (atI_getD (d := Sy.fls) (by omega) (by omega))) (xv_var 5) xv_int) xa_nil))) (fun d hd => ?_) hsz)
        subst hd
        refine xs_nil (xs_nil ⟨rules ++ [(l.getD 0 .fls, l.getD 1 .fls)], ⟨by rw [List.length_append, hlen]; rfl, fun r hr' => ?_⟩, ?_⟩)
        · rcases List.mem_append.mp hr' with hx | hx
          · exact hok r hx
          · rw [List.mem_singleton.mp hx]; exact ⟨h0, h1⟩
        · rw [List.map_append]
          repeat (first | exact le_nil | refine le_eq ?_ | refine le_un ?_)
    · refine xs_cons (xs_app 3 (xe_tup (Φ := fun ds => ∃ r : Rule, ds = [eS r.1, eS r.2] ∧ smallR many r) (Ψ := fun d => ∃ r : Rule, d = pT eS eS r ∧ smallR many r) (xa_cons (Φ := fun ds => ∃ r : Rule, ds = [eS r.1, eS r.2] ∧ smallR many r) (xe_callE 0 (Φ := fun d => ∃ a : Sy, d = eS a ∧ small many a) c_saying hr (xl_cons (xv_var 1) (xl_cons xv_int (xl_cons xv_bl xa_nil))).up (fun ds h => ⟨many, 2, h, ⟨by omega, by omega, by omega, by omega⟩, fun s h1 h2 => ⟨s, rfl, by omega, h2⟩⟩)) (fun _ _ => xa_one (Ψ := fun ds => ∃ a : Sy, ds = [eS a] ∧ small many a) (xe_callE 0 (Φ := fun d => ∃ a : Sy, d = eS a ∧ small many a) c_saying hr (xl_cons (xv_var 1) (xl_cons xv_int (xl_cons xv_bl xa_nil))).up (fun ds h => ⟨many, 2, h, ⟨by omega, by omega, by omega, by omega⟩, fun s h1 h2 => ⟨s, rfl, by omega, h2⟩⟩)) (fun d ⟨a, h, h0⟩ => ⟨a, by rw [h], h0⟩)) (fun d ds ⟨a, h1, h2⟩ ⟨b, k1, k2⟩ => ⟨(a, b), by rw [h1, k1], h2, k2⟩)) (fun ds ⟨r, h, h0⟩ => ⟨r, by rw [h]; rfl, h0⟩) (by decide) (fun ds ⟨v, h, _⟩ => by rw [h]; simp)) (fun d ⟨r, hd, hr'⟩ => ?_) hsz)
      subst hd
      refine xs_nil (xs_nil ⟨rules ++ [r], ⟨by rw [List.length_append, hlen]; rfl, fun x hx => ?_⟩, ?_⟩)
      · rcases List.mem_append.mp hx with hx | hx
        · exact hok x hx
        · rw [List.mem_singleton.mp hx]; exact hr'
      · rw [List.map_append]
        repeat (first | exact le_nil | refine le_eq ?_ | refine le_un ?_)
  · refine xs_freeze 3 ?_
    exact xs_cons (xs_retV (xv_var 3) ⟨hΦ rules (by omega) hok, stO, rfl, rfl⟩)

end
end K83

namespace K83
open PySem PySem.Spec PyProof.Rows L2 Evl DL WB
section
variable {P : Program} {w : World} {K : PySem.W.Frag} {mg : Str → Option Value} {base : Heap}
abbrev s_subsets : Stmt := topS 1
abbrev n_subsets : List Str := ["many", "x", "mask"]
theorem sc_subsets : FnScope n_subsets ["many"] (defScope s_subsets) := ⟨rfl, rfl, rfl, by decide +kernel, rfl, by decide +kernel, by decide +kernel⟩
theorem ok_subsets {f : Addr} {fd : FuncData} (F : Fun K "subsets" "subsets" s_subsets f fd) (m_range : mg "range" = none) (m_tuple : mg "tuple" = none) : FnOk P w K mg base CX0 (0 + 1) f fd ["many"] (spP K cBits) := by
  refine fn_pure F sc_subsets (fun ds Φ ⟨n, hd, hn, hΦ⟩ => by rw [hd]; rfl) fun cdv A outer s0 H E hr ds Φ ⟨n, hd, hn, hΦ⟩ => ?_
  subst hd
  have h2 : (2 : Int) ^ (n : Int).toNat ≤ 32 := by
    rw [Int.toNat_natCast]
    have z : (2 : Nat) ^ n ≤ 2 ^ 5 := Nat.pow_le_pow_right (by decide) hn
    have e : ((2 ^ n : Nat) : Int) = (2 : Int) ^ n := Int.natCast_pow 2 n
    omega
  have h0 : (0 : Int) ≤ (2 : Int) ^ (n : Int).toNat := Int.pow_nonneg (by decide)
  exact xs_cons (xs_retV (xo_map (f := D.int) (xs := (rng 0 (1 * 2 ^ ((n : Int)).toNat))) [2] (fun mask => [D.int mask]) (tT D.int) (fun mask => (((rng 0 (n : Int)).filter fun x1 => ((Builtin.bitAnd (mask / 2 ^ (x1).toNat) 1) != 0)).map fun x1 => x1)) [("mask", 2)] (xw_range1 (xl_cons (xv_bin op_shl (v_shl (i := 1) (j := (n : Int)) ⟨by omega, by omega, by decide⟩) xv_int (xv_var 0)) xa_nil) (by omega) m_range (by omega)) (fun _ _ _ _ _ => pg_name (i := 2) sc_subsets.nd rfl (by first | exact Or.inl rfl | exact Or.inr rfl)) (fun _ _ => gt_name) (fun mask hmask _ _ _ _ _ => (xv_tupleL (f := D.int) (xo_lc (f := D.int) (xs := (rng 0 (n : Int))) [1] (fun x1 => [D.int x1]) (fun x1 => ((Builtin.bitAnd (mask / 2 ^ (x1).toNat) 1) != 0)) D.int (fun x1 => x1) [("x", 1)] (xw_range1 (xl_cons (xv_var 0) xa_nil) (by have mmask := mem_rng.mp hmask; omega) m_range (by have mmask := mem_rng.mp hmask; omega)) (fun _ _ _ _ _ => pg_name (i := 1) sc_subsets.nd rfl (by first | exact Or.inl rfl | exact Or.inr rfl)) (fun _ _ => gt_name) .one (fun x1 hx1 => jt_wb fun _ _ _ _ _ => (xb_truthI (xv_bin op_and v_and (xv_bin op_shr (v_shr (by have mx1 := mem_rng.mp hx1; have mmask := mem_rng.mp hmask; omega)) (xv_var 2) (xv_var 1)) xv_int))) (fun x1 hx1 px1 _ _ _ _ _ => (xv_var 1)) (by rw [rng_len]; omega) (blkOk_by (N := n_subsets) (sc := (relS _ (defScope s_subsets))) (by decide +kernel)) sc_subsets.nd).frz m_tuple)) (by rw [rng_len]; omega) (blkOk_by (N := n_subsets) (sc := defScope s_subsets) (by decide +kernel)) sc_subsets.nd).frz (by rw [bits_masks hn]; exact hΦ))
abbrev s_worlds_sets : Stmt := topS 3
abbrev n_worlds_sets : List Str := ["many", "some"]
theorem sc_worlds_sets : FnScope n_worlds_sets ["many"] (defScope s_worlds_sets) := ⟨rfl, rfl, rfl, by decide +kernel, rfl, by decide +kernel, by decide +kernel⟩
theorem ok_worlds_sets {f : Addr} {fd : FuncData} (F : Fun K "worlds_sets" "worlds_sets" s_worlds_sets f fd) (c_subsets : Cal P w K mg base 1 "subsets" ["many"] (spP K cBits)) (m_len : mg "len" = none) : FnOk P w K mg base CX0 (1 + 1) f fd ["many"] (spP K cWs) := by
  refine fn_pure F sc_worlds_sets (fun ds Φ ⟨n, hd, hn, hΦ⟩ => by rw [hd]; rfl) fun cdv A outer s0 H E hr ds Φ ⟨n, hd, hn, hΦ⟩ => ?_
  subst hd
  have h32 := bits_32 hn
  exact xs_cons (xs_retV (xo_lc (f := (tT D.int)) (xs := (bitsN n)) [1] (fun sm => [(tT D.int) sm]) (fun sm => (decide (0 < (sm.length : Int)))) (tT D.int) (fun sm => sm) [("some", 1)] (xw_listT (f := (tT D.int)) (xv_call c_subsets (hr.mono (by decide)) (xl_cons (xv_var 0) xa_nil) ⟨n, rfl, hn, rfl⟩)) (fun _ _ _ _ _ => pg_name (i := 1) sc_worlds_sets.nd rfl (by first | exact Or.inl rfl | exact Or.inr rfl)) (fun _ _ => gt_name) .one (fun sm hsm => jt_wb fun _ _ _ _ _ => (xb_cmp op_gt v_gt (xv_lenTT (f := D.int) (xv_var 1) m_len) xv_int)) (fun sm hsm psm _ _ _ _ _ => (xv_var 1)) (by omega) (blkOk_by (N := n_worlds_sets) (sc := defScope s_worlds_sets) (by decide +kernel)) sc_worlds_sets.nd).frz hΦ)
abbrev s_choice_of : Stmt := topS 4
abbrev n_choice_of : List Str := ["ranks", "found", "some", "least", "x"]
theorem sc_choice_of : FnScope n_choice_of ["ranks"] (defScope s_choice_of) := ⟨rfl, rfl, rfl, by decide +kernel, rfl, by decide +kernel, by decide +kernel⟩
theorem ok_choice_of {f : Addr} {fd : FuncData} (F : Fun K "choice_of" "choice_of" s_choice_of f fd) (c_worlds_sets : Cal P w K mg base 2 "worlds_sets" ["many"] (spP K cWs)) (m_len : mg "len" = none) (m_min : mg "min" = none) (m_tuple : mg "tuple" = none) : FnOk P w K mg base CX0 (2 + 1) f fd ["ranks"] (spP K cChoice) := by
  refine fn_pure F sc_choice_of (fun ds Φ ⟨ranks, hd, hn, hΦ⟩ => by rw [hd]; rfl) fun cdv A outer s0 H E hr ds Φ ⟨ranks, hd, hn, hΦ⟩ => ?_
  subst hd
  have hu64 := hu_64 hr
  have hu65 := hu_65 hr
  have h32 := bits_32 hn
  have hwl := ws_len (n := ranks.length)
  refine xs_cons (xs_asgO 1 (xo_dict (f := (tT D.int))) ?_ sc_choice_of.nd)
  refine xs_loop (f := (tT D.int)) (xs := (wsN ranks.length)) (js := [2]) (fun sm => [(tT D.int) sm]) (fun l : Dct => [.pd (tT D.int ranks), .ow (odT (tT D.int) l), .un, .un, .un]) (fun pre => tabA pre (chose ranks)) (xw_listT (f := (tT D.int)) (xv_call c_worlds_sets (hr.mono (by decide)) (xl_cons (xv_lenTT (f := D.int) (xv_var 0) m_len) xa_nil) ⟨ranks.length, rfl, hn, rfl⟩)) (pg_name (i := 2) sc_choice_of.nd rfl (by first | exact Or.inl rfl | exact Or.inr rfl)) (fun _ _ => gt_name) le_refl (fun pre sm post hx => ?_) ?_ PassesOwn.never
  ·
    have hsm : sm ∈ wsN ranks.length := by rw [hx]; simp
    have hb := (mem_ws.mp hsm).1
    have hne := (mem_ws.mp hsm).2
    have hin := fun {x : Int} (h : x ∈ sm) => bit_in hb h
    have hbl := bit_len hb
    have hnew := pre_new (ws_nodup hn) hx (g := chose ranks)
    have hpl : (tabA pre (chose ranks)).length < 100000 := by
      have e := congrArg List.length hx
      rw [List.length_append, List.length_cons] at e
      unfold tabA
      rw [List.length_map]
      omega
    refine xs_cons (xs_asgV 3 (xv_min (xo_map (f := D.int) (xs := sm) [4] (fun x => [D.int x]) D.int (fun x => (ranks.getD (x).toNat 0)) [("x", 4)] (xw_tupT (f := D.int) (xv_var 2)) (fun _ _ _ _ _ => pg_name (i := 4) sc_choice_of.nd rfl (by first | exact Or.inl rfl | exact Or.inr rfl)) (fun _ _ => gt_name) (fun x hx _ _ _ _ _ => (xv_ix ix_tup (v_ixTT (f := D.int) (atI_getD (hin hx).1 (hin hx).2)) (xv_var 0) (xv_var 4))) (by omega) (blkOk_by (N := n_choice_of) (sc := defScope s_choice_of) (by decide +kernel)) sc_choice_of.nd).frz (by intro e; exact hne (List.map_eq_nil_iff.mp e)) m_min) ?_ sc_choice_of.nd)
    refine xs_cons (xs_setDV (f := (tT D.int)) (y := ((sm.filter fun x => (decide ((ranks.getD (x).toNat 0) = (lmin (sm.map fun x => (ranks.getD (x).toNat 0)))))).map fun x => x)) (k := sm) 1 hu65 (xv_tupleL (f := D.int) (xo_lc (f := D.int) (xs := sm) [4] (fun x => [D.int x]) (fun x => (decide ((ranks.getD (x).toNat 0) = (lmin (sm.map fun x => (ranks.getD (x).toNat 0)))))) D.int (fun x => x) [("x", 4)] (xw_tupT (f := D.int) (xv_var 2)) (fun _ _ _ _ _ => pg_name (i := 4) sc_choice_of.nd rfl (by first | exact Or.inl rfl | exact Or.inr rfl)) (fun _ _ => gt_name) .one (fun x hx => jt_wb fun _ _ _ _ _ => (xb_cmp op_eq v_eqI (xv_ix ix_tup (v_ixTT (f := D.int) (atI_getD (hin hx).1 (hin hx).2)) (xv_var 0) (xv_var 4)) (xv_var 3))) (fun x hx px _ _ _ _ _ => (xv_var 4)) (by omega) (blkOk_by (N := n_choice_of) (sc := defScope s_choice_of) (by decide +kernel)) sc_choice_of.nd).frz m_tuple) (xv_var 2) hpl ?_)
    refine xs_nil ?_
    rw [tab_snoc, putA_new hnew]
    repeat (first | exact le_nil | refine le_eq ?_ | refine le_un ?_)
  ·
    refine xs_freezeD 1 ?_
    exact xs_cons (xs_retV (xv_var 1) hΦ)
abbrev s_believed : Stmt := topS 8
abbrev n_believed : List Str := ["choice", "many"]
theorem sc_believed : FnScope n_believed ["choice", "many"] (defScope s_believed) := ⟨rfl, rfl, rfl, by decide +kernel, rfl, by decide +kernel, by decide +kernel⟩
theorem ok_believed {f : Addr} {fd : FuncData} (F : Fun K "believed" "believed" s_believed f fd) (m_range : mg "range" = none) (m_tuple : mg "tuple" = none) : FnOk P w K mg base CX0 (0 + 1) f fd ["choice", "many"] (spP K cBel) := by
  refine fn_pure F sc_believed (fun ds Φ ⟨l, n, hd, ⟨hn, hk⟩, hΦ⟩ => by rw [hd]; rfl) fun cdv A outer s0 H E hr ds Φ ⟨l, n, hd, ⟨hn, hk⟩, hΦ⟩ => ?_
  subst hd
  have hu64 := hu_64 hr
  have hu65 := hu_65 hr
  exact xs_cons (xs_retV (xv_get (f := (tT D.int)) (xv_var 0) (xv_tupRg (xg_1 (xv_var 1) m_range) ⟨(by omega), (by omega)⟩ ⟨(by omega), (by omega)⟩ m_tuple) hu65 (ga_some hk)) hΦ)
abbrev s_revised : Stmt := topS 7
abbrev n_revised : List Str := ["choice", "many", "learned"]
theorem sc_revised : FnScope n_revised ["choice", "many", "learned"] (defScope s_revised) := ⟨rfl, rfl, rfl, by decide +kernel, rfl, by decide +kernel, by decide +kernel⟩
theorem ok_revised {f : Addr} {fd : FuncData} (F : Fun K "revised" "revised" s_revised f fd)  : FnOk P w K mg base CX0 (0 + 1) f fd ["choice", "many", "learned"] (spP K cRev) := by
  refine fn_pure F sc_revised (fun ds Φ ⟨l, n, sm, hd, hk, hΦ⟩ => by rw [hd]; rfl) fun cdv A outer s0 H E hr ds Φ ⟨l, n, sm, hd, hk, hΦ⟩ => ?_
  subst hd
  have hu64 := hu_64 hr
  have hu65 := hu_65 hr
  exact xs_cons (xs_retV (xv_get (f := (tT D.int)) (xv_var 0) (xv_var 2) hu65 (ga_some hk)) hΦ)
abbrev s_choice_fault : Stmt := topS 5
abbrev n_choice_fault : List Str := ["choice", "many", "greater", "lesser", "x", "common"]
theorem sc_choice_fault : FnScope n_choice_fault ["choice", "many"] (defScope s_choice_fault) := ⟨rfl, rfl, rfl, by decide +kernel, rfl, by decide +kernel, by decide +kernel⟩
theorem ok_choice_fault {f : Addr} {fd : FuncData} (F : Fun K "choice_fault" "choice_fault" s_choice_fault f fd) (c_worlds_sets : Cal P w K mg base 2 "worlds_sets" ["many"] (spP K cWs)) (m_len : mg "len" = none) (m_all : mg "all" = none) (m_tuple : mg "tuple" = none) : FnOk P w K mg base CX0 (2 + 1) f fd ["choice", "many"] (spP K cCF) := by
  refine fn_pure F sc_choice_fault (fun ds Φ ⟨l, n, hd, ⟨hn, hks, hsa⟩, hΦ⟩ => by rw [hd]; rfl) fun cdv A outer s0 H E hr ds Φ ⟨l, n, hd, ⟨hn, hks, hsa⟩, hΦ⟩ => ?_
  subst hd
  have hu64 := hu_64 hr
  have hu65 := hu_65 hr
  have h32 := bits_32 hn
  have hwl := ws_len (n := n)
  refine xs_loopP (f := (tT D.int)) (xs := (wsN n)) (js := [2]) (fun greater => [(tT D.int) greater]) (fun i : Nat => [.pd (dicT (tT D.int) l), .pd (.int (n : Int)), .un, .un, .un, .un]) (fun pre => pre.length) (fun pre => ∀ p ∈ pre, ∀ q ∈ wsN n, cfB l p q = false) (xw_listT (f := (tT D.int)) (xv_call c_worlds_sets (hr.mono (by decide)) (xl_cons (xv_var 1) xa_nil) ⟨n, rfl, hn, rfl⟩)) (pg_name (i := 2) sc_choice_fault.nd rfl (by first | exact Or.inl rfl | exact Or.inr rfl)) (fun _ _ => gt_name) (by repeat (first | exact le_nil | refine le_eq ?_ | refine le_un ?_)) (fun p hp => nomatch hp) (fun pre greater post hx hiv => ?_) (fun hiv => ?_) PassesOwn.never
  ·
    refine xs_loopP (f := (tT D.int)) (xs := (wsN n)) (js := [3]) (fun lesser => [(tT D.int) lesser]) (fun i : Nat => [.pd (dicT (tT D.int) l), .pd (.int (n : Int)), .pd (tT D.int greater), .un, .un, .un]) (fun pre => pre.length) (fun pre => ∀ q ∈ pre, cfB l greater q = false) (xw_listT (f := (tT D.int)) (xv_call c_worlds_sets (hr.mono (by decide)) (xl_cons (xv_var 1) xa_nil) ⟨n, rfl, hn, rfl⟩)) (pg_name (i := 3) sc_choice_fault.nd rfl (by first | exact Or.inl rfl | exact Or.inr rfl)) (fun _ _ => gt_name) (by repeat (first | exact le_nil | refine le_eq ?_ | refine le_un ?_)) (fun p hp => nomatch hp) (fun pre2 lesser post2 hx2 hiv2 => ?_) (fun hiv2 => ?_) PassesOwn.never
    ·
      have hg : greater ∈ wsN n := by rw [hx]; simp
      have hs : lesser ∈ wsN n := by rw [hx2]; simp
      have hgl := bit_len (mem_ws.mp hg).1
      have hsl := bit_len (mem_ws.mp hs).1
      have hga := ga_len hsa (k := greater)
      refine xs_cons (xs_if (xb_val (xv_all (xo_map (f := D.int) (xs := lesser) [4] (fun x => [D.int x]) D.bl (fun x => (decide (x ∈ greater))) [("x", 4)] (xw_tupT (f := D.int) (xv_var 3)) (fun _ _ _ _ _ => pg_name (i := 4) sc_choice_fault.nd rfl (by first | exact Or.inl rfl | exact Or.inr rfl)) (fun _ _ => gt_name) (fun x hx _ _ _ _ _ => (xv_cmp op_in_seq v_inT (xv_var 4) (xv_var 2))) (by omega) (blkOk_by (N := n_choice_fault) (sc := defScope s_choice_fault) (by decide +kernel)) sc_choice_fault.nd).frz m_all)) (fun h1 => ?_) (fun h1 => ?_))
      ·
        refine xs_cons (xs_asgV 5 (xv_tupleL (f := D.int) (xo_lc (f := D.int) (xs := (ga l greater)) [4] (fun x => [D.int x]) (fun x => (decide (x ∈ lesser))) D.int (fun x => x) [("x", 4)] (xw_tupT (f := D.int) (xv_get (f := (tT D.int)) (xv_var 0) (xv_var 2) hu65 (ga_some (hks greater hg)))) (fun _ _ _ _ _ => pg_name (i := 4) sc_choice_fault.nd rfl (by first | exact Or.inl rfl | exact Or.inr rfl)) (fun _ _ => gt_name) .one (fun x hx => jt_wb fun _ _ _ _ _ => (xb_cmp op_in_seq v_inT (xv_var 4) (xv_var 3))) (fun x hx px _ _ _ _ _ => (xv_var 4)) (by omega) (blkOk_by (N := n_choice_fault) (sc := defScope s_choice_fault) (by decide +kernel)) sc_choice_fault.nd).frz m_tuple) ?_ sc_choice_fault.nd)
        refine xs_cons (xs_if (xt_w (xb_and (xb_cmp op_gt v_gt (xv_lenTT (f := D.int) (xv_var 5) m_len) xv_int) (fun _ => (xw_and1 (xb_cmp (op_neD hu64) (v_ne (f := (tT D.int))) (xv_get (f := (tT D.int)) (xv_var 0) (xv_var 3) hu65 (ga_some (hks lesser hs))) (xv_var 5)))))) (fun h2 => ?_) (fun h2 => ?_))
        ·
          exact xs_cons (xs_retV (xv_tup (hl := by simp) (xl_cons (xv_var 2) (xl_cons (xv_var 3) xa_nil))) (by rw [faultC_at hx hiv hx2 hiv2 (Bool.and_eq_true_iff.mpr ⟨h1.symm, h2.symm⟩)] at hΦ; exact hΦ))
        ·
          refine xs_nil ?_
          refine xs_nil ?_
          exact xs_nil ⟨(by repeat (first | exact le_nil | refine le_eq ?_ | refine le_un ?_)), fun q hq => by
            rcases List.mem_append.mp hq with hq | hq
            · exact hiv2 q hq
            · rw [List.mem_singleton.mp hq]; unfold cfB; rw [Bool.and_eq_false_iff]; exact .inr h2.symm⟩
      ·
        refine xs_nil ?_
        exact xs_nil ⟨(by repeat (first | exact le_nil | refine le_eq ?_ | refine le_un ?_)), fun q hq => by
            rcases List.mem_append.mp hq with hq | hq
            · exact hiv2 q hq
            · rw [List.mem_singleton.mp hq]; unfold cfB; rw [Bool.and_eq_false_iff]; exact .inl h1.symm⟩
    ·
      exact xs_nil ⟨(by repeat (first | exact le_nil | refine le_eq ?_ | refine le_un ?_)), fun p hp => by
        rcases List.mem_append.mp hp with hp | hp
        · exact hiv p hp
        · rw [List.mem_singleton.mp hp]; exact hiv2⟩
  ·
    exact xs_cons (xs_retV xv_non (by rw [faultC_none hiv] at hΦ; exact hΦ))
end
end K83

namespace K83
open PySem PySem.Spec PyProof.Rows L2 Evl DL WB
section
variable {P : Program} {w : World} {K : PySem.W.Frag} {mg : Str → Option Value} {base : Heap}
abbrev s_ranks_for : Stmt := topS 6
abbrev n_ranks_for : List Str := ["choice", "many", "fault", "left", "ranks", "rank", "x"]
theorem sc_ranks_for : FnScope n_ranks_for ["choice", "many"] (defScope s_ranks_for) := ⟨rfl, rfl, rfl, by decide +kernel, rfl, by decide +kernel, by decide +kernel⟩
theorem ok_ranks_for {f : Addr} {fd : FuncData} (F : Fun K "ranks_for" "ranks_for" s_ranks_for f fd) (c_choice_fault : Cal P w K mg base 3 "choice_fault" ["choice", "many"] (spP K cCF)) (m_len : mg "len" = none) (m_range : mg "range" = none) (m_tuple : mg "tuple" = none) : FnOk P w K mg base CX0 (3 + 1) f fd ["choice", "many"] (spP K cRF) := by
  refine fn_pure F sc_ranks_for (fun ds Φ ⟨l, n, hd, _, hΦ⟩ => by rw [hd]; rfl) fun cdv A outer s0 H E hr ds Φ ⟨l, n, hd, ⟨⟨hn1, hn⟩, hok, hsa⟩, hΦ⟩ => ?_
  subst hd
  have hu64 := hu_64 hr
  have hu65 := hu_65 hr
  have h32 := bits_32 hn
  refine xs_cons (xs_asgV 2 (xv_call c_choice_fault (hr.mono (by decide)) (xl_cons (xv_var 0) (xl_cons (xv_var 1) xa_nil)) ⟨l, n, rfl, ⟨hn, fun k hk => (hok k hk).1, hsa⟩, rfl⟩) ?_ sc_ranks_for.nd)
  unfold ranksFor at hΦ
  cases hf : faultC l n with
  | some p =>
    rw [hf] at hΦ
    refine xs_cons (xs_if (xb_cmp op_notN v_notN (xv_var 2) xv_non) (fun h1 => ?_) (fun h1 => Bool.noConfusion h1))
    exact xs_cons (xs_retV (xv_tup (hl := by simp) (xl_cons xv_str (xl_cons (xv_var 2) xa_nil))) hΦ)
  | none =>
    rw [hf] at hΦ
    refine xs_no (xb_cmp op_notN v_notN (xv_var 2) xv_non) ?_
    refine xs_cons (xs_asgV 3 (xv_tupRg (xg_1 (xv_var 1) m_range) ⟨(by omega), (by omega)⟩ ⟨(by omega), (by omega)⟩ m_tuple) ?_ sc_ranks_for.nd)
    refine xs_cons (xs_asgO 4 (xo_repL (f := D.int) (l := [0]) (k := (n : Int)) (xv_lst (xl_cons xv_int xa_nil)) (xv_var 1) ⟨by omega, by omega⟩ (by rw [Int.toNat_natCast, List.length_singleton]; omega)) ?_ sc_ranks_for.nd)
    rw [rep0]
    refine xs_cons (xs_asgV 5 xv_int ?_ sc_ranks_for.nd)
    refine xs_whl (fun s : List Int × List Int × Int => [.pd (dicT (tT D.int) l), .pd (.int (n : Int)), .pd .non, .pd (tT D.int s.1), .ow (.ml (s.2.1.map D.int)), .pd (.int s.2.2), .un]) (fun s => s.1.length) (fun s => s.1 ∈ bitsN n ∧ s.2.1.length = n ∧ peel l s.1.length s.1 s.2.1 s.2.2 = rankC l n) (rng 0 (n : Int), List.replicate n 0, 0) le_refl ⟨full_bit, List.length_replicate, by show peel l (rng 0 (n : Int)).length _ _ _ = _; rw [rng_len, show ((n : Int) - 0).toNat = n by omega]⟩ ?_ PassesOwn.never
    rintro ⟨left, r, k⟩ ⟨hb, hl, hp⟩
    have hb : left ∈ bitsN n := hb
    have hl : r.length = n := hl
    have hbl := bit_len hb
    refine ⟨_, xb_cmp op_gt v_gt (xv_lenTT (f := D.int) (xv_var 3) m_len) xv_int, fun h1 => ?_, fun h1 => ?_⟩
    · have h1 : (0 : Int) < (left.length : Int) := of_decide_eq_true h1
      have hne : left ≠ [] := fun e => by rw [e] at h1; simp at h1
      obtain ⟨g1, g2, g3⟩ := hok left (mem_ws.mpr ⟨hb, hne⟩)
      have hin : ∀ {y}, y ∈ ga l left → 0 ≤ y ∧ y < (n : Int) := fun hy => bit_in hb (g3.subset hy)
      refine xs_loop (f := D.int) (xs := ga l left) (js := [6]) (fun x => [D.int x]) (fun q : List Int => [.pd (dicT (tT D.int) l), .pd (.int (n : Int)), .pd .non, .pd (tT D.int left), .ow (.ml (q.map D.int)), .pd (.int k), .un]) (fun pre => setAll r pre k) (xw_tupT (f := D.int) (xv_get (f := tT D.int) (xv_var 0) (xv_var 3) hu65 (ga_some g1))) (pg_name (i := 6) sc_ranks_for.nd rfl (by first | exact Or.inl rfl | exact Or.inr rfl)) (fun _ _ => gt_name) le_refl (fun pre x post hx => ?_) ?_ PassesOwn.never
      · have hy := hin (y := x) (by rw [hx]; simp)
        refine xs_cons (xs_setL 4 (f := D.int) (l := setAll r pre k) (xv_var 5) (xv_var 6) ⟨hy.1, by rw [setAll_len, hl]; exact hy.2⟩ ?_)
        refine xs_nil ?_
        rw [← setAll_snoc]
        exact (by repeat (first | exact le_nil | refine le_eq ?_ | refine le_un ?_))
      · refine xs_cons (xs_asgV 3 (xv_tupleL (f := D.int) (xo_lc (f := D.int) (xs := left) [6] (fun x => [D.int x]) (fun x => (!decide (x ∈ ga l left))) D.int (fun x => x) [("x", 6)] (xw_tupT (f := D.int) (xv_var 3)) (fun _ _ _ _ _ => pg_name (i := 6) sc_ranks_for.nd rfl (by first | exact Or.inl rfl | exact Or.inr rfl)) (fun _ _ => gt_name) .one (fun x hx => jt_wb fun _ _ _ _ _ => (xb_cmp op_notIn_seq v_niT (xv_var 6) (xv_get (f := tT D.int) (xv_var 0) (xv_var 3) hu65 (ga_some g1)))) (fun x hx px _ _ _ _ _ => (xv_var 6)) (by omega) (blkOk_by (N := n_ranks_for) (sc := defScope s_ranks_for) (by decide +kernel)) sc_ranks_for.nd).frz m_tuple) ?_ sc_ranks_for.nd)
        refine xs_cons (xs_aug 5 ip_add xv_int ?_ sc_ranks_for.nd)
        have hll : (lessC l left).length < left.length := less_len hok hb hne
        refine xs_nil ⟨(lessC l left, setAll r (ga l left) k, k + 1), hll, ⟨less_bit hb, by rw [setAll_len]; exact hl, ?_⟩, by repeat (first | exact le_nil | refine le_eq ?_ | refine le_un ?_)⟩
        rw [← hp]
        show peel l (lessC l left).length (lessC l left) (setAll r (ga l left) k) (k + 1) = peel l left.length left r k
        obtain ⟨j, hj⟩ : ∃ j, left.length = j + 1 := ⟨left.length - 1, by omega⟩
        rw [hj, peel, if_neg hne]
        exact peel_fuel hok _ _ _ _ _ (less_bit hb) (Nat.le_refl _) (by omega)
    · have h1 : ¬ (0 : Int) < (left.length : Int) := of_decide_eq_false h1
      have he : left = [] := List.length_eq_zero_iff.mp (by omega)
      subst he
      have hp : r = rankC l n := hp
      refine xs_freeze 4 ?_
      exact xs_cons (xs_retV (xv_tup (hl := by simp) (xl_cons xv_str (xl_cons (xv_tupleL (f := D.int) (l := r) (xv_var 4) m_tuple) xa_nil))) (by rw [hp]; exact hΦ))
abbrev s_spheres_of : Stmt := topS 24
abbrev n_spheres_of : List Str := ["ranks", "many", "rows", "found", "rank", "k"]
theorem sc_spheres_of : FnScope n_spheres_of ["ranks", "many"] (defScope s_spheres_of) := ⟨rfl, rfl, rfl, by decide +kernel, rfl, by decide +kernel, by decide +kernel⟩
theorem ok_spheres_of {f : Addr} {fd : FuncData} (F : Fun K "spheres_of" "spheres_of" s_spheres_of f fd) (c_points_of : Cal P w K mg base 2 "points_of" ["many"] (spP K cPoints)) (m_len : mg "len" = none) (m_range : mg "range" = none) (m_sorted : mg "sorted" = none) (m_set : mg "set" = none) (m_tuple : mg "tuple" = none) : FnOk P w K mg base CX0 (3 + 1) f fd ["ranks", "many"] (spP K cSpheres) := by
  refine fn_pure F sc_spheres_of (fun ds Φ ⟨ranks, many, hd, ⟨hm, hl⟩, hΦ⟩ => by rw [hd]; rfl) fun cdv A outer s0 H E hr ds Φ ⟨ranks, many, hd, ⟨hm, hl⟩, hΦ⟩ => ?_
  subst hd
  have h8 := points_len8 hm
  have hsl := setI_len ranks
  refine xs_cons (xs_asgV 2 (xv_call c_points_of (hr.mono (by decide)) (xl_cons (xv_var 1) xa_nil) ⟨many, rfl, hm, rfl⟩) ?_ sc_spheres_of.nd)
  refine xs_cons (xs_asgO 3 (xo_lst xa_nil) ?_ sc_spheres_of.nd)
  refine xs_loop (f := D.int) (xs := (setI ranks)) (js := [4]) (fun rank => [D.int rank]) (fun pre => stG n_spheres_of [.pd (tT D.int ranks), .pd (.int many), .pd (lT (tT D.int) (points many)), .ow (.ml ((pre.map (sphere ranks (points many))).map (tT (tT D.int))))]) (fun pre => pre) (xw_listT (f := D.int) (xo_sortedSetT (xv_var 0) (by omega) m_sorted m_set).frz) (pg_name (i := 4) sc_spheres_of.nd rfl (by first | exact Or.inl rfl | exact Or.inr rfl)) (fun _ _ => gt_name) le_refl (fun pre rank post hx => ?_) ?_ PassesOwn.never
  ·
    have hsz : ((pre.map (sphere ranks (points many))).map (tT (tT D.int))).length < 100000 := by
      have e := congrArg List.length hx
      rw [List.length_append, List.length_cons] at e
      rw [List.length_map, List.length_map]
      omega
    refine xs_cons (xs_app 3 (xv_tupleL (f := (tT D.int)) (xo_lc (f := D.int) (xs := (rng 0 ((points many).length : Int))) [5] (fun k => [D.int k]) (fun k => (decide ((ranks.getD (k).toNat 0) ≤ rank))) (tT D.int) (fun k => ((points many).getD (k).toNat [])) [("k", 5)] (xw_range1 (xl_cons (xv_lenLT (f := (tT D.int)) (xv_var 2) m_len) xa_nil) (by omega) m_range (by omega)) (fun _ _ _ _ _ => pg_name (i := 5) sc_spheres_of.nd rfl (by first | exact Or.inl rfl | exact Or.inr rfl)) (fun _ _ => gt_name) .one (fun k hk => jt_wb fun _ _ _ _ _ => (xb_cmp op_le v_le (xv_ix ix_tup (v_ixTT (f := D.int) (atI_getD (by have mk := mem_rng.mp hk; omega) (by have mk := mem_rng.mp hk; omega))) (xv_var 0) (xv_var 5)) (xv_var 4))) (fun k hk pk _ _ _ _ _ => (xv_ix ix_list (v_ixLT (f := (tT D.int)) (atI_getD (by have mk := mem_rng.mp hk; omega) (by have mk := mem_rng.mp hk; omega))) (xv_var 2) (xv_var 5))) (by rw [rng_len]; omega) (blkOk_by (N := n_spheres_of) (sc := defScope s_spheres_of) (by decide +kernel)) sc_spheres_of.nd).frz m_tuple) (fun d hd => ?_) hsz)
    subst hd
    refine xs_nil ?_
    rw [List.map_append, List.map_append]
    exact le_eq (le_eq (le_eq (le_eq (le_un (le_un le_nil)))))
  ·
    refine xs_freeze 3 ?_
    exact xs_cons (xs_retV (xv_var 3) hΦ)
end
end K83

namespace K83
open PySem PySem.Spec PyProof.Rows L2 Evl DL WB
section
variable {P : Program} {w : World} {K : PySem.W.Frag} {mg : Str → Option Value} {base : Heap}
abbrev s_moved_ranks : Stmt := topS 9
abbrev n_moved_ranks : List Str := ["ranks", "learned", "way", "inner", "x", "least", "keys", "first", "second", "order", "key"]
theorem sc_moved_ranks : FnScope n_moved_ranks ["ranks", "learned", "way"] (defScope s_moved_ranks) := ⟨rfl, rfl, rfl, by decide +kernel, rfl, by decide +kernel, by decide +kernel⟩
theorem ok_moved_ranks {f : Addr} {fd : FuncData} (F : Fun K "moved_ranks" "moved_ranks" s_moved_ranks f fd) (m_len : mg "len" = none) (m_range : mg "range" = none) (m_min : mg "min" = none) (m_int : mg "int" = none) (m_tuple : mg "tuple" = none) (m_sorted : mg "sorted" = none) (m_set : mg "set" = none) : FnOk P w K mg base CX0 (0 + 1) f fd ["ranks", "learned", "way"] (spP K cMoved) := by
  refine fn_pure F sc_moved_ranks (fun ds Φ ⟨ranks, learned, wy, hd, ⟨hrl8, hex, hll, hb64⟩, hΦ⟩ => by rw [hd]; rfl) fun cdv A outer s0 H E hr ds Φ ⟨ranks, learned, wy, hd, ⟨hrl8, hex, hll, hb64⟩, hΦ⟩ => ?_
  subst hd
  have hu64 := hu_64 hr
  have hu65 := hu_65 hr
  have hrl : (rng 0 (ranks.length : Int)).length = ranks.length := by rw [rng_len]; omega
  refine xs_cons (xs_asgLc (f := D.int) (xs := (rng 0 (ranks.length : Int))) 3 [4] (fun x => [D.int x]) (fun x => (decide (x ∈ learned))) D.int (fun x => x) [("x", 4)] (xw_range1 (xl_cons (xv_lenTT (f := D.int) (xv_var 0) m_len) xa_nil) (by omega) m_range (by omega)) (fun _ _ _ _ _ => pg_name (i := 4) sc_moved_ranks.nd rfl (by first | exact Or.inl rfl | exact Or.inr rfl)) (fun _ _ => gt_name) .one (fun x hx => jt_wb fun _ _ _ _ _ => (xb_cmp op_in_seq v_inT (xv_var 4) (xv_var 1))) (fun x hx px _ _ _ _ _ => (xv_var 4)) (by omega) ?_ (blkOk_by (N := n_moved_ranks) (sc := defScope s_moved_ranks) (by decide +kernel)) sc_moved_ranks.nd (sw_true rfl rfl rfl (by decide +kernel)))
  refine xs_freeze 3 ?_
  have hne : (((rng 0 (ranks.length : Int)).filter fun x => (decide (x ∈ learned))).map fun x => x) ≠ [] := fun e => by
    obtain ⟨x, hx, h0⟩ := hex
    have : x ∈ (((rng 0 (ranks.length : Int)).filter fun x => (decide (x ∈ learned))).map fun x => x) := by rw [List.map_id', List.mem_filter, mem_rng, decide_eq_true_iff]; exact ⟨h0, hx⟩
    rw [e] at this
    exact nomatch this
  have hin : ∀ {x : Int}, x ∈ (((rng 0 (ranks.length : Int)).filter fun x => (decide (x ∈ learned))).map fun x => x) → 0 ≤ x ∧ x < (ranks.length : Int) := fun h => by rw [List.map_id', List.mem_filter] at h; exact mem_rng.mp h.1
  have hil : (((rng 0 (ranks.length : Int)).filter fun x => (decide (x ∈ learned))).map fun x => x).length ≤ 8 := by rw [List.length_map]; have := List.length_filter_le (fun x => (decide (x ∈ learned))) (rng 0 (ranks.length : Int)); omega
  have hdef : leastM ranks learned = lmin ((((rng 0 (ranks.length : Int)).filter fun x => (decide (x ∈ learned))).map fun x => x).map fun x => (ranks.getD (x).toNat 0)) := rfl
  generalize (((rng 0 (ranks.length : Int)).filter fun x => (decide (x ∈ learned))).map fun x => x) = inn at hne hin hil hdef ⊢
  refine xs_cons (xs_asgV 5 (d := .int (leastM ranks learned)) (XV.is (xv_min (xo_map (f := D.int) (xs := inn) [4] (fun x => [D.int x]) D.int (fun x => (ranks.getD (x).toNat 0)) [("x", 4)] (xw_listT (f := D.int) (xv_var 3)) (fun _ _ _ _ _ => pg_name (i := 4) sc_moved_ranks.nd rfl (by first | exact Or.inl rfl | exact Or.inr rfl)) (fun _ _ => gt_name) (fun x hx _ _ _ _ _ => (xv_ix ix_tup (v_ixTT (f := D.int) (atI_getD (hin hx).1 (hin hx).2)) (xv_var 0) (xv_var 4))) (by omega) (blkOk_by (N := n_moved_ranks) (sc := defScope s_moved_ranks) (by decide +kernel)) sc_moved_ranks.nd).frz (by intro e; exact hne (List.map_eq_nil_iff.mp e)) m_min) (by rw [hdef])) ?_ sc_moved_ranks.nd)
  refine xs_cons (xs_asgO 6 (xo_lst xa_nil) ?_ sc_moved_ranks.nd)
  refine xs_loop (f := D.int) (xs := (rng 0 (ranks.length : Int))) (js := [4]) (fun x => [D.int x]) (fun ks : List (List Int) => [.pd (tT D.int ranks), .pd (tT D.int learned), .pd (.str wy), .pd (lT D.int inn), .un, .pd (.int (leastM ranks learned)), .ow (.ml (ks.map (tT D.int))), .un, .un, .un, .un]) (fun pre => pre.map (keyM wy ranks learned)) (xw_range1 (xl_cons (xv_lenTT (f := D.int) (xv_var 0) m_len) xa_nil) (by omega) m_range (by omega)) (pg_name (i := 4) sc_moved_ranks.nd rfl (by first | exact Or.inl rfl | exact Or.inr rfl)) (fun _ _ => gt_name) (by repeat (first | exact le_nil | refine le_eq ?_ | refine le_un ?_)) (fun pre x post hx => ?_) ?_ PassesOwn.never
  · have hxm := mem_rng.mp (show x ∈ rng 0 (ranks.length : Int) by rw [hx]; simp)
    have hsz : ((pre.map (keyM wy ranks learned)).map (tT D.int)).length < 100000 := by
      have e := congrArg List.length hx
      rw [List.length_append, List.length_cons] at e
      rw [List.length_map, List.length_map]
      omega
    refine xs_cons (xs_asgV 7 (d := .int (firstM ranks learned x)) (xv_intB (xv_or (xv_cmp op_gt v_gt (xv_ix ix_tup (v_ixTT (f := D.int) (atI_getD hxm.1 hxm.2)) (xv_var 0) (xv_var 4)) (xv_var 5)) (fun _ => (xv_one (xv_cmp op_notIn_seq v_niT (xv_var 4) (xv_var 1))))) m_int) ?_ sc_moved_ranks.nd)
    refine xs_cons (xs_asgV 8 (d := .int (secondM learned x)) (xv_intB (xv_cmp op_notIn_seq v_niT (xv_var 4) (xv_var 1)) m_int) ?_ sc_moved_ranks.nd)
    refine xs_cons (xs_if (xb_cmp op_eq v_eqS (xv_var 2) xv_str) (fun h1 => ?_) (fun h1 => ?_))
    · refine xs_cons (xs_app 6 (Φ := fun z => z = tT D.int [firstM ranks learned x, ranks.getD x.toNat 0, 0]) (xv_tup (hl := by simp) (xl_cons (xv_var 7) (xl_cons (xv_ix ix_tup (v_ixTT (f := D.int) (atI_getD hxm.1 hxm.2)) (xv_var 0) (xv_var 4)) (xl_cons xv_int xa_nil)))) (fun d hd => ?_) hsz)
      refine xs_nil ?_
      refine xs_nil ?_
      subst hd
      have ek : keyM wy ranks learned x = [firstM ranks learned x, ranks.getD x.toNat 0, 0] := by unfold keyM; rw [if_pos h1.symm]
      rw [← ek, show (pre.map (keyM wy ranks learned)).map (tT D.int) ++ [tT D.int (keyM wy ranks learned x)] = ((pre ++ [x]).map (keyM wy ranks learned)).map (tT D.int) by rw [List.map_append, List.map_append]; rfl]
      exact (by repeat (first | exact le_nil | refine le_eq ?_ | refine le_un ?_))
    · refine xs_cons (xs_if (xb_cmp op_eq v_eqS (xv_var 2) xv_str) (fun h2 => ?_) (fun h2 => ?_))
      · refine xs_cons (xs_app 6 (Φ := fun z => z = tT D.int [secondM learned x, ranks.getD x.toNat 0, 0]) (xv_tup (hl := by simp) (xl_cons (xv_var 8) (xl_cons (xv_ix ix_tup (v_ixTT (f := D.int) (atI_getD hxm.1 hxm.2)) (xv_var 0) (xv_var 4)) (xl_cons xv_int xa_nil)))) (fun d hd => ?_) hsz)
        refine xs_nil ?_
        refine xs_nil ?_
        refine xs_nil ?_
        subst hd
        have ek : keyM wy ranks learned x = [secondM learned x, ranks.getD x.toNat 0, 0] := by unfold keyM; rw [if_neg (ifn h1), if_pos h2.symm]
        rw [← ek, show (pre.map (keyM wy ranks learned)).map (tT D.int) ++ [tT D.int (keyM wy ranks learned x)] = ((pre ++ [x]).map (keyM wy ranks learned)).map (tT D.int) by rw [List.map_append, List.map_append]; rfl]
        exact (by repeat (first | exact le_nil | refine le_eq ?_ | refine le_un ?_))
      · refine xs_cons (xs_app 6 (Φ := fun z => z = tT D.int [firstM ranks learned x, ranks.getD x.toNat 0, secondM learned x]) (xv_tup (hl := by simp) (xl_cons (xv_var 7) (xl_cons (xv_ix ix_tup (v_ixTT (f := D.int) (atI_getD hxm.1 hxm.2)) (xv_var 0) (xv_var 4)) (xl_cons (xv_var 8) xa_nil)))) (fun d hd => ?_) hsz)
        refine xs_nil ?_
        refine xs_nil ?_
        refine xs_nil ?_
        subst hd
        have ek : keyM wy ranks learned x = [firstM ranks learned x, ranks.getD x.toNat 0, secondM learned x] := by unfold keyM; rw [if_neg (ifn h1), if_neg (ifn h2)]
        rw [← ek, show (pre.map (keyM wy ranks learned)).map (tT D.int) ++ [tT D.int (keyM wy ranks learned x)] = ((pre ++ [x]).map (keyM wy ranks learned)).map (tT D.int) by rw [List.map_append, List.map_append]; rfl]
        exact (by repeat (first | exact le_nil | refine le_eq ?_ | refine le_un ?_))
  · have hks : (((rng 0 (ranks.length : Int)).map (keyM wy ranks learned)).map (tT D.int)).length ≤ 8 := by rw [List.length_map, List.length_map]; omega
    refine xs_freeze 6 ?_
    refine xs_cons (xs_asg 9 (xn_sortedSetTT (l := (rng 0 (ranks.length : Int)).map (keyM wy ranks learned)) (d := 3) (B := 64) (xv_var 6) (by rw [List.length_map]; omega) (by decide) (fun k hk => by
      obtain ⟨x, hx, rfl⟩ := List.mem_map.mp hk
      exact key_bd hb64 hx) hu65 m_sorted m_set).frzT (fun d ⟨r, hd, hn, hm, hp⟩ => ?_) sc_moved_ranks.nd)
    subst hd
    refine xs_cons (xs_retV (xv_tupleL (f := D.int) (xo_map (f := tT D.int) (xs := (rng 0 (ranks.length : Int)).map (keyM wy ranks learned)) [10] (fun key => [tT D.int key]) D.int (fun key => ((idxD key r : Nat) : Int)) [("key", 10)] (xw_listT (f := tT D.int) (xv_var 6)) (fun _ _ _ _ _ => pg_name (i := 10) sc_moved_ranks.nd rfl (by first | exact Or.inl rfl | exact Or.inr rfl)) (fun _ _ => gt_name) (fun key hkey _ _ _ _ _ => (xv_index (f := tT D.int) (l := r) (x := key) (xv_var 9) (xv_var 10) ((hm key).mpr hkey) (by show _ + 65 < cLine; exact hu65))) (by rw [List.length_map]; omega) (blkOk_by (N := n_moved_ranks) (sc := defScope s_moved_ranks) (by decide +kernel)) sc_moved_ranks.nd).frz m_tuple) ?_)
    have e : ((rng 0 (ranks.length : Int)).map (keyM wy ranks learned)).map (fun key => ((idxD key r : Nat) : Int)) = movedM wy ranks learned := by
      unfold movedM codesM
      rw [List.map_map, List.map_map]
      refine List.map_congr_left fun x hx => ?_
      show ((idxD (keyM wy ranks learned x) r : Nat) : Int) = _
      rw [idx_cnt hb64 hn hm hp hx]
      rfl
    rw [e]
    exact hΦ
abbrev s_law_set : Stmt := topS 39
abbrev n_law_set : List Str := ["saying", "many", "rows", "k"]
theorem sc_law_set : FnScope n_law_set ["saying", "many"] (defScope s_law_set) := ⟨rfl, rfl, rfl, by decide +kernel, rfl, by decide +kernel, by decide +kernel⟩
theorem ok_law_set {f : Addr} {fd : FuncData} (F : Fun K "_law_set" "_law_set" s_law_set f fd) (c_law_fits : Cal P w K mg base 8 "_law_fits" ["saying", "point"] (spP K (cFits 8))) (c_law_points : Cal P w K mg base 2 "_law_points" ["many"] (spP K cPoints)) (m_len : mg "len" = none) (m_range : mg "range" = none) (m_tuple : mg "tuple" = none) : FnOk P w K mg base CX0 (9 + 1) f fd ["saying", "many"] (spP K cSet) := by
  refine fn_pure F sc_law_set (fun ds Φ ⟨s, many, hd, ⟨hm, hsd, hsl⟩, hΦ⟩ => by rw [hd]; rfl) fun cdv A outer s0 H E hr ds Φ ⟨s, many, hd, ⟨hm, hsd, hsl⟩, hΦ⟩ => ?_
  subst hd
  have h8 := points_len8 hm
  refine xs_cons (xs_asgV 2 (xv_call c_law_points (hr.mono (by decide)) (xl_cons (xv_var 1) xa_nil) ⟨many, rfl, hm, rfl⟩) ?_ sc_law_set.nd)
  exact xs_cons (xs_retV (xv_tupleL (f := D.int) (xo_lc (f := D.int) (xs := (rng 0 ((points many).length : Int))) [3] (fun k => [D.int k]) (fun k => (fits s ((points many).getD (k).toNat []))) D.int (fun k => k) [("k", 3)] (xw_range1 (xl_cons (xv_lenLT (f := (tT D.int)) (xv_var 2) m_len) xa_nil) (by omega) m_range (by omega)) (fun _ _ _ _ _ => pg_name (i := 3) sc_law_set.nd rfl (by first | exact Or.inl rfl | exact Or.inr rfl)) (fun _ _ => gt_name) .one (fun k hk => jt_wb fun _ _ _ _ _ => (xb_val (xv_call c_law_fits (hr.mono (by decide)) (xl_cons (xv_var 0) (xl_cons (xv_ix ix_list (v_ixLT (f := (tT D.int)) (atI_getD (d := []) (by have mk := mem_rng.mp hk; omega) (by have mk := mem_rng.mp hk; omega))) (xv_var 2) (xv_var 3)) xa_nil)) ⟨s, ((points many).getD (k).toNat []), rfl, hsd, (by rw [points_mem hm (getD_pts (mem_rng.mp hk))]; exact hsl), rfl⟩))) (fun k hk pk _ _ _ _ _ => (xv_var 3)) (by rw [rng_len]; omega) (blkOk_by (N := n_law_set) (sc := defScope s_law_set) (by decide +kernel)) sc_law_set.nd).frz m_tuple) hΦ)
abbrev s_law_chosen : Stmt := topS 40
abbrev n_law_chosen : List Str := ["ranks", "some", "least", "x"]
theorem sc_law_chosen : FnScope n_law_chosen ["ranks", "some"] (defScope s_law_chosen) := ⟨rfl, rfl, rfl, by decide +kernel, rfl, by decide +kernel, by decide +kernel⟩
theorem ok_law_chosen {f : Addr} {fd : FuncData} (F : Fun K "_law_chosen" "_law_chosen" s_law_chosen f fd) (m_min : mg "min" = none) (m_tuple : mg "tuple" = none) : FnOk P w K mg base CX0 (0 + 1) f fd ["ranks", "some"] (spP K cChosen) := by
  refine fn_pure F sc_law_chosen (fun ds Φ ⟨ranks, sm, hd, ⟨hne, hin, hsl⟩, hΦ⟩ => by rw [hd]; rfl) fun cdv A outer s0 H E hr ds Φ ⟨ranks, sm, hd, ⟨hne, hin, hsl⟩, hΦ⟩ => ?_
  subst hd
  refine xs_cons (xs_asgV 2 (xv_min (xo_map (f := D.int) (xs := sm) [3] (fun x => [D.int x]) D.int (fun x => (ranks.getD (x).toNat 0)) [("x", 3)] (xw_tupT (f := D.int) (xv_var 1)) (fun _ _ _ _ _ => pg_name (i := 3) sc_law_chosen.nd rfl (by first | exact Or.inl rfl | exact Or.inr rfl)) (fun _ _ => gt_name) (fun x hx _ _ _ _ _ => (xv_ix ix_tup (v_ixTT (f := D.int) (atI_getD (hin x hx).1 (hin x hx).2)) (xv_var 0) (xv_var 3))) (by omega) (blkOk_by (N := n_law_chosen) (sc := defScope s_law_chosen) (by decide +kernel)) sc_law_chosen.nd).frz (by intro e; exact hne (List.map_eq_nil_iff.mp e)) m_min) ?_ sc_law_chosen.nd)
  exact xs_cons (xs_retV (xv_tupleL (f := D.int) (xo_lc (f := D.int) (xs := sm) [3] (fun x => [D.int x]) (fun x => (decide ((ranks.getD (x).toNat 0) = (lmin (sm.map fun x => (ranks.getD (x).toNat 0)))))) D.int (fun x => x) [("x", 3)] (xw_tupT (f := D.int) (xv_var 1)) (fun _ _ _ _ _ => pg_name (i := 3) sc_law_chosen.nd rfl (by first | exact Or.inl rfl | exact Or.inr rfl)) (fun _ _ => gt_name) .one (fun x hx => jt_wb fun _ _ _ _ _ => (xb_cmp op_eq v_eqI (xv_ix ix_tup (v_ixTT (f := D.int) (atI_getD (hin x hx).1 (hin x hx).2)) (xv_var 0) (xv_var 3)) (xv_var 2))) (fun x hx px _ _ _ _ _ => (xv_var 3)) (by omega) (blkOk_by (N := n_law_chosen) (sc := defScope s_law_chosen) (by decide +kernel)) sc_law_chosen.nd).frz m_tuple) hΦ)
end
end K83

namespace K83
open PySem PySem.Spec PyProof.Rows L2 Evl DL WB
section
variable {P : Program} {w : World} {K : PySem.W.Frag} {mg : Str → Option Value} {base : Heap}
abbrev s_law : Stmt := topS 41
abbrev n_law : List Str := ["script", "state", "many", "rows", "size", "ranks", "point", "choice", "one", "two", "first", "k", "right", "x", "spheres", "told", "a", "b", "second", "both", "after", "here", "natural", "rules", "levels", "close", "chosen", "rule"]
theorem sc_law : FnScope n_law ["script"] (defScope s_law) := ⟨rfl, rfl, rfl, by decide +kernel, rfl, by decide +kernel, by decide +kernel⟩
abbrev GL (Φ : D → Prop) : Dn := { nx := fun _ => Φ .non, rt := fun d _ => Φ d }
section
variable {f : Addr} {cdv : Value} {A : Around} {outer : List Env} {s0 : Shared} {H : Hp} {E : XK} (hr : Room 16 (A.deeper (envOfC "law" (defScope s_law) s0.heap.objs.size f cdv)))
variable (c_law_start : Cal P w K mg base 1 "_law_start" ["script"] (spN K cStart)) (c_law_pick : Cal P w K mg base 1 "_law_pick" ["state", "limit"] (spE K stO cPick)) (c_law_saying : Cal P w K mg base 4 "_law_saying" ["state", "letters", "depth", "boxes"] (spE K stO (cSay 3))) (c_law_rules : Cal P w K mg base 5 "_law_rules" ["state", "many", "most"] (spE K stO cRules)) (c_law_same : Cal P w K mg base 8 "_law_same" ["told", "due"] (spP K (cSame 8))) (c_law_points : Cal P w K mg base 2 "_law_points" ["many"] (spP K cPoints)) (c_law_fits : Cal P w K mg base 8 "_law_fits" ["saying", "point"] (spP K (cFits 8))) (c_law_holds : Cal P w K mg base 10 "_law_holds" ["ranks", "rule", "many"] (spP K cLHolds)) (c_points_of : Cal P w K mg base 2 "points_of" ["many"] (spP K cPoints)) (c_points_where : Cal P w K mg base 10 "points_where" ["saying", "many"] (spP K cPw)) (c_holds : Cal P w K mg base 11 "holds" ["ranks", "rule", "many"] (spP K cHolds)) (c_spheres_of : Cal P w K mg base 4 "spheres_of" ["ranks", "many"] (spP K cSpheres)) (c_ranks_of : Cal P w K mg base 13 "ranks_of" ["rules", "many"] (spP K cRanksOf)) (c_follows : Cal P w K mg base 14 "follows" ["rules", "rule", "many"] (spP K cFollows)) (c_follows_closely : Cal P w K mg base 14 "follows_closely" ["rules", "rule", "many"] (spP K cClosely)) (c_choice_of : Cal P w K mg base 3 "choice_of" ["ranks"] (spP K cChoice)) (c_revised : Cal P w K mg base 1 "revised" ["choice", "many", "learned"] (spP K cRev)) (c_believed : Cal P w K mg base 1 "believed" ["choice", "many"] (spP K cBel)) (c_ranks_for : Cal P w K mg base 4 "ranks_for" ["choice", "many"] (spP K cRF)) (c_moved_ranks : Cal P w K mg base 1 "moved_ranks" ["ranks", "learned", "way"] (spP K cMoved)) (c_law_set : Cal P w K mg base 10 "_law_set" ["saying", "many"] (spP K cSet)) (c_law_chosen : Cal P w K mg base 1 "_law_chosen" ["ranks", "some"] (spP K cChosen)) (m_len : mg "len" = none) (m_range : mg "range" = none) (m_tuple : mg "tuple" = none)
include hr c_law_start c_law_pick c_law_saying c_law_rules c_law_same c_law_points c_law_fits c_law_holds c_points_of c_points_where c_holds c_spheres_of c_ranks_of c_follows c_follows_closely c_choice_of c_revised c_believed c_ranks_for c_moved_ranks c_law_set c_law_chosen m_len m_range m_tuple
theorem law_e (ns : List Int) (m : Int) (Φ : D → Prop) (hΦ : Φ (.bl true)) (hm2 : 1 ≤ m ∧ m ≤ 2) (ranks : List Int) (hl : ranks.length = nP m) (hb : ∀ r ∈ ranks, 0 ≤ r ∧ r < 3) (one two : Sy) (s1 : small m one) (s2 : small m two) : XSs (cxF P w K mg base n_law "law" s_law f cdv A outer s0 H E) 0 ((defBody s_law).drop 20) [.pd (.sc ns), .ow stO, .pd (.int m), .pd (lT (tT D.int) (points m)), .pd (.int (nP m : Int)), .pd (tT D.int ranks), .un, .pd (dicT (tT D.int) (ChR ranks (nP m))), .pd (eS one), .pd (eS two), .pd (tT D.int (someK one (points m))), .un, .un, .un, .un, .un, .un, .un, .pd (tT D.int (someK two (points m))), .un, .un, .un, .un, .un, .un, .un, .un, .un] (GL Φ) := by
  have hu64 := hu_64 hr
  have hu65 := hu_65 hr
  have hm : 1 ≤ m ∧ m ≤ 3 := by omega
  have h8 := points_len8 hm
  have hn1 : 1 ≤ nP m := pts_pos hm2
  have hn : nP m ≤ 5 := pts_four hm2
  have h1 : ok m one := ok_small s1
  have h2 : ok m two := ok_small s2
  have hA := set_bit (one := one) (many := m)
  have hAl := bit_len hA
  have hAi := fun {x : Int} (h : x ∈ someK one (points m)) => bit_in hA h
  have hB := set_bit (one := two) (many := m)
  have hBl := bit_len hB
  have hBi := fun {x : Int} (h : x ∈ someK two (points m)) => bit_in hB h
  have hrl : (rng 0 (nP m : Int)).length = nP m := by rw [rng_len]; omega
  have hpl : ∀ {x : Int}, 0 ≤ x ∧ x < (nP m : Int) → (((points m).getD x.toNat []).length : Int) = m := fun hx => points_mem hm (getD_pts hx)
  have hb64 : ∀ r ∈ ranks, 0 ≤ r ∧ r < 64 := fun r hr => by have := hb r hr; omega
  have hcl : ∀ {s : List Int}, (chose ranks s).length ≤ s.length := fun {s} => chose_len
  have hck : keysA (ChR ranks (nP m)) = wsN (nP m) := tab_keys
  have hci : ∀ {s : List Int} {x : Int}, x ∈ chose ranks s → x ∈ s := fun h => chose_in h
  refine xs_cons (xs_asg 23 (xe_callE 1 (Φ := fun d => ∃ rules : List Rule, d = lT (pT eS eS) rules ∧ (rules.length : Int) ≤ 3 ∧ smallRs m rules) c_law_rules (hr.mono (by decide)) (xl_cons (xv_var 2) (xl_cons xv_int xa_nil)).up (fun ds h => ⟨m, 3, h, ⟨hm, by omega, by omega⟩, fun rules h1 h2 => ⟨rules, rfl, h1, h2⟩⟩)) (fun d ⟨rules, hd, hrl3, hrs0⟩ => ?_) sc_law.nd)
  subst hd
  have hokm : okM m rules (one, two) := okM_of (by omega) hrs0 ⟨h1, h2⟩ (by have := s2.1; show two.dep < 7; omega)
  refine xs_cons (xs_asgV 24 (xv_call c_ranks_of (hr.mono (by decide)) (xl_cons (xv_var 23) (xl_cons (xv_var 2) xa_nil)) ⟨rules, m, rfl, ⟨hm, hokm.1⟩, rfl⟩) ?_ sc_law.nd)
  cases hro : ranksOf rules m with
  | none =>
    refine xs_cons (xs_if (xb_cmp op_isN v_isN (xv_var 24) xv_non) (fun _ => ?_) (fun h => Bool.noConfusion h))
    exact xs_cons (xs_retV (d := .bl true) (XV.is (xv_cmp op_eq v_eqS (xv_ix ix_tup (v_ixT (f := .str (follows rules (one, two) m).tag) rfl) (XV.is (xv_call c_follows (hr.mono (by decide)) (xl_cons (xv_var 23) (xl_cons (xv_tup (hl := by simp) (xl_cons (xv_var 8) (xl_cons (xv_var 9) xa_nil))) (xl_cons (xv_var 2) xa_nil))) ⟨rules, (one, two), m, rfl, ⟨hm, hokm⟩, rfl⟩) (eFo_eq _)) xv_int) xv_str) (by rw [tag_yes, none_yes hro])) hΦ)
  | some levels =>
    have hll : levels.length = nP m := ranksOf_len hro
    have hsat := some_sat hro
    refine xs_no (xb_cmp op_isN v_isN (xv_var 24) xv_non) ?_
    refine xs_cons (xs_asgV 25 (XV.is (xv_call c_follows_closely (hr.mono (by decide)) (xl_cons (xv_var 23) (xl_cons (xv_tup (hl := by simp) (xl_cons (xv_var 8) (xl_cons (xv_var 9) xa_nil))) (xl_cons (xv_var 2) xa_nil))) ⟨rules, (one, two), m, rfl, ⟨hm, hokm⟩, rfl⟩) (congrArg D.bl (close_holds hro))) ?_ sc_law.nd)
    refine xs_no (XB.is (xb_cmp op_ne v_neB (xv_var 25) (XV.is (xv_call c_law_holds (hr.mono (by decide)) (xl_cons (xv_var 24 : XV _ _ _ (tT D.int levels)) (xl_cons (xv_tup (hl := by simp) (xl_cons (xv_var 8) (xl_cons (xv_var 9) xa_nil))) (xl_cons (xv_var 2) xa_nil))) ⟨levels, (one, two), m, rfl, ⟨hm, hll, h1, h2⟩, rfl⟩) (congrArg D.bl lholds_eq))) (by simp)) ?_
    refine xs_ifJ (xb_cmp (op_neD hu64) (v_ne (f := tT D.int) (x := (someK one (points m))) (y := [])) (xv_var 10) (xv_tup xa_nil)) (fun hne => ?_) ?_
    · have hne := neB hne
      refine xs_cons (xs_asgV 26 (d := tT D.int (chose levels (someK one (points m)))) (XV.is (xv_call c_revised (hr.mono (by decide)) (xl_cons (xv_call c_choice_of (hr.mono (by decide)) (xl_cons (xv_var 24 : XV _ _ _ (tT D.int levels)) xa_nil) ⟨levels, rfl, (by omega), rfl⟩) (xl_cons (xv_var 4) (xl_cons (xv_var 10) xa_nil))) ⟨choiceL levels, nP m, (someK one (points m)), rfl, (by rw [keys_choice hll]; exact mem_ws.mpr ⟨hA, hne⟩), rfl⟩) (congrArg (tT D.int) (chosen_ga hll hne))) ?_ sc_law.nd)
      have hcl2 : (chose levels (someK one (points m))).length ≤ (someK one (points m)).length := chose_len
      refine xs_no (XB.is (xb_cmp op_ne v_neB (xv_var 25) (xv_cmp (op_eqD hu64) (v_eq (f := (lT D.int))) (xo_lc (f := D.int) (xs := (chose levels (someK one (points m)))) [13] (fun x => [D.int x]) (fun x => (!decide (x ∈ (someK two (points m))))) D.int (fun x => x) [("x", 13)] (xw_tupT (f := D.int) (xv_var 26)) (fun _ _ _ _ _ => pg_name (i := 13) sc_law.nd rfl (by first | exact Or.inl rfl | exact Or.inr rfl)) (fun _ _ => gt_name) .one (fun x hx => jt_wb fun _ _ _ _ _ => (xb_cmp op_notIn_seq v_niT (xv_var 13) (xv_var 18))) (fun x hx px _ _ _ _ _ => (xv_var 13)) (by omega) (blkOk_by (N := n_law) (sc := defScope s_law) (by decide +kernel)) sc_law.nd).frz xv_nilL)) (by rw [holds_right]; rw [inside_right levels hne]; simp)) ?_
      exact xs_nil (by repeat (first | exact le_nil | refine le_eq ?_ | refine le_un ?_))
    · exact xs_cons (xs_retV (d := .bl true) (XV.is (xv_cmp (op_eqD hu64) (v_eq (f := (lT D.int))) (xo_lc (f := (pT eS eS)) (xs := rules) [27] (fun rule => [(pT eS eS) rule]) (fun rule => (!(holds levels rule m))) D.int (fun rule => 1) [("rule", 27)] (xw_listT (f := (pT eS eS)) (xv_var 23)) (fun _ _ _ _ _ => pg_name (i := 27) sc_law.nd rfl (by first | exact Or.inl rfl | exact Or.inr rfl)) (fun _ _ => gt_name) .one (fun rule hrule => jt_wb fun _ _ _ _ _ => (xb_not (xb_val (xv_call c_holds (hr.mono (by decide)) (xl_cons (xv_var 24) (xl_cons (xv_var 27) (xl_cons (xv_var 2) xa_nil))) ⟨levels, rule, m, rfl, ⟨hm, hll, (hokm.1.2 rule hrule).1, (hokm.1.2 rule hrule).2⟩, rfl⟩)))) (fun rule hrule prule _ _ _ _ _ => xv_int) (by omega) (blkOk_by (N := n_law) (sc := defScope s_law) (by decide +kernel)) sc_law.nd).frz xv_nilL) (by rw [sat_nil hsat])) hΦ)
end
end
end K83

namespace K83
open PySem PySem.Spec PyProof.Rows L2 Evl DL WB
section
variable {P : Program} {w : World} {K : PySem.W.Frag} {mg : Str → Option Value} {base : Heap}
section
variable {f : Addr} {cdv : Value} {A : Around} {outer : List Env} {s0 : Shared} {H : Hp} {E : XK} (hr : Room 16 (A.deeper (envOfC "law" (defScope s_law) s0.heap.objs.size f cdv)))
variable (c_law_start : Cal P w K mg base 1 "_law_start" ["script"] (spN K cStart)) (c_law_pick : Cal P w K mg base 1 "_law_pick" ["state", "limit"] (spE K stO cPick)) (c_law_saying : Cal P w K mg base 4 "_law_saying" ["state", "letters", "depth", "boxes"] (spE K stO (cSay 3))) (c_law_rules : Cal P w K mg base 5 "_law_rules" ["state", "many", "most"] (spE K stO cRules)) (c_law_same : Cal P w K mg base 8 "_law_same" ["told", "due"] (spP K (cSame 8))) (c_law_points : Cal P w K mg base 2 "_law_points" ["many"] (spP K cPoints)) (c_law_fits : Cal P w K mg base 8 "_law_fits" ["saying", "point"] (spP K (cFits 8))) (c_law_holds : Cal P w K mg base 10 "_law_holds" ["ranks", "rule", "many"] (spP K cLHolds)) (c_points_of : Cal P w K mg base 2 "points_of" ["many"] (spP K cPoints)) (c_points_where : Cal P w K mg base 10 "points_where" ["saying", "many"] (spP K cPw)) (c_holds : Cal P w K mg base 11 "holds" ["ranks", "rule", "many"] (spP K cHolds)) (c_spheres_of : Cal P w K mg base 4 "spheres_of" ["ranks", "many"] (spP K cSpheres)) (c_ranks_of : Cal P w K mg base 13 "ranks_of" ["rules", "many"] (spP K cRanksOf)) (c_follows : Cal P w K mg base 14 "follows" ["rules", "rule", "many"] (spP K cFollows)) (c_follows_closely : Cal P w K mg base 14 "follows_closely" ["rules", "rule", "many"] (spP K cClosely)) (c_choice_of : Cal P w K mg base 3 "choice_of" ["ranks"] (spP K cChoice)) (c_revised : Cal P w K mg base 1 "revised" ["choice", "many", "learned"] (spP K cRev)) (c_believed : Cal P w K mg base 1 "believed" ["choice", "many"] (spP K cBel)) (c_ranks_for : Cal P w K mg base 4 "ranks_for" ["choice", "many"] (spP K cRF)) (c_moved_ranks : Cal P w K mg base 1 "moved_ranks" ["ranks", "learned", "way"] (spP K cMoved)) (c_law_set : Cal P w K mg base 10 "_law_set" ["saying", "many"] (spP K cSet)) (c_law_chosen : Cal P w K mg base 1 "_law_chosen" ["ranks", "some"] (spP K cChosen)) (m_len : mg "len" = none) (m_range : mg "range" = none) (m_tuple : mg "tuple" = none)
include hr c_law_start c_law_pick c_law_saying c_law_rules c_law_same c_law_points c_law_fits c_law_holds c_points_of c_points_where c_holds c_spheres_of c_ranks_of c_follows c_follows_closely c_choice_of c_revised c_believed c_ranks_for c_moved_ranks c_law_set c_law_chosen m_len m_range m_tuple
theorem law_d (ns : List Int) (m : Int) (Φ : D → Prop) (hΦ : Φ (.bl true)) (hm2 : 1 ≤ m ∧ m ≤ 2) (ranks : List Int) (hl : ranks.length = nP m) (hb : ∀ r ∈ ranks, 0 ≤ r ∧ r < 3) (one two : Sy) (s1 : small m one) (s2 : small m two) : XSs (cxF P w K mg base n_law "law" s_law f cdv A outer s0 H E) 0 ((defBody s_law).drop 17) [.pd (.sc ns), .ow stO, .pd (.int m), .pd (lT (tT D.int) (points m)), .pd (.int (nP m : Int)), .pd (tT D.int ranks), .un, .pd (dicT (tT D.int) (ChR ranks (nP m))), .pd (eS one), .pd (eS two), .pd (tT D.int (someK one (points m))), .un, .un, .un, .un, .un, .un, .un, .un, .un, .un, .un, .un, .un, .un, .un, .un, .un] (GL Φ) := by
  have hu64 := hu_64 hr
  have hu65 := hu_65 hr
  have hm : 1 ≤ m ∧ m ≤ 3 := by omega
  have h8 := points_len8 hm
  have hn1 : 1 ≤ nP m := pts_pos hm2
  have hn : nP m ≤ 5 := pts_four hm2
  have h1 : ok m one := ok_small s1
  have h2 : ok m two := ok_small s2
  have hA := set_bit (one := one) (many := m)
  have hAl := bit_len hA
  have hAi := fun {x : Int} (h : x ∈ someK one (points m)) => bit_in hA h
  have hB := set_bit (one := two) (many := m)
  have hBl := bit_len hB
  have hBi := fun {x : Int} (h : x ∈ someK two (points m)) => bit_in hB h
  have hrl : (rng 0 (nP m : Int)).length = nP m := by rw [rng_len]; omega
  have hpl : ∀ {x : Int}, 0 ≤ x ∧ x < (nP m : Int) → (((points m).getD x.toNat []).length : Int) = m := fun hx => points_mem hm (getD_pts hx)
  have hb64 : ∀ r ∈ ranks, 0 ≤ r ∧ r < 64 := fun r hr => by have := hb r hr; omega
  have hcl : ∀ {s : List Int}, (chose ranks s).length ≤ s.length := fun {s} => chose_len
  have hck : keysA (ChR ranks (nP m)) = wsN (nP m) := tab_keys
  have hci : ∀ {s : List Int} {x : Int}, x ∈ chose ranks s → x ∈ s := fun h => chose_in h
  have next := law_e (P := P) (w := w) (K := K) (mg := mg) (base := base) (outer := outer) (H := H) (E := E) hr c_law_start c_law_pick c_law_saying c_law_rules c_law_same c_law_points c_law_fits c_law_holds c_points_of c_points_where c_holds c_spheres_of c_ranks_of c_follows c_follows_closely c_choice_of c_revised c_believed c_ranks_for c_moved_ranks c_law_set c_law_chosen m_len m_range m_tuple ns m Φ hΦ hm2 ranks hl hb one two s1 s2
  refine xs_cons (xs_asgV 18 (xv_call c_law_set (hr.mono (by decide)) (xl_cons (xv_var 9) (xl_cons (xv_var 2) xa_nil)) ⟨two, m, rfl, ⟨hm, h2⟩, rfl⟩) ?_ sc_law.nd)
  refine xs_cons (xs_asgV 19 (xv_tupleL (f := D.int) (xo_lc (f := D.int) (xs := (someK one (points m))) [13] (fun x => [D.int x]) (fun x => (decide (x ∈ (someK two (points m))))) D.int (fun x => x) [("x", 13)] (xw_tupT (f := D.int) (xv_var 10)) (fun _ _ _ _ _ => pg_name (i := 13) sc_law.nd rfl (by first | exact Or.inl rfl | exact Or.inr rfl)) (fun _ _ => gt_name) .one (fun x hx => jt_wb fun _ _ _ _ _ => (xb_cmp op_in_seq v_inT (xv_var 13) (xv_var 18))) (fun x hx px _ _ _ _ _ => (xv_var 13)) (by omega) (blkOk_by (N := n_law) (sc := defScope s_law) (by decide +kernel)) sc_law.nd).frz m_tuple) ?_ sc_law.nd)
  refine xs_cons (xs_if (xt_w (xb_and (xb_cmp (op_neD hu64) (v_ne (f := tT D.int) (x := (someK one (points m))) (y := [])) (xv_var 10) (xv_tup xa_nil)) (fun _ => xw_and1 (xb_cmp (op_neD hu64) (v_ne (f := tT D.int) (x := (someK two (points m))) (y := [])) (xv_var 18) (xv_tup xa_nil))))) (fun h => ?_) (fun h => ?_))
  · have hAne := neB (Bool.and_eq_true_iff.mp h.symm).1
    have hBne := neB (Bool.and_eq_true_iff.mp h.symm).2
    obtain ⟨za, hza⟩ := List.exists_mem_of_ne_nil _ hAne
    obtain ⟨zb, hzb⟩ := List.exists_mem_of_ne_nil _ hBne
    have l1 : (movedM "lexicographic" ranks (someK one (points m))).length = nP m := by rw [moved_len, hl]
    have b1 : ∀ r ∈ movedM "lexicographic" ranks (someK one (points m)), 0 ≤ r ∧ r < 64 := fun r hr => by have := moved_bd hr; omega
    have l2 : (movedM "lexicographic" (movedM "lexicographic" ranks (someK one (points m))) (someK two (points m))).length = nP m := by rw [moved_len, l1]
    have l3 : (movedM "natural" ranks (someK one (points m))).length = nP m := by rw [moved_len, hl]
    have hbo : ∀ {x : Int}, x ∈ (((someK one (points m)).filter fun x => (decide (x ∈ (someK two (points m))))).map fun x => x) → x ∈ (someK one (points m)) := fun h => by rw [List.map_id', List.mem_filter] at h; exact h.1
    have hbl : ((((someK one (points m)).filter fun x => (decide (x ∈ (someK two (points m))))).map fun x => x)).length ≤ nP m := by rw [List.length_map]; exact Nat.le_trans (List.length_filter_le _ _) hAl
    refine xs_cons (xs_asgV 20 (xv_call c_moved_ranks (hr.mono (by decide)) (xl_cons (xv_call c_moved_ranks (hr.mono (by decide)) (xl_cons (xv_var 5) (xl_cons (xv_var 10) (xl_cons xv_str xa_nil))) ⟨ranks, (someK one (points m)), "lexicographic", rfl, ⟨by omega, ⟨za, hza, by rw [hl]; exact hAi hza⟩, by omega, hb64⟩, rfl⟩) (xl_cons (xv_var 18) (xl_cons xv_str xa_nil))) ⟨movedM "lexicographic" ranks (someK one (points m)), (someK two (points m)), "lexicographic", rfl, ⟨by omega, ⟨zb, hzb, by rw [l1]; exact hBi hzb⟩, by omega, b1⟩, rfl⟩) ?_ sc_law.nd)
    refine xs_cons (xs_asgV 21 (XV.is (xv_call c_believed (hr.mono (by decide)) (xl_cons (xv_call c_choice_of (hr.mono (by decide)) (xl_cons (xv_var 20) xa_nil) ⟨movedM "lexicographic" (movedM "lexicographic" ranks (someK one (points m))) (someK two (points m)), rfl, (by omega), rfl⟩) (xl_cons (xv_var 4) xa_nil)) ⟨choiceL (movedM "lexicographic" (movedM "lexicographic" ranks (someK one (points m))) (someK two (points m))), nP m, rfl, ⟨hn, by rw [keys_choice l2]; exact full_ws hn1⟩, rfl⟩) (congrArg (tT D.int) (believed_ga l2 hn1))) ?_ sc_law.nd)
    refine xs_no (XB.is (xt_w (xb_and (xb_cmp (op_neD hu64) (v_ne (f := tT D.int) (x := (((someK one (points m)).filter fun x => (decide (x ∈ (someK two (points m))))).map fun x => x)) (y := [])) (xv_var 19) (xv_tup xa_nil)) (fun hne => xw_and1 (xb_cmp (op_neD hu64) (v_ne (f := tT D.int)) (xv_var 21) (xv_call c_law_chosen (hr.mono (by decide)) (xl_cons (xv_var 5) (xl_cons (xv_var 19) xa_nil)) ⟨ranks, (((someK one (points m)).filter fun x => (decide (x ∈ (someK two (points m))))).map fun x => x), rfl, ⟨neB hne, fun x hx => by rw [hl]; exact hAi (hbo hx), by omega⟩, rfl⟩))))) ?_) ?_
    · by_cases e : (((someK one (points m)).filter fun x => (decide (x ∈ (someK two (points m))))).map fun x => x) = []
      · rw [decide_eq_true e]; rfl
      · rw [lex_both hl hn hb64 hA hB e, decide_eq_true rfl, Bool.not_true, Bool.and_false]
    refine xs_no (XB.is (xt_w (xb_and (xb_cmp (op_eqD hu64) (v_eq (f := tT D.int) (x := (((someK one (points m)).filter fun x => (decide (x ∈ (someK two (points m))))).map fun x => x)) (y := [])) (xv_var 19) (xv_tup xa_nil)) (fun _ => xw_and1 (xb_cmp (op_neD hu64) (v_ne (f := tT D.int)) (xv_var 21) (xv_call c_law_chosen (hr.mono (by decide)) (xl_cons (xv_var 5) (xl_cons (xv_var 18) xa_nil)) ⟨ranks, (someK two (points m)), rfl, ⟨hBne, fun x hx => by rw [hl]; exact hBi hx, by omega⟩, rfl⟩))))) ?_) ?_
    · by_cases e : (((someK one (points m)).filter fun x => (decide (x ∈ (someK two (points m))))).map fun x => x) = []
      · rw [lex_second hl hn hb64 hA hB hBne e, decide_eq_true (rfl : chose ranks (someK two (points m)) = chose ranks (someK two (points m))), Bool.not_true, Bool.and_false]
      · rw [decide_eq_false e]; rfl
    refine xs_cons (xs_asgV 22 (xv_call c_moved_ranks (hr.mono (by decide)) (xl_cons (xv_var 5) (xl_cons (xv_var 10) (xl_cons xv_str xa_nil))) ⟨ranks, (someK one (points m)), "natural", rfl, ⟨by omega, ⟨za, hza, by rw [hl]; exact hAi hza⟩, by omega, hb64⟩, rfl⟩) ?_ sc_law.nd)
    refine xs_no (XB.is (xb_cmp (op_neD hu64) (v_ne (f := tT D.int)) (XV.is (xv_call c_believed (hr.mono (by decide)) (xl_cons (xv_call c_choice_of (hr.mono (by decide)) (xl_cons (xv_var 22) xa_nil) ⟨movedM "natural" ranks (someK one (points m)), rfl, (by omega), rfl⟩) (xl_cons (xv_var 4) xa_nil)) ⟨choiceL (movedM "natural" ranks (someK one (points m))), nP m, rfl, ⟨hn, by rw [keys_choice l3]; exact full_ws hn1⟩, rfl⟩) (congrArg (tT D.int) (believed_ga l3 hn1))) (xv_call c_law_chosen (hr.mono (by decide)) (xl_cons (xv_var 5) (xl_cons (xv_var 10) xa_nil)) ⟨ranks, (someK one (points m)), rfl, ⟨hAne, fun x hx => by rw [hl]; exact hAi hx, by omega⟩, rfl⟩)) ?_) ?_
    · rw [nat_best hl hb64 hA hAne, decide_eq_true rfl]; rfl
    · exact xs_nil (next.le (by repeat (first | exact le_nil | refine le_eq ?_ | refine le_un ?_)))
  · exact xs_nil (next.le (by repeat (first | exact le_nil | refine le_eq ?_ | refine le_un ?_)))
end
end
end K83

namespace K83
open PySem PySem.Spec PyProof.Rows L2 Evl DL WB
section
variable {P : Program} {w : World} {K : PySem.W.Frag} {mg : Str → Option Value} {base : Heap}
section
variable {f : Addr} {cdv : Value} {A : Around} {outer : List Env} {s0 : Shared} {H : Hp} {E : XK} (hr : Room 16 (A.deeper (envOfC "law" (defScope s_law) s0.heap.objs.size f cdv)))
variable (c_law_start : Cal P w K mg base 1 "_law_start" ["script"] (spN K cStart)) (c_law_pick : Cal P w K mg base 1 "_law_pick" ["state", "limit"] (spE K stO cPick)) (c_law_saying : Cal P w K mg base 4 "_law_saying" ["state", "letters", "depth", "boxes"] (spE K stO (cSay 3))) (c_law_rules : Cal P w K mg base 5 "_law_rules" ["state", "many", "most"] (spE K stO cRules)) (c_law_same : Cal P w K mg base 8 "_law_same" ["told", "due"] (spP K (cSame 8))) (c_law_points : Cal P w K mg base 2 "_law_points" ["many"] (spP K cPoints)) (c_law_fits : Cal P w K mg base 8 "_law_fits" ["saying", "point"] (spP K (cFits 8))) (c_law_holds : Cal P w K mg base 10 "_law_holds" ["ranks", "rule", "many"] (spP K cLHolds)) (c_points_of : Cal P w K mg base 2 "points_of" ["many"] (spP K cPoints)) (c_points_where : Cal P w K mg base 10 "points_where" ["saying", "many"] (spP K cPw)) (c_holds : Cal P w K mg base 11 "holds" ["ranks", "rule", "many"] (spP K cHolds)) (c_spheres_of : Cal P w K mg base 4 "spheres_of" ["ranks", "many"] (spP K cSpheres)) (c_ranks_of : Cal P w K mg base 13 "ranks_of" ["rules", "many"] (spP K cRanksOf)) (c_follows : Cal P w K mg base 14 "follows" ["rules", "rule", "many"] (spP K cFollows)) (c_follows_closely : Cal P w K mg base 14 "follows_closely" ["rules", "rule", "many"] (spP K cClosely)) (c_choice_of : Cal P w K mg base 3 "choice_of" ["ranks"] (spP K cChoice)) (c_revised : Cal P w K mg base 1 "revised" ["choice", "many", "learned"] (spP K cRev)) (c_believed : Cal P w K mg base 1 "believed" ["choice", "many"] (spP K cBel)) (c_ranks_for : Cal P w K mg base 4 "ranks_for" ["choice", "many"] (spP K cRF)) (c_moved_ranks : Cal P w K mg base 1 "moved_ranks" ["ranks", "learned", "way"] (spP K cMoved)) (c_law_set : Cal P w K mg base 10 "_law_set" ["saying", "many"] (spP K cSet)) (c_law_chosen : Cal P w K mg base 1 "_law_chosen" ["ranks", "some"] (spP K cChosen)) (m_len : mg "len" = none) (m_range : mg "range" = none) (m_tuple : mg "tuple" = none)
include hr c_law_start c_law_pick c_law_saying c_law_rules c_law_same c_law_points c_law_fits c_law_holds c_points_of c_points_where c_holds c_spheres_of c_ranks_of c_follows c_follows_closely c_choice_of c_revised c_believed c_ranks_for c_moved_ranks c_law_set c_law_chosen m_len m_range m_tuple
theorem law_c (ns : List Int) (m : Int) (Φ : D → Prop) (hΦ : Φ (.bl true)) (hm2 : 1 ≤ m ∧ m ≤ 2) (ranks : List Int) (hl : ranks.length = nP m) (hb : ∀ r ∈ ranks, 0 ≤ r ∧ r < 3) (one two : Sy) (s1 : small m one) (s2 : small m two) : XSs (cxF P w K mg base n_law "law" s_law f cdv A outer s0 H E) 0 ((defBody s_law).drop 13) [.pd (.sc ns), .ow stO, .pd (.int m), .pd (lT (tT D.int) (points m)), .pd (.int (nP m : Int)), .pd (tT D.int ranks), .un, .pd (dicT (tT D.int) (ChR ranks (nP m))), .pd (eS one), .pd (eS two), .pd (tT D.int (someK one (points m))), .un, .un, .un, .un, .un, .un, .un, .un, .un, .un, .un, .un, .un, .un, .un, .un, .un] (GL Φ) := by
  have hu64 := hu_64 hr
  have hu65 := hu_65 hr
  have hm : 1 ≤ m ∧ m ≤ 3 := by omega
  have h8 := points_len8 hm
  have hn1 : 1 ≤ nP m := pts_pos hm2
  have hn : nP m ≤ 5 := pts_four hm2
  have h1 : ok m one := ok_small s1
  have h2 : ok m two := ok_small s2
  have hA := set_bit (one := one) (many := m)
  have hAl := bit_len hA
  have hAi := fun {x : Int} (h : x ∈ someK one (points m)) => bit_in hA h
  have hB := set_bit (one := two) (many := m)
  have hBl := bit_len hB
  have hBi := fun {x : Int} (h : x ∈ someK two (points m)) => bit_in hB h
  have hrl : (rng 0 (nP m : Int)).length = nP m := by rw [rng_len]; omega
  have hpl : ∀ {x : Int}, 0 ≤ x ∧ x < (nP m : Int) → (((points m).getD x.toNat []).length : Int) = m := fun hx => points_mem hm (getD_pts hx)
  have hb64 : ∀ r ∈ ranks, 0 ≤ r ∧ r < 64 := fun r hr => by have := hb r hr; omega
  have hcl : ∀ {s : List Int}, (chose ranks s).length ≤ s.length := fun {s} => chose_len
  have hck : keysA (ChR ranks (nP m)) = wsN (nP m) := tab_keys
  have hci : ∀ {s : List Int} {x : Int}, x ∈ chose ranks s → x ∈ s := fun h => chose_in h
  have next := law_d (P := P) (w := w) (K := K) (mg := mg) (base := base) (outer := outer) (H := H) (E := E) hr c_law_start c_law_pick c_law_saying c_law_rules c_law_same c_law_points c_law_fits c_law_holds c_points_of c_points_where c_holds c_spheres_of c_ranks_of c_follows c_follows_closely c_choice_of c_revised c_believed c_ranks_for c_moved_ranks c_law_set c_law_chosen m_len m_range m_tuple ns m Φ hΦ hm2 ranks hl hb one two s1 s2
  refine xs_cons (xs_asgV 14 (xv_call c_spheres_of (hr.mono (by decide)) (xl_cons (xv_var 5) (xl_cons (xv_var 2) xa_nil)) ⟨ranks, m, rfl, ⟨hm, hl⟩, rfl⟩) ?_ sc_law.nd)
  have hsp : 1 ≤ (spheres ranks m).length := spheres_pos (by omega)
  have hfl := hcl (s := rng 0 (nP m : Int))
  have hfi := fun {x : Int} (h : x ∈ (chose ranks (rng 0 (nP m : Int)))) => mem_rng.mp (hci h)
  refine xs_no (XB.is (xb_cmp (op_neD hu64) (v_ne (f := tT (tT D.int))) (xv_ix ix_list (v_ixLT (f := tT (tT D.int)) (l := spheres ranks m) (atI_getD (i := 0) (d := []) (by omega) (by omega))) (xv_var 14) xv_int) (xv_tupleL (f := tT D.int) (xo_map (f := D.int) (xs := (chose ranks (rng 0 (nP m : Int)))) [13] (fun x => [D.int x]) (tT D.int) (fun x => ((points m).getD (x).toNat [])) [("x", 13)] (xw_tupT (f := D.int) (XV.is (xv_call c_believed (hr.mono (by decide)) (xl_cons (xv_var 7) (xl_cons (xv_var 4) xa_nil)) ⟨ChR ranks (nP m), nP m, rfl, ⟨hn, by rw [hck]; exact full_ws hn1⟩, rfl⟩) (congrArg (tT D.int) (ga_tab (full_ws hn1))))) (fun _ _ _ _ _ => pg_name (i := 13) sc_law.nd rfl (by first | exact Or.inl rfl | exact Or.inr rfl)) (fun _ _ => gt_name) (fun x hx _ _ _ _ _ => (xv_ix ix_list (v_ixLT (f := tT D.int) (atI_getD (d := []) (hfi hx).1 (hfi hx).2)) (xv_var 3) (xv_var 13))) (by omega) (blkOk_by (N := n_law) (sc := defScope s_law) (by decide +kernel)) sc_law.nd).frz m_tuple)) ?_) ?_
  · rw [(sphere_first hn1).resolve_right (fun z => z hl), decide_eq_true rfl]; rfl
  have hok := choice_ok (n := nP m) (ranks := ranks) hn1 hl
  have hsa := tab_small2 (G := chose ranks) hn (fun k hk => by have := (hok k hk).2; rwa [ga_tab hk] at this)
  have hrc := rankC_len (l := ChR ranks (nP m)) (n := nP m)
  refine xs_cons (xs_asgV 15 (XV.is (xv_call c_ranks_for (hr.mono (by decide)) (xl_cons (xv_var 7) (xl_cons (xv_var 4) xa_nil)) ⟨ChR ranks (nP m), nP m, rfl, ⟨⟨hn1, hn⟩, hok, hsa⟩, rfl⟩) (congrArg eRf (show ranksFor (ChR ranks (nP m)) (nP m) = .yes (rankC (ChR ranks (nP m)) (nP m)) by unfold ranksFor; rw [no_fault_ranks]))) ?_ sc_law.nd)
  refine xs_loop (f := D.int) (xs := rng 0 (nP m : Int)) (js := [16]) (fun a => [D.int a]) (fun _ : Unit => [.pd (.sc ns), .ow stO, .pd (.int m), .pd (lT (tT D.int) (points m)), .pd (.int (nP m : Int)), .pd (tT D.int ranks), .un, .pd (dicT (tT D.int) (ChR ranks (nP m))), .pd (eS one), .pd (eS two), .pd (tT D.int (someK one (points m))), .un, .un, .un, .un, .pd (eRf (.yes (rankC (ChR ranks (nP m)) (nP m)))), .un, .un, .un, .un, .un, .un, .un, .un, .un, .un, .un, .un]) (fun _ => ()) (xw_range1 (xl_cons (xv_var 4) xa_nil) (by omega) m_range (by omega)) (pg_name (i := 16) sc_law.nd rfl (by first | exact Or.inl rfl | exact Or.inr rfl)) (fun _ _ => gt_name) (by repeat (first | exact le_nil | refine le_eq ?_ | refine le_un ?_)) (fun pre a post hx => ?_) (next.le (by repeat (first | exact le_nil | refine le_eq ?_ | refine le_un ?_))) PassesOwn.never
  have ha := mem_rng.mp (show a ∈ rng 0 (nP m : Int) by rw [hx]; simp)
  refine xs_loop (f := D.int) (xs := rng 0 (nP m : Int)) (js := [17]) (fun b => [D.int b]) (fun _ : Unit => [.pd (.sc ns), .ow stO, .pd (.int m), .pd (lT (tT D.int) (points m)), .pd (.int (nP m : Int)), .pd (tT D.int ranks), .un, .pd (dicT (tT D.int) (ChR ranks (nP m))), .pd (eS one), .pd (eS two), .pd (tT D.int (someK one (points m))), .un, .un, .un, .un, .pd (eRf (.yes (rankC (ChR ranks (nP m)) (nP m)))), .pd (.int a), .un, .un, .un, .un, .un, .un, .un, .un, .un, .un, .un]) (fun _ => ()) (xw_range1 (xl_cons (xv_var 4) xa_nil) (by omega) m_range (by omega)) (pg_name (i := 17) sc_law.nd rfl (by first | exact Or.inl rfl | exact Or.inr rfl)) (fun _ _ => gt_name) (by repeat (first | exact le_nil | refine le_eq ?_ | refine le_un ?_)) (fun pre2 b post2 hx2 => ?_) (xs_nil (by repeat (first | exact le_nil | refine le_eq ?_ | refine le_un ?_))) PassesOwn.never
  have hbb := mem_rng.mp (show b ∈ rng 0 (nP m : Int) by rw [hx2]; simp)
  refine xs_no (XB.is (xb_cmp op_ne v_neB (xv_cmp op_lt v_lt (xv_ix ix_tup (v_ixTT (f := D.int) (l := ranks) (atI_getD ha.1 (by omega))) (xv_var 5) (xv_var 16)) (xv_ix ix_tup (v_ixTT (f := D.int) (l := ranks) (atI_getD hbb.1 (by omega))) (xv_var 5) (xv_var 17))) (xv_cmp op_lt v_lt (xv_ix ix_tup (v_ixTT (f := D.int) (l := (rankC (ChR ranks (nP m)) (nP m))) (atI_getD ha.1 (by omega))) (xv_ix ix_tup (v_ixT (f := tT D.int (rankC (ChR ranks (nP m)) (nP m))) rfl) (xv_var 15) xv_int) (xv_var 16)) (xv_ix ix_tup (v_ixTT (f := D.int) (l := (rankC (ChR ranks (nP m)) (nP m))) (atI_getD hbb.1 (by omega))) (xv_ix ix_tup (v_ixT (f := tT D.int (rankC (ChR ranks (nP m)) (nP m))) rfl) (xv_var 15) xv_int) (xv_var 17)))) (rank_lt hn1 hl ha hbb)) ?_
  exact xs_nil (by repeat (first | exact le_nil | refine le_eq ?_ | refine le_un ?_))
end
end
end K83

namespace K83
open PySem PySem.Spec PyProof.Rows L2 Evl DL WB
section
variable {P : Program} {w : World} {K : PySem.W.Frag} {mg : Str → Option Value} {base : Heap}
section
variable {f : Addr} {cdv : Value} {A : Around} {outer : List Env} {s0 : Shared} {H : Hp} {E : XK} (hr : Room 16 (A.deeper (envOfC "law" (defScope s_law) s0.heap.objs.size f cdv)))
variable (c_law_start : Cal P w K mg base 1 "_law_start" ["script"] (spN K cStart)) (c_law_pick : Cal P w K mg base 1 "_law_pick" ["state", "limit"] (spE K stO cPick)) (c_law_saying : Cal P w K mg base 4 "_law_saying" ["state", "letters", "depth", "boxes"] (spE K stO (cSay 3))) (c_law_rules : Cal P w K mg base 5 "_law_rules" ["state", "many", "most"] (spE K stO cRules)) (c_law_same : Cal P w K mg base 8 "_law_same" ["told", "due"] (spP K (cSame 8))) (c_law_points : Cal P w K mg base 2 "_law_points" ["many"] (spP K cPoints)) (c_law_fits : Cal P w K mg base 8 "_law_fits" ["saying", "point"] (spP K (cFits 8))) (c_law_holds : Cal P w K mg base 10 "_law_holds" ["ranks", "rule", "many"] (spP K cLHolds)) (c_points_of : Cal P w K mg base 2 "points_of" ["many"] (spP K cPoints)) (c_points_where : Cal P w K mg base 10 "points_where" ["saying", "many"] (spP K cPw)) (c_holds : Cal P w K mg base 11 "holds" ["ranks", "rule", "many"] (spP K cHolds)) (c_spheres_of : Cal P w K mg base 4 "spheres_of" ["ranks", "many"] (spP K cSpheres)) (c_ranks_of : Cal P w K mg base 13 "ranks_of" ["rules", "many"] (spP K cRanksOf)) (c_follows : Cal P w K mg base 14 "follows" ["rules", "rule", "many"] (spP K cFollows)) (c_follows_closely : Cal P w K mg base 14 "follows_closely" ["rules", "rule", "many"] (spP K cClosely)) (c_choice_of : Cal P w K mg base 3 "choice_of" ["ranks"] (spP K cChoice)) (c_revised : Cal P w K mg base 1 "revised" ["choice", "many", "learned"] (spP K cRev)) (c_believed : Cal P w K mg base 1 "believed" ["choice", "many"] (spP K cBel)) (c_ranks_for : Cal P w K mg base 4 "ranks_for" ["choice", "many"] (spP K cRF)) (c_moved_ranks : Cal P w K mg base 1 "moved_ranks" ["ranks", "learned", "way"] (spP K cMoved)) (c_law_set : Cal P w K mg base 10 "_law_set" ["saying", "many"] (spP K cSet)) (c_law_chosen : Cal P w K mg base 1 "_law_chosen" ["ranks", "some"] (spP K cChosen)) (m_len : mg "len" = none) (m_range : mg "range" = none) (m_tuple : mg "tuple" = none)
include hr c_law_start c_law_pick c_law_saying c_law_rules c_law_same c_law_points c_law_fits c_law_holds c_points_of c_points_where c_holds c_spheres_of c_ranks_of c_follows c_follows_closely c_choice_of c_revised c_believed c_ranks_for c_moved_ranks c_law_set c_law_chosen m_len m_range m_tuple
theorem law_b (ns : List Int) (m : Int) (Φ : D → Prop) (hΦ : Φ (.bl true)) (hm2 : 1 ≤ m ∧ m ≤ 2) (ranks : List Int) (hl : ranks.length = nP m) (hb : ∀ r ∈ ranks, 0 ≤ r ∧ r < 3) (one two : Sy) (s1 : small m one) (s2 : small m two) : XSs (cxF P w K mg base n_law "law" s_law f cdv A outer s0 H E) 0 ((defBody s_law).drop 8) [.pd (.sc ns), .ow stO, .pd (.int m), .pd (lT (tT D.int) (points m)), .pd (.int (nP m : Int)), .pd (tT D.int ranks), .un, .pd (dicT (tT D.int) (ChR ranks (nP m))), .pd (eS one), .pd (eS two), .un, .un, .un, .un, .un, .un, .un, .un, .un, .un, .un, .un, .un, .un, .un, .un, .un, .un] (GL Φ) := by
  have hu64 := hu_64 hr
  have hu65 := hu_65 hr
  have hm : 1 ≤ m ∧ m ≤ 3 := by omega
  have h8 := points_len8 hm
  have hn1 : 1 ≤ nP m := pts_pos hm2
  have hn : nP m ≤ 5 := pts_four hm2
  have h1 : ok m one := ok_small s1
  have h2 : ok m two := ok_small s2
  have hA := set_bit (one := one) (many := m)
  have hAl := bit_len hA
  have hAi := fun {x : Int} (h : x ∈ someK one (points m)) => bit_in hA h
  have hB := set_bit (one := two) (many := m)
  have hBl := bit_len hB
  have hBi := fun {x : Int} (h : x ∈ someK two (points m)) => bit_in hB h
  have hrl : (rng 0 (nP m : Int)).length = nP m := by rw [rng_len]; omega
  have hpl : ∀ {x : Int}, 0 ≤ x ∧ x < (nP m : Int) → (((points m).getD x.toNat []).length : Int) = m := fun hx => points_mem hm (getD_pts hx)
  have hb64 : ∀ r ∈ ranks, 0 ≤ r ∧ r < 64 := fun r hr => by have := hb r hr; omega
  have hcl : ∀ {s : List Int}, (chose ranks s).length ≤ s.length := fun {s} => chose_len
  have hck : keysA (ChR ranks (nP m)) = wsN (nP m) := tab_keys
  have hci : ∀ {s : List Int} {x : Int}, x ∈ chose ranks s → x ∈ s := fun h => chose_in h
  have next := law_c (P := P) (w := w) (K := K) (mg := mg) (base := base) (outer := outer) (H := H) (E := E) hr c_law_start c_law_pick c_law_saying c_law_rules c_law_same c_law_points c_law_fits c_law_holds c_points_of c_points_where c_holds c_spheres_of c_ranks_of c_follows c_follows_closely c_choice_of c_revised c_believed c_ranks_for c_moved_ranks c_law_set c_law_chosen m_len m_range m_tuple ns m Φ hΦ hm2 ranks hl hb one two s1 s2
  refine xs_cons (xs_asgV 10 (xv_call c_law_set (hr.mono (by decide)) (xl_cons (xv_var 8) (xl_cons (xv_var 2) xa_nil)) ⟨one, m, rfl, ⟨hm, h1⟩, rfl⟩) ?_ sc_law.nd)
  refine xs_no (XB.is (xt_w (xb_or (xb_cmp (op_neD hu64) (v_ne (f := (lT (tT D.int)))) (xv_call c_points_of (hr.mono (by decide)) (xl_cons (xv_var 2) xa_nil) ⟨m, rfl, hm, rfl⟩) (xv_var 3)) (fun _ => (xw_or1 (xb_cmp (op_neD hu64) (v_ne (f := (lT (tT D.int)))) (xv_call c_points_where (hr.mono (by decide)) (xl_cons (xv_var 8) (xl_cons (xv_var 2) xa_nil)) ⟨one, m, rfl, ⟨hm, h1⟩, rfl⟩) (xo_map (f := D.int) (xs := (someK one (points m))) [11] (fun k => [D.int k]) (tT D.int) (fun k => ((points m).getD (k).toNat [])) [("k", 11)] (xw_tupT (f := D.int) (xv_var 10)) (fun _ _ _ _ _ => pg_name (i := 11) sc_law.nd rfl (by first | exact Or.inl rfl | exact Or.inr rfl)) (fun _ _ => gt_name) (fun k hk _ _ _ _ _ => (xv_ix ix_list (v_ixLT (f := (tT D.int)) (atI_getD (d := []) (hAi hk).1 (hAi hk).2)) (xv_var 3) (xv_var 11))) (by omega) (blkOk_by (N := n_law) (sc := defScope s_law) (by decide +kernel)) sc_law.nd).frz))))) (by rw [pw_set]; simp)) ?_
  have hcA := hcl (s := (someK one (points m)))
  refine xs_cons (xs_asgV 12 (d := .bl (rightV ranks m one two)) (xv_or (xv_cmp (op_eqD hu64) (v_eq (f := (tT D.int)) (x := (someK one (points m))) (y := [])) (xv_var 10) (xv_tup xa_nil)) (fun hne => (xv_one (xv_cmp (op_eqD hu64) (v_eq (f := (lT D.int))) (xo_lc (f := D.int) (xs := (chose ranks (someK one (points m)))) [13] (fun x => [D.int x]) (fun x => (!(fits two ((points m).getD (x).toNat [])))) D.int (fun x => x) [("x", 13)] (xw_tupT (f := D.int) (xv_call c_law_chosen (hr.mono (by decide)) (xl_cons (xv_var 5) (xl_cons (xv_var 10) xa_nil)) ⟨ranks, (someK one (points m)), rfl, ⟨(of_decide_eq_false hne), fun x hx => by rw [hl]; exact hAi hx, by omega⟩, rfl⟩)) (fun _ _ _ _ _ => pg_name (i := 13) sc_law.nd rfl (by first | exact Or.inl rfl | exact Or.inr rfl)) (fun _ _ => gt_name) .one (fun x hx => jt_wb fun _ _ _ _ _ => (xb_not (xb_val (xv_call c_law_fits (hr.mono (by decide)) (xl_cons (xv_var 9) (xl_cons (xv_ix ix_list (v_ixLT (f := (tT D.int)) (atI_getD (d := []) (hAi (hci hx)).1 (hAi (hci hx)).2)) (xv_var 3) (xv_var 13)) xa_nil)) ⟨two, ((points m).getD (x).toNat []), rfl, h2.1, (by rw [hpl (hAi (hci hx))]; exact h2.2), rfl⟩)))) (fun x hx px _ _ _ _ _ => (xv_var 13)) (by omega) (blkOk_by (N := n_law) (sc := defScope s_law) (by decide +kernel)) sc_law.nd).frz xv_nilL)))) ?_ sc_law.nd)
  refine xs_no (XB.is (xb_not (xb_val (xv_call c_law_same (hr.mono (by decide)) (xl_cons (XV.is (xv_call c_holds (hr.mono (by decide)) (xl_cons (xv_var 5) (xl_cons (xv_tup (hl := by simp) (xl_cons (xv_var 8) (xl_cons (xv_var 9) xa_nil))) (xl_cons (xv_var 2) xa_nil))) ⟨ranks, (one, two), m, rfl, ⟨hm, hl, h1, h2⟩, rfl⟩) (congrArg D.bl holds_right)) (xl_cons (xv_var 12) xa_nil)) ⟨_, rfl, ⟨7, rfl, sm_bl⟩, rfl⟩))) rfl) ?_
  refine xs_ifJ (xb_cmp (op_neD hu64) (v_ne (f := tT D.int) (x := (someK one (points m))) (y := [])) (xv_var 10) (xv_tup xa_nil)) (fun hne => ?_) ?_
  · have hne := neB hne
    refine xs_no (XB.is (xb_cmp (op_neD hu64) (v_ne (f := tT D.int)) (XV.is (xv_call c_revised (hr.mono (by decide)) (xl_cons (xv_var 7) (xl_cons (xv_var 4) (xl_cons (xv_var 10) xa_nil))) ⟨ChR ranks (nP m), nP m, (someK one (points m)), rfl, (by rw [hck]; exact mem_ws.mpr ⟨hA, hne⟩), rfl⟩) (congrArg (tT D.int) (ga_tab (mem_ws.mpr ⟨hA, hne⟩)))) (xv_call c_law_chosen (hr.mono (by decide)) (xl_cons (xv_var 5) (xl_cons (xv_var 10) xa_nil)) ⟨ranks, (someK one (points m)), rfl, ⟨hne, fun x hx => by rw [hl]; exact hAi hx, by omega⟩, rfl⟩)) (by rw [decide_eq_true rfl]; rfl)) ?_
    refine xs_no (XB.is (xb_cmp op_ne v_neB (xv_cmp (op_eqD hu64) (v_eq (f := lT D.int)) (xo_lc (f := D.int) (xs := chose ranks (someK one (points m))) [13] (fun x => [D.int x]) (fun x => (!decide (x ∈ (someK two (points m))))) D.int (fun x => x) [("x", 13)] (xw_tupT (f := D.int) (XV.is (xv_call c_revised (hr.mono (by decide)) (xl_cons (xv_var 7) (xl_cons (xv_var 4) (xl_cons (xv_var 10) xa_nil))) ⟨ChR ranks (nP m), nP m, (someK one (points m)), rfl, (by rw [hck]; exact mem_ws.mpr ⟨hA, hne⟩), rfl⟩) (congrArg (tT D.int) (ga_tab (mem_ws.mpr ⟨hA, hne⟩))))) (fun _ _ _ _ _ => pg_name (i := 13) sc_law.nd rfl (by first | exact Or.inl rfl | exact Or.inr rfl)) (fun _ _ => gt_name) .one (fun x hx => jt_wb fun _ _ _ _ _ => (xb_cmp op_notIn_seq v_niT (xv_var 13) (xv_call c_law_set (hr.mono (by decide)) (xl_cons (xv_var 9) (xl_cons (xv_var 2) xa_nil)) ⟨two, m, rfl, ⟨hm, h2⟩, rfl⟩))) (fun x hx px _ _ _ _ _ => (xv_var 13)) (by omega) (blkOk_by (N := n_law) (sc := defScope s_law) (by decide +kernel)) sc_law.nd).frz xv_nilL) (xv_var 12)) (right_test ranks hne)) ?_
    exact xs_nil (by repeat (first | exact le_nil | refine le_eq ?_ | refine le_un ?_))
  · exact next.le (by repeat (first | exact le_nil | refine le_eq ?_ | refine le_un ?_))
end
end
end K83

namespace K83
open PySem PySem.Spec PyProof.Rows L2 Evl DL WB
section
variable {P : Program} {w : World} {K : PySem.W.Frag} {mg : Str → Option Value} {base : Heap}
theorem ok_law {f : Addr} {fd : FuncData} (F : Fun K "law" "law" s_law f fd) (c_law_start : Cal P w K mg base 1 "_law_start" ["script"] (spN K cStart)) (c_law_pick : Cal P w K mg base 1 "_law_pick" ["state", "limit"] (spE K stO cPick)) (c_law_saying : Cal P w K mg base 4 "_law_saying" ["state", "letters", "depth", "boxes"] (spE K stO (cSay 3))) (c_law_rules : Cal P w K mg base 5 "_law_rules" ["state", "many", "most"] (spE K stO cRules)) (c_law_same : Cal P w K mg base 8 "_law_same" ["told", "due"] (spP K (cSame 8))) (c_law_points : Cal P w K mg base 2 "_law_points" ["many"] (spP K cPoints)) (c_law_fits : Cal P w K mg base 8 "_law_fits" ["saying", "point"] (spP K (cFits 8))) (c_law_holds : Cal P w K mg base 10 "_law_holds" ["ranks", "rule", "many"] (spP K cLHolds)) (c_points_of : Cal P w K mg base 2 "points_of" ["many"] (spP K cPoints)) (c_points_where : Cal P w K mg base 10 "points_where" ["saying", "many"] (spP K cPw)) (c_holds : Cal P w K mg base 11 "holds" ["ranks", "rule", "many"] (spP K cHolds)) (c_spheres_of : Cal P w K mg base 4 "spheres_of" ["ranks", "many"] (spP K cSpheres)) (c_ranks_of : Cal P w K mg base 13 "ranks_of" ["rules", "many"] (spP K cRanksOf)) (c_follows : Cal P w K mg base 14 "follows" ["rules", "rule", "many"] (spP K cFollows)) (c_follows_closely : Cal P w K mg base 14 "follows_closely" ["rules", "rule", "many"] (spP K cClosely)) (c_choice_of : Cal P w K mg base 3 "choice_of" ["ranks"] (spP K cChoice)) (c_revised : Cal P w K mg base 1 "revised" ["choice", "many", "learned"] (spP K cRev)) (c_believed : Cal P w K mg base 1 "believed" ["choice", "many"] (spP K cBel)) (c_ranks_for : Cal P w K mg base 4 "ranks_for" ["choice", "many"] (spP K cRF)) (c_moved_ranks : Cal P w K mg base 1 "moved_ranks" ["ranks", "learned", "way"] (spP K cMoved)) (c_law_set : Cal P w K mg base 10 "_law_set" ["saying", "many"] (spP K cSet)) (c_law_chosen : Cal P w K mg base 1 "_law_chosen" ["ranks", "some"] (spP K cChosen)) (m_len : mg "len" = none) (m_range : mg "range" = none) (m_tuple : mg "tuple" = none) : FnOk P w K mg base CX0 (16 + 1) f fd ["script"] (spP K (cLaw 63)) := by
  refine fn_pure F sc_law (fun ds Φ ⟨_, h, _⟩ => by rw [h]; rfl) fun cdv A outer s0 H E hr ds Φ ⟨ns, hd, hns, hΦ⟩ => ?_
  subst hd
  have hu64 := hu_64 hr
  have hu65 := hu_65 hr
  refine xs_cons (xs_asgN 1 (xn_call (Φ := fun o => o = stO) c_law_start (hr.mono (by decide)) (xl_cons (xv_var 0) xa_nil) (fun ds h => ⟨ns, h, rfl⟩)) (fun o ho => ?_) sc_law.nd)
  subst ho
  refine xs_cons (xs_asg 2 (xe_addD xv_int (xe_pick 1 c_law_pick (hr.mono (by decide)) xv_int ⟨by omega, by omega⟩)) (fun d ⟨m1, hd, h0, h1⟩ => ?_) sc_law.nd)
  subst hd
  have hm2 : 1 ≤ 1 + m1 ∧ 1 + m1 ≤ 2 := by omega
  generalize 1 + m1 = m at hm2 ⊢
  have hm : 1 ≤ m ∧ m ≤ 3 := by omega
  have h8 := points_len8 hm
  have hn : nP m ≤ 5 := pts_four hm2
  refine xs_cons (xs_asgV 3 (xv_call c_law_points (hr.mono (by decide)) (xl_cons (xv_var 2) xa_nil) ⟨m, rfl, hm, rfl⟩) ?_ sc_law.nd)
  refine xs_cons (xs_asgV 4 (xv_lenLT (f := (tT D.int)) (xv_var 3) m_len) ?_ sc_law.nd)
  refine xs_cons (xs_asg 5 (xe_tupN (xn_lcD (f := (tT D.int)) (xs := (points m)) (Ψ := fun v : Int => 0 ≤ v ∧ v < 3) [6] (fun point => [(tT D.int) point]) D.int [("point", 6)] (xw_listT (f := (tT D.int)) (xv_var 3)) (fun _ _ _ _ _ => pg_name (i := 6) sc_law.nd rfl (by first | exact Or.inl rfl | exact Or.inr rfl)) (fun _ _ => gt_name) (fun point hpoint _ _ _ _ _ => (xe_pick 1 c_law_pick (hr.mono (by decide)) xv_int ⟨by omega, by omega⟩)) (by omega) (blkOk_by (N := n_law) (sc := defScope s_law) (by decide +kernel)) sc_law.nd) m_tuple) (fun d ⟨ranks, hd, ranks_len, ranks_mem⟩ => ?_) sc_law.nd)
  subst hd
  have hl : ranks.length = nP m := by omega
  have hch : choiceL ranks = ChR ranks (nP m) := by unfold choiceL; rw [hl]
  refine xs_cons (xs_asgV 7 (XV.is (xv_call c_choice_of (hr.mono (by decide)) (xl_cons (xv_var 5) xa_nil) ⟨ranks, rfl, by omega, rfl⟩) (congrArg (dicT (tT D.int)) hch)) ?_ sc_law.nd)
  refine xs_cons (xs_asg 8 (xe_callE 1 (Φ := fun d => ∃ s : Sy, d = eS s ∧ (s.dep : Int) ≤ 2 ∧ s.lt m) c_law_saying (hr.mono (by decide)) (xl_cons (xv_var 2) (xl_cons xv_int (xl_cons xv_bl xa_nil))).up (fun ds h => ⟨m, 2, h, ⟨by omega, by omega, by omega, by omega⟩, fun s h1 h2 => ⟨s, rfl, h1, h2⟩⟩)) (fun d ⟨one, hd, one_d, one_l⟩ => ?_) sc_law.nd)
  subst hd
  refine xs_cons (xs_asg 9 (xe_callE 1 (Φ := fun d => ∃ s : Sy, d = eS s ∧ (s.dep : Int) ≤ 2 ∧ s.lt m) c_law_saying (hr.mono (by decide)) (xl_cons (xv_var 2) (xl_cons xv_int (xl_cons xv_bl xa_nil))).up (fun ds h => ⟨m, 2, h, ⟨by omega, by omega, by omega, by omega⟩, fun s h1 h2 => ⟨s, rfl, h1, h2⟩⟩)) (fun d ⟨two, hd, two_d, two_l⟩ => ?_) sc_law.nd)
  subst hd
  exact law_b (P := P) (w := w) (K := K) (mg := mg) (base := base) (outer := outer) (H := H) (E := E) hr c_law_start c_law_pick c_law_saying c_law_rules c_law_same c_law_points c_law_fits c_law_holds c_points_of c_points_where c_holds c_spheres_of c_ranks_of c_follows c_follows_closely c_choice_of c_revised c_believed c_ranks_for c_moved_ranks c_law_set c_law_chosen m_len m_range m_tuple ns m Φ hΦ hm2 ranks hl ranks_mem one two ⟨by omega, one_l⟩ ⟨by omega, two_l⟩
end
end K83

namespace K83
open PySem PySem.Spec PyProof.Rows L2 Evl DL WB
theorem b_points_of : Bnd "points_of" s_points_of ["many"] := fun _ _ _ _ _ _ us hl => match us, hl with | [_], _ => rfl
theorem b_fits : Bnd "fits" s_fits ["saying", "point"] := fun _ _ _ _ _ _ us hl => match us, hl with | [_, _], _ => rfl
theorem b_least_points : Bnd "least_points" s_least_points ["ranks", "saying", "many"] := fun _ _ _ _ _ _ us hl => match us, hl with | [_, _, _], _ => rfl
theorem b_holds : Bnd "holds" s_holds ["ranks", "rule", "many"] := fun _ _ _ _ _ _ us hl => match us, hl with | [_, _, _], _ => rfl
theorem b_law_points : Bnd "_law_points" s_law_points ["many"] := fun _ _ _ _ _ _ us hl => match us, hl with | [_], _ => rfl
theorem b_law_fits : Bnd "_law_fits" s_law_fits ["saying", "point"] := fun _ _ _ _ _ _ us hl => match us, hl with | [_, _], _ => rfl
theorem b_law_holds : Bnd "_law_holds" s_law_holds ["ranks", "rule", "many"] := fun _ _ _ _ _ _ us hl => match us, hl with | [_, _, _], _ => rfl
theorem b_points_where : Bnd "points_where" s_points_where ["saying", "many"] := fun _ _ _ _ _ _ us hl => match us, hl with | [_, _], _ => rfl
theorem b_breaks : Bnd "breaks" s_breaks ["rule", "point"] := fun _ _ _ _ _ _ us hl => match us, hl with | [_, _], _ => rfl
theorem b_tolerating : Bnd "tolerating" s_tolerating ["rule", "rules", "many"] := fun _ _ _ _ _ _ us hl => match us, hl with | [_, _, _], _ => rfl
theorem b_is_free : Bnd "is_free" s_is_free ["rule", "rules", "many"] := fun _ _ _ _ _ _ us hl => match us, hl with | [_, _, _], _ => rfl
theorem b_layers : Bnd "layers" s_layers ["rules", "many"] := fun _ _ _ _ _ _ us hl => match us, hl with | [_, _], _ => rfl
theorem b_rank_of_point : Bnd "rank_of_point" s_rank_of_point ["rules", "told", "point"] := fun _ _ _ _ _ _ us hl => match us, hl with | [_, _, _], _ => rfl
theorem b_ranks_of : Bnd "ranks_of" s_ranks_of ["rules", "many"] := fun _ _ _ _ _ _ us hl => match us, hl with | [_, _], _ => rfl
theorem b_follows : Bnd "follows" s_follows ["rules", "rule", "many"] := fun _ _ _ _ _ _ us hl => match us, hl with | [_, _, _], _ => rfl
theorem b_follows_closely : Bnd "follows_closely" s_follows_closely ["rules", "rule", "many"] := fun _ _ _ _ _ _ us hl => match us, hl with | [_, _, _], _ => rfl
theorem b_law_start : Bnd "_law_start" s_start ["script"] := fun _ _ _ _ _ _ us hl => match us, hl with | [_], _ => rfl
theorem b_law_pick : Bnd "_law_pick" s_pick ["state", "limit"] := fun _ _ _ _ _ _ us hl => match us, hl with | [_, _], _ => rfl
theorem b_law_same : Bnd "_law_same" s_same ["told", "due"] := fun _ _ _ _ _ _ us hl => match us, hl with | [_, _], _ => rfl
theorem b_law_saying : Bnd "_law_saying" s_saying ["state", "letters", "depth", "boxes"] := fun _ _ _ _ _ _ us hl => match us, hl with | [_, _, _, _], _ => rfl
theorem b_law_rules : Bnd "_law_rules" s_rules ["state", "many", "most"] := fun _ _ _ _ _ _ us hl => match us, hl with | [_, _, _], _ => rfl
theorem b_subsets : Bnd "subsets" s_subsets ["many"] := fun _ _ _ _ _ _ us hl => match us, hl with | [_], _ => rfl
theorem b_worlds_sets : Bnd "worlds_sets" s_worlds_sets ["many"] := fun _ _ _ _ _ _ us hl => match us, hl with | [_], _ => rfl
theorem b_choice_of : Bnd "choice_of" s_choice_of ["ranks"] := fun _ _ _ _ _ _ us hl => match us, hl with | [_], _ => rfl
theorem b_believed : Bnd "believed" s_believed ["choice", "many"] := fun _ _ _ _ _ _ us hl => match us, hl with | [_, _], _ => rfl
theorem b_revised : Bnd "revised" s_revised ["choice", "many", "learned"] := fun _ _ _ _ _ _ us hl => match us, hl with | [_, _, _], _ => rfl
theorem b_choice_fault : Bnd "choice_fault" s_choice_fault ["choice", "many"] := fun _ _ _ _ _ _ us hl => match us, hl with | [_, _], _ => rfl
theorem b_ranks_for : Bnd "ranks_for" s_ranks_for ["choice", "many"] := fun _ _ _ _ _ _ us hl => match us, hl with | [_, _], _ => rfl
theorem b_spheres_of : Bnd "spheres_of" s_spheres_of ["ranks", "many"] := fun _ _ _ _ _ _ us hl => match us, hl with | [_, _], _ => rfl
theorem b_moved_ranks : Bnd "moved_ranks" s_moved_ranks ["ranks", "learned", "way"] := fun _ _ _ _ _ _ us hl => match us, hl with | [_, _, _], _ => rfl
theorem b_law_set : Bnd "_law_set" s_law_set ["saying", "many"] := fun _ _ _ _ _ _ us hl => match us, hl with | [_, _], _ => rfl
theorem b_law_chosen : Bnd "_law_chosen" s_law_chosen ["ranks", "some"] := fun _ _ _ _ _ _ us hl => match us, hl with | [_, _], _ => rfl
theorem b_law : Bnd "law" s_law ["script"] := fun _ _ _ _ _ _ us hl => match us, hl with | [_], _ => rfl
theorem law_of {P : Program} {w : World} {K : PySem.W.Frag} {mg : Str → Option Value} (d_points_of : Dd K mg "points_of" s_points_of ["many"]) (d_fits : Dd K mg "fits" s_fits ["saying", "point"]) (d_least_points : Dd K mg "least_points" s_least_points ["ranks", "saying", "many"]) (d_holds : Dd K mg "holds" s_holds ["ranks", "rule", "many"]) (d_law_points : Dd K mg "_law_points" s_law_points ["many"]) (d_law_fits : Dd K mg "_law_fits" s_law_fits ["saying", "point"]) (d_law_holds : Dd K mg "_law_holds" s_law_holds ["ranks", "rule", "many"]) (d_points_where : Dd K mg "points_where" s_points_where ["saying", "many"]) (d_breaks : Dd K mg "breaks" s_breaks ["rule", "point"]) (d_tolerating : Dd K mg "tolerating" s_tolerating ["rule", "rules", "many"]) (d_is_free : Dd K mg "is_free" s_is_free ["rule", "rules", "many"]) (d_layers : Dd K mg "layers" s_layers ["rules", "many"]) (d_rank_of_point : Dd K mg "rank_of_point" s_rank_of_point ["rules", "told", "point"]) (d_ranks_of : Dd K mg "ranks_of" s_ranks_of ["rules", "many"]) (d_follows : Dd K mg "follows" s_follows ["rules", "rule", "many"]) (d_follows_closely : Dd K mg "follows_closely" s_follows_closely ["rules", "rule", "many"]) (d_law_start : Dd K mg "_law_start" s_start ["script"]) (d_law_pick : Dd K mg "_law_pick" s_pick ["state", "limit"]) (d_law_same : Dd K mg "_law_same" s_same ["told", "due"]) (d_law_saying : Dd K mg "_law_saying" s_saying ["state", "letters", "depth", "boxes"]) (d_law_rules : Dd K mg "_law_rules" s_rules ["state", "many", "most"]) (d_subsets : Dd K mg "subsets" s_subsets ["many"]) (d_worlds_sets : Dd K mg "worlds_sets" s_worlds_sets ["many"]) (d_choice_of : Dd K mg "choice_of" s_choice_of ["ranks"]) (d_believed : Dd K mg "believed" s_believed ["choice", "many"]) (d_revised : Dd K mg "revised" s_revised ["choice", "many", "learned"]) (d_choice_fault : Dd K mg "choice_fault" s_choice_fault ["choice", "many"]) (d_ranks_for : Dd K mg "ranks_for" s_ranks_for ["choice", "many"]) (d_spheres_of : Dd K mg "spheres_of" s_spheres_of ["ranks", "many"]) (d_moved_ranks : Dd K mg "moved_ranks" s_moved_ranks ["ranks", "learned", "way"]) (d_law_set : Dd K mg "_law_set" s_law_set ["saying", "many"]) (d_law_chosen : Dd K mg "_law_chosen" s_law_chosen ["ranks", "some"]) (m_range : mg "range" = none) (m_len : mg "len" = none) (m_min : mg "min" = none) (m_all : mg "all" = none) (m_sorted : mg "sorted" = none) (m_any : mg "any" = none) (m_list : mg "list" = none) (m_tuple : mg "tuple" = none) (m_max : mg "max" = none) (m_abs : mg "abs" = none) (m_int : mg "int" = none) (m_isinstance : mg "isinstance" = none) (m_bool : mg "bool" = none) (m_str : mg "str" = none) (m_set : mg "set" = none) (base : Heap) (f : Addr) (fd : FuncData) (F : Fun K "law" "law" s_law f fd) : FnOk P w K mg base CX0 17 f fd ["script"] (spP K (cLaw 63)) := by
  have c_points_of := Cal.of (P := P) (w := w) (base := base) d_points_of fun F => ok_points_of F m_range
  have c_fits := cal_rec (P := P) (w := w) (base := base) d_fits (fun ds Φ ⟨_, _, _, h, _⟩ => by omega) (fun n c => fun F => ok_fits F c) 8
  have c_least_points := Cal.of (P := P) (w := w) (base := base) d_least_points fun F => ok_least_points F c_fits c_points_of m_len m_range m_min
  have c_holds := Cal.of (P := P) (w := w) (base := base) d_holds fun F => ok_holds F c_fits c_least_points m_all
  have c_law_points := Cal.of (P := P) (w := w) (base := base) d_law_points fun F => ok_law_points F m_range m_sorted
  have c_law_fits := cal_rec (P := P) (w := w) (base := base) d_law_fits (fun ds Φ ⟨_, _, _, h, _⟩ => by omega) (fun n c => fun F => ok_law_fits F c) 8
  have c_law_holds := Cal.of (P := P) (w := w) (base := base) d_law_holds fun F => ok_law_holds F c_law_fits c_law_points m_len m_range m_min
  have c_points_where := Cal.of (P := P) (w := w) (base := base) d_points_where fun F => ok_points_where F c_fits c_points_of
  have c_breaks := Cal.of (P := P) (w := w) (base := base) d_breaks fun F => ok_breaks F c_fits
  have c_tolerating := Cal.of (P := P) (w := w) (base := base) d_tolerating fun F => ok_tolerating F c_fits c_points_of c_breaks m_any
  have c_is_free := Cal.of (P := P) (w := w) (base := base) d_is_free fun F => ok_is_free F c_points_where c_tolerating m_len
  have c_layers := Cal.of (P := P) (w := w) (base := base) d_layers fun F => ok_layers F c_is_free m_len m_list m_range m_tuple
  have c_rank_of_point := Cal.of (P := P) (w := w) (base := base) d_rank_of_point fun F => ok_rank_of_point F c_breaks m_len m_range m_max m_any
  have c_ranks_of := Cal.of (P := P) (w := w) (base := base) d_ranks_of fun F => ok_ranks_of F c_layers c_rank_of_point c_points_of m_tuple
  have c_follows := Cal.of (P := P) (w := w) (base := base) d_follows fun F => ok_follows F c_layers c_ranks_of c_points_where m_list m_len
  have c_follows_closely := Cal.of (P := P) (w := w) (base := base) d_follows_closely fun F => ok_follows_closely F c_ranks_of c_holds
  have c_law_start := Cal.of (P := P) (w := w) (base := base) d_law_start fun F => ok_start F 
  have c_law_pick := Cal.of (P := P) (w := w) (base := base) d_law_pick fun F => ok_pick F m_len m_abs m_int
  have c_law_same := cal_rec (P := P) (w := w) (base := base) d_law_same (C := cSame) (fun ds Φ ⟨_, _, ⟨m, h, _⟩, _⟩ => by omega) (fun n c => fun F => ok_same F c m_len m_range m_isinstance m_bool m_int m_str m_list m_tuple) 8
  have c_law_saying := cal_saying (P := P) (w := w) (base := base) d_law_saying c_law_pick m_int 3
  have c_law_rules := Cal.of (P := P) (w := w) (base := base) d_law_rules fun F => ok_rules F c_law_pick c_law_saying m_range
  have c_subsets := Cal.of (P := P) (w := w) (base := base) d_subsets fun F => ok_subsets F m_range m_tuple
  have c_worlds_sets := Cal.of (P := P) (w := w) (base := base) d_worlds_sets fun F => ok_worlds_sets F c_subsets m_len
  have c_choice_of := Cal.of (P := P) (w := w) (base := base) d_choice_of fun F => ok_choice_of F c_worlds_sets m_len m_min m_tuple
  have c_believed := Cal.of (P := P) (w := w) (base := base) d_believed fun F => ok_believed F m_range m_tuple
  have c_revised := Cal.of (P := P) (w := w) (base := base) d_revised fun F => ok_revised F 
  have c_choice_fault := Cal.of (P := P) (w := w) (base := base) d_choice_fault fun F => ok_choice_fault F c_worlds_sets m_len m_all m_tuple
  have c_ranks_for := Cal.of (P := P) (w := w) (base := base) d_ranks_for fun F => ok_ranks_for F c_choice_fault m_len m_range m_tuple
  have c_spheres_of := Cal.of (P := P) (w := w) (base := base) d_spheres_of fun F => ok_spheres_of F c_points_of m_len m_range m_sorted m_set m_tuple
  have c_moved_ranks := Cal.of (P := P) (w := w) (base := base) d_moved_ranks fun F => ok_moved_ranks F m_len m_range m_min m_int m_tuple m_sorted m_set
  have c_law_set := Cal.of (P := P) (w := w) (base := base) d_law_set fun F => ok_law_set F c_law_fits c_law_points m_len m_range m_tuple
  have c_law_chosen := Cal.of (P := P) (w := w) (base := base) d_law_chosen fun F => ok_law_chosen F m_min m_tuple
  exact ok_law F c_law_start c_law_pick c_law_saying c_law_rules c_law_same c_law_points c_law_fits c_law_holds c_points_of c_points_where c_holds c_spheres_of c_ranks_of c_follows c_follows_closely c_choice_of c_revised c_believed c_ranks_for c_moved_ranks c_law_set c_law_chosen m_len m_range m_tuple
end K83
open PySem PySem.W PyProof.Rows
set_option maxRecDepth 100000 in
set_option maxHeartbeats 0 in
theorem PySem.Challenge.cw_worldwright_k83_whole_defaults_and_belie_holds : PySem.Challenge.rw_worldwright_k83_whole_defaults_and_belie.Holds := by
  w_on; o_law; k_head; (case hw => w_witness2)
  k_fill
  refine DL.law_walk (l := PySem.Challenge.rw_worldwright_k83_whole_defaults_and_belie) (x := "script") (st := K83.s_law) 63 17 rfl (by decide) rfl ⟨rfl, by decide, by decide⟩ rfl (fun w h Y => PySem.W.kIn_of Y) ?F
  case F =>
    intro w mg h KX G
    refine' ⟨DL.dl_mk K83.b_law KX G ?a0 ?l0 ?c0 ?k0, K83.law_of (DL.dd_mk K83.b_points_of KX G ?a1 ?l1 ?c1 ?k1) (DL.dd_mk K83.b_fits KX G ?a2 ?l2 ?c2 ?k2) (DL.dd_mk K83.b_least_points KX G ?a3 ?l3 ?c3 ?k3) (DL.dd_mk K83.b_holds KX G ?a4 ?l4 ?c4 ?k4) (DL.dd_mk K83.b_law_points KX G ?a5 ?l5 ?c5 ?k5) (DL.dd_mk K83.b_law_fits KX G ?a6 ?l6 ?c6 ?k6) (DL.dd_mk K83.b_law_holds KX G ?a7 ?l7 ?c7 ?k7) (DL.dd_mk K83.b_points_where KX G ?a8 ?l8 ?c8 ?k8) (DL.dd_mk K83.b_breaks KX G ?a9 ?l9 ?c9 ?k9) (DL.dd_mk K83.b_tolerating KX G ?a10 ?l10 ?c10 ?k10) (DL.dd_mk K83.b_is_free KX G ?a11 ?l11 ?c11 ?k11) (DL.dd_mk K83.b_layers KX G ?a12 ?l12 ?c12 ?k12) (DL.dd_mk K83.b_rank_of_point KX G ?a13 ?l13 ?c13 ?k13) (DL.dd_mk K83.b_ranks_of KX G ?a14 ?l14 ?c14 ?k14) (DL.dd_mk K83.b_follows KX G ?a15 ?l15 ?c15 ?k15) (DL.dd_mk K83.b_follows_closely KX G ?a16 ?l16 ?c16 ?k16) (DL.dd_mk K83.b_law_start KX G ?a17 ?l17 ?c17 ?k17) (DL.dd_mk K83.b_law_pick KX G ?a18 ?l18 ?c18 ?k18) (DL.dd_mk K83.b_law_same KX G ?a19 ?l19 ?c19 ?k19) (DL.dd_mk K83.b_law_saying KX G ?a20 ?l20 ?c20 ?k20) (DL.dd_mk K83.b_law_rules KX G ?a21 ?l21 ?c21 ?k21) (DL.dd_mk K83.b_subsets KX G ?a22 ?l22 ?c22 ?k22) (DL.dd_mk K83.b_worlds_sets KX G ?a23 ?l23 ?c23 ?k23) (DL.dd_mk K83.b_choice_of KX G ?a24 ?l24 ?c24 ?k24) (DL.dd_mk K83.b_believed KX G ?a25 ?l25 ?c25 ?k25) (DL.dd_mk K83.b_revised KX G ?a26 ?l26 ?c26 ?k26) (DL.dd_mk K83.b_choice_fault KX G ?a27 ?l27 ?c27 ?k27) (DL.dd_mk K83.b_ranks_for KX G ?a28 ?l28 ?c28 ?k28) (DL.dd_mk K83.b_spheres_of KX G ?a29 ?l29 ?c29 ?k29) (DL.dd_mk K83.b_moved_ranks KX G ?a30 ?l30 ?c30 ?k30) (DL.dd_mk K83.b_law_set KX G ?a31 ?l31 ?c31 ?k31) (DL.dd_mk K83.b_law_chosen KX G ?a32 ?l32 ?c32 ?k32) (PySem.W.mg_none_of KX G ?z0) (PySem.W.mg_none_of KX G ?z1) (PySem.W.mg_none_of KX G ?z2) (PySem.W.mg_none_of KX G ?z3) (PySem.W.mg_none_of KX G ?z4) (PySem.W.mg_none_of KX G ?z5) (PySem.W.mg_none_of KX G ?z6) (PySem.W.mg_none_of KX G ?z7) (PySem.W.mg_none_of KX G ?z8) (PySem.W.mg_none_of KX G ?z9) (PySem.W.mg_none_of KX G ?z10) (PySem.W.mg_none_of KX G ?z11) (PySem.W.mg_none_of KX G ?z12) (PySem.W.mg_none_of KX G ?z13) (PySem.W.mg_none_of KX G ?z14)⟩
    (case a0 => k_is); (case l0 => k_is); (case c0 => k_is); (case k0 => k_is)
    (case a1 => k_is); (case l1 => k_is); (case c1 => k_is); (case k1 => k_is)
    (case a2 => k_is); (case l2 => k_is); (case c2 => k_is); (case k2 => k_is)
    (case a3 => k_is); (case l3 => k_is); (case c3 => k_is); (case k3 => k_is)
    (case a4 => k_is); (case l4 => k_is); (case c4 => k_is); (case k4 => k_is)
    (case a5 => k_is); (case l5 => k_is); (case c5 => k_is); (case k5 => k_is)
    (case a6 => k_is); (case l6 => k_is); (case c6 => k_is); (case k6 => k_is)
    (case a7 => k_is); (case l7 => k_is); (case c7 => k_is); (case k7 => k_is)
    (case a8 => k_is); (case l8 => k_is); (case c8 => k_is); (case k8 => k_is)
    (case a9 => k_is); (case l9 => k_is); (case c9 => k_is); (case k9 => k_is)
    (case a10 => k_is); (case l10 => k_is); (case c10 => k_is); (case k10 => k_is)
    (case a11 => k_is); (case l11 => k_is); (case c11 => k_is); (case k11 => k_is)
    (case a12 => k_is); (case l12 => k_is); (case c12 => k_is); (case k12 => k_is)
    (case a13 => k_is); (case l13 => k_is); (case c13 => k_is); (case k13 => k_is)
    (case a14 => k_is); (case l14 => k_is); (case c14 => k_is); (case k14 => k_is)
    (case a15 => k_is); (case l15 => k_is); (case c15 => k_is); (case k15 => k_is)
    (case a16 => k_is); (case l16 => k_is); (case c16 => k_is); (case k16 => k_is)
    (case a17 => k_is); (case l17 => k_is); (case c17 => k_is); (case k17 => k_is)
    (case a18 => k_is); (case l18 => k_is); (case c18 => k_is); (case k18 => k_is)
    (case a19 => k_is); (case l19 => k_is); (case c19 => k_is); (case k19 => k_is)
    (case a20 => k_is); (case l20 => k_is); (case c20 => k_is); (case k20 => k_is)
    (case a21 => k_is); (case l21 => k_is); (case c21 => k_is); (case k21 => k_is)
    (case a22 => k_is); (case l22 => k_is); (case c22 => k_is); (case k22 => k_is)
    (case a23 => k_is); (case l23 => k_is); (case c23 => k_is); (case k23 => k_is)
    (case a24 => k_is); (case l24 => k_is); (case c24 => k_is); (case k24 => k_is)
    (case a25 => k_is); (case l25 => k_is); (case c25 => k_is); (case k25 => k_is)
    (case a26 => k_is); (case l26 => k_is); (case c26 => k_is); (case k26 => k_is)
    (case a27 => k_is); (case l27 => k_is); (case c27 => k_is); (case k27 => k_is)
    (case a28 => k_is); (case l28 => k_is); (case c28 => k_is); (case k28 => k_is)
    (case a29 => k_is); (case l29 => k_is); (case c29 => k_is); (case k29 => k_is)
    (case a30 => k_is); (case l30 => k_is); (case c30 => k_is); (case k30 => k_is)
    (case a31 => k_is); (case l31 => k_is); (case c31 => k_is); (case k31 => k_is)
    (case a32 => k_is); (case l32 => k_is); (case c32 => k_is); (case k32 => k_is)
    (case z0 => k_is)
    (case z1 => k_is)
    (case z2 => k_is)
    (case z3 => k_is)
    (case z4 => k_is)
    (case z5 => k_is)
    (case z6 => k_is)
    (case z7 => k_is)
    (case z8 => k_is)
    (case z9 => k_is)
    (case z10 => k_is)
    (case z11 => k_is)
    (case z12 => k_is)
    (case z13 => k_is)
    (case z14 => k_is)

