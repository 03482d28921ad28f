import PyProof.Rows.All
import Wide.All
import OpenK.AllK
import Wide.FinOn
import HandS.ForMost
import HandS.Evl
import HandS.Deep
import HandS.Defaults
import HandS.Wide
import HandS.Flow
import HandS.TupAny
import HandS.IsInst
import HandS.SortInts
import HandS.TupSets
import HandS.Strs
import HandS.SetFor
import HandS.SortKw
import HandS.TupLe
import KE.SortData
import KE.DataMinMax
import KE.DatumOrd
import HandS.Conv
import PySem.Challenge.RW_worldwright_k77_whole_rules_that_hold_to
set_option Elab.async false
set_option linter.all false
set_option maxRecDepth 100000
set_option maxHeartbeats 4000000
/-! Data layer: values as data (D), what owns a changing object, judgements without heaps. -/
namespace DL
open PySem PySem.Spec PyProof.Rows L2 Evl

/-! ### data -/
inductive D where
  | non | bl (b : Bool) | int (i : Int) | str (s : Str) | lst (l : List D) | tup (l : List D)
  | ins (C : Addr) (ns : List Str) (l : List D)
  | dic (ks : List (List Key)) (l : List D)
  | sc (ns : List Int)

def D.isN : D → Bool
  | .non => true
  | _ => false

section
variable (K : PySem.W.Frag) (H : Hp)
mutual
inductive DR : V → D → Prop
  | non : DR .non .non
  | bl (b : Bool) : DR (.bl b) (.bl b)
  | int (i : Int) : DR (.int i) (.int i)
  | str (s : Str) : DR (.str s) (.str s)
  | lst {a : Addr} {vs : List V} {ds : List D} : H a = some (.lst vs) → DRs vs ds → DR (.ref a) (.lst ds)
  | tup {a : Addr} {vs : List V} {ds : List D} : SqT K H a vs → DRs vs ds → DR (.ref a) (.tup ds)
  | ins {a C dx : Addr} {fs : List (Str × V)} {vs : List V} {ns : List Str} {ds : List D} : H a = some (.ins C dx fs) → fs.map (·.1) = ns → fs.map (·.2) = vs → DRs vs ds → DR (.ref a) (.ins C ns ds)
  | dic {a : Addr} {kvs : List (List Key × V)} {vs : List V} {ks : List (List Key)} {ds : List D} : Rd H a (.dT kvs) → kvs.map (·.1) = ks → kvs.map (·.2) = vs → DRs vs ds → DR (.ref a) (.dic ks ds)
  | sc {a : Addr} {ns : List Int} : SqL K H a (ns.map V.int) → DR (.ref a) (.sc ns)
inductive DRs : List V → List D → Prop
  | nil : DRs [] []
  | cons {v : V} {d : D} {vs : List V} {ds : List D} : DR v d → DRs vs ds → DRs (v :: vs) (d :: ds)
end
end

section
variable {K : PySem.W.Frag} {H H' : Hp}
mutual
theorem DR.mono (e : Ex H H') : ∀ {v : V} {d : D}, DR K H v d → DR K H' v d
  | _, _, .non => .non
  | _, _, .bl b => .bl b
  | _, _, .int i => .int i
  | _, _, .str s => .str s
  | _, _, .lst h r => .lst (e _ _ h) (DRs.mono e r)
  | _, _, .tup h r => .tup (ex_t e h) (DRs.mono e r)
  | _, _, .ins h p q r => .ins (e _ _ h) p q (DRs.mono e r)
  | _, _, .dic h p q r => .dic (ex_rd e h) p q (DRs.mono e r)
  | _, _, .sc h => .sc (ex_l e h)
theorem DRs.mono (e : Ex H H') : ∀ {vs : List V} {ds : List D}, DRs K H vs ds → DRs K H' vs ds
  | _, _, .nil => .nil
  | _, _, .cons h t => .cons (DR.mono e h) (DRs.mono e t)
end
theorem DRs.len : ∀ {vs : List V} {ds : List D}, DRs K H vs ds → vs.length = ds.length
  | _, _, .nil => rfl
  | _, _, .cons _ t => by rw [List.length_cons, List.length_cons, DRs.len t]
theorem DRs.get : ∀ {vs : List V} {ds : List D} {i : Nat} {d : D}, DRs K H vs ds → ds[i]? = some d → ∃ v, vs[i]? = some v ∧ DR K H v d
  | _, _, _, _, .nil, e => by simp at e
  | _, _, 0, _, .cons r _, e => by simp at e; subst e; exact ⟨_, rfl, r⟩
  | _, _, i + 1, d, .cons _ t, e => by
    obtain ⟨u, h1, h2⟩ := DRs.get (i := i) (d := d) t (by simpa using e)
    exact ⟨u, by simpa using h1, h2⟩
theorem DRs.get' : ∀ {vs : List V} {ds : List D} {i : Nat} {v : V}, DRs K H vs ds → vs[i]? = some v → ∃ d, ds[i]? = some d ∧ DR K H v d
  | _, _, _, _, .nil, e => by simp at e
  | _, _, 0, _, .cons r _, e => by simp at e; subst e; exact ⟨_, rfl, r⟩
  | _, _, i + 1, v, .cons _ t, e => by
    obtain ⟨u, h1, h2⟩ := DRs.get' (i := i) (v := v) t (by simpa using e)
    exact ⟨u, by simpa using h1, h2⟩
theorem DRs.app : ∀ {vs ws : List V} {ds es : List D}, DRs K H vs ds → DRs K H ws es → DRs K H (vs ++ ws) (ds ++ es)
  | _, _, _, _, .nil, s => s
  | _, _, _, _, .cons r t, s => .cons r (DRs.app t s)
theorem DRs.one {v : V} {d : D} (h : DR K H v d) : DRs K H [v] [d] := .cons h .nil
theorem DRs.drop : ∀ {vs : List V} {ds : List D} (n : Nat), DRs K H vs ds → DRs K H (vs.drop n) (ds.drop n)
  | _, _, 0, r => r
  | _, _, _ + 1, .nil => .nil
  | _, _, n + 1, .cons _ t => DRs.drop n t
theorem DRs.take : ∀ {vs : List V} {ds : List D} (n : Nat), DRs K H vs ds → DRs K H (vs.take n) (ds.take n)
  | _, _, 0, _ => .nil
  | _, _, _ + 1, .nil => .nil
  | _, _, n + 1, .cons r t => .cons r (DRs.take n t)
theorem DRs.set {v : V} {d : D} (h : DR K H v d) : ∀ {vs : List V} {ds : List D} (n : Nat), DRs K H vs ds → DRs K H (vs.set n v) (ds.set n d)
  | _, _, _, .nil => .nil
  | _, _, 0, .cons _ t => .cons h t
  | _, _, n + 1, .cons r t => .cons r (DRs.set h n t)
theorem DRs.split : ∀ {vs : List V} {ds es : List D}, DRs K H vs (ds ++ es) → ∃ us ws, vs = us ++ ws ∧ DRs K H us ds ∧ DRs K H ws es
  | vs, [], es, h => ⟨[], vs, rfl, .nil, h⟩
  | _, d :: ds, es, .cons r t => by
    obtain ⟨us, ws, e, h1, h2⟩ := DRs.split (ds := ds) t
    subst e
    exact ⟨_ :: us, ws, rfl, .cons r h1, h2⟩
theorem dr_non {v : V} {d : D} (h : DR K H v d) : decide (v = .non) = d.isN := by
  cases h with
  | non => rfl
  | bl b => rfl
  | int i => rfl
  | str s => rfl
  | lst _ _ => rfl
  | tup _ _ => rfl
  | ins _ _ _ _ => rfl
  | dic _ _ _ _ => rfl
  | sc _ => rfl
end

/-! ### the steps of a heap: Hb, what stands for data; H, all that is tracked; W, what may be changed -/
structure Gr (W : Addr → Prop) (Hb H Hb' H' : Hp) : Prop where
  b : Ex Hb Hb'
  h : ∀ a o, H a = some o → ¬ W a → H' a = some o
  al : ∀ a, H a ≠ none → H' a ≠ none
  s : Ex Hb' H'
  f : ∀ a, H a ≠ none → ¬ W a → Hb' a = Hb a
abbrev New (Hb H Hb' H' : Hp) : Prop := Gr (fun _ => False) Hb H Hb' H'
section
variable {W W' : Addr → Prop} {Hb H Hb' H' Hb2 H2 : Hp}
theorem Gr.refl (e : Ex Hb H) : Gr W Hb H Hb H := ⟨Ex.refl _, fun _ _ h _ => h, fun _ h => h, e, fun _ _ _ => rfl⟩
theorem Gr.trans (x : Gr W Hb H Hb' H') (y : Gr W' Hb' H' Hb2 H2) (k : ∀ a, W' a → W a ∨ H a = none) : Gr W Hb H Hb2 H2 where
  b := x.b.trans y.b
  h := fun a o e n => y.h a o (x.h a o e n) fun w => (k a w).elim n fun z => by rw [z] at e; cases e
  al := fun a e => y.al a (x.al a e)
  s := y.s
  f := fun a e n => (y.f a (x.al a e) fun w => (k a w).elim n e).trans (x.f a e n)
theorem Gr.wk (x : Gr W Hb H Hb' H') (k : ∀ a, W a → W' a) : Gr W' Hb H Hb' H' := ⟨x.b, fun a o e n => x.h a o e fun w => n (k a w), x.al, x.s, fun a e n => x.f a e fun w => n (k a w)⟩
theorem New.gr (x : New Hb H Hb' H') : Gr W Hb H Hb' H' := x.wk fun _ z => z.elim
theorem New.ex (x : New Hb H Hb' H') : Ex H H' := fun a o e => x.h a o e fun z => z
theorem New.then (x : New Hb H Hb' H') (y : New Hb' H' Hb2 H2) : New Hb H Hb2 H2 := Gr.trans x y fun _ z => z.elim
/-- a new object, data -/
theorem New.mk {p : Addr} {o : HO} (e : Ex Hb H) (h : H p = none) : New Hb H (upd Hb p o) (upd H p o) where
  b := Ex.new (fresh_back e h)
  h := fun a u q _ => by rw [upd_ne (ne_of_none q h)]; exact q
  al := fun a q => by
    by_cases z : a = p
    · subst z; exact absurd h q
    · rw [upd_ne z]; exact q
  s := fun a u q => by
    by_cases z : a = p
    · subst z; rw [upd_same] at q ⊢; exact q
    · rw [upd_ne z] at q ⊢; exact e a u q
  f := fun a q _ => upd_ne fun z => by subst z; exact q h
/-- a new object, not data -/
theorem New.side {p : Addr} {o : HO} (e : Ex Hb H) (h : H p = none) : New Hb H Hb (upd H p o) where
  b := Ex.refl _
  h := fun a u q _ => by rw [upd_ne (ne_of_none q h)]; exact q
  al := fun a q => by
    by_cases z : a = p
    · subst z; exact absurd h q
    · rw [upd_ne z]; exact q
  s := fun a u q => by
    have hn := fresh_back e h
    rw [upd_ne (ne_of_none q hn)]
    exact e a u q
  f := fun _ _ _ => rfl
/-- an object that isn't data may change -/
theorem Gr.put {p : Addr} {o : HO} (e : Ex Hb H) (h : Hb p = none) (k : H p ≠ none) (w : W p) : Gr W Hb H Hb (upd H p o) where
  b := Ex.refl _
  h := fun a u q n => by rw [upd_ne fun z => n (by subst z; exact w)]; exact q
  al := fun a q => by
    by_cases z : a = p
    · subst z; rw [upd_same]; simp
    · rw [upd_ne z]; exact q
  s := fun a u q => by
    rw [upd_ne (ne_of_none q h)]
    exact e a u q
  f := fun _ _ _ => rfl
end

/-! ### slots -/
/-- what an owned object is -/
inductive MO where
  | ml (ds : List D)
  | dT (ks : List (List Key)) (ds : List D)
  | dK (ks : List Key) (ds : List D)
  | inv (φ : PySem.W.Frag → Hp → HO → Prop)
def MR (K : PySem.W.Frag) (Hb : Hp) (o : HO) : MO → Prop
  | .ml ds => ∃ vs, o = .lst vs ∧ DRs K Hb vs ds
  | .dT ks ds => ∃ kv : List (List Key × V), o = .dT kv ∧ kv.map (·.1) = ks ∧ DRs K Hb (kv.map (·.2)) ds
  | .dK ks ds => ∃ kv : List (Key × V), o = .dK kv ∧ kv.map (·.1) = ks ∧ DRs K Hb (kv.map (·.2)) ds
  | .inv φ => ∀ Hb', Ex Hb Hb' → φ K Hb' o
theorem MR.mono {K : PySem.W.Frag} {Hb Hb' : Hp} (e : Ex Hb Hb') {o : HO} : ∀ {m : MO}, MR K Hb o m → MR K Hb' o m
  | .ml _, ⟨vs, h, r⟩ => ⟨vs, h, r.mono e⟩
  | .dT _ _, ⟨vs, h, p, r⟩ => ⟨vs, h, p, r.mono e⟩
  | .dK _ _, ⟨vs, h, p, r⟩ => ⟨vs, h, p, r.mono e⟩
  | .inv _, h => fun H1 e1 => h H1 (e.trans e1)
/-- a slot: nothing known, data, an owned object -/
inductive Sl where
  | un | pd (d : D) | ow (o : MO)

structure En (K : PySem.W.Frag) (Hb H : Hp) (σ : L2.St) (Γ : List Sl) : Prop where
  ex : Ex Hb H
  val : ∀ (i : Nat) (d : D), Γ[i]? = some (.pd d) → ∃ v, σ[i]? = some (some v) ∧ DR K Hb v d
  own : ∀ (i : Nat) (m : MO), Γ[i]? = some (.ow m) → ∃ a u, σ[i]? = some (some (.ref a)) ∧ Hb a = none ∧ H a = some u ∧ MR K Hb u m
  sep : ∀ (i j : Nat) (a : Addr) (m m' : MO), Γ[i]? = some (.ow m) → Γ[j]? = some (.ow m') → σ[i]? = some (some (.ref a)) → σ[j]? = some (some (.ref a)) → i = j
  len : σ.length = Γ.length
def Own (σ : L2.St) (Γ : List Sl) (a : Addr) : Prop := ∃ (i : Nat) (m : MO), Γ[i]? = some (.ow m) ∧ σ[i]? = some (some (.ref a))
section
variable {K : PySem.W.Frag} {Hb H Hb' H' : Hp} {σ : L2.St} {Γ : List Sl}
theorem En.new (E : En K Hb H σ Γ) (x : New Hb H Hb' H') : En K Hb' H' σ Γ where
  ex := x.s
  val := fun i d h => by obtain ⟨v, h1, h2⟩ := E.val i d h; exact ⟨v, h1, h2.mono x.b⟩
  own := fun i m h => by
    obtain ⟨a, u, h1, h2, h3, h4⟩ := E.own i m h
    exact ⟨a, u, h1, (x.f a (by rw [h3]; simp) fun z => z).trans h2, x.ex a u h3, h4.mono x.b⟩
  sep := E.sep
  len := E.len
theorem En.some_of (E : En K Hb H σ Γ) {i : Nat} {s : Sl} (h : Γ[i]? = some s) : i < σ.length := by
  rw [E.len]
  exact (List.getElem?_eq_some_iff.mp h).1
theorem set_at {α : Type} {l : List α} {i j : Nat} {x y : α} (h : (l.set i x)[j]? = some y) : (i = j ∧ x = y ∧ i < l.length) ∨ (i ≠ j ∧ l[j]? = some y) := by
  by_cases e : i = j
  · subst e
    by_cases hi : i < l.length
    · rw [List.getElem?_set_self hi] at h
      exact .inl ⟨rfl, Option.some.inj h, hi⟩
    · rw [List.getElem?_eq_none (by simpa using hi)] at h
      cases h
  · rw [List.getElem?_set_ne e] at h
    exact .inr ⟨e, h⟩
/-- a slot gets data -/
theorem En.set (E : En K Hb H σ Γ) {v : V} {d : D} (r : DR K Hb v d) (i : Nat) : En K Hb H (σ.set i (some v)) (Γ.set i (.pd d)) where
  ex := E.ex
  val := fun j e h => by
    rcases set_at h with ⟨rfl, h2, h3⟩ | ⟨h1, h2⟩
    · cases h2
      exact ⟨v, List.getElem?_set_self (by rw [E.len]; exact h3), r⟩
    · rw [List.getElem?_set_ne h1]
      exact E.val j e h2
  own := fun j m h => by
    rcases set_at h with ⟨rfl, h2, h3⟩ | ⟨h1, h2⟩
    · cases h2
    · rw [List.getElem?_set_ne h1]
      exact E.own j m h2
  sep := fun j k a m m' h h' e e' => by
    rcases set_at h with ⟨rfl, h2, h3⟩ | ⟨h1, h2⟩
    · cases h2
    · rcases set_at h' with ⟨rfl, h4, h5⟩ | ⟨h3, h4⟩
      · cases h4
      · rw [List.getElem?_set_ne h1] at e
        rw [List.getElem?_set_ne h3] at e'
        exact E.sep j k a m m' h2 h4 e e'
  len := by rw [List.length_set, List.length_set, E.len]
/-- a slot is forgotten -/
theorem En.un (E : En K Hb H σ Γ) (i : Nat) (o : Option V) : En K Hb H (σ.set i o) (Γ.set i .un) where
  ex := E.ex
  val := fun j e h => by
    rcases set_at h with ⟨rfl, h2, h3⟩ | ⟨h1, h2⟩
    · cases h2
    · rw [List.getElem?_set_ne h1]
      exact E.val j e h2
  own := fun j m h => by
    rcases set_at h with ⟨rfl, h2, h3⟩ | ⟨h1, h2⟩
    · cases h2
    · rw [List.getElem?_set_ne h1]
      exact E.own j m h2
  sep := fun j k a m m' h h' e e' => by
    rcases set_at h with ⟨rfl, h2, h3⟩ | ⟨h1, h2⟩
    · cases h2
    · rcases set_at h' with ⟨rfl, h4, h5⟩ | ⟨h3, h4⟩
      · cases h4
      · rw [List.getElem?_set_ne h1] at e
        rw [List.getElem?_set_ne h3] at e'
        exact E.sep j k a m m' h2 h4 e e'
  len := by rw [List.length_set, List.length_set, E.len]
theorem En.forget (E : En K Hb H σ Γ) (i : Nat) : En K Hb H σ (Γ.set i .un) where
  ex := E.ex
  val := fun j e h => by
    rcases set_at h with ⟨rfl, h2, h3⟩ | ⟨h1, h2⟩
    · cases h2
    · exact E.val j e h2
  own := fun j m h => by
    rcases set_at h with ⟨rfl, h2, h3⟩ | ⟨h1, h2⟩
    · cases h2
    · exact E.own j m h2
  sep := fun j k a m m' h h' e e' => by
    rcases set_at h with ⟨rfl, h2, h3⟩ | ⟨h1, h2⟩
    · cases h2
    · rcases set_at h' with ⟨rfl, h4, h5⟩ | ⟨h3, h4⟩
      · cases h4
      · exact E.sep j k a m m' h2 h4 e e'
  len := by rw [List.length_set, E.len]
/-- Γ' says less than Γ -/
def Le (Γ Γ' : List Sl) : Prop := Γ.length = Γ'.length ∧ ∀ (i : Nat) (s : Sl), Γ'[i]? = some s → s = .un ∨ Γ[i]? = some s
theorem En.le (E : En K Hb H σ Γ) {Γ' : List Sl} (l : Le Γ Γ') : En K Hb H σ Γ' where
  ex := E.ex
  val := fun i d h => E.val i d ((l.2 i _ h).elim (fun z => by cases z) id)
  own := fun i m h => E.own i m ((l.2 i _ h).elim (fun z => by cases z) id)
  sep := fun i j a m m' h h' e e' => E.sep i j a m m' ((l.2 i _ h).elim (fun z => by cases z) id) ((l.2 j _ h').elim (fun z => by cases z) id) e e'
  len := E.len.trans l.1
theorem Own.le {Γ' : List Sl} (l : Le Γ Γ') {a : Addr} (h : Own σ Γ' a) : Own σ Γ a := by
  obtain ⟨i, m, h1, h2⟩ := h
  exact ⟨i, m, (l.2 i _ h1).elim (fun z => by cases z) id, h2⟩
/-- an owned object changes -/
theorem En.put (E : En K Hb H σ Γ) {i : Nat} {m m' : MO} {a : Addr} {u : HO} (h : Γ[i]? = some (.ow m)) (ha : σ[i]? = some (some (.ref a))) (r : MR K Hb u m') : En K Hb (upd H a u) σ (Γ.set i (.ow m')) where
  ex := fun b o e => by
    obtain ⟨a', u', h1, h2, h3, h4⟩ := E.own i m h
    rw [ha] at h1
    cases h1
    rw [upd_ne (ne_of_none e h2)]
    exact E.ex b o e
  val := fun j e h' => by
    rcases set_at h' with ⟨rfl, h2, h3⟩ | ⟨h1, h2⟩
    · cases h2
    · exact E.val j e h2
  own := fun j n h' => by
    obtain ⟨a', u', h1', h2', h3', h4'⟩ := E.own i m h
    rw [ha] at h1'
    cases h1'
    rcases set_at h' with ⟨rfl, h2, h3⟩ | ⟨h1, h2⟩
    · cases h2
      exact ⟨a, u, ha, h2', upd_same, r⟩
    · obtain ⟨b, w, e1, e2, e3, e4⟩ := E.own j n h2
      refine ⟨b, w, e1, e2, ?_, e4⟩
      rw [upd_ne fun z => h1 ?_]
      · exact e3
      · subst z
        exact E.sep i j _ m n h h2 ha e1
  sep := fun j k b n n' h1 h2 e1 e2 => by
    have g : ∀ (j : Nat) (n : MO), (Γ.set i (.ow m'))[j]? = some (.ow n) → ∃ n2, Γ[j]? = some (.ow n2) := fun j n z => by
      rcases set_at z with ⟨rfl, z2, z3⟩ | ⟨z1, z2⟩
      · exact ⟨m, h⟩
      · exact ⟨n, z2⟩
    obtain ⟨n1, g1⟩ := g j n h1
    obtain ⟨n2, g2⟩ := g k n' h2
    exact E.sep j k b n1 n2 g1 g2 e1 e2
  len := by rw [List.length_set, E.len]
/-- a new owned object is bound -/
theorem En.take (E : En K Hb H σ Γ) {i : Nat} {m : MO} {a : Addr} {u : HO} (hn : Hb a = none) (hu : H a = some u) (r : MR K Hb u m) (no : ¬ Own σ Γ a) : En K Hb H (σ.set i (some (.ref a))) (Γ.set i (.ow m)) where
  ex := E.ex
  val := fun j e h' => by
    rcases set_at h' with ⟨rfl, h2, h3⟩ | ⟨h1, h2⟩
    · cases h2
    · rw [List.getElem?_set_ne h1]
      exact E.val j e h2
  own := fun j n h' => by
    rcases set_at h' with ⟨rfl, h2, h3⟩ | ⟨h1, h2⟩
    · cases h2
      exact ⟨a, u, List.getElem?_set_self (by rw [E.len]; exact h3), hn, hu, r⟩
    · rw [List.getElem?_set_ne h1]
      exact E.own j n h2
  sep := fun j k b n n' h1 h2 e1 e2 => by
    rcases set_at h1 with ⟨rfl, z2, z3⟩ | ⟨z1, z2⟩
    · rcases set_at h2 with ⟨y1, y2, y3⟩ | ⟨y1, y2⟩
      · exact y1
      · rw [List.getElem?_set_self (by rw [E.len]; exact z3)] at e1
        cases e1
        rw [List.getElem?_set_ne y1] at e2
        exact absurd ⟨k, n', y2, e2⟩ no
    · rcases set_at h2 with ⟨rfl, y2, y3⟩ | ⟨y1, y2⟩
      · rw [List.getElem?_set_self (by rw [E.len]; exact y3)] at e2
        cases e2
        rw [List.getElem?_set_ne z1] at e1
        exact absurd ⟨j, n, z2, e1⟩ no
      · rw [List.getElem?_set_ne z1] at e1
        rw [List.getElem?_set_ne y1] at e2
        exact E.sep j k b n n' z2 y2 e1 e2
  len := by rw [List.length_set, List.length_set, E.len]
/-- an owned list becomes data -/
theorem En.freeze (E : En K Hb H σ Γ) {i : Nat} {ds : List D} (h : Γ[i]? = some (.ow (.ml ds))) : ∃ a vs, σ[i]? = some (some (.ref a)) ∧ H a = some (.lst vs) ∧ DRs K Hb vs ds ∧ Hb a = none ∧ Own σ Γ a ∧ En K (upd Hb a (.lst vs)) H σ (Γ.set i (.pd (.lst ds))) := by
  obtain ⟨a, u, h1, h2, h3, vs, rfl, h5⟩ := E.own i _ h
  have eb : Ex Hb (upd Hb a (.lst vs)) := Ex.new h2
  refine ⟨a, vs, h1, h3, h5, h2, ⟨i, _, h, h1⟩, ?_⟩
  exact {
    ex := fun b o e => by
      by_cases z : b = a
      · subst z; rw [upd_same] at e; cases e; exact h3
      · rw [upd_ne z] at e; exact E.ex b o e
    val := fun j e h' => by
      rcases set_at h' with ⟨rfl, z2, z3⟩ | ⟨z1, z2⟩
      · cases z2
        exact ⟨_, h1, .lst upd_same (h5.mono eb)⟩
      · obtain ⟨v, e1, e2⟩ := E.val j e z2
        exact ⟨v, e1, e2.mono eb⟩
    own := fun j n h' => by
      rcases set_at h' with ⟨rfl, z2, z3⟩ | ⟨z1, z2⟩
      · cases z2
      · obtain ⟨b, w, e1, e2, e3, e4⟩ := E.own j n z2
        refine ⟨b, w, e1, ?_, e3, e4.mono eb⟩
        rw [upd_ne fun z => z1 ?_]
        · exact e2
        · subst z
          exact E.sep i j _ _ n h z2 h1 e1
    sep := fun j k b n n' y1 y2 e1 e2 => by
      rcases set_at y1 with ⟨rfl, z2, z3⟩ | ⟨z1, z2⟩
      · cases z2
      · rcases set_at y2 with ⟨rfl, z4, z5⟩ | ⟨z3, z4⟩
        · cases z4
        · exact E.sep j k b n n' z2 z4 e1 e2
    len := by rw [List.length_set, E.len] }
/-- .. and the way of the heap -/
theorem Gr.freeze {W : Addr → Prop} {a : Addr} {vs : List V} (x : Gr W Hb H Hb' H') (w : H a = none) (h : H' a = some (.lst vs)) (hb : Hb' a = none) : Gr W Hb H (upd Hb' a (.lst vs)) H' where
  b := x.b.trans (Ex.new hb)
  h := x.h
  al := x.al
  s := fun b o e => by
    by_cases z : b = a
    · subst z; rw [upd_same] at e; cases e; exact h
    · rw [upd_ne z] at e; exact x.s b o e
  f := fun b e n => by rw [upd_ne fun z => by subst z; exact e w]; exact x.f b e n
end
end DL

namespace DL
open PySem PySem.Spec PyProof.Rows L2 Evl

/-! ### what an expression's own run asks -/
def wpE (X : Cx) (e : Expr) : TE := fun σ H Q => ∀ (pins : List (Addr × Obj)) (s : Shared), Inv X pins σ H s → wpAny (model X.prog X.w) X.A (eval e X.env) (EP X pins σ Q) X.xe s
def wpT (X : Cx) (e : Expr) : TT := fun σ H Q => ∀ (pins : List (Addr × Obj)) (s : Shared), Inv X pins σ H s → wpAny (model X.prog X.w) X.A (isTrue e X.env (eval e X.env)) (TP X pins σ Q) X.xe s
def wpA (X : Cx) (es : List Expr) : TA := fun σ H Q => ∀ (pos : Pos) (pins : List (Addr × Obj)) (s : Shared), Inv X pins σ H s → wpAny (model X.prog X.w) X.A (spliced (backTo pos (starEach es X.env))) (AP X pins σ Q) X.xe s
def wpI (X : Cx) (tg iter : Expr) : TI := fun σ H R => ∀ (pins : List (Addr × Obj)) (s : Shared), Inv X pins σ H s → wpAny (model X.prog X.w) X.A (eval iter X.env) (fun v s1 => wpAny (model X.prog X.w) X.A (pyIter v) (PIE X pins σ tg R) X.xe s1) X.xe s
theorem pe_wp {X : Cx} {e : Expr} : PE X e (wpE X e) := ⟨fun pins s _ _ _ I h => h pins s I⟩
theorem pt_wp {X : Cx} {e : Expr} : PT X e (wpT X e) := ⟨fun pins s _ _ _ I h => h pins s I⟩
theorem pa_wp {X : Cx} {es : List Expr} : PA X es (wpA X es) := ⟨fun pos pins s _ _ _ I h => h pos pins s I⟩
theorem pi_wp {X : Cx} {tg iter : Expr} : PI X tg iter (wpI X tg iter) := ⟨fun pins s _ _ _ I h => h pins s I⟩

/-! ### judgements over readings; m: true where owned objects may be changed -/
abbrev WW (m : Bool) (σ : L2.St) (Γ : List Sl) : Addr → Prop := fun a => m = true ∧ Own σ Γ a
def JR (K : PySem.W.Frag) (m : Bool) (te : TE) (Γ : List Sl) (Φ : D → Prop) : Prop := ∀ (σ : L2.St) (Hb H : Hp), En K Hb H σ Γ → ∀ Q : VK,
  (∀ v d Hb' H', Φ d → Gr (WW m σ Γ) Hb H Hb' H' → En K Hb' H' σ Γ → DR K Hb' v d → Q v H') → te σ H Q
def JT (K : PySem.W.Frag) (m : Bool) (tt : TT) (Γ : List Sl) (Φ : Bool → Prop) : Prop := ∀ (σ : L2.St) (Hb H : Hp), En K Hb H σ Γ → ∀ Q : Bool → Hp → Prop,
  (∀ b Hb' H', Φ b → Gr (WW m σ Γ) Hb H Hb' H' → En K Hb' H' σ Γ → Q b H') → tt σ H Q
def JA (K : PySem.W.Frag) (m : Bool) (ta : TA) (Γ : List Sl) (Φ : List D → Prop) : Prop := ∀ (σ : L2.St) (Hb H : Hp), En K Hb H σ Γ → ∀ Q : List V → Hp → Prop,
  (∀ vs ds Hb' H', Φ ds → Gr (WW m σ Γ) Hb H Hb' H' → En K Hb' H' σ Γ → DRs K Hb' vs ds → Q vs H') → ta σ H Q
/-- a new object of its own -/
def JN (K : PySem.W.Frag) (m : Bool) (te : TE) (Γ : List Sl) (Φ : MO → Prop) : Prop := ∀ (σ : L2.St) (Hb H : Hp), En K Hb H σ Γ → ∀ Q : VK,
  (∀ p u o Hb' H', Φ o → H p = none → Gr (WW m σ Γ) Hb H Hb' H' → En K Hb' H' σ Γ → Hb' p = none → H' p = some u → MR K Hb' u o → Q (.ref p) H') → te σ H Q
def ItD (K : PySem.W.Frag) (J : It) (Hb : Hp) (ds : List D) : Prop := ∀ (Hb1 H1 : Hp), Ex Hb Hb1 → Ex Hb1 H1 → ∀ i : Nat,
  (i < ds.length → J.go i H1 ∧ ∀ x H2, J.yld i H1 x H2 → ∃ d Hb2, ds[i]? = some d ∧ New Hb1 H1 Hb2 H2 ∧ DR K Hb2 x d) ∧ (ds.length ≤ i → J.stop i H1)
def JI (K : PySem.W.Frag) (m : Bool) (wi : TI) (Γ : List Sl) (Φ : List D → Prop) : Prop := ∀ (σ : L2.St) (Hb H : Hp), En K Hb H σ Γ → ∀ R : It → Hp → Prop,
  (∀ J ds Hb' H', Φ ds → Gr (WW m σ Γ) Hb H Hb' H' → En K Hb' H' σ Γ → ItD K J Hb' ds → R J H') → wi σ H R

def XE (X : Cx) (m : Bool) (e : Expr) (Γ : List Sl) (Φ : D → Prop) : Prop := JR X.K m (wpE X e) Γ Φ
def XT (X : Cx) (m : Bool) (e : Expr) (Γ : List Sl) (Φ : Bool → Prop) : Prop := JT X.K m (wpT X e) Γ Φ
def XA (X : Cx) (m : Bool) (es : List Expr) (Γ : List Sl) (Φ : List D → Prop) : Prop := JA X.K m (wpA X es) Γ Φ
def XN (X : Cx) (m : Bool) (e : Expr) (Γ : List Sl) (Φ : MO → Prop) : Prop := JN X.K m (wpE X e) Γ Φ
def XI (X : Cx) (m : Bool) (tg e : Expr) (Γ : List Sl) (Φ : List D → Prop) : Prop := JI X.K m (wpI X tg e) Γ Φ
/-- pure, known -/
abbrev XV (X : Cx) (e : Expr) (Γ : List Sl) (d : D) : Prop := XE X false e Γ fun z => z = d
abbrev XB (X : Cx) (e : Expr) (Γ : List Sl) (b : Bool) : Prop := XT X false e Γ fun z => z = b
abbrev XL (X : Cx) (es : List Expr) (Γ : List Sl) (ds : List D) : Prop := XA X false es Γ fun z => z = ds
abbrev XO (X : Cx) (e : Expr) (Γ : List Sl) (o : MO) : Prop := XN X false e Γ fun z => z = o
abbrev XW (X : Cx) (tg e : Expr) (Γ : List Sl) (ds : List D) : Prop := XI X false tg e Γ fun z => z = ds

section
variable {X : Cx} {m : Bool} {e a b c : Expr} {es : List Expr} {Γ : List Sl} {te ta tb : TE} {tt tu : TT} {tl : TA} {Φ Ψ : D → Prop} {pos : Pos}
theorem xe_of (h : PE X e te) (r : JR X.K m te Γ Φ) : XE X m e Γ Φ := fun σ Hb H E Q q pins s I => h.run pins s σ H Q I (r σ Hb H E Q q)
theorem xt_of {Φ : Bool → Prop} (h : PT X e tt) (r : JT X.K m tt Γ Φ) : XT X m e Γ Φ := fun σ Hb H E Q q pins s I => h.run pins s σ H Q I (r σ Hb H E Q q)
theorem xn_of {Φ : MO → Prop} (h : PE X e te) (r : JN X.K m te Γ Φ) : XN X m e Γ Φ := fun σ Hb H E Q q pins s I => h.run pins s σ H Q I (r σ Hb H E Q q)
theorem xa_of {Φ : List D → Prop} (h : PA X es tl) (r : JA X.K m tl Γ Φ) : XA X m es Γ Φ := fun σ Hb H E Q q pos pins s I => h.run pos pins s σ H Q I (r σ Hb H E Q q)
theorem xi_of {tg : Expr} {wi : TI} {Φ : List D → Prop} (h : PI X tg e wi) (r : JI X.K m wi Γ Φ) : XI X m tg e Γ Φ := fun σ Hb H E Q q pins s I => h.run pins s σ H Q I (r σ Hb H E Q q)
theorem XE.imp (h : XE X m e Γ Φ) (k : ∀ d, Φ d → Ψ d) : XE X m e Γ Ψ := fun σ Hb H E Q q => h σ Hb H E Q fun v d Hb' H' p => q v d Hb' H' (k d p)
theorem XT.imp {Φ Ψ : Bool → Prop} (h : XT X m e Γ Φ) (k : ∀ d, Φ d → Ψ d) : XT X m e Γ Ψ := fun σ Hb H E Q q => h σ Hb H E Q fun v Hb' H' p => q v Hb' H' (k v p)
theorem XA.imp {Φ Ψ : List D → Prop} (h : XA X m es Γ Φ) (k : ∀ d, Φ d → Ψ d) : XA X m es Γ Ψ := fun σ Hb H E Q q => h σ Hb H E Q fun v d Hb' H' p => q v d Hb' H' (k d p)
theorem XN.imp {Φ Ψ : MO → Prop} (h : XN X m e Γ Φ) (k : ∀ d, Φ d → Ψ d) : XN X m e Γ Ψ := fun σ Hb H E Q q => h σ Hb H E Q fun p u o Hb' H' z => q p u o Hb' H' (k o z)
theorem ww_lift {σ : L2.St} {Hb H Hb' H' : Hp} (g : Gr (WW false σ Γ) Hb H Hb' H') : Gr (WW m σ Γ) Hb H Hb' H' := g.wk fun _ z => by cases z.1
theorem ww_new {σ : L2.St} {Hb H Hb' H' : Hp} (g : Gr (WW false σ Γ) Hb H Hb' H') : New Hb H Hb' H' := g.wk fun _ z => by cases z.1
/-- pure is also changing -/
theorem XE.up (h : XE X false e Γ Φ) : XE X m e Γ Φ := fun σ Hb H E Q q => h σ Hb H E Q fun v d Hb' H' p g => q v d Hb' H' p (ww_lift g)
theorem XT.up {Φ : Bool → Prop} (h : XT X false e Γ Φ) : XT X m e Γ Φ := fun σ Hb H E Q q => h σ Hb H E Q fun v Hb' H' p g => q v Hb' H' p (ww_lift g)
theorem XA.up {Φ : List D → Prop} (h : XA X false es Γ Φ) : XA X m es Γ Φ := fun σ Hb H E Q q => h σ Hb H E Q fun v d Hb' H' p g => q v d Hb' H' p (ww_lift g)
theorem XN.up {Φ : MO → Prop} (h : XN X false e Γ Φ) : XN X m e Γ Φ := fun σ Hb H E Q q => h σ Hb H E Q fun p u o Hb' H' z z2 g => q p u o Hb' H' z z2 (ww_lift g)
theorem XI.up {tg : Expr} {Φ : List D → Prop} (h : XI X false tg e Γ Φ) : XI X m tg e Γ Φ := fun σ Hb H E Q q => h σ Hb H E Q fun J ds Hb' H' z g => q J ds Hb' H' z (ww_lift g)
theorem XV.is {d d' : D} (h : XV X e Γ d) (k : d = d') : XV X e Γ d' := by rw [← k]; exact h
theorem XB.is {d d' : Bool} (h : XB X e Γ d) (k : d = d') : XB X e Γ d' := by rw [← k]; exact h
theorem gww {σ : L2.St} {Hb H Hb' H' Hb2 H2 : Hp} (x : Gr (WW m σ Γ) Hb H Hb' H') (y : Gr (WW m σ Γ) Hb' H' Hb2 H2) : Gr (WW m σ Γ) Hb H Hb2 H2 := x.trans y fun _ w => .inl w
theorem gwn {σ : L2.St} {Hb H Hb' H' Hb2 H2 : Hp} (x : Gr (WW m σ Γ) Hb H Hb' H') (y : New Hb' H' Hb2 H2) : Gr (WW m σ Γ) Hb H Hb2 H2 := x.trans y fun _ w => w.elim

/-! ### names, constants -/
theorem jr_val {K : PySem.W.Frag} {d : D} {f : L2.St → Hp → VK → Prop} (h : ∀ σ Hb H, En K Hb H σ Γ → ∃ v, DR K Hb v d ∧ ∀ Q : VK, Q v H → f σ H Q) : JR K m f Γ fun z => z = d := fun σ Hb H E Q q => by
  obtain ⟨v, r, k⟩ := h σ Hb H E
  exact k Q (q v d Hb H rfl (Gr.refl E.ex) E r)
theorem xv_var (i : Nat) {x : Str} {d : D} (h : Γ[i]? = some (.pd d) := by rfl) (hN : X.N[i]? = some x := by rfl) (hv : Vis X.env.scope x := by first | exact Or.inl rfl | exact Or.inr (Or.inl rfl) | exact Or.inr (Or.inr rfl)) (hd : (x == ("__debug__" : Str)) = false := by decide)
    (hcd : (x == ("__classdict__" : Str)) = false := by decide) : XV X (.Name x pos) Γ d := xe_of (pe_var hN hv hd hcd) (jr_val fun σ Hb H E => by
  obtain ⟨v, h1, h2⟩ := E.val i d h
  exact ⟨v, h2, fun Q q => ⟨v, h1, q⟩⟩)
theorem xv_int {i : Int} {j : Nat} : XV X (.Constant (.int i) j pos) Γ (.int i) := xe_of pe_int (jr_val fun _ _ _ _ => ⟨.int i, .int i, fun _ q => q⟩)
theorem xv_bl {i : Bool} {j : Nat} : XV X (.Constant (.bool i) j pos) Γ (.bl i) := xe_of pe_bl (jr_val fun _ _ _ _ => ⟨.bl i, .bl i, fun _ q => q⟩)
theorem xv_non {j : Nat} : XV X (.Constant .none j pos) Γ .non := xe_of pe_non (jr_val fun _ _ _ _ => ⟨.non, .non, fun _ q => q⟩)
theorem xv_str {x : Str} {j : Nat} : XV X (.Constant (.str x) j pos) Γ (.str x) := xe_of pe_str (jr_val fun _ _ _ _ => ⟨.str x, .str x, fun _ q => q⟩)

/-! ### operators by what they give of data -/
def RR (K : PySem.W.Frag) (r : R2) (d e : D) (Φ : D → Prop) : Prop := ∀ x y Hb H, Ex Hb H → DR K Hb x d → DR K Hb y e → ∀ Q : VK, (∀ z d' Hb' H', Φ d' → New Hb H Hb' H' → DR K Hb' z d' → Q z H') → r x y H Q
abbrev RV2 (K : PySem.W.Frag) (r : R2) (d e f : D) : Prop := RR K r d e fun z => z = f
def RL (K : PySem.W.Frag) (r : List V → Hp → VK → Prop) (ds : List D) (Φ : D → Prop) : Prop := ∀ xs Hb H, Ex Hb H → DRs K Hb xs ds → ∀ Q : VK, (∀ z d' Hb' H', Φ d' → New Hb H Hb' H' → DR K Hb' z d' → Q z H') → r xs H Q
/-- .. to a new object -/
def RLN (K : PySem.W.Frag) (r : List V → Hp → VK → Prop) (ds : List D) (Φ : MO → Prop) : Prop := ∀ xs Hb H, Ex Hb H → DRs K Hb xs ds → ∀ Q : VK, (∀ p u o Hb' H', Φ o → H p = none → New Hb H Hb' H' → Hb' p = none → H' p = some u → MR K Hb' u o → Q (.ref p) H') → r xs H Q
def RRN (K : PySem.W.Frag) (r : R2) (d e : D) (Φ : MO → Prop) : Prop := ∀ x y Hb H, Ex Hb H → DR K Hb x d → DR K Hb y e → ∀ Q : VK, (∀ p u o Hb' H', Φ o → H p = none → New Hb H Hb' H' → Hb' p = none → H' p = some u → MR K Hb' u o → Q (.ref p) H') → r x y H Q
theorem jr_bin {K : PySem.W.Frag} {r : R2} {Φa : D → Prop} {Φb : D → D → Prop} (ha : JR K m ta Γ Φa) (hb : ∀ d, Φa d → JR K m tb Γ (Φb d)) (hr : ∀ d e, Φa d → Φb d e → RR K r d e Φ) : JR K m (tOp r ta tb) Γ Φ := fun σ Hb H E Q q =>
  ha σ Hb H E _ fun x d Hb1 H1 p1 g1 E1 r1 => hb d p1 σ Hb1 H1 E1 _ fun y e Hb2 H2 p2 g2 E2 r2 => hr d e p1 p2 x y Hb2 H2 E2.ex (r1.mono g2.b) r2 Q fun z d' Hb3 H3 p3 g3 r3 => q z d' Hb3 H3 p3 (gwn (gww g1 g2) g3) (E2.new g3) r3
theorem jn_bin {K : PySem.W.Frag} {r : R2} {Φa : D → Prop} {Φb : D → D → Prop} {Φ : MO → Prop} (ha : JR K m ta Γ Φa) (hb : ∀ d, Φa d → JR K m tb Γ (Φb d)) (hr : ∀ d e, Φa d → Φb d e → RRN K r d e Φ) : JN K m (tOp r ta tb) Γ Φ := fun σ Hb H E Q q =>
  ha σ Hb H E _ fun x d Hb1 H1 p1 g1 E1 r1 => hb d p1 σ Hb1 H1 E1 _ fun y e Hb2 H2 p2 g2 E2 r2 => hr d e p1 p2 x y Hb2 H2 E2.ex (r1.mono g2.b) r2 Q fun p u o Hb3 H3 p3 z0 g3 n3 h3 r3 => q p u o Hb3 H3 p3 (by
    cases z : H p with
    | none => rfl
    | some w => exact absurd z0 ((gww g1 g2).al p (by rw [z]; simp))) (gwn (gww g1 g2) g3) (E2.new g3) n3 h3 r3
theorem jr_l {K : PySem.W.Frag} {r : List V → Hp → VK → Prop} {Φa : List D → Prop} (ha : JA K m tl Γ Φa) (hr : ∀ ds, Φa ds → RL K r ds Φ) : JR K m (tCB r tl) Γ Φ := fun σ Hb H E Q q =>
  ha σ Hb H E _ fun xs ds Hb1 H1 p1 g1 E1 r1 => hr ds p1 xs Hb1 H1 E1.ex r1 Q fun z d' Hb3 H3 p3 g3 r3 => q z d' Hb3 H3 p3 (gwn g1 g3) (E1.new g3) r3
theorem jn_l {K : PySem.W.Frag} {r : List V → Hp → VK → Prop} {Φa : List D → Prop} {Φ : MO → Prop} (ha : JA K m tl Γ Φa) (hr : ∀ ds, Φa ds → RLN K r ds Φ) : JN K m (tCB r tl) Γ Φ := fun σ Hb H E Q q =>
  ha σ Hb H E _ fun xs ds Hb1 H1 p1 g1 E1 r1 => hr ds p1 xs Hb1 H1 E1.ex r1 Q fun p u o Hb3 H3 p3 z0 g3 n3 h3 r3 => q p u o Hb3 H3 p3 (by
    cases z : H p with
    | none => rfl
    | some w => exact absurd z0 (g1.al p (by rw [z]; simp))) (gwn g1 g3) (E1.new g3) n3 h3 r3
/-- a new list as data -/
theorem jr_frz {K : PySem.W.Frag} {Φ : D → Prop} (h : JN K m te Γ fun o => ∃ ds, o = .ml ds ∧ Φ (.lst ds)) : JR K m te Γ Φ := fun σ Hb H E Q q => h σ Hb H E Q fun p u o Hb' H' z n g E' nb hp r => by
  obtain ⟨ds, rfl, f⟩ := z
  obtain ⟨vs, rfl, r⟩ := r
  have E2 : En K (upd Hb' p (.lst vs)) H' σ Γ := {
    ex := (g.freeze n hp nb).s
    val := fun i d k => by obtain ⟨v, h1, h2⟩ := E'.val i d k; exact ⟨v, h1, h2.mono (Ex.new nb)⟩
    own := fun i m k => by
      obtain ⟨a, u, h1, h2, h3, h4⟩ := E'.own i m k
      obtain ⟨a', u', k1, k2, k3, k4⟩ := E.own i m k
      rw [h1] at k1
      cases k1
      refine ⟨a, u, h1, ?_, h3, h4.mono (Ex.new nb)⟩
      rw [upd_ne fun z => by subst z; rw [n] at k3; cases k3]
      exact h2
    sep := E'.sep
    len := E'.len }
  exact q (.ref p) (.lst ds) _ H' f (g.freeze n hp nb) E2 (.lst upd_same (r.mono (Ex.new nb)))
theorem XN.frz {ds : List D} (h : XN X m e Γ fun z => z = .ml ds) : XE X m e Γ fun z => z = .lst ds := jr_frz fun σ Hb H E Q q => h σ Hb H E Q fun p u o Hb' H' z => q p u o Hb' H' ⟨ds, z, rfl⟩
theorem XN.frzP {Φ : List D → Prop} (h : XN X m e Γ fun z => ∃ ds, z = .ml ds ∧ Φ ds) : XE X m e Γ fun z => ∃ ds, z = .lst ds ∧ Φ ds := jr_frz fun σ Hb H E Q q => h σ Hb H E Q fun p u o Hb' H' z => q p u o Hb' H' (by
  obtain ⟨ds, rfl, f⟩ := z
  exact ⟨ds, rfl, ds, rfl, f⟩)

theorem xe_bin {op : Operator} {r : R2} {Φa : D → Prop} {Φb : D → D → Prop} (ho : OpR X (binaryOp op) r) (ha : XE X m a Γ Φa) (hb : ∀ d, Φa d → XE X m b Γ (Φb d)) (hr : ∀ d e, Φa d → Φb d e → RR X.K r d e Φ) : XE X m (.BinOp a op b pos) Γ Φ := xe_of (pe_op ho pe_wp pe_wp) (jr_bin ha hb hr)
theorem xv_bin {op : Operator} {r : R2} {d d' f : D} (ho : OpR X (binaryOp op) r) (hr : RV2 X.K r d d' f) (ha : XV X a Γ d) (hb : XV X b Γ d') : XV X (.BinOp a op b pos) Γ f := xe_bin ho ha (fun _ _ => hb) fun _ _ p q => by subst p q; exact hr
theorem xe_cmp {op : CmpOp} {r : R2} {Φa : D → Prop} {Φb : D → D → Prop} (ho : OpR X (compareOp op) r) (hm : behindInMarks op b = false) (ha : XE X m a Γ Φa) (hb : ∀ d, Φa d → XE X m b Γ (Φb d)) (hr : ∀ d e, Φa d → Φb d e → RR X.K r d e Φ) : XE X m (.Compare a [op] [b] pos) Γ Φ := xe_of (pe_cmpR ho pe_wp pe_wp hm) (jr_bin ha hb hr)
theorem xv_cmp {op : CmpOp} {r : R2} {d d' f : D} (ho : OpR X (compareOp op) r) (hr : RV2 X.K r d d' f) (ha : XV X a Γ d) (hb : XV X b Γ d') (hm : behindInMarks op b = false := by first | exact nobehind _ (by decide) (by decide) | rfl) : XV X (.Compare a [op] [b] pos) Γ f := xe_cmp ho hm ha (fun _ _ => hb) fun _ _ p q => by subst p q; exact hr
theorem jt_test {K : PySem.W.Frag} {Φ : Bool → Prop} (h : JR K m te Γ fun z => ∃ b, z = .bl b ∧ Φ b) : JT K m (tTest te) Γ Φ := fun σ Hb H E Q q => h σ Hb H E _ fun v d Hb' H' z g E' r => by
  obtain ⟨b, rfl, f⟩ := z
  cases r
  exact ⟨b, rfl, q b Hb' H' f g E'⟩
theorem jt_B {K : PySem.W.Frag} {Φ : Bool → Prop} (h : JR K m te Γ fun z => ∃ b, z = .bl b ∧ Φ b) : JT K m (tB te) Γ Φ := jt_test h
theorem xt_cmp {op : CmpOp} {r : R2} {Φa : D → Prop} {Φb : D → D → Prop} {Φ : Bool → Prop} (ho : OpR X (compareOp op) r) (hm : behindInMarks op b = false) (ha : XE X m a Γ Φa) (hb : ∀ d, Φa d → XE X m b Γ (Φb d)) (hr : ∀ d e, Φa d → Φb d e → RR X.K r d e fun z => ∃ k, z = .bl k ∧ Φ k) : XT X m (.Compare a [op] [b] pos) Γ Φ := xt_of (pt_cmpR ho pe_wp pe_wp hm) (jt_test (jr_bin ha hb hr))
theorem xb_cmp {op : CmpOp} {r : R2} {d d' : D} {k : Bool} (ho : OpR X (compareOp op) r) (hr : RV2 X.K r d d' (.bl k)) (ha : XV X a Γ d) (hb : XV X b Γ d') (hm : behindInMarks op b = false := by first | exact nobehind _ (by decide) (by decide) | rfl) : XB X (.Compare a [op] [b] pos) Γ k := xt_cmp ho hm ha (fun _ _ => hb) fun _ _ p q x y Hb H e r1 r2 Q w => by
  subst p q
  exact hr x y Hb H e r1 r2 Q fun z d' Hb' H' f => w z d' Hb' H' ⟨k, f, rfl⟩
/-- a test by an expression's value -/
theorem xt_val {Φ : Bool → Prop} (h : XE X m e Γ fun z => ∃ b, z = .bl b ∧ Φ b) (he : ∀ whole, isTrue e X.env whole = (do let v ← whole; standAt e.pos; holding [v] (truthy v)) := by intro _; rfl) : XT X m e Γ Φ := xt_of (pt_val pe_wp he) (jt_B h)
theorem xb_val {k : Bool} (h : XV X e Γ (.bl k)) (he : ∀ whole, isTrue e X.env whole = (do let v ← whole; standAt e.pos; holding [v] (truthy v)) := by intro _; rfl) : XB X e Γ k := xt_val (h.imp fun _ z => ⟨k, z, rfl⟩) he
/-! ### and, or, not of tests -/
def XWt (X : Cx) (m : Bool) (e : Expr) (Γ : List Sl) (Φ : Bool → Prop) : Prop := ∃ tt, PW X e tt ∧ JT X.K m tt Γ Φ
theorem xt_w {Φ : Bool → Prop} (h : XWt X m e Γ Φ) : XT X m e Γ Φ := by obtain ⟨tt, h1, h2⟩ := h; exact xt_of h1.pt h2
theorem xw_and1 {Φ : Bool → Prop} (h : XT X m a Γ Φ) : XWt X m (.BoolOp .And [a] pos) Γ Φ := ⟨_, pw_and1 pt_wp, h⟩
theorem xw_or1 {Φ : Bool → Prop} (h : XT X m a Γ Φ) : XWt X m (.BoolOp .Or [a] pos) Γ Φ := ⟨_, pw_or1 pt_wp, h⟩
theorem xw_and {Φ : Bool → Prop} {Φa : Bool → Prop} (h : XT X m a Γ Φa) (k : Φa true → XWt X m (.BoolOp .And (b :: es) pos) Γ Φ) (f : Φa false → Φ false) : XWt X m (.BoolOp .And (a :: b :: es) pos) Γ Φ := by
  by_cases z : Φa true
  · obtain ⟨tt, h1, h2⟩ := k z
    refine ⟨_, pw_and pt_wp h1, fun σ Hb H E Q q => h σ Hb H E _ fun c Hb1 H1 p1 g1 E1 => ?_⟩
    cases c with
    | true => exact iteT (h2 σ Hb1 H1 E1 Q fun c2 Hb2 H2 p2 g2 E2 => q c2 Hb2 H2 p2 (gww g1 g2) E2)
    | false => exact iteF (q false Hb1 H1 (f p1) g1 E1)
  · refine ⟨_, pw_and (tB' := fun _ _ _ => False) pt_wp ⟨fun whole pins s σ H Q I hh => (show False from hh).elim⟩, fun σ Hb H E Q q => h σ Hb H E _ fun c Hb1 H1 p1 g1 E1 => ?_⟩
    cases c with
    | true => exact absurd p1 z
    | false => exact iteF (q false Hb1 H1 (f p1) g1 E1)
theorem xw_or {Φ : Bool → Prop} {Φa : Bool → Prop} (h : XT X m a Γ Φa) (k : Φa false → XWt X m (.BoolOp .Or (b :: es) pos) Γ Φ) (f : Φa true → Φ true) : XWt X m (.BoolOp .Or (a :: b :: es) pos) Γ Φ := by
  by_cases z : Φa false
  · obtain ⟨tt, h1, h2⟩ := k z
    refine ⟨_, pw_or pt_wp h1, fun σ Hb H E Q q => h σ Hb H E _ fun c Hb1 H1 p1 g1 E1 => ?_⟩
    cases c with
    | false => exact iteF (h2 σ Hb1 H1 E1 Q fun c2 Hb2 H2 p2 g2 E2 => q c2 Hb2 H2 p2 (gww g1 g2) E2)
    | true => exact iteT (q true Hb1 H1 (f p1) g1 E1)
  · refine ⟨_, pw_or (tB' := fun _ _ _ => False) pt_wp ⟨fun whole pins s σ H Q I hh => (show False from hh).elim⟩, fun σ Hb H E Q q => h σ Hb H E _ fun c Hb1 H1 p1 g1 E1 => ?_⟩
    cases c with
    | false => exact absurd p1 z
    | true => exact iteT (q true Hb1 H1 (f p1) g1 E1)
abbrev XBw (X : Cx) (e : Expr) (Γ : List Sl) (b : Bool) : Prop := XWt X false e Γ fun z => z = b
theorem xb_and {k l : Bool} (h : XB X a Γ k) (h2 : k = true → XBw X (.BoolOp .And (b :: es) pos) Γ l) : XBw X (.BoolOp .And (a :: b :: es) pos) Γ (k && l) := xw_and h (fun z => by
  subst z
  exact h2 rfl) fun z => by subst z; rfl
theorem xb_or {k l : Bool} (h : XB X a Γ k) (h2 : k = false → XBw X (.BoolOp .Or (b :: es) pos) Γ l) : XBw X (.BoolOp .Or (a :: b :: es) pos) Γ (k || l) := xw_or h (fun z => by
  subst z
  exact h2 rfl) fun z => by subst z; rfl
theorem xt_not {Φ : Bool → Prop} (h : XT X m a Γ fun z => Φ (!z)) : XT X m (.UnaryOp .Not a pos) Γ Φ := xt_of (pt_not pt_wp) fun σ Hb H E Q q => h σ Hb H E _ fun c Hb1 H1 p1 g1 E1 => q (!c) Hb1 H1 p1 g1 E1
theorem xb_not {k : Bool} (h : XB X a Γ k) : XB X (.UnaryOp .Not a pos) Γ (!k) := xt_not (h.imp fun _ z => by rw [z])
/-! .. of values -/
theorem xv_one {op : BoolOp} {d : D} (h : XV X a Γ d) : XV X (.BoolOp op [a] pos) Γ d := xe_of (pe_one pe_wp) h
theorem xv_and {k l : Bool} (h : XV X a Γ (.bl k)) (h2 : k = true → XV X (.BoolOp .And (b :: es) pos) Γ (.bl l)) : XV X (.BoolOp .And (a :: b :: es) pos) Γ (.bl (k && l)) := by
  cases k with
  | true =>
    exact xe_of (pe_and pe_wp pe_wp) fun σ Hb H E Q q => h σ Hb H E _ fun v d Hb1 H1 p1 g1 E1 r1 => by
      subst p1
      cases r1
      exact ⟨true, rfl, iteT (h2 rfl σ Hb1 H1 E1 Q fun v2 d2 Hb2 H2 p2 g2 E2 r2 => q v2 d2 Hb2 H2 p2 (gww g1 g2) E2 r2)⟩
  | false =>
    exact xe_of (pe_and pe_wp pe_wp) fun σ Hb H E Q q => h σ Hb H E _ fun v d Hb1 H1 p1 g1 E1 r1 => by
      subst p1
      cases r1
      exact ⟨false, rfl, iteF (q _ _ Hb1 H1 rfl g1 E1 (.bl false))⟩
theorem xv_or {k l : Bool} (h : XV X a Γ (.bl k)) (h2 : k = false → XV X (.BoolOp .Or (b :: es) pos) Γ (.bl l)) : XV X (.BoolOp .Or (a :: b :: es) pos) Γ (.bl (k || l)) := by
  cases k with
  | false =>
    exact xe_of (pe_or pe_wp pe_wp) fun σ Hb H E Q q => h σ Hb H E _ fun v d Hb1 H1 p1 g1 E1 r1 => by
      subst p1
      cases r1
      exact ⟨false, rfl, iteF (h2 rfl σ Hb1 H1 E1 Q fun v2 d2 Hb2 H2 p2 g2 E2 r2 => q v2 d2 Hb2 H2 p2 (gww g1 g2) E2 r2)⟩
  | true =>
    exact xe_of (pe_or pe_wp pe_wp) fun σ Hb H E Q q => h σ Hb H E _ fun v d Hb1 H1 p1 g1 E1 r1 => by
      subst p1
      cases r1
      exact ⟨true, rfl, iteT (q _ _ Hb1 H1 rfl g1 E1 (.bl true))⟩
theorem xv_not {k : Bool} (h : XV X a Γ (.bl k)) : XV X (.UnaryOp .Not a pos) Γ (.bl (!k)) := xe_of (pe_not pe_wp) fun σ Hb H E Q q => h σ Hb H E _ fun v d Hb1 H1 p1 g1 E1 r1 => by
  subst p1
  cases r1
  exact ⟨k, rfl, q _ _ Hb1 H1 rfl g1 E1 (.bl (!k))⟩
theorem xe_if {Φt : Bool → Prop} (ht : XT X m c Γ Φt) (ha : Φt true → XE X m a Γ Φ) (hb : Φt false → XE X m b Γ Φ) : XE X m (.IfExp c a b pos) Γ Φ := xe_of (pe_ifExp pt_wp pe_wp pe_wp) fun σ Hb H E Q q => ht σ Hb H E _ fun k Hb1 H1 p1 g1 E1 => by
  cases k with
  | true => exact iteT (ha p1 σ Hb1 H1 E1 Q fun v d Hb2 H2 p2 g2 E2 r2 => q v d Hb2 H2 p2 (gww g1 g2) E2 r2)
  | false => exact iteF (hb p1 σ Hb1 H1 E1 Q fun v d Hb2 H2 p2 g2 E2 r2 => q v d Hb2 H2 p2 (gww g1 g2) E2 r2)
theorem xv_if {k : Bool} {d d' : D} (ht : XB X c Γ k) (ha : k = true → XV X a Γ d) (hb : k = false → XV X b Γ d') : XV X (.IfExp c a b pos) Γ (if k = true then d else d') := xe_if ht (fun z => by
  rw [if_pos z.symm]
  exact ha z.symm) fun z => by
  rw [if_neg (by rw [← z]; exact Bool.false_ne_true)]
  exact hb z.symm

/-! ### arguments, tuples, lists -/
theorem xa_nil : XL X [] Γ [] := xa_of pa_nil fun σ Hb H E Q q => q [] [] Hb H rfl (Gr.refl E.ex) E .nil
theorem xa_cons {Φa : D → Prop} {Φb : D → List D → Prop} {Φ : List D → Prop} (ha : XE X m e Γ Φa) (hb : ∀ d, Φa d → XA X m es Γ (Φb d)) (k : ∀ d ds, Φa d → Φb d ds → Φ (d :: ds)) (hs : starEach (e :: es) X.env = (false, eval e X.env) :: starEach es X.env := by rfl) : XA X m (e :: es) Γ Φ := xa_of (pa_cons pe_wp pa_wp hs) fun σ Hb H E Q q =>
  ha σ Hb H E _ fun x d Hb1 H1 p1 g1 E1 r1 => hb d p1 σ Hb1 H1 E1 _ fun ys ds Hb2 H2 p2 g2 E2 r2 => q _ _ Hb2 H2 (k d ds p1 p2) (gww g1 g2) E2 (.cons (r1.mono g2.b) r2)
theorem xl_cons {d : D} {ds : List D} (ha : XV X e Γ d) (hb : XL X es Γ ds) (hs : starEach (e :: es) X.env = (false, eval e X.env) :: starEach es X.env := by rfl) : XL X (e :: es) Γ (d :: ds) := xa_cons ha (fun _ _ => hb) (fun _ _ p q => by rw [p, q]) hs
theorem xe_tup {j : Nat} {Φ : List D → Prop} {Ψ : D → Prop} (h : XA X m es Γ Φ) (k : ∀ ds, Φ ds → Ψ (.tup ds)) (hl : es.length ≤ 100000 := by decide) (hz : ∀ ds, Φ ds → ds.length ≤ 100000) : XE X m (.Tuple es j pos) Γ Ψ := xe_of (pe_tup pa_wp) fun σ Hb H E Q q => h σ Hb H E _ fun vs ds Hb1 H1 p1 g1 E1 r1 =>
  ⟨sz_of (by rw [r1.len]; exact hz ds p1), fun p hp => q (.ref p) (.tup ds) _ _ (k ds p1) (gwn g1 (New.mk E1.ex hp)) (E1.new (New.mk E1.ex hp)) (.tup (SqT.of upd_same) (r1.mono (Ex.new (fresh_back E1.ex hp))))⟩
theorem xv_tup {j : Nat} {ds : List D} (h : XL X es Γ ds) (hl : ds.length ≤ 100000 := by decide) : XV X (.Tuple es j pos) Γ (.tup ds) := xe_of (pe_tup pa_wp) fun σ Hb H E Q q => h σ Hb H E _ fun vs ds' Hb1 H1 p1 g1 E1 r1 => by
  subst p1
  exact ⟨sz_of (by rw [r1.len]; exact hl), fun p hp => q (.ref p) (.tup ds') _ _ rfl (gwn g1 (New.mk E1.ex hp)) (E1.new (New.mk E1.ex hp)) (.tup (SqT.of upd_same) (r1.mono (Ex.new (fresh_back E1.ex hp))))⟩
theorem new_none {W : Addr → Prop} {Hb H Hb' H' : Hp} {p : Addr} (g : Gr W Hb H Hb' H') (h : H' p = none) : H p = none := by
  cases z : H p with
  | none => rfl
  | some w => exact absurd h (g.al p (by rw [z]; simp))
theorem xo_lst {ds : List D} (h : XL X es Γ ds) (hl : ds.length ≤ 100000 := by decide) : XO X (.List es pos) Γ (.ml ds) := xn_of (pe_lst pa_wp) fun σ Hb H E Q q => h σ Hb H E _ fun vs ds' Hb1 H1 p1 g1 E1 r1 => by
  subst p1
  exact ⟨sz_of (by rw [r1.len]; exact hl), fun p hp => q p (.lst vs) (.ml ds') Hb1 _ rfl (new_none g1 hp) (gwn g1 (New.side E1.ex hp)) (E1.new (New.side E1.ex hp)) (fresh_back E1.ex hp) upd_same ⟨vs, rfl, r1⟩⟩
theorem xv_lst {ds : List D} (h : XL X es Γ ds) (hl : ds.length ≤ 100000 := by decide) : XV X (.List es pos) Γ (.lst ds) := (xo_lst h hl).frz
theorem xv_ix {r : R2} {d d' f : D} (ho : IxR X r) (hr : RV2 X.K r d d' f) (ha : XV X a Γ d) (hb : XV X b Γ d') (hs : PlainIx b := by exact fun _ _ => rfl) : XV X (.Subscript a b pos) Γ f := xe_of (pe_ix ho pe_wp pe_wp hs) (jr_bin ha (fun _ _ => hb) fun _ _ p q => by subst p q; exact hr)
theorem xe_ix {r : R2} {Φa : D → Prop} {Φb : D → D → Prop} (ho : IxR X r) (ha : XE X m a Γ Φa) (hb : ∀ d, Φa d → XE X m b Γ (Φb d)) (hr : ∀ d e, Φa d → Φb d e → RR X.K r d e Φ) (hs : PlainIx b := by exact fun _ _ => rfl) : XE X m (.Subscript a b pos) Γ Φ := xe_of (pe_ix ho pe_wp pe_wp hs) (jr_bin ha hb hr)
/-! ### calls of built-ins -/
variable {x : Str} {p : Pos} {r : List V → Hp → VK → Prop} {id T : String}
theorem xe_callB {Φa : List D → Prop} (hc : CallR X (.builtin id) r) (hm : X.mg x = none) (hv : bootBuiltins x = some (.builtin id)) (ha : XA X m (e :: es) Γ Φa) (hr : ∀ ds, Φa ds → RL X.K r ds Φ) (hg : Gl X x := by rfl) (hn : x ≠ "__name__" := by decide) (hdb : (x == ("__debug__" : Str)) = false := by decide)
    (hs : starEach (e :: es) X.env = (false, eval e X.env) :: starEach es X.env := by rfl) (hpl : (backTo pos (starEach es X.env)).any (·.1) = false := by rfl) : XE X m (.Call (.Name x p) (e :: es) [] pos) Γ Φ := xe_of (pe_callB hc hg hm hv pa_wp hn hdb hs hpl) (jr_l ha hr)
theorem xn_callB {Φa : List D → Prop} {Φ : MO → Prop} (hc : CallR X (.builtin id) r) (hm : X.mg x = none) (hv : bootBuiltins x = some (.builtin id)) (ha : XA X m (e :: es) Γ Φa) (hr : ∀ ds, Φa ds → RLN X.K r ds Φ) (hg : Gl X x := by rfl) (hn : x ≠ "__name__" := by decide) (hdb : (x == ("__debug__" : Str)) = false := by decide)
    (hs : starEach (e :: es) X.env = (false, eval e X.env) :: starEach es X.env := by rfl) (hpl : (backTo pos (starEach es X.env)).any (·.1) = false := by rfl) : XN X m (.Call (.Name x p) (e :: es) [] pos) Γ Φ := xn_of (pe_callB hc hg hm hv pa_wp hn hdb hs hpl) (jn_l ha hr)
theorem xe_callT {Φa : List D → Prop} (hc : CallR X (.type T) r) (hm : X.mg x = none) (hv : bootBuiltins x = some (.type T)) (ha : XA X m (e :: es) Γ Φa) (hr : ∀ ds, Φa ds → RL X.K r ds Φ) (hg : Gl X x := by rfl) (hn : x ≠ "__name__" := by decide) (hdb : (x == ("__debug__" : Str)) = false := by decide)
    (hs : starEach (e :: es) X.env = (false, eval e X.env) :: starEach es X.env := by rfl) (hpl : (backTo pos (starEach es X.env)).any (·.1) = false := by rfl) : XE X m (.Call (.Name x p) (e :: es) [] pos) Γ Φ := xe_of (pe_callTy hc hg hm hv pa_wp hn hdb hs hpl) (jr_l ha hr)
theorem xn_callT {Φa : List D → Prop} {Φ : MO → Prop} (hc : CallR X (.type T) r) (hm : X.mg x = none) (hv : bootBuiltins x = some (.type T)) (ha : XA X m (e :: es) Γ Φa) (hr : ∀ ds, Φa ds → RLN X.K r ds Φ) (hg : Gl X x := by rfl) (hn : x ≠ "__name__" := by decide) (hdb : (x == ("__debug__" : Str)) = false := by decide)
    (hs : starEach (e :: es) X.env = (false, eval e X.env) :: starEach es X.env := by rfl) (hpl : (backTo pos (starEach es X.env)).any (·.1) = false := by rfl) : XN X m (.Call (.Name x p) (e :: es) [] pos) Γ Φ := xn_of (pe_callTy hc hg hm hv pa_wp hn hdb hs hpl) (jn_l ha hr)
end
end DL

namespace DL
open PySem PySem.Spec PyProof.Rows L2 Evl

/-! ### data as the library's data, for == and in -/
mutual
def D.py : D → PyData
  | .non => .none | .bl b => .bool b | .int i => .int i | .str s => .str s
  | .lst l => .list (pyL l) | .tup l => .tuple (pyL l)
  | .ins _ _ _ => .dict [] | .dic _ _ => .dict [] | .sc _ => .dict []
def pyL : List D → List PyData
  | [] => []
  | d :: r => d.py :: pyL r
end
theorem pyL_map : ∀ l : List D, pyL l = l.map D.py
  | [] => rfl
  | d :: r => by rw [pyL, pyL_map r]; rfl
mutual
/-- plain data not deeper than n -/
def D.ok : D → Nat → Bool
  | .non, _ => true | .bl _, _ => true | .int _, _ => true
  | .str s, _ => PyData.strOk s
  | .lst l, n + 1 => okL l n
  | .tup l, n + 1 => okL l n
  | .lst _, 0 => false | .tup _, 0 => false
  | .ins _ _ _, _ => false | .dic _ _, _ => false | .sc _, _ => false
def okL : List D → Nat → Bool
  | [], _ => true
  | d :: r, n => d.ok n && okL r n
end
theorem okL_iff : ∀ {l : List D} {n : Nat}, okL l n = true ↔ ∀ d ∈ l, d.ok n = true
  | [], n => ⟨fun _ _ h => (List.not_mem_nil h).elim, fun _ => rfl⟩
  | d :: r, n => by
    rw [okL, Bool.and_eq_true, okL_iff (l := r)]
    exact ⟨fun h x hx => (List.mem_cons.mp hx).elim (fun e => e ▸ h.1) (h.2 x), fun h => ⟨h d (List.mem_cons_self ..), fun x hx => h x (List.mem_cons_of_mem _ hx)⟩⟩
section
variable {K : PySem.W.Frag} {H : Hp}
mutual
theorem DR.dp : ∀ {v : V} {d : D} {n : Nat}, DR K H v d → d.ok n = true → Dp K H v d.py
  | _, _, _, .non, _ => .non
  | _, _, _, .bl b, _ => .bl b
  | _, _, _, .int i, _ => .int i
  | _, _, _, .str s, _ => .str s
  | _, _, n + 1, .lst h r, k => .lst (SqL.of h) (DRs.dp r k)
  | _, _, n + 1, .tup h r, k => .tup h (DRs.dp r k)
  | _, _, 0, .lst h r, k => by cases k
  | _, _, 0, .tup h r, k => by cases k
  | _, _, n, .ins _ _ _ _, k => by cases n <;> cases k
  | _, _, n, .dic _ _ _ _, k => by cases n <;> cases k
  | _, _, n, .sc _, k => by cases n <;> cases k
theorem DRs.dp : ∀ {vs : List V} {ds : List D} {n : Nat}, DRs K H vs ds → okL ds n = true → DpAll K H vs (pyL ds)
  | _, _, _, .nil, _ => .nil
  | _, _, n, .cons h t, k => by
    rw [okL, Bool.and_eq_true] at k
    exact .cons (DR.dp h k.1) (DRs.dp t k.2)
end
end
mutual
theorem ok_depth : ∀ {d : D} {n : Nat}, d.ok n = true → d.py.canLay0 = true ∧ d.py.depth ≤ n
  | .non, n, _ => ⟨rfl, Nat.zero_le _⟩
  | .bl b, n, _ => ⟨rfl, Nat.zero_le _⟩
  | .int i, n, _ => ⟨rfl, Nat.zero_le _⟩
  | .str s, n, h => ⟨h, Nat.zero_le _⟩
  | .lst l, n + 1, h => ⟨(okL_depth h).1, Nat.succ_le_succ (okL_depth h).2⟩
  | .tup l, n + 1, h => ⟨(okL_depth h).1, Nat.succ_le_succ (okL_depth h).2⟩
  | .lst l, 0, h => by cases h
  | .tup l, 0, h => by cases h
  | .ins _ _ _, n, h => by cases n <;> cases h
  | .dic _ _, n, h => by cases n <;> cases h
  | .sc _, n, h => by cases n <;> cases h
theorem okL_depth : ∀ {l : List D} {n : Nat}, okL l n = true → PyData.canLayAll0 (pyL l) = true ∧ PyData.depthAll (pyL l) ≤ n
  | [], n, _ => ⟨rfl, Nat.zero_le _⟩
  | d :: r, n, h => by
    rw [okL, Bool.and_eq_true] at h
    have h1 := ok_depth h.1
    have h2 := okL_depth h.2
    refine ⟨?_, ?_⟩
    · show (d.py.canLay0 && PyData.canLayAll0 (pyL r)) = true
      rw [h1.1, h2.1]; rfl
    · exact Nat.max_le.mpr ⟨h1.2, h2.2⟩
end
theorem ok_shaped {d : D} {n : Nat} (h : d.ok n = true) (k : n ≤ 64 := by decide) : SeqAt.shaped d.py = true := by
  have h1 := ok_depth h
  show (d.py.canLay0 && decide (d.py.depth ≤ 64)) = true
  rw [h1.1, decide_eq_true (by omega)]
  rfl

/-! ### how typed values stand as data -/
class Enc {α : Type} [DecidableEq α] (f : α → D) (n : outParam Nat) : Prop where
  ok : ∀ x, (f x).ok n = true
  eq : ∀ x y, PyData.eqv (f x).py (f y).py = decide (x = y)
def tT {α : Type} (f : α → D) (l : List α) : D := .tup (l.map f)
def lT {α : Type} (f : α → D) (l : List α) : D := .lst (l.map f)
def pT {α β : Type} (f : α → D) (g : β → D) (p : α × β) : D := .tup [f p.1, g p.2]
def oT {α : Type} (f : α → D) : Option α → D
  | none => .non
  | some x => f x
theorem eqvAll_map {α : Type} [DecidableEq α] {f : α → D} (h : ∀ x y, PyData.eqv (f x).py (f y).py = decide (x = y)) : ∀ l m : List α, PyData.eqvAll (pyL (l.map f)) (pyL (m.map f)) = decide (l = m)
  | [], [] => rfl
  | [], y :: m => rfl
  | x :: l, [] => rfl
  | x :: l, y :: m => by
    show (PyData.eqv (f x).py (f y).py && PyData.eqvAll (pyL (l.map f)) (pyL (m.map f))) = _
    rw [h x y, eqvAll_map h l m]
    by_cases e : x = y
    · by_cases e2 : l = m
      · rw [decide_eq_true e, decide_eq_true e2, decide_eq_true (by rw [e, e2])]; rfl
      · rw [decide_eq_false e2, Bool.and_false, decide_eq_false fun z => e2 (List.cons.inj z).2]
    · rw [decide_eq_false e, Bool.false_and, decide_eq_false fun z => e (List.cons.inj z).1]
theorem okL_map {α : Type} {f : α → D} {n : Nat} (h : ∀ x, (f x).ok n = true) (l : List α) : okL (l.map f) n = true := okL_iff.mpr fun d hd => by
  obtain ⟨x, _, rfl⟩ := List.mem_map.mp hd
  exact h x
mutual
theorem ok_up : ∀ {d : D} {n k : Nat}, d.ok n = true → n ≤ k → d.ok k = true
  | .non, _, k, _, _ => by cases k <;> rfl
  | .bl _, _, k, _, _ => by cases k <;> rfl
  | .int _, _, k, _, _ => by cases k <;> rfl
  | .str _, n, k, h, _ => by cases n <;> cases k <;> exact h
  | .lst l, n + 1, k + 1, h, e => okL_up (l := l) (n := n) (k := k) h (Nat.le_of_succ_le_succ e)
  | .tup l, n + 1, k + 1, h, e => okL_up (l := l) (n := n) (k := k) h (Nat.le_of_succ_le_succ e)
  | .lst _, 0, _, h, _ => by cases h
  | .tup _, 0, _, h, _ => by cases h
  | .lst _, n + 1, 0, _, e => by omega
  | .tup _, n + 1, 0, _, e => by omega
  | .ins _ _ _, n, _, h, _ => by cases n <;> cases h
  | .dic _ _, n, _, h, _ => by cases n <;> cases h
  | .sc _, n, _, h, _ => by cases n <;> cases h
theorem okL_up : ∀ {l : List D} {n k : Nat}, okL l n = true → n ≤ k → okL l k = true
  | [], _, _, _, _ => rfl
  | d :: r, n, k, h, e => by
    rw [okL, Bool.and_eq_true] at h ⊢
    exact ⟨ok_up h.1 e, okL_up h.2 e⟩
end
instance encI : Enc D.int 0 := ⟨fun _ => rfl, fun x y => by
  show (x == y) = decide (x = y)
  exact Bool.beq_eq_decide_eq x y⟩
instance encB : Enc D.bl 0 := ⟨fun _ => rfl, fun x y => by cases x <;> cases y <;> rfl⟩
instance encT {α : Type} [DecidableEq α] {f : α → D} {n : Nat} [h : Enc f n] : Enc (tT f) (n + 1) := ⟨fun l => okL_map h.ok l, fun l m => eqvAll_map h.eq l m⟩
instance encL {α : Type} [DecidableEq α] {f : α → D} {n : Nat} [h : Enc f n] : Enc (lT f) (n + 1) := ⟨fun l => okL_map h.ok l, fun l m => eqvAll_map h.eq l m⟩
instance encP {α β : Type} [DecidableEq α] [DecidableEq β] {f : α → D} {g : β → D} {n k : Nat} [h : Enc f n] [h2 : Enc g k] : Enc (pT f g) (max n k + 1) := ⟨fun p => by
  show ((f p.1).ok (max n k) && ((g p.2).ok (max n k) && true)) = true
  rw [ok_up (h.ok p.1) (Nat.le_max_left ..), ok_up (h2.ok p.2) (Nat.le_max_right ..)]
  rfl, fun p q => by
  show (PyData.eqv (f p.1).py (f q.1).py && (PyData.eqv (g p.2).py (g q.2).py && true)) = _
  rw [h.eq, h2.eq, Bool.and_true]
  by_cases e : p.1 = q.1
  · by_cases e2 : p.2 = q.2
    · rw [decide_eq_true e, decide_eq_true e2, decide_eq_true (Prod.ext e e2)]; rfl
    · rw [decide_eq_false e2, Bool.and_false, decide_eq_false fun z => e2 (by rw [z])]
  · rw [decide_eq_false e, Bool.false_and, decide_eq_false fun z => e (by rw [z])]⟩

/-! ### what operators give -/
section
variable {K : PySem.W.Frag}
theorem rv_scal {r : R2} {d e f : D} (h : ∀ x y Hb H, Ex Hb H → DR K Hb x d → DR K Hb y e → ∃ z, DR K Hb z f ∧ ∀ Q : VK, Q z H → r x y H Q) : RV2 K r d e f := fun x y Hb H ex h1 h2 Q q => by
  obtain ⟨z, r1, k⟩ := h x y Hb H ex h1 h2
  exact k Q (q z f Hb H rfl (Gr.refl ex) r1)
theorem rv_I0' {g : Int → Int → V} {i j : Int} {f : D} (h : ∀ Hb, DR K Hb (g i j) f) : RV2 K (rI0 g) (.int i) (.int j) f := rv_scal fun x y Hb H ex h1 h2 => by
  cases h1
  cases h2
  exact ⟨g i j, h Hb, fun Q q => ⟨i, j, rfl, rfl, q⟩⟩
theorem rv_I' {C : Int → Int → Prop} {g : Int → Int → V} {i j : Int} {f : D} (h : ∀ Hb, DR K Hb (g i j) f) (c : C i j) : RV2 K (rI C g) (.int i) (.int j) f := rv_scal fun x y Hb H ex h1 h2 => by
  cases h1
  cases h2
  exact ⟨g i j, h Hb, fun Q q => ⟨i, j, rfl, rfl, c, q⟩⟩
variable {i j : Int}
theorem v_add : RV2 K (rI0 fun i j => .int (i + j)) (.int i) (.int j) (.int (i + j)) := rv_I0' fun _ => .int _
theorem v_sub : RV2 K (rI0 fun i j => .int (i - j)) (.int i) (.int j) (.int (i - j)) := rv_I0' fun _ => .int _
theorem v_and : RV2 K (rI0 fun i j => .int (Builtin.bitAnd i j)) (.int i) (.int j) (.int (Builtin.bitAnd i j)) := rv_I0' fun _ => .int _
theorem v_mul (c : CMul i j) : RV2 K (rI CMul fun i j => .int (i * j)) (.int i) (.int j) (.int (i * j)) := rv_I' (fun _ => .int _) c
theorem v_fdiv (c : CDiv i j) : RV2 K (rI CDiv fun i j => .int (i / j)) (.int i) (.int j) (.int (i / j)) := rv_I' (fun _ => .int _) c
theorem v_mod (c : 0 < j) : RV2 K (rI (fun _ j => 0 < j) fun i j => .int (i % j)) (.int i) (.int j) (.int (i % j)) := rv_I' (fun _ => .int _) c
theorem v_pow (c : CPow i j) : RV2 K (rI CPow fun i j => .int (i ^ j.toNat)) (.int i) (.int j) (.int (i ^ j.toNat)) := rv_I' (fun _ => .int _) c
theorem v_shl (c : CPow i j) : RV2 K (rI CPow fun i j => .int (i * 2 ^ j.toNat)) (.int i) (.int j) (.int (i * 2 ^ j.toNat)) := rv_I' (fun _ => .int _) c
theorem v_shr (c : 0 ≤ j) : RV2 K (rI (fun _ j => 0 ≤ j) fun i j => .int (i / 2 ^ j.toNat)) (.int i) (.int j) (.int (i / 2 ^ j.toNat)) := rv_I' (fun _ => .int _) c
theorem v_lt : RV2 K (rI0 fun i j => .bl (decide (i < j))) (.int i) (.int j) (.bl (decide (i < j))) := rv_I0' fun _ => .bl _
theorem v_le : RV2 K (rI0 fun i j => .bl (decide (i ≤ j))) (.int i) (.int j) (.bl (decide (i ≤ j))) := rv_I0' fun _ => .bl _
theorem v_gt : RV2 K (rI0 fun i j => .bl (decide (j < i))) (.int i) (.int j) (.bl (decide (j < i))) := rv_I0' fun _ => .bl _
theorem v_ge : RV2 K (rI0 fun i j => .bl (decide (j ≤ i))) (.int i) (.int j) (.bl (decide (j ≤ i))) := rv_I0' fun _ => .bl _
/-- == of data -/
theorem v_eqD {d e : D} {n k : Nat} (hd : d.ok n = true) (he : e.ok k = true) (hn : n ≤ 64 := by decide) (hk : k ≤ 64 := by decide) : RV2 K (rEqD K) d e (.bl (PyData.eqv d.py e.py)) := rv_scal fun x y Hb H ex h1 h2 =>
  ⟨.bl _, .bl _, fun Q q => ⟨d.py, e.py, (h1.mono ex).dp hd, (h2.mono ex).dp he, ok_shaped hd hn, ok_shaped he hk, q⟩⟩
theorem v_neD {d e : D} {n k : Nat} (hd : d.ok n = true) (he : e.ok k = true) (hn : n ≤ 64 := by decide) (hk : k ≤ 64 := by decide) : RV2 K (rNeD K) d e (.bl (!PyData.eqv d.py e.py)) := rv_scal fun x y Hb H ex h1 h2 =>
  ⟨.bl _, .bl _, fun Q q => ⟨d.py, e.py, (h1.mono ex).dp hd, (h2.mono ex).dp he, ok_shaped hd hn, ok_shaped he hk, q⟩⟩
theorem v_eq {α : Type} [DecidableEq α] {f : α → D} {n : Nat} [h : Enc f n] {x y : α} (hn : n ≤ 64 := by decide) : RV2 K (rEqD K) (f x) (f y) (.bl (decide (x = y))) := by
  rw [← h.eq x y]
  exact v_eqD (h.ok x) (h.ok y) hn hn
theorem v_ne {α : Type} [DecidableEq α] {f : α → D} {n : Nat} [h : Enc f n] {x y : α} (hn : n ≤ 64 := by decide) : RV2 K (rNeD K) (f x) (f y) (.bl (!decide (x = y))) := by
  rw [← h.eq x y]
  exact v_neD (h.ok x) (h.ok y) hn hn
/-- == of scalars -/
def D.scal : D → D → Bool
  | .int _, .int _ => true
  | .str _, .str _ => true
  | .bl _, .bl _ => true
  | _, _ => false
theorem v_eqS {x y : Str} : RV2 K rEq (.str x) (.str y) (.bl (decide (x = y))) := rv_scal fun u w Hb H ex h1 h2 => by
  cases h1
  cases h2
  refine ⟨.bl (decide (V.str x = V.str y)), ?_, fun Q q => ⟨rfl, q⟩⟩
  have e : decide (V.str x = V.str y) = decide (x = y) := by
    by_cases z : x = y
    · rw [decide_eq_true z, decide_eq_true (by rw [z])]
    · rw [decide_eq_false z, decide_eq_false fun q => z (V.str.inj q)]
  rw [e]
  exact .bl _
theorem v_neS {x y : Str} : RV2 K rNe (.str x) (.str y) (.bl (!decide (x = y))) := rv_scal fun u w Hb H ex h1 h2 => by
  cases h1
  cases h2
  refine ⟨.bl (!decide (V.str x = V.str y)), ?_, fun Q q => ⟨rfl, q⟩⟩
  have e : decide (V.str x = V.str y) = decide (x = y) := by
    by_cases z : x = y
    · rw [decide_eq_true z, decide_eq_true (by rw [z])]
    · rw [decide_eq_false z, decide_eq_false fun q => z (V.str.inj q)]
  rw [e]
  exact .bl _
theorem v_eqI : RV2 K rEq (.int i) (.int j) (.bl (decide (i = j))) := rv_scal fun u w Hb H ex h1 h2 => by
  cases h1
  cases h2
  refine ⟨.bl (decide (V.int i = V.int j)), ?_, fun Q q => ⟨rfl, q⟩⟩
  have e : decide (V.int i = V.int j) = decide (i = j) := by
    by_cases z : i = j
    · rw [decide_eq_true z, decide_eq_true (by rw [z])]
    · rw [decide_eq_false z, decide_eq_false fun q => z (V.int.inj q)]
  rw [e]
  exact .bl _
theorem v_neI : RV2 K rNe (.int i) (.int j) (.bl (!decide (i = j))) := rv_scal fun u w Hb H ex h1 h2 => by
  cases h1
  cases h2
  refine ⟨.bl (!decide (V.int i = V.int j)), ?_, fun Q q => ⟨rfl, q⟩⟩
  have e : decide (V.int i = V.int j) = decide (i = j) := by
    by_cases z : i = j
    · rw [decide_eq_true z, decide_eq_true (by rw [z])]
    · rw [decide_eq_false z, decide_eq_false fun q => z (V.int.inj q)]
  rw [e]
  exact .bl _
theorem v_eqB {x y : Bool} : RV2 K rEq (.bl x) (.bl y) (.bl (x == y)) := rv_scal fun u w Hb H ex h1 h2 => by
  cases h1
  cases h2
  refine ⟨.bl (decide (V.bl x = V.bl y)), ?_, fun Q q => ⟨rfl, q⟩⟩
  have e : decide (V.bl x = V.bl y) = (x == y) := by cases x <;> cases y <;> rfl
  rw [e]
  exact .bl _
theorem v_neB {x y : Bool} : RV2 K rNe (.bl x) (.bl y) (.bl (x != y)) := rv_scal fun u w Hb H ex h1 h2 => by
  cases h1
  cases h2
  refine ⟨.bl (!decide (V.bl x = V.bl y)), ?_, fun Q q => ⟨rfl, q⟩⟩
  have e : (!decide (V.bl x = V.bl y)) = (x != y) := by cases x <;> cases y <;> rfl
  rw [e]
  exact .bl _
theorem v_isN {d : D} : RV2 K (fun x y H Q => y = .non ∧ Q (.bl (decide (x = .non))) H) d .non (.bl d.isN) := rv_scal fun x y Hb H ex h1 h2 => by
  cases h2
  refine ⟨.bl (decide (x = .non)), ?_, fun Q q => ⟨rfl, q⟩⟩
  rw [dr_non h1]
  exact .bl _
theorem v_notN {d : D} : RV2 K (fun x y H Q => y = .non ∧ Q (.bl (!decide (x = .non))) H) d .non (.bl (!d.isN)) := rv_scal fun x y Hb H ex h1 h2 => by
  cases h2
  refine ⟨.bl (!decide (x = .non)), ?_, fun Q q => ⟨rfl, q⟩⟩
  rw [dr_non h1]
  exact .bl _
/-! sequences -/
theorem atI_map {α : Type} {f : α → D} {l : List α} {i : Int} {x : α} (h : atI l i = some x) : atI (l.map f) i = some (f x) := by
  unfold atI at h ⊢
  rw [List.length_map]
  cases e : ixN l.length i with
  | none => rw [e] at h; cases h
  | some k =>
    rw [e] at h
    show (l.map f)[k]? = some (f x)
    rw [List.getElem?_map, show l[k]? = some x from h]
    rfl
theorem DRs.atI {Hb : Hp} {vs : List V} {ds : List D} {i : Int} {d : D} (r : DRs K Hb vs ds) (h : L2.atI ds i = some d) : ∃ v, L2.atI vs i = some v ∧ DR K Hb v d := by
  unfold L2.atI at h ⊢
  rw [r.len]
  cases e : ixN ds.length i with
  | none => rw [e] at h; cases h
  | some k =>
    rw [e] at h
    exact r.get (i := k) h
theorem v_ixL {ds : List D} {f : D} (h : atI ds i = some f) : RV2 K (rIxL K) (.lst ds) (.int i) f := rv_scal fun x y Hb H ex h1 h2 => by
  cases h1 with
  | lst ha r =>
    cases h2
    obtain ⟨v, e1, e2⟩ := r.atI h
    exact ⟨v, e2, fun Q q => ⟨_, _, i, v, rfl, rfl, SqL.of (ex _ _ ha), e1, q⟩⟩
theorem v_ixT {ds : List D} {f : D} (h : atI ds i = some f) : RV2 K (rIxT K) (.tup ds) (.int i) f := rv_scal fun x y Hb H ex h1 h2 => by
  cases h1 with
  | tup ha r =>
    cases h2
    obtain ⟨v, e1, e2⟩ := r.atI h
    exact ⟨v, e2, fun Q q => ⟨_, _, i, v, rfl, rfl, ex_t ex ha, e1, q⟩⟩
theorem v_ixLT {α : Type} {f : α → D} {l : List α} {x : α} (h : atI l i = some x) : RV2 K (rIxL K) (lT f l) (.int i) (f x) := v_ixL (atI_map h)
theorem v_ixTT {α : Type} {f : α → D} {l : List α} {x : α} (h : atI l i = some x) : RV2 K (rIxT K) (tT f l) (.int i) (f x) := v_ixT (atI_map h)
theorem v_catL {ds es : List D} (hz : ds.length + es.length ≤ 100000) : RRN K rCat (.lst ds) (.lst es) fun z => z = .ml (ds ++ es) := fun x y Hb H ex h1 h2 Q q => by
  cases h1 with
  | lst ha r1 =>
    cases h2 with
    | lst hb r2 =>
      exact ⟨_, _, _, _, rfl, rfl, ex _ _ ha, ex _ _ hb, sz_of (by rw [r1.len, r2.len]; exact hz), fun p hp => q p _ _ Hb _ rfl hp (New.side ex hp) (fresh_back ex hp) upd_same ⟨_, rfl, r1.app r2⟩⟩
theorem v_catT {ds es : List D} (hz : ds.length + es.length ≤ 100000) : RV2 K (rCatA K) (.tup ds) (.tup es) (.tup (ds ++ es)) := fun x y Hb H ex h1 h2 Q q => by
  cases h1 with
  | @tup a vs _ ha r1 =>
    cases h2 with
    | @tup b ws _ hb r2 =>
      refine ⟨a, b, vs, ws, rfl, rfl, ex_t ex ha, ex_t ex hb, sz_of (by rw [r1.len, r2.len]; exact hz), fun e => ?_, fun _ e => ?_, fun _ _ p hp => ?_⟩
      · subst e
        cases r1
        exact q _ _ Hb H rfl (Gr.refl ex) (.tup hb r2)
      · subst e
        cases r2
        rw [List.append_nil] at q
        exact q _ _ Hb H rfl (Gr.refl ex) (.tup ha r1)
      · exact q _ _ _ _ rfl (New.mk ex hp) (.tup (SqT.of upd_same) ((r1.app r2).mono (Ex.new (fresh_back ex hp))))
theorem any_map {α : Type} [DecidableEq α] {f : α → D} {n : Nat} [h : Enc f n] {x : α} : ∀ l : List α, ((pyL (l.map f)).any fun z => PyData.eqv z (f x).py) = decide (x ∈ l)
  | [] => by
    rw [decide_eq_false (by simp)]
    rfl
  | y :: l => by
    show (PyData.eqv (f y).py (f x).py || (pyL (l.map f)).any fun z => PyData.eqv z (f x).py) = _
    rw [any_map l, h.eq]
    by_cases e : y = x
    · subst e
      rw [decide_eq_true rfl, decide_eq_true (List.mem_cons_self ..)]; rfl
    · by_cases e2 : x ∈ l
      · rw [decide_eq_true e2, Bool.or_true, decide_eq_true (List.mem_cons_of_mem _ e2)]
      · rw [decide_eq_false e, decide_eq_false e2, decide_eq_false fun z => (List.mem_cons.mp z).elim (fun q => e q.symm) e2]; rfl
theorem v_inL {α : Type} [DecidableEq α] {f : α → D} {n : Nat} [h : Enc f n] {x : α} {l : List α} (hn : n ≤ 63 := by decide) : RV2 K (rInD K) (f x) (lT f l) (.bl (decide (x ∈ l))) := by
  rw [← any_map (f := f) l]
  exact rv_scal fun u w Hb H ex h1 h2 => ⟨.bl _, .bl _, fun Q q => ⟨(f x).py, pyL (l.map f), (h1.mono ex).dp (h.ok x), (h2.mono ex).dp (n := n + 1) (okL_map h.ok l), ok_shaped (h.ok x) (by omega), ok_shaped (d := lT f l) (n := n + 1) (okL_map h.ok l) (by omega), q⟩⟩
theorem v_niL {α : Type} [DecidableEq α] {f : α → D} {n : Nat} [h : Enc f n] {x : α} {l : List α} (hn : n ≤ 63 := by decide) : RV2 K (rNotInD K) (f x) (lT f l) (.bl (!decide (x ∈ l))) := by
  rw [← any_map (f := f) l]
  exact rv_scal fun u w Hb H ex h1 h2 => ⟨.bl _, .bl _, fun Q q => ⟨(f x).py, pyL (l.map f), (h1.mono ex).dp (h.ok x), (h2.mono ex).dp (n := n + 1) (okL_map h.ok l), ok_shaped (h.ok x) (by omega), ok_shaped (d := lT f l) (n := n + 1) (okL_map h.ok l) (by omega), q⟩⟩
/-- ints in a tuple (or list) of ints -/
theorem DRs.ints {Hb : Hp} : ∀ {vs : List V} {ns : List Int}, DRs K Hb vs (ns.map D.int) → vs = ns.map V.int
  | _, [], h => by cases h; rfl
  | _, n :: ns, h => by
    cases h with
    | cons a b =>
      cases a
      rw [DRs.ints b]
      rfl
theorem DRs.bools {Hb : Hp} : ∀ {vs : List V} {ns : List Bool}, DRs K Hb vs (ns.map D.bl) → vs = ns.map V.bl
  | _, [], h => by cases h; rfl
  | _, n :: ns, h => by
    cases h with
    | cons a b =>
      cases a
      rw [DRs.bools b]
      rfl
theorem drs_ints {Hb : Hp} : ∀ ns : List Int, DRs K Hb (ns.map V.int) (ns.map D.int)
  | [] => .nil
  | n :: ns => .cons (.int n) (drs_ints ns)
theorem all_flat (ns : List Int) : (ns.map V.int).all flatV = true := List.all_eq_true.mpr fun x hx => by
  obtain ⟨n, _, rfl⟩ := List.mem_map.mp hx
  rfl
theorem inV_int {x : Int} : ∀ ns : List Int, inV (.int x) (ns.map V.int) = decide (x ∈ ns)
  | [] => by
    rw [decide_eq_false (by simp)]
    rfl
  | n :: ns => by
    show ((n == x) || inV (.int x) (ns.map V.int)) = _
    rw [inV_int ns]
    by_cases e : n = x
    · subst e; simp
    · have e' : ¬ x = n := fun z => e z.symm
      simp [e, e']
theorem v_inT {x : Int} {l : List Int} : RV2 K (rIn K false) (.int x) (tT D.int l) (.bl (decide (x ∈ l))) := rv_scal fun u w Hb H ex h1 h2 => by
  cases h1
  cases h2 with
  | @tup a vs _ ha r =>
    have e := r.ints
    subst e
    refine ⟨.bl (inV (.int x) (l.map V.int)), by rw [inV_int]; exact .bl _, fun Q q => ⟨a, _, rfl, .inr (ex_t ex ha), rfl, all_flat l, q⟩⟩
theorem v_niT {x : Int} {l : List Int} : RV2 K (rIn K true) (.int x) (tT D.int l) (.bl (!decide (x ∈ l))) := rv_scal fun u w Hb H ex h1 h2 => by
  cases h1
  cases h2 with
  | @tup a vs _ ha r =>
    have e := r.ints
    subst e
    refine ⟨.bl (!inV (.int x) (l.map V.int)), by rw [inV_int]; exact .bl _, fun Q q => ⟨a, _, rfl, .inr (ex_t ex ha), rfl, all_flat l, q⟩⟩
theorem v_inLI {x : Int} {l : List Int} : RV2 K (rIn K false) (.int x) (lT D.int l) (.bl (decide (x ∈ l))) := rv_scal fun u w Hb H ex h1 h2 => by
  cases h1
  cases h2 with
  | @lst a vs _ ha r =>
    have e := r.ints
    subst e
    refine ⟨.bl (inV (.int x) (l.map V.int)), by rw [inV_int]; exact .bl _, fun Q q => ⟨a, _, rfl, .inl (SqL.of (ex _ _ ha)), rfl, all_flat l, q⟩⟩
theorem v_niLI {x : Int} {l : List Int} : RV2 K (rIn K true) (.int x) (lT D.int l) (.bl (!decide (x ∈ l))) := rv_scal fun u w Hb H ex h1 h2 => by
  cases h1
  cases h2 with
  | @lst a vs _ ha r =>
    have e := r.ints
    subst e
    refine ⟨.bl (!inV (.int x) (l.map V.int)), by rw [inV_int]; exact .bl _, fun Q q => ⟨a, _, rfl, .inl (SqL.of (ex _ _ ha)), rfl, all_flat l, q⟩⟩

/-! ### what built-ins give -/
theorem rl_scal {r : List V → Hp → VK → Prop} {ds : List D} {f : D} (h : ∀ xs Hb H, Ex Hb H → DRs K Hb xs ds → ∃ z, DR K Hb z f ∧ ∀ Q : VK, Q z H → r xs H Q) : RL K r ds fun z => z = f := fun xs Hb H ex h1 Q q => by
  obtain ⟨z, r1, k⟩ := h xs Hb H ex h1
  exact k Q (q z f Hb H rfl (Gr.refl ex) r1)
theorem DRs.one_inv {Hb : Hp} {vs : List V} {d : D} (h : DRs K Hb vs [d]) : ∃ v, vs = [v] ∧ DR K Hb v d := by
  cases h with
  | cons a b => cases b; exact ⟨_, rfl, a⟩
theorem DRs.two_inv {Hb : Hp} {vs : List V} {d e : D} (h : DRs K Hb vs [d, e]) : ∃ v w, vs = [v, w] ∧ DR K Hb v d ∧ DR K Hb w e := by
  cases h with
  | cons a b =>
    cases b with
    | cons b c => cases c; exact ⟨_, _, rfl, a, b⟩
theorem l_len {d : D} {n : Nat} (h : d = .lst l ∧ l.length = n ∨ d = .tup l ∧ l.length = n) : RL K (fun xs H Q => ∃ p ys, xs = [.ref p] ∧ (SqL K H p ys ∨ SqT K H p ys) ∧ Q (.int ys.length) H) [d] fun z => z = .int n := rl_scal fun xs Hb H ex h1 => by
  obtain ⟨v, rfl, r⟩ := h1.one_inv
  rcases h with ⟨rfl, rfl⟩ | ⟨rfl, rfl⟩
  · cases r with
    | lst ha q => exact ⟨_, by rw [← q.len]; exact .int _, fun Q k => ⟨_, _, rfl, .inl (SqL.of (ex _ _ ha)), k⟩⟩
  · cases r with
    | tup ha q => exact ⟨_, by rw [← q.len]; exact .int _, fun Q k => ⟨_, _, rfl, .inr (ex_t ex ha), k⟩⟩
theorem l_lenL {l : List D} : RL K (fun xs H Q => ∃ p ys, xs = [.ref p] ∧ (SqL K H p ys ∨ SqT K H p ys) ∧ Q (.int ys.length) H) [.lst l] fun z => z = .int l.length := l_len (.inl ⟨rfl, rfl⟩)
theorem l_lenT {l : List D} : RL K (fun xs H Q => ∃ p ys, xs = [.ref p] ∧ (SqL K H p ys ∨ SqT K H p ys) ∧ Q (.int ys.length) H) [.tup l] fun z => z = .int l.length := l_len (.inr ⟨rfl, rfl⟩)
theorem l_tupleL {l : List D} : RL K (fun xs H Q => ∃ p ys, xs = [.ref p] ∧ ((SqL K H p ys ∧ ∀ l, H l = none → Q (.ref l) (upd H l (.tup ys))) ∨ (SqT K H p ys ∧ Q (.ref p) H))) [.lst l] fun z => z = .tup l := fun xs Hb H ex h1 Q q => by
  obtain ⟨v, rfl, r⟩ := h1.one_inv
  cases r with
  | lst ha k => exact ⟨_, _, rfl, .inl ⟨SqL.of (ex _ _ ha), fun p hp => q _ _ _ _ rfl (New.mk ex hp) (.tup (SqT.of upd_same) (k.mono (Ex.new (fresh_back ex hp))))⟩⟩
theorem l_tupleT {l : List D} : RL K (fun xs H Q => ∃ p ys, xs = [.ref p] ∧ ((SqL K H p ys ∧ ∀ l, H l = none → Q (.ref l) (upd H l (.tup ys))) ∨ (SqT K H p ys ∧ Q (.ref p) H))) [.tup l] fun z => z = .tup l := fun xs Hb H ex h1 Q q => by
  obtain ⟨v, rfl, r⟩ := h1.one_inv
  cases r with
  | tup ha k => exact ⟨_, _, rfl, .inr ⟨ex_t ex ha, q _ _ Hb H rfl (Gr.refl ex) (.tup ha k)⟩⟩
theorem l_listL {l : List D} : RLN K (fun xs H Q => ∃ p ys, xs = [.ref p] ∧ (SqL K H p ys ∨ SqT K H p ys) ∧ ∀ l, H l = none → Q (.ref l) (upd H l (.lst ys))) [.lst l] fun z => z = .ml l := fun xs Hb H ex h1 Q q => by
  obtain ⟨v, rfl, r⟩ := h1.one_inv
  cases r with
  | lst ha k => exact ⟨_, _, rfl, .inl (SqL.of (ex _ _ ha)), fun p hp => q p _ _ Hb _ rfl hp (New.side ex hp) (fresh_back ex hp) upd_same ⟨_, rfl, k⟩⟩
theorem l_listT {l : List D} : RLN K (fun xs H Q => ∃ p ys, xs = [.ref p] ∧ (SqL K H p ys ∨ SqT K H p ys) ∧ ∀ l, H l = none → Q (.ref l) (upd H l (.lst ys))) [.tup l] fun z => z = .ml l := fun xs Hb H ex h1 Q q => by
  obtain ⟨v, rfl, r⟩ := h1.one_inv
  cases r with
  | tup ha k => exact ⟨_, _, rfl, .inr (ex_t ex ha), fun p hp => q p _ _ Hb _ rfl hp (New.side ex hp) (fresh_back ex hp) upd_same ⟨_, rfl, k⟩⟩
theorem l_all {bs : List Bool} : RL K (rAll K) [lT D.bl bs] fun z => z = .bl (bs.all id) := rl_scal fun xs Hb H ex h1 => by
  obtain ⟨v, rfl, r⟩ := h1.one_inv
  cases r with
  | @lst a vs _ ha k =>
    have e := k.bools
    subst e
    exact ⟨.bl _, .bl _, fun Q q => ⟨a, bs, rfl, SqL.of (ex _ _ ha), q⟩⟩
theorem l_any {bs : List Bool} : RL K (rAny K) [lT D.bl bs] fun z => z = .bl (bs.any id) := rl_scal fun xs Hb H ex h1 => by
  obtain ⟨v, rfl, r⟩ := h1.one_inv
  cases r with
  | @lst a vs _ ha k =>
    have e := k.bools
    subst e
    exact ⟨.bl _, .bl _, fun Q q => ⟨a, bs, rfl, SqL.of (ex _ _ ha), q⟩⟩
theorem l_abs {i : Int} : RL K (fun xs H Q => ∃ i, xs = [.int i] ∧ Q (.int (if i < 0 then -i else i)) H) [.int i] fun z => z = .int (if i < 0 then -i else i) := rl_scal fun xs Hb H ex h1 => by
  obtain ⟨v, rfl, r⟩ := h1.one_inv
  cases r
  exact ⟨.int _, .int _, fun Q q => ⟨i, rfl, q⟩⟩
theorem l_int {i : Int} : RL K (fun xs H Q => (∃ i, xs = [.int i] ∧ Q (.int i) H) ∨ ∃ k, xs = [.bl k] ∧ Q (.int (if k then 1 else 0)) H) [.int i] fun z => z = .int i := rl_scal fun xs Hb H ex h1 => by
  obtain ⟨v, rfl, r⟩ := h1.one_inv
  cases r
  exact ⟨.int _, .int _, fun Q q => .inl ⟨i, rfl, q⟩⟩
theorem l_intB {k : Bool} : RL K (fun xs H Q => (∃ i, xs = [.int i] ∧ Q (.int i) H) ∨ ∃ k, xs = [.bl k] ∧ Q (.int (if k then 1 else 0)) H) [.bl k] fun z => z = .int (if k then 1 else 0) := rl_scal fun xs Hb H ex h1 => by
  obtain ⟨v, rfl, r⟩ := h1.one_inv
  cases r
  exact ⟨.int _, .int _, fun Q q => .inr ⟨k, rfl, q⟩⟩
theorem l_min {ns : List Int} (h0 : 0 < ns.length) : RL K (rMin K) [lT D.int ns] fun z => ∃ m, z = .int m ∧ m ∈ ns ∧ ∀ y ∈ ns, m ≤ y := fun xs Hb H ex h1 Q q => by
  obtain ⟨v, rfl, r⟩ := h1.one_inv
  cases r with
  | @lst a vs _ ha k =>
    have e := k.ints
    subst e
    exact ⟨a, ns, rfl, SqL.of (ex _ _ ha), h0, fun m h2 h3 => q _ _ Hb H ⟨m, rfl, h2, h3⟩ (Gr.refl ex) (.int m)⟩
theorem l_max {ns : List Int} (h0 : 0 < ns.length) : RL K (rMax K) [lT D.int ns] fun z => ∃ m, z = .int m ∧ m ∈ ns ∧ ∀ y ∈ ns, y ≤ m := fun xs Hb H ex h1 Q q => by
  obtain ⟨v, rfl, r⟩ := h1.one_inv
  cases r with
  | @lst a vs _ ha k =>
    have e := k.ints
    subst e
    exact ⟨a, ns, rfl, SqL.of (ex _ _ ha), h0, fun m h2 h3 => q _ _ Hb H ⟨m, rfl, h2, h3⟩ (Gr.refl ex) (.int m)⟩
end
end DL

namespace DL
open PySem PySem.Spec PyProof.Rows L2 Evl

/-! ### several slots at once -/
def setL (σ : L2.St) : List Nat → List V → L2.St
  | j :: js, v :: vs => setL (σ.set j (some v)) js vs
  | _, _ => σ
def setG (Γ : List Sl) : List Nat → List D → List Sl
  | j :: js, d :: ds => setG (Γ.set j (.pd d)) js ds
  | _, _ => Γ
def wipeG (Γ : List Sl) : List Nat → List Sl
  | [] => Γ
  | v :: vs => (wipeG Γ vs).set v .un
section
variable {K : PySem.W.Frag} {Hb H Hb' H' : Hp} {σ : L2.St} {Γ : List Sl}
theorem En.setL : ∀ {js : List Nat} {vs : List V} {ds : List D} {σ : L2.St} {Γ : List Sl}, En K Hb H σ Γ → DRs K Hb vs ds → En K Hb H (DL.setL σ js vs) (setG Γ js ds)
  | [], _, _, _, _, E, _ => E
  | j :: js, _, _, _, _, E, .nil => E
  | j :: js, _, _, _, _, E, .cons h t => by
    have z := En.setL (js := js) (E.set h j) t
    exact z
theorem En.wipe (E : En K Hb H σ Γ) : ∀ vs : List Nat, En K Hb H (L2.wipe σ vs) (wipeG Γ vs)
  | [] => E
  | v :: vs => (En.wipe E vs).un v none
theorem Own.set {v : V} {d : D} {i : Nat} {a : Addr} (h : Own (σ.set i (some v)) (Γ.set i (.pd d)) a) : Own σ Γ a := by
  obtain ⟨j, m, h1, h2⟩ := h
  rcases set_at h1 with ⟨rfl, z2, z3⟩ | ⟨z1, z2⟩
  · cases z2
  · rw [List.getElem?_set_ne z1] at h2
    exact ⟨j, m, z2, h2⟩
theorem Own.unset {o : Option V} {i : Nat} {a : Addr} (h : Own (σ.set i o) (Γ.set i .un) a) : Own σ Γ a := by
  obtain ⟨j, m, h1, h2⟩ := h
  rcases set_at h1 with ⟨rfl, z2, z3⟩ | ⟨z1, z2⟩
  · cases z2
  · rw [List.getElem?_set_ne z1] at h2
    exact ⟨j, m, z2, h2⟩
theorem Own.setL : ∀ {js : List Nat} {vs : List V} {ds : List D} {σ : L2.St} {Γ : List Sl} {a : Addr}, vs.length = ds.length → Own (DL.setL σ js vs) (setG Γ js ds) a → Own σ Γ a
  | [], _, _, _, _, _, _, h => h
  | j :: js, [], [], _, _, _, _, h => h
  | j :: js, v :: vs, d :: ds, _, _, _, e, h => Own.set (Own.setL (Nat.succ.inj e) h)
theorem Own.wipe {a : Addr} : ∀ {vs : List Nat}, Own (L2.wipe σ vs) (wipeG Γ vs) a → Own σ Γ a
  | [], h => h
  | v :: vs, h => Own.wipe (Own.unset h)
theorem wipe_get : ∀ (vs : List Nat) (i : Nat), (L2.wipe σ vs)[i]? = if i ∈ vs ∧ i < σ.length then some none else σ[i]?
  | [], i => by rw [if_neg (by simp)]; rfl
  | v :: vs, i => by
    show ((L2.wipe σ vs).set v none)[i]? = _
    by_cases e : v = i
    · subst e
      by_cases h : v < σ.length
      · rw [List.getElem?_set_self (by rw [wipe_length]; exact h), if_pos ⟨List.mem_cons_self .., h⟩]
      · rw [if_neg fun z => h z.2, List.getElem?_eq_none (by rw [List.length_set, wipe_length]; omega), List.getElem?_eq_none (by omega)]
    · rw [List.getElem?_set_ne e, wipe_get vs i]
      have e' : ¬ i = v := fun z => e z.symm
      simp [e']
theorem wipe_set {vs : List Nat} {j : Nat} {x : Option V} (h : j ∈ vs) : L2.wipe (σ.set j x) vs = L2.wipe σ vs := by
  apply List.ext_getElem?
  intro i
  rw [wipe_get, wipe_get, List.length_set]
  by_cases z : i ∈ vs ∧ i < σ.length
  · rw [if_pos z, if_pos z]
  · rw [if_neg z, if_neg z]
    by_cases e : j = i
    · subst e
      have : ¬ j < σ.length := fun q => z ⟨h, q⟩
      rw [List.getElem?_eq_none (by rw [List.length_set]; omega), List.getElem?_eq_none (by omega)]
    · rw [List.getElem?_set_ne e]
theorem wipe_wipe {vs : List Nat} : L2.wipe (L2.wipe σ vs) vs = L2.wipe σ vs := by
  apply List.ext_getElem?
  intro i
  rw [wipe_get, wipe_length]
  by_cases z : i ∈ vs ∧ i < σ.length
  · rw [if_pos z, wipe_get, if_pos z]
  · rw [if_neg z]
theorem wipe_setL {vs : List Nat} : ∀ {js : List Nat} {ws : List V} {σ : L2.St}, (∀ j ∈ js, j ∈ vs) → L2.wipe (DL.setL σ js ws) vs = L2.wipe σ vs
  | [], _, _, _ => rfl
  | j :: js, [], _, _ => rfl
  | j :: js, w :: ws, _, h => (wipe_setL (js := js) fun i hi => h i (List.mem_cons_of_mem _ hi)).trans (wipe_set (h j (List.mem_cons_self ..)))
/-- nothing is known of the slots vs -/
theorem wipeG_un : ∀ {vs : List Nat} {i : Nat} {s : Sl}, i ∈ vs → (wipeG Γ vs)[i]? = some s → s = .un
  | v :: vs, i, s, hi, h => by
    rcases set_at (l := wipeG Γ vs) h with ⟨rfl, z2, z3⟩ | ⟨z1, z2⟩
    · exact z2.symm
    · exact wipeG_un ((List.mem_cons.mp hi).elim (fun q => absurd q.symm z1) id) z2
theorem setL_ne : ∀ {js : List Nat} {ws : List V} {σ : L2.St} {i : Nat}, i ∉ js → (DL.setL σ js ws)[i]? = σ[i]?
  | [], _, _, _, _ => rfl
  | j :: js, [], _, _, _ => rfl
  | j :: js, w :: ws, σ, i, h => (setL_ne (js := js) fun z => h (List.mem_cons_of_mem _ z)).trans (List.getElem?_set_ne fun z => h (by rw [z]; exact List.mem_cons_self ..))
theorem setG_ne : ∀ {js : List Nat} {ws : List D} {Γ : List Sl} {i : Nat}, i ∉ js → (setG Γ js ws)[i]? = Γ[i]?
  | [], _, _, _, _ => rfl
  | j :: js, [], _, _, _ => rfl
  | j :: js, w :: ws, σ, i, h => (setG_ne (js := js) fun z => h (List.mem_cons_of_mem _ z)).trans (List.getElem?_set_ne fun z => h (by rw [z]; exact List.mem_cons_self ..))
/-- behind a turn of a block: the def's own slots -/
theorem En.back {σ' : L2.St} {Γ' : List Sl} {W : Addr → Prop} (E : En K Hb H σ Γ) (g : Gr W Hb H Hb' H') (E' : En K Hb' H' σ' Γ') (k : ∀ (i : Nat) (m : MO), Γ[i]? = some (.ow m) → Γ'[i]? = some (.ow m) ∧ σ'[i]? = σ[i]?) : En K Hb' H' σ Γ where
  ex := E'.ex
  val := fun i d h => by obtain ⟨v, h1, h2⟩ := E.val i d h; exact ⟨v, h1, h2.mono g.b⟩
  own := fun i m h => by
    obtain ⟨a, u, h1, h2, h3, h4⟩ := E'.own i m (k i m h).1
    rw [(k i m h).2] at h1
    exact ⟨a, u, h1, h2, h3, h4⟩
  sep := E.sep
  len := E.len
theorem En.side (E : En K Hb H σ Γ) {p : Addr} {o : HO} (h : Hb p = none) (n : ¬ Own σ Γ p) : En K Hb (upd H p o) σ Γ where
  ex := fun a u e => by rw [upd_ne (ne_of_none e h)]; exact E.ex a u e
  val := E.val
  own := fun i m k => by
    obtain ⟨a, u, h1, h2, h3, h4⟩ := E.own i m k
    refine ⟨a, u, h1, h2, ?_, h4⟩
    rw [upd_ne fun z => n (by subst z; exact ⟨i, m, k, h1⟩)]
    exact h3
  sep := E.sep
  len := E.len
theorem En.own_some (E : En K Hb H σ Γ) {a : Addr} (h : Own σ Γ a) : H a ≠ none ∧ Hb a = none := by
  obtain ⟨i, m, h1, h2⟩ := h
  obtain ⟨b, u, k1, k2, k3, k4⟩ := E.own i m h1
  rw [h2] at k1
  cases k1
  exact ⟨by rw [k3]; simp, k2⟩
end

/-! ### targets -/
def XGt (K : PySem.W.Frag) (g : TG) (d : D) (js : List Nat) (es : List D) : Prop := ∀ (v : V) (Hb H : Hp) (σ : L2.St) (Q : L2.St → Hp → Prop), Ex Hb H → DR K Hb v d → (∀ vs, DRs K Hb vs es → Q (setL σ js vs) H) → g v σ H Q
section
variable {K : PySem.W.Frag}
theorem gt_name {j : Nat} {d : D} : XGt K (gName j) d [j] [d] := fun v Hb H σ Q _ r q => q [v] (.cons r .nil)
theorem gt_pair {i j : Nat} {d e : D} : XGt K (gTup K 2 (gCons (gName i) (gCons (gName j) gNil))) (.tup [d, e]) [i, j] [d, e] := fun v Hb H σ Q ex r q => by
  cases r with
  | @tup a vs _ h k =>
    obtain ⟨x, y, rfl, r1, r2⟩ := k.two_inv
    exact ⟨a, [x, y], rfl, ex_t ex h, rfl, x, [y], rfl, y, [], rfl, rfl, q [x, y] (.cons r1 (.cons r2 .nil))⟩
end

/-! ### what is walked -/
section
variable {X : Cx} {m : Bool} {e a b c tg : Expr} {es : List Expr} {Γ : List Sl} {pos p : Pos}
theorem itd_list {K : PySem.W.Frag} {Hb : Hp} {l : Addr} {vs : List V} {ds : List D} (h : SqL K Hb l vs) (r : DRs K Hb vs ds) : ItD K (Itl K l) Hb ds := fun Hb1 H1 e1 e2 i => by
  have h1 : SqL K H1 l vs := ex_l (e1.trans e2) h
  refine ⟨fun hi => ?_, fun hi => ⟨vs, h1, by rw [r.len]; exact hi⟩⟩
  obtain ⟨v, k1, k2⟩ := r.get (List.getElem?_eq_getElem hi)
  refine ⟨⟨vs, v, h1, k1⟩, fun x H2 y => ?_⟩
  obtain ⟨rfl, y⟩ := y
  have k3 := y vs h1
  rw [k1] at k3
  cases k3
  exact ⟨_, Hb1, List.getElem?_eq_getElem hi, Gr.refl e2, k2.mono e1⟩
theorem itd_tup {K : PySem.W.Frag} {Hb : Hp} {l : Addr} {vs : List V} {ds : List D} (h : SqT K Hb l vs) (r : DRs K Hb vs ds) : ItD K (Itt K l) Hb ds := fun Hb1 H1 e1 e2 i => by
  have h1 : SqT K H1 l vs := ex_t (e1.trans e2) h
  refine ⟨fun hi => ?_, fun hi => ⟨vs, h1, by rw [r.len]; exact hi⟩⟩
  obtain ⟨v, k1, k2⟩ := r.get (List.getElem?_eq_getElem hi)
  refine ⟨⟨vs, v, h1, k1⟩, fun x H2 y => ?_⟩
  obtain ⟨rfl, y⟩ := y
  have k3 := y vs h1
  rw [k1] at k3
  cases k3
  exact ⟨_, Hb1, List.getElem?_eq_getElem hi, Gr.refl e2, k2.mono e1⟩
theorem xi_list {Φ : List D → Prop} (h : XE X m e Γ fun z => ∃ ds, z = .lst ds ∧ Φ ds) : XI X m tg e Γ Φ := xi_of (pi_list pe_wp) fun σ Hb H E R q => h σ Hb H E _ fun v d Hb1 H1 p1 g1 E1 r1 => by
  obtain ⟨ds, rfl, f⟩ := p1
  cases r1 with
  | lst ha r => exact ⟨_, rfl, ⟨_, SqL.of (E1.ex _ _ ha)⟩, q _ ds Hb1 H1 f g1 E1 (itd_list (SqL.of ha) r)⟩
theorem xi_tup {Φ : List D → Prop} (h : XE X m e Γ fun z => ∃ ds, z = .tup ds ∧ Φ ds) : XI X m tg e Γ Φ := xi_of (pi_tup pe_wp) fun σ Hb H E R q => h σ Hb H E _ fun v d Hb1 H1 p1 g1 E1 r1 => by
  obtain ⟨ds, rfl, f⟩ := p1
  cases r1 with
  | tup ha r => exact ⟨_, rfl, ⟨_, ex_t E1.ex ha⟩, q _ ds Hb1 H1 f g1 E1 (itd_tup ha r)⟩
theorem xw_list {ds : List D} (h : XV X e Γ (.lst ds)) : XW X tg e Γ ds := xi_list (h.imp fun _ z => ⟨ds, z, rfl⟩)
theorem xw_tup {ds : List D} (h : XV X e Γ (.tup ds)) : XW X tg e Γ ds := xi_tup (h.imp fun _ z => ⟨ds, z, rfl⟩)
/-- lo, lo + 1, .. below hi -/
def rng (lo hi : Int) : List Int := (List.range (hi - lo).toNat).map fun (k : Nat) => lo + (k : Int)
theorem mem_rng {lo hi x : Int} : x ∈ rng lo hi ↔ lo ≤ x ∧ x < hi := by
  unfold rng
  rw [List.mem_map]
  constructor
  · rintro ⟨k, h, rfl⟩
    have := List.mem_range.mp h
    omega
  · intro h
    exact ⟨(x - lo).toNat, List.mem_range.mpr (by omega), by omega⟩
theorem rng_len {lo hi : Int} : (rng lo hi).length = (hi - lo).toNat := by
  unfold rng
  rw [List.length_map, List.length_range]
theorem rng_get {lo hi : Int} {i : Nat} (h : i < (hi - lo).toNat) : (rng lo hi)[i]? = some (lo + (i : Int)) := by
  unfold rng
  rw [List.getElem?_map, List.getElem?_range h]
  rfl
theorem itd_rng {K : PySem.W.Frag} {Hb : Hp} {lo hi : Int} : ItD K (Itr lo (hi - lo).toNat) Hb ((rng lo hi).map D.int) := fun Hb1 H1 e1 e2 i => by
  rw [List.length_map, rng_len]
  refine ⟨fun hi' => ⟨hi', fun x H2 y => ?_⟩, fun hi' => hi'⟩
  obtain ⟨rfl, rfl⟩ := y
  exact ⟨.int (lo + (i : Int)), Hb1, by rw [List.getElem?_map, rng_get hi']; rfl, Gr.refl e2, .int _⟩
theorem xw_range1 {n : Int} (h : XL X [e] Γ [.int n]) (hn : n ≤ 100000) (hm : X.mg "range" = none) (hn0 : -100000 ≤ n) (hg : Gl X "range" := by rfl) (hs : starEach [e] X.env = [(false, eval e X.env)] := by rfl) : XW X tg (.Call (.Name "range" p) [e] [] pos) Γ ((rng 0 n).map D.int) := xi_of (pi_range1 hg hm pa_wp hs) fun σ Hb H E R q => h σ Hb H E _ fun vs ds Hb1 H1 p1 g1 E1 r1 => by
  subst p1
  obtain ⟨v, rfl, r⟩ := r1.one_inv
  cases r
  refine ⟨n, rfl, by omega, by omega, ?_⟩
  have z := q (Itr 0 (n - 0).toNat) _ Hb1 H1 rfl g1 E1 itd_rng
  rw [Int.sub_zero] at z
  exact z
theorem xw_range2 {lo n : Int} (h : XL X [a, b] Γ [.int lo, .int n]) (hn : n ≤ 100000) (hl : -100000 ≤ lo ∧ lo ≤ 100000) (hm : X.mg "range" = none) (hn0 : -100000 ≤ n) (hg : Gl X "range" := by rfl) (hs : starEach [a, b] X.env = [(false, eval a X.env), (false, eval b X.env)] := by rfl) (hs2 : starEach [b] X.env = [(false, eval b X.env)] := by rfl) : XW X tg (.Call (.Name "range" p) [a, b] [] pos) Γ ((rng lo n).map D.int) := xi_of (pi_range2 hg hm pa_wp hs hs2) fun σ Hb H E R q => h σ Hb H E _ fun vs ds Hb1 H1 p1 g1 E1 r1 => by
  subst p1
  obtain ⟨v, w, rfl, r, r'⟩ := r1.two_inv
  cases r
  cases r'
  exact ⟨lo, n, rfl, ⟨by omega, by omega, by omega, by omega⟩, q _ _ Hb1 H1 rfl g1 E1 itd_rng⟩
end

/-! ### comprehensions -/
section
variable {K : PySem.W.Frag} {m : Bool} {Γ : List Sl} {wi : TI} {g : TG} {tt : TT} {te : TE}
theorem jn_lc {vs js : List Nat} {Φ : List D → Prop} (es : List D → Nat → List D) (P : List D → Nat → List D → Prop) (hw : wipeG Γ vs = Γ) (hi : JI K m wi Γ Φ) (hv : ∀ j ∈ js, j ∈ vs) (hl : ∀ ds, Φ ds → ds.length ≤ 100000) (h0 : ∀ ds, Φ ds → P ds 0 [])
    (hg : ∀ ds, Φ ds → ∀ (i : Nat) d, ds[i]? = some d → XGt K g d js (es ds i))
    (hs : ∀ ds, Φ ds → ∀ (i : Nat) d acc, ds[i]? = some d → P ds i acc → JT K m tt (setG Γ js (es ds i)) fun b => (b = true → JR K m te (setG Γ js (es ds i)) fun e => P ds (i + 1) (acc ++ [e])) ∧ (b = false → P ds (i + 1) acc)) :
    JN K m (tLc wi g tt te vs) Γ fun o => ∃ ds acc, Φ ds ∧ o = .ml acc ∧ P ds ds.length acc := fun σ Hb H E Q q => by
  refine hi σ Hb H E _ fun J ds Hb1 H1 p1 g1 E1 it => fun Dl nD => ?_
  have nb : Hb1 Dl = none := fresh_back E1.ex nD
  have noD : ¬ Own σ Γ Dl := fun z => (E1.own_some z).1 nD
  have hlen := hl ds p1
  let St : Nat → Hp → Prop := fun i H2 => ∃ Hb2 ws acc, Gr (fun a => WW m σ Γ a ∨ a = Dl) Hb1 (upd H1 Dl (.lst [])) Hb2 H2 ∧ En K Hb2 H2 σ Γ ∧ Hb2 Dl = none ∧ H2 Dl = some (.lst ws) ∧ DRs K Hb2 ws acc ∧ acc.length ≤ i ∧ P ds i acc
  refine ⟨fun i mm H2 => mm = ds.length - i ∧ i ≤ ds.length ∧ St i H2, ⟨ds.length, by simp, Nat.zero_le _, Hb1, [], [], Gr.refl (New.side E1.ex nD).s, E1.new (New.side E1.ex nD), nb, upd_same, .nil, Nat.le_refl _, h0 ds p1⟩, ?_⟩
  rintro i mm H2 ⟨rfl, hi', Hb2, ws, acc, g2, E2, n2, h2, r2, la, pp⟩
  by_cases hlt : i < ds.length
  · obtain ⟨go, yl⟩ := (it Hb2 H2 g2.b E2.ex i).1 hlt
    refine .inr ⟨go, St (i + 1), fun H' hN => ⟨ds.length - (i + 1), by omega, rfl, hlt, hN⟩, fun x H3 y => ?_⟩
    obtain ⟨d, Hb3, e, g3, rx⟩ := yl x H3 y
    have E3 := E2.new g3
    have n3 : Hb3 Dl = none := (g3.f Dl (by rw [h2]; simp) fun z => z).trans n2
    have h3 := g3.ex Dl _ h2
    refine hg ds p1 i d e x Hb3 H3 (wipe σ vs) _ E3.ex rx fun vals rv => ⟨(wipe_setL hv).trans wipe_wipe, ?_⟩
    have E4 : En K Hb3 H3 (DL.setL (wipe σ vs) js vals) (setG Γ js (es ds i)) := by
      have z := (E3.wipe vs).setL (js := js) rv
      rw [hw] at z
      exact z
    have ow : ∀ a, Own (DL.setL (wipe σ vs) js vals) (setG Γ js (es ds i)) a → Own σ Γ a := fun a z => by
      have z2 := Own.setL rv.len z
      rw [← hw] at z2
      exact Own.wipe z2
    have kk : ∀ (k : Nat) (m : MO), Γ[k]? = some (.ow m) → (setG Γ js (es ds i))[k]? = some (.ow m) ∧ (DL.setL (wipe σ vs) js vals)[k]? = σ[k]? := fun k m z => by
      have ni : k ∉ vs := fun y => by
        rw [← hw] at z
        cases wipeG_un y z
      have nj : k ∉ js := fun y => ni (hv k y)
      refine ⟨(setG_ne nj).trans z, (setL_ne nj).trans ?_⟩
      rw [wipe_get, if_neg fun y => ni y.1]
    have noW : ¬ WW m (DL.setL (wipe σ vs) js vals) (setG Γ js (es ds i)) Dl := fun z => noD (ow _ z.2)
    refine hs ds p1 i d acc e pp _ Hb3 H3 E4 _ fun b Hb5 H5 fb g5 E5 => ?_
    have h5 := g5.h Dl _ h3 noW
    have n5 : Hb5 Dl = none := (g5.f Dl (by rw [h3]; simp) noW).trans n3
    have G5 : Gr (fun a => WW m σ Γ a ∨ a = Dl) Hb1 (upd H1 Dl (.lst [])) Hb5 H5 := (g2.trans g3 fun _ z => z.elim).trans g5 fun a z => .inl (.inl ⟨z.1, ow a z.2⟩)
    cases b with
    | true =>
      refine iteT ((fb.1 rfl) _ Hb5 H5 E5 _ fun y e5 Hb6 H6 f6 g6 E6 r6 => ?_)
      have h6 := g6.h Dl _ h5 noW
      have n6 : Hb6 Dl = none := (g6.f Dl (by rw [h5]; simp) noW).trans n5
      have G6 := G5.trans g6 fun a z => .inl (.inl ⟨z.1, ow a z.2⟩)
      have E7 : En K Hb6 H6 σ Γ := E3.back (g5.trans g6 fun _ z => .inl z) E6 kk
      refine ⟨ws, h6, sz_lt (by rw [r2.len]; omega), Hb6, ws ++ [y], acc ++ [e5], G6.trans (Gr.put (W := fun a => a = Dl) E7.ex n6 (by rw [h6]; simp) rfl) (fun a z => .inl (.inr z)), E7.side n6 noD, n6, upd_same, (r2.mono (g3.b.trans (g5.b.trans g6.b))).app (.one r6), ?_, f6⟩
      rw [List.length_append]
      show acc.length + 1 ≤ i + 1
      omega
    | false =>
      exact iteF ⟨Hb5, ws, acc, G5, E3.back g5 E5 kk, n5, h5, r2.mono (g3.b.trans g5.b), by omega, fb.2 rfl⟩
  · have e : i = ds.length := by omega
    refine .inl ⟨(it Hb2 H2 g2.b E2.ex i).2 (by omega), q Dl (.lst ws) (.ml acc) Hb2 H2 ⟨ds, acc, p1, rfl, by rw [← e]; exact pp⟩ (new_none g1 nD) ?_ E2 n2 h2 ⟨ws, rfl, r2⟩⟩
    refine g1.trans ((New.side (o := .lst []) E1.ex nD).gr (W := WW m σ Γ) |>.trans g2 fun a z => ?_) fun a z => .inl z
    rcases z with z | z
    · exact .inl z
    · subst z
      exact .inr nD
end
section
variable {X : Cx} {m : Bool} {elt tg iter c : Expr} {ifs : List Expr} {scope : Scope} {Γ : List Sl} {pos : Pos} {own : List (Str × Nat)} {g : TG}
abbrev Bk (X : Cx) (scope : Scope) (f : Cx → Prop) : Prop := ∀ (s : Shared) (H : Hp) (C : Addr) (cl : List (Str × Addr)) (fp : List Addr), f (X.blk s H scope (compEnvC scope cl C X.env) fp)
abbrev wbE (X : Cx) (scope : Scope) (e : Expr) : TE := fun σ H Q => ∀ (s : Shared) (H0 : Hp) (C : Addr) (cl : List (Str × Addr)) (fp : List Addr), wpE (X.blk s H0 scope (compEnvC scope cl C X.env) fp) e σ H Q
abbrev wbT (X : Cx) (scope : Scope) (e : Expr) : TT := fun σ H Q => ∀ (s : Shared) (H0 : Hp) (C : Addr) (cl : List (Str × Addr)) (fp : List Addr), wpT (X.blk s H0 scope (compEnvC scope cl C X.env) fp) e σ H Q
abbrev wbI (X : Cx) (scope : Scope) (tg e : Expr) : TI := fun σ H Q => ∀ (s : Shared) (H0 : Hp) (C : Addr) (cl : List (Str × Addr)) (fp : List Addr), wpI (X.blk s H0 scope (compEnvC scope cl C X.env) fp) tg e σ H Q
theorem pe_wb {e : Expr} (s : Shared) (H0 : Hp) (C : Addr) (cl : List (Str × Addr)) (fp : List Addr) : PE (X.blk s H0 scope (compEnvC scope cl C X.env) fp) e (wbE X scope e) := ⟨fun pins s' σ H Q I h => h s H0 C cl fp pins s' I⟩
theorem pt_wb {e : Expr} (s : Shared) (H0 : Hp) (C : Addr) (cl : List (Str × Addr)) (fp : List Addr) : PT (X.blk s H0 scope (compEnvC scope cl C X.env) fp) e (wbT X scope e) := ⟨fun pins s' σ H Q I h => h s H0 C cl fp pins s' I⟩
theorem pi_wb {tg e : Expr} (s : Shared) (H0 : Hp) (C : Addr) (cl : List (Str × Addr)) (fp : List Addr) : PI (X.blk s H0 scope (compEnvC scope cl C X.env) fp) tg e (wbI X scope tg e) := ⟨fun pins s' σ H Q I h => h s H0 C cl fp pins s' I⟩
theorem jr_wb {e : Expr} {Γ : List Sl} {Φ : D → Prop} (h : Bk X scope fun Y => XE Y m e Γ Φ) : JR X.K m (wbE X scope e) Γ Φ := fun σ Hb H E Q q s H0 C cl fp => h s H0 C cl fp σ Hb H E Q q
theorem jt_wb {e : Expr} {Γ : List Sl} {Φ : Bool → Prop} (h : Bk X scope fun Y => XT Y m e Γ Φ) : JT X.K m (wbT X scope e) Γ Φ := fun σ Hb H E Q q s H0 C cl fp => h s H0 C cl fp σ Hb H E Q q
theorem ji_wb {tg e : Expr} {Γ : List Sl} {Φ : List D → Prop} (h : Bk X scope fun Y => XI Y m tg e Γ Φ) : JI X.K m (wbI X scope tg e) Γ Φ := fun σ Hb H E Q q s H0 C cl fp => h s H0 C cl fp σ Hb H E Q q
theorem jt_yes {K : PySem.W.Frag} {Φ : Bool → Prop} (h : Φ true) : JT K m tYes Γ Φ := fun σ Hb H E Q q => q true Hb H h (Gr.refl E.ex) E

/-- what a clause reads of its tests -/
inductive Ifs (X : Cx) (scope : Scope) : List Expr → TT → Prop
  | no : Ifs X scope [] tYes
  | one {c : Expr} : Ifs X scope [c] (wbT X scope c)
theorem Ifs.ok {tt : TT} (h : Ifs X scope ifs tt) (s : Shared) (H0 : Hp) (C : Addr) (cl : List (Str × Addr)) (fp : List Addr) : PTs (X.blk s H0 scope (compEnvC scope cl C X.env) fp) ifs tt := by
  cases h with
  | no => exact pts_nil
  | one => exact pts_one (pt_wb s H0 C cl fp)

/-- the pure comprehension over typed items, read -/
theorem jn_lcP {α β : Type} {K : PySem.W.Frag} {wi : TI} {tt : TT} {te : TE} {vs js : List Nat} {f : α → D} {xs : List α} {es : α → List D} {p : α → Bool} {f' : β → D} {h : α → β} (hw : wipeG Γ vs = Γ) (hi : JI K false wi Γ fun z => z = xs.map f) (hv : ∀ j ∈ js, j ∈ vs) (hl : xs.length ≤ 100000)
    (hg : ∀ x ∈ xs, XGt K g (f x) js (es x)) (ht : ∀ x ∈ xs, JT K false tt (setG Γ js (es x)) fun z => z = p x) (he : ∀ x ∈ xs, p x = true → JR K false te (setG Γ js (es x)) fun z => z = f' (h x)) :
    JN K false (tLc wi g tt te vs) Γ fun o => o = .ml (((xs.filter p).map h).map f') := by
  have key := jn_lc (K := K) (m := false) (Γ := Γ) (wi := wi) (g := g) (tt := tt) (te := te) (vs := vs) (js := js) (Φ := fun z => z = xs.map f) (fun _ i => (xs[i]?.map es).getD []) (fun _ i acc => acc = (((xs.take i).filter p).map h).map f') hw hi hv
    (fun ds e => by rw [e, List.length_map]; exact hl) (fun ds e => by simp) (fun ds e i d hd => ?_) (fun ds e i d acc hd hp => ?_)
  · exact fun σ Hb H E Q q => key σ Hb H E Q fun a u o Hb' H' z => q a u o Hb' H' (by
      obtain ⟨ds, acc, e1, e2, e3⟩ := z
      rw [e2, e3, e1, List.length_map, List.take_length])
  · subst e
    rw [List.getElem?_map] at hd
    cases hx : xs[i]? with
    | none => rw [hx] at hd; cases hd
    | some x =>
      rw [hx] at hd
      cases hd
      exact hg x (List.mem_of_getElem? hx)
  · subst e
    rw [List.getElem?_map] at hd
    cases hx : xs[i]? with
    | none => rw [hx] at hd; cases hd
    | some x =>
      rw [hx] at hd
      cases hd
      have mx := List.mem_of_getElem? hx
      have et : xs.take (i + 1) = xs.take i ++ [x] := by rw [List.take_add_one, hx]; rfl
      intro σ Hb H E Q q
      refine ht x mx σ Hb H E Q fun b Hb' H' z g' E' => q b Hb' H' ⟨fun hb => ?_, fun hb => ?_⟩ g' E'
      · subst hb
        intro σ2 Hb2 H2 E2 Q2 q2
        refine he x mx z.symm σ2 Hb2 H2 E2 Q2 fun v d Hb3 H3 w g3 E3 r3 => q2 v d Hb3 H3 ?_ g3 E3 r3
        rw [hp, et, List.filter_append, List.map_append, List.map_append, w]
        simp [List.filter_cons, ← z]
      · subst hb
        rw [hp, et, List.filter_append]
        simp [List.filter_cons, ← z]
end
end DL

namespace DL
open PySem PySem.Spec PyProof.Rows L2 Evl

/-! ### comprehensions as expressions -/
section
variable {X : Cx} {m : Bool} {elt tg iter c : Expr} {ifs : List Expr} {scope : Scope} {Γ : List Sl} {pos : Pos} {own : List (Str × Nat)} {g : TG} {tt : TT}
/-- pure, over typed items; f': how the new items stand, h: what they are, p: the test -/
theorem xo_lc {α β : Type} {f : α → D} {xs : List α} (js : List Nat) (es : α → List D) (p : α → Bool) (f' : β → D) (h : α → β) (own : List (Str × Nat)) (hi : XW X tg iter Γ (xs.map f)) (hg : Bk X scope fun Y => PG Y tg g) (gt : ∀ x ∈ xs, XGt X.K g (f x) js (es x)) (hf : Ifs X scope ifs tt)
    (ht : ∀ x ∈ xs, JT X.K false tt (setG Γ js (es x)) fun z => z = p x) (he : ∀ x ∈ xs, p x = true → Bk X scope fun Y => XV Y elt (setG Γ js (es x)) (f' (h x))) (hl : xs.length ≤ 100000) (ok : BlkOk X.N X.env.scope scope own) (hN : X.N.Nodup) (hw : wipeG Γ (own.map (·.2)) = Γ := by rfl) (hv : ∀ j ∈ js, j ∈ own.map (·.2) := by decide)
    (hc : X.calm = true := by rfl) (hs : ∀ x, foldedSetIterable iter X.env x = pure x := by intro _; rfl) : XO X (.ListComp elt [⟨tg, iter, ifs, 0⟩] scope pos) Γ (.ml (((xs.filter p).map h).map f')) :=
  xn_of (pe_lc hc hN pi_wp ok hg hf.ok pe_wb hs) (jn_lcP hw hi hv hl gt ht fun x hx hp => jr_wb (he x hx hp))
/-- one that may change owned objects: P, what holds of the turns -/
theorem xn_lc {Φ : List D → Prop} (js : List Nat) (es : List D → Nat → List D) (P : List D → Nat → List D → Prop) (own : List (Str × Nat)) (hi : XI X m tg iter Γ Φ) (hg : Bk X scope fun Y => PG Y tg g) (gt : ∀ ds, Φ ds → ∀ (i : Nat) d, ds[i]? = some d → XGt X.K g d js (es ds i)) (hf : Ifs X scope ifs tt) (h0 : ∀ ds, Φ ds → P ds 0 [])
    (hs : ∀ ds, Φ ds → ∀ (i : Nat) d acc, ds[i]? = some d → P ds i acc → JT X.K m tt (setG Γ js (es ds i)) fun b => (b = true → Bk X scope fun Y => XE Y m elt (setG Γ js (es ds i)) fun e => P ds (i + 1) (acc ++ [e])) ∧ (b = false → P ds (i + 1) acc)) (hl : ∀ ds, Φ ds → ds.length ≤ 100000) (ok : BlkOk X.N X.env.scope scope own) (hN : X.N.Nodup) (hw : wipeG Γ (own.map (·.2)) = Γ := by rfl) (hv : ∀ j ∈ js, j ∈ own.map (·.2) := by decide)
    (hc : X.calm = true := by rfl) (hss : ∀ x, foldedSetIterable iter X.env x = pure x := by intro _; rfl) : XN X m (.ListComp elt [⟨tg, iter, ifs, 0⟩] scope pos) Γ fun o => ∃ ds acc, Φ ds ∧ o = .ml acc ∧ P ds ds.length acc :=
  xn_of (pe_lc hc hN pi_wp ok hg hf.ok pe_wb hss) (jn_lc es P hw hi hv hl h0 gt fun ds e i d acc hd hp => fun σ Hb H E Q q => hs ds e i d acc hd hp σ Hb H E Q fun b Hb' H' z => q b Hb' H' ⟨fun hb => jr_wb (z.1 hb), z.2⟩)
end

/-! ### statements -/
structure Dn where
  nx : List Sl → Prop
  rt : D → List Sl → Prop
  bk : List Sl → Prop := fun _ => False
  ct : List Sl → Prop := fun _ => False
structure GS (K : PySem.W.Frag) (kp : Nat) (σ : L2.St) (Γ : List Sl) (Hb H : Hp) (σ' : L2.St) (Γ' : List Sl) (Hb' H' : Hp) : Prop where
  gr : Gr (Own σ Γ) Hb H Hb' H'
  en : En K Hb' H' σ' Γ'
  own : ∀ a, Own σ' Γ' a → Own σ Γ a ∨ H a = none
  kp : ∀ i, i < kp → σ'[i]? = σ[i]?
section
variable {K : PySem.W.Frag} {kp : Nat} {σ σ' σ2 : L2.St} {Γ Γ' Γ2 : List Sl} {Hb H Hb' H' Hb2 H2 : Hp} {m : Bool}
theorem GS.trans (x : GS K kp σ Γ Hb H σ' Γ' Hb' H') (y : GS K kp σ' Γ' Hb' H' σ2 Γ2 Hb2 H2) : GS K kp σ Γ Hb H σ2 Γ2 Hb2 H2 where
  gr := x.gr.trans y.gr x.own
  en := y.en
  own := fun a h => (y.own a h).elim (x.own a) fun z => .inr (new_none x.gr z)
  kp := fun i h => (y.kp i h).trans (x.kp i h)
theorem GS.refl (E : En K Hb H σ Γ) : GS K kp σ Γ Hb H σ Γ Hb H := ⟨Gr.refl E.ex, E, fun _ h => .inl h, fun _ _ => rfl⟩
theorem GS.of (g : Gr (WW m σ Γ) Hb H Hb' H') (E : En K Hb' H' σ Γ) : GS K kp σ Γ Hb H σ Γ Hb' H' := ⟨g.wk fun _ z => z.2, E, fun _ h => .inl h, fun _ _ => rfl⟩
end
def JS (K : PySem.W.Frag) (kp : Nat) (ts : TS) (Γ : List Sl) (G : Dn) : Prop := ∀ (σ : L2.St) (Hb H : Hp), En K Hb H σ Γ → ∀ E : Ends,
  (∀ Γ' σ' Hb' H', G.nx Γ' → GS K kp σ Γ Hb H σ' Γ' Hb' H' → E.nx σ' H') → (∀ Γ' σ' Hb' H', G.bk Γ' → GS K kp σ Γ Hb H σ' Γ' Hb' H' → E.bk σ' H') → (∀ Γ' σ' Hb' H', G.ct Γ' → GS K kp σ Γ Hb H σ' Γ' Hb' H' → E.ct σ' H') →
  (∀ d v Γ' σ' Hb' H', G.rt d Γ' → GS K kp σ Γ Hb H σ' Γ' Hb' H' → DR K Hb' v d → E.rt v H') → ts E σ H
def wpS (X : Cx) (st : Stmt) : TS := fun E σ H => ∀ (pins : List (Addr × Obj)) (s : Shared), Inv X pins σ H s → wpAny (model X.prog X.w) X.A (exec st X.env) (SP X pins E) X.xe s
def wpSs (X : Cx) (st : List Stmt) : TS := fun E σ H => ∀ (pins : List (Addr × Obj)) (s : Shared), Inv X pins σ H s → wpAny (model X.prog X.w) X.A (execs st X.env) (SP X pins E) X.xe s
theorem ps_wp {X : Cx} {e : Stmt} : PS X e (wpS X e) := ⟨fun pins s _ _ _ I h => h pins s I⟩
theorem pss_wp {X : Cx} {e : List Stmt} : PSs X e (wpSs X e) := ⟨fun pins s _ _ _ I h => h pins s I⟩
def XS (X : Cx) (kp : Nat) (st : Stmt) (Γ : List Sl) (G : Dn) : Prop := JS X.K kp (wpS X st) Γ G
def XSs (X : Cx) (kp : Nat) (st : List Stmt) (Γ : List Sl) (G : Dn) : Prop := JS X.K kp (wpSs X st) Γ G
section
variable {X : Cx} {kp : Nat} {st : Stmt} {sts rest : List Stmt} {Γ : List Sl} {G : Dn} {ts : TS} {m : Bool} {e c : Expr} {pos : Pos} {Φ : D → Prop}
theorem xs_of (h : PS X st ts) (r : JS X.K kp ts Γ G) : XS X kp st Γ G := fun σ Hb H E F a b c d pins s I => h.run pins s σ H F I (r σ Hb H E F a b c d)
theorem xss_of (h : PSs X sts ts) (r : JS X.K kp ts Γ G) : XSs X kp sts Γ G := fun σ Hb H E F a b c d pins s I => h.run pins s σ H F I (r σ Hb H E F a b c d)
theorem js_seq {K : PySem.W.Frag} {t u : TS} (h : JS K kp t Γ { G with nx := fun Γ' => JS K kp u Γ' G }) : JS K kp (tSeq t u) Γ G := fun σ Hb H E F a b c d =>
  h σ Hb H E { F with nx := u F } (fun Γ1 σ1 Hb1 H1 z g => z σ1 Hb1 H1 g.en F (fun Γ2 σ2 Hb2 H2 y k => a Γ2 σ2 Hb2 H2 y (g.trans k)) (fun Γ2 σ2 Hb2 H2 y k => b Γ2 σ2 Hb2 H2 y (g.trans k)) (fun Γ2 σ2 Hb2 H2 y k => c Γ2 σ2 Hb2 H2 y (g.trans k)) fun d2 v Γ2 σ2 Hb2 H2 y k => d d2 v Γ2 σ2 Hb2 H2 y (g.trans k)) b c d
theorem xs_cons (h : XS X kp st Γ { G with nx := fun Γ' => XSs X kp rest Γ' G }) : XSs X kp (st :: rest) Γ G := xss_of (pss_cons ps_wp pss_wp) (js_seq h)
theorem xs_nil (h : G.nx Γ) : XSs X kp [] Γ G := xss_of pss_nil fun σ Hb H E F a b c d => a Γ σ Hb H h (GS.refl E)
theorem xs_pass (h : G.nx Γ) : XS X kp (.Pass pos) Γ G := xs_of ps_pass fun σ Hb H E F a b c d => a Γ σ Hb H h (GS.refl E)
theorem xs_break (h : G.bk Γ) : XS X kp (.Break pos) Γ G := xs_of ps_break fun σ Hb H E F a b c d => b Γ σ Hb H h (GS.refl E)
theorem xs_continue (h : G.ct Γ) : XS X kp (.Continue pos) Γ G := xs_of ps_continue fun σ Hb H E F a b c d => c Γ σ Hb H h (GS.refl E)
/-- what is asked may be less -/
theorem XSs.le {Γ' : List Sl} (h : XSs X kp sts Γ' G) (l : Le Γ Γ') : XSs X kp sts Γ G := fun σ Hb H E F a b c d => by
  have kk : ∀ Γ2 σ2 Hb2 H2, GS X.K kp σ Γ' Hb H σ2 Γ2 Hb2 H2 → GS X.K kp σ Γ Hb H σ2 Γ2 Hb2 H2 := fun Γ2 σ2 Hb2 H2 g => ⟨g.gr.wk fun _ z => z.le l, g.en, fun a z => (g.own a z).imp (fun y => y.le l) id, g.kp⟩
  exact h σ Hb H (E.le l) F (fun Γ2 σ2 Hb2 H2 y k => a Γ2 σ2 Hb2 H2 y (kk _ _ _ _ k)) (fun Γ2 σ2 Hb2 H2 y k => b Γ2 σ2 Hb2 H2 y (kk _ _ _ _ k)) (fun Γ2 σ2 Hb2 H2 y k => c Γ2 σ2 Hb2 H2 y (kk _ _ _ _ k)) fun d2 v Γ2 σ2 Hb2 H2 y k => d d2 v Γ2 σ2 Hb2 H2 y (kk _ _ _ _ k)
/-- an owned list is data from here on -/
theorem xs_freeze (i : Nat) {ds : List D} (h : XSs X kp sts (Γ.set i (.pd (.lst ds))) G) (hi : Γ[i]? = some (.ow (.ml ds)) := by rfl) (hk : kp ≤ i := by decide) : XSs X kp sts Γ G := fun σ Hb H E F a b c d => by
  obtain ⟨p, vs, h1, h2, h3, h4, h5, E2⟩ := E.freeze hi
  have ow : ∀ q, Own σ (Γ.set i (.pd (.lst ds))) q → Own σ Γ q := fun q ⟨j, m, z1, z2⟩ => by
    rcases set_at z1 with ⟨rfl, y2, y3⟩ | ⟨y1, y2⟩
    · cases y2
    · exact ⟨j, m, y2, z2⟩
  have kk : ∀ Γ2 σ2 Hb2 H2, GS X.K kp σ (Γ.set i (.pd (.lst ds))) (upd Hb p (.lst vs)) H σ2 Γ2 Hb2 H2 → GS X.K kp σ Γ Hb H σ2 Γ2 Hb2 H2 := fun Γ2 σ2 Hb2 H2 g => by
    refine ⟨⟨(Ex.new h4).trans g.gr.b, fun q o y n => g.gr.h q o y fun z => n (ow q z), g.gr.al, g.gr.s, fun q y n => ?_⟩, g.en, fun q z => (g.own q z).imp (ow q) id, g.kp⟩
    rw [g.gr.f q y fun z => n (ow q z), upd_ne fun z => n (by rw [z]; exact h5)]
  exact h σ _ H E2 F (fun Γ2 σ2 Hb2 H2 y k => a Γ2 σ2 Hb2 H2 y (kk _ _ _ _ k)) (fun Γ2 σ2 Hb2 H2 y k => b Γ2 σ2 Hb2 H2 y (kk _ _ _ _ k)) (fun Γ2 σ2 Hb2 H2 y k => c Γ2 σ2 Hb2 H2 y (kk _ _ _ _ k)) fun d2 v Γ2 σ2 Hb2 H2 y k => d d2 v Γ2 σ2 Hb2 H2 y (kk _ _ _ _ k)
end
end DL

namespace DL
open PySem PySem.Spec PyProof.Rows L2 Evl

section
variable {K : PySem.W.Frag} {kp : Nat} {Γ : List Sl} {G : Dn} {te : TE} {tt : TT} {t u tb : TS} {m : Bool} {Φ : D → Prop} {g : TG}
theorem js_asgG {js : List Nat} (es : D → List D) (h : JR K m te Γ Φ) (gt : ∀ d, Φ d → XGt K g d js (es d)) (hk : ∀ j ∈ js, kp ≤ j) (k : ∀ d, Φ d → G.nx (setG Γ js (es d))) : JS K kp (tAsg te g) Γ G := fun σ Hb H E F a b c d => h σ Hb H E _ fun v z Hb1 H1 p g1 E1 r =>
  gt z p v Hb1 H1 σ _ E1.ex r fun vs rv => a _ _ Hb1 H1 (k z p) ((GS.of g1 E1).trans ⟨Gr.refl E1.ex, E1.setL rv, fun q y => .inl (Own.setL rv.len y), fun i hi => setL_ne fun y => by have := hk i y; omega⟩)
theorem js_asg {i : Nat} (h : JR K m te Γ Φ) (k : ∀ d, Φ d → G.nx (Γ.set i (.pd d))) (hk : kp ≤ i) : JS K kp (tAsg te (gName i)) Γ G := js_asgG (fun d => [d]) h (fun d _ => gt_name) (fun j hj => by
  rw [List.mem_singleton.mp hj]
  exact hk) k
theorem js_asgN {i : Nat} {Φ : MO → Prop} (h : JN K m te Γ Φ) (k : ∀ o, Φ o → G.nx (Γ.set i (.ow o))) (hk : kp ≤ i) : JS K kp (tAsg te (gName i)) Γ G := fun σ Hb H E F a b c d => h σ Hb H E _ fun p w o Hb1 H1 z n g1 E1 nb hp r => by
  have no : ¬ Own σ Γ p := fun y => (E.own_some y).1 n
  refine a _ _ Hb1 H1 (k o z) ⟨g1.wk fun _ y => y.2, E1.take nb hp r no, fun q y => ?_, fun j hj => List.getElem?_set_ne (by omega)⟩
  obtain ⟨j, m', h1, h2⟩ := y
  rcases set_at h1 with ⟨rfl, z2, z3⟩ | ⟨z1, z2⟩
  · rw [List.getElem?_set_self (by rw [E1.len]; exact z3)] at h2
    cases h2
    exact .inr n
  · rw [List.getElem?_set_ne z1] at h2
    exact .inl ⟨j, m', z2, h2⟩
theorem GS.more {σ : L2.St} {Hb H Hb1 H1 : Hp} (g : Gr (WW m σ Γ) Hb H Hb1 H1) (E : En K Hb1 H1 σ Γ) {Γ2 : List Sl} {σ2 : L2.St} {Hb2 H2 : Hp} (x : GS K kp σ Γ Hb1 H1 σ2 Γ2 Hb2 H2) : GS K kp σ Γ Hb H σ2 Γ2 Hb2 H2 := (GS.of g E).trans x
theorem js_if {Φ : Bool → Prop} (h : JT K m tt Γ Φ) (h1 : Φ true → JS K kp t Γ G) (h2 : Φ false → JS K kp u Γ G) : JS K kp (tIfS tt t u) Γ G := fun σ Hb H E F a b c d => h σ Hb H E _ fun z Hb1 H1 p g1 E1 => by
  cases z with
  | true => exact iteT (h1 p σ Hb1 H1 E1 F (fun _ _ _ _ y x => a _ _ _ _ y (x.more g1 E1)) (fun _ _ _ _ y x => b _ _ _ _ y (x.more g1 E1)) (fun _ _ _ _ y x => c _ _ _ _ y (x.more g1 E1)) fun _ _ _ _ _ _ y x => d _ _ _ _ _ _ y (x.more g1 E1))
  | false => exact iteF (h2 p σ Hb1 H1 E1 F (fun _ _ _ _ y x => a _ _ _ _ y (x.more g1 E1)) (fun _ _ _ _ y x => b _ _ _ _ y (x.more g1 E1)) (fun _ _ _ _ y x => c _ _ _ _ y (x.more g1 E1)) fun _ _ _ _ _ _ y x => d _ _ _ _ _ _ y (x.more g1 E1))
theorem js_ret (h : JR K m te Γ Φ) (k : ∀ d, Φ d → G.rt d Γ) : JS K kp (tRet te) Γ G := fun σ Hb H E F a b c d => h σ Hb H E _ fun v z Hb1 H1 p g1 E1 r => d z v Γ σ Hb1 H1 (k z p) (GS.of g1 E1) r
theorem js_drop (h : JR K m te Γ Φ) (k : (∃ d, Φ d) → G.nx Γ) : JS K kp (tDrop te) Γ G := fun σ Hb H E F a b c d => h σ Hb H E _ fun v z Hb1 H1 p g1 E1 r => a Γ σ Hb1 H1 (k ⟨z, p⟩) (GS.of g1 E1)
theorem En.own_at {Hb H : Hp} {σ : L2.St} (E : En K Hb H σ Γ) {i : Nat} {ds : List D} (h : Γ[i]? = some (.ow (.ml ds))) : ∃ a vs, σ[i]? = some (some (.ref a)) ∧ Hb a = none ∧ H a = some (.lst vs) ∧ DRs K Hb vs ds := by
  obtain ⟨a, w, h1, h2, h3, vs, rfl, h5⟩ := E.own i _ h
  exact ⟨a, vs, h1, h2, h3, h5⟩
theorem own_set {σ : L2.St} {i : Nat} {o o' : MO} (h : Γ[i]? = some (.ow o)) {q : Addr} (y : Own σ (Γ.set i (.ow o')) q) : Own σ Γ q := by
  obtain ⟨j, m', h1, h2⟩ := y
  rcases set_at h1 with ⟨rfl, z2, z3⟩ | ⟨z1, z2⟩
  · exact ⟨i, o, h, h2⟩
  · exact ⟨j, m', z2, h2⟩
theorem GS.put {Hb H : Hp} {σ : L2.St} {i : Nat} {o o' : MO} {a : Addr} {w : HO} (E : En K Hb H σ Γ) (h : Γ[i]? = some (.ow o)) (ha : σ[i]? = some (some (.ref a))) (r : MR K Hb w o') : GS K kp σ Γ Hb H σ (Γ.set i (.ow o')) Hb (upd H a w) := by
  have q : Own σ Γ a := ⟨i, o, h, ha⟩
  exact ⟨Gr.put E.ex (E.own_some q).2 (E.own_some q).1 q, E.put h ha r, fun b y => .inl (own_set h y), fun _ _ => rfl⟩
theorem js_app {i : Nat} {ds : List D} (h : Γ[i]? = some (.ow (.ml ds))) (he : JR K m te Γ Φ) (hz : ds.length < 100000) (k : ∀ d, Φ d → G.nx (Γ.set i (.ow (.ml (ds ++ [d]))))) : JS K kp (tDrop (tBM K "list" rAppend (tVar i) (tCons te tNil))) Γ G := fun σ Hb H E F a b c d => by
  obtain ⟨p, vs, h1, h2, h3, h4⟩ := E.own_at h
  refine ⟨.ref p, h1, .inl ⟨rfl, vs, SqL.of h3⟩, he σ Hb H E _ fun v z Hb1 H1 y g1 E1 r => ?_⟩
  obtain ⟨p', ws, k1, k2, k3, k4⟩ := E1.own_at h
  rw [h1] at k1
  cases k1
  exact ⟨p, ws, v, rfl, rfl, k3, sz_lt (by rw [k4.len]; exact hz), a _ _ _ _ (k z y) ((GS.of g1 E1).trans (GS.put E1 h h1 ⟨_, rfl, k4.app (.one r)⟩))⟩
/-- xs[i] = e -/
theorem js_setL {i j : Nat} {n : Int} {ds : List D} {tj : TE} (h : Γ[i]? = some (.ow (.ml ds))) (he : JR K m te Γ Φ) (hj : JR K false tj Γ fun z => z = .int n) (hn : ixN ds.length n = some j) (k : ∀ d, Φ d → G.nx (Γ.set i (.ow (.ml (ds.set j d))))) : JS K kp (tAsg te (gSub (tVar i) tj rSetL)) Γ G := fun σ Hb H E F a b c d => he σ Hb H E _ fun v z Hb1 H1 y g1 E1 r => by
  obtain ⟨p, vs, h1, h2, h3, h4⟩ := E1.own_at h
  refine ⟨.ref p, h1, hj σ Hb1 H1 E1 _ fun v2 z2 Hb2 H2 y2 g2 E2 r2 => ?_⟩
  subst y2
  cases r2
  obtain ⟨p', ws, k1, k2, k3, k4⟩ := E2.own_at h
  rw [h1] at k1
  cases k1
  exact ⟨p, ws, n, j, rfl, rfl, k3, by rw [k4.len]; exact hn, a _ _ _ _ (k z y) ((GS.of (gww g1 (ww_lift g2)) E2).trans (GS.put E2 h h1 ⟨_, rfl, k4.set (r.mono g2.b) j⟩))⟩
theorem js_aug {i : Nat} {f : Int → Int → Int} {x : Int} (h : Γ[i]? = some (.pd (.int x))) (he : JR K m te Γ fun z => ∃ y, z = .int y ∧ Φ (.int y)) (k : ∀ y, Φ (.int y) → G.nx (Γ.set i (.pd (.int (f x y))))) (hk : kp ≤ i) : JS K kp (tAug i te (ipI f)) Γ G := fun σ Hb H E F a b c d => by
  obtain ⟨v, h1, r1⟩ := E.val i _ h
  cases r1
  refine ⟨.int x, h1, he σ Hb H E _ fun w z Hb1 H1 p g1 E1 r => ?_⟩
  obtain ⟨y, rfl, q⟩ := p
  cases r
  exact ⟨x, y, rfl, rfl, a _ _ _ _ (k y q) ((GS.of g1 E1).trans ⟨Gr.refl E1.ex, E1.set (.int (f x y)) i, fun b z => .inl z.set, fun j hj => List.getElem?_set_ne (by omega)⟩)⟩
/-- loops -/
theorem js_for {wi : TI} {js : List Nat} {Φ : List D → Prop} (es : List D → Nat → List D) (Inv : List D → Nat → List Sl → Prop) (hi : JI K m wi Γ Φ) (h0 : ∀ ds, Φ ds → Inv ds 0 Γ) (hg : ∀ ds, Φ ds → ∀ (i : Nat) d, ds[i]? = some d → XGt K g d js (es ds i)) (hj : ∀ j ∈ js, kp ≤ j)
    (hs : ∀ ds, Φ ds → ∀ (i : Nat) d Γ', ds[i]? = some d → Inv ds i Γ' → JS K kp tb (setG Γ' js (es ds i)) { nx := Inv ds (i + 1), ct := Inv ds (i + 1), bk := G.nx, rt := G.rt }) (hd : ∀ ds Γ', Φ ds → Inv ds ds.length Γ' → G.nx Γ') : JS K kp (tFor wi g tb) Γ G := fun σ Hb H E F a b c d => by
  refine hi σ Hb H E _ fun J ds Hb1 H1 p1 g1 E1 it => ?_
  refine ⟨fun i mm σ' H' => mm = ds.length - i ∧ i ≤ ds.length ∧ ∃ Γ' Hb', Inv ds i Γ' ∧ GS K kp σ Γ Hb1 H1 σ' Γ' Hb' H', ⟨ds.length, by simp, Nat.zero_le _, Γ, Hb1, h0 ds p1, GS.refl E1⟩, ?_⟩
  rintro i mm σ2 H2 ⟨rfl, hi', Γ2, Hb2, v2, G2⟩
  by_cases hlt : i < ds.length
  · obtain ⟨go, yl⟩ := (it Hb2 H2 G2.gr.b G2.en.ex i).1 hlt
    refine .inr ⟨go, fun σ' H' => ∃ Γ' Hb', Inv ds (i + 1) Γ' ∧ GS K kp σ Γ Hb1 H1 σ' Γ' Hb' H', fun σ' H' hN => ⟨ds.length - (i + 1), by omega, rfl, hlt, hN⟩, fun x H3 y => ?_⟩
    obtain ⟨z, Hb3, e, g3, rx⟩ := yl x H3 y
    have E3 := G2.en.new g3
    refine hg ds p1 i z e x Hb3 H3 σ2 _ E3.ex rx fun vals rv => ?_
    have G3 : GS K kp σ Γ Hb1 H1 (DL.setL σ2 js vals) (setG Γ2 js (es ds i)) Hb3 H3 := (G2.trans (GS.of (m := true) g3.gr E3)).trans ⟨Gr.refl E3.ex, E3.setL rv, fun q y => .inl (Own.setL rv.len y), fun j hj' => setL_ne fun y => by have := hj j y; omega⟩
    exact hs ds p1 i z Γ2 e v2 _ Hb3 H3 G3.en _ (fun Γ5 σ5 Hb5 H5 y x => ⟨Γ5, Hb5, y, G3.trans x⟩) (fun Γ5 σ5 Hb5 H5 y x => a _ _ _ _ y ((G3.trans x).more g1 E1)) (fun Γ5 σ5 Hb5 H5 y x => ⟨Γ5, Hb5, y, G3.trans x⟩) fun d5 v5 Γ5 σ5 Hb5 H5 y x => d _ _ _ _ _ _ y ((G3.trans x).more g1 E1)
  · have e : i = ds.length := by omega
    exact .inl ⟨(it Hb2 H2 G2.gr.b G2.en.ex i).2 (by omega), a _ _ _ _ (hd ds Γ2 p1 (by rw [← e]; exact v2)) (G2.more g1 E1)⟩
theorem js_while (Inv : Nat → List Sl → Prop) (n : Nat) (h0 : Inv n Γ) (hs : ∀ (k : Nat) Γ', Inv k Γ' → ∃ Φt : Bool → Prop, JT K m tt Γ' Φt ∧ (Φt true → JS K kp tb Γ' { nx := fun Γ2 => ∃ j, j < k ∧ Inv j Γ2, ct := fun Γ2 => ∃ j, j < k ∧ Inv j Γ2, bk := G.nx, rt := G.rt }) ∧ (Φt false → G.nx Γ')) : JS K kp (tWhile tt tb) Γ G := fun σ Hb H E F a b c d => by
  refine ⟨fun k σ' H' => ∃ Γ' Hb', Inv k Γ' ∧ GS K kp σ Γ Hb H σ' Γ' Hb' H', ⟨n, Γ, Hb, h0, GS.refl E⟩, ?_⟩
  rintro k σ2 H2 ⟨Γ2, Hb2, v2, G2⟩
  obtain ⟨Φt, ht, h1, h2⟩ := hs k Γ2 v2
  refine ht σ2 Hb2 H2 G2.en _ fun z Hb3 H3 p g3 E3 => ?_
  have G3 := G2.trans (GS.of (kp := kp) g3 E3)
  cases z with
  | true =>
    refine iteT ⟨fun σ' H' => ∃ j, j < k ∧ ∃ Γ' Hb', Inv j Γ' ∧ GS K kp σ Γ Hb H σ' Γ' Hb' H', fun σ' H' ⟨j, q, r⟩ => ⟨j, q, r⟩, ?_⟩
    exact h1 p σ2 Hb3 H3 E3 _ (fun Γ5 σ5 Hb5 H5 ⟨j, y, z⟩ x => ⟨j, y, Γ5, Hb5, z, G3.trans x⟩) (fun Γ5 σ5 Hb5 H5 y x => a _ _ _ _ y (G3.trans x)) (fun Γ5 σ5 Hb5 H5 ⟨j, y, z⟩ x => ⟨j, y, Γ5, Hb5, z, G3.trans x⟩) fun d5 v5 Γ5 σ5 Hb5 H5 y x => d _ _ _ _ _ _ y (G3.trans x)
  | false => exact iteF (a _ _ _ _ (h2 p) G3)
end

/-! ### .. of the text -/
section
variable {X : Cx} {kp : Nat} {st : Stmt} {sts rest body A B : List Stmt} {Γ : List Sl} {G : Dn} {m : Bool} {e c tg iter : Expr} {pos pos' : Pos} {Φ : D → Prop} {x : Str} {g : TG}
theorem xs_asg (i : Nat) (h : XE X m e Γ Φ) (k : ∀ d, Φ d → G.nx (Γ.set i (.pd d))) (hN : X.N.Nodup) (hk : kp ≤ i := by decide) (hi : X.N[i]? = some x := by rfl) (hx : Loc X.env.scope x := by first | exact .inl rfl | exact .inr rfl) (hs : swapsWith e (some (.Name x pos')) pos.line X.env = pure false := by rfl) (hf : X.fn x = true ∨ X.env.scope.names.lookup x = some .local := by first | exact .inl rfl | exact .inr rfl) : XS X kp (.Assign [.Name x pos'] e pos) Γ G :=
  xs_of (ps_set hN hi hx pe_wp hs hf) (js_asg h k hk)
theorem xs_asgN {Φ : MO → Prop} (i : Nat) (h : XN X m e Γ Φ) (k : ∀ o, Φ o → G.nx (Γ.set i (.ow o))) (hN : X.N.Nodup) (hk : kp ≤ i := by decide) (hi : X.N[i]? = some x := by rfl) (hx : Loc X.env.scope x := by first | exact .inl rfl | exact .inr rfl) (hs : swapsWith e (some (.Name x pos')) pos.line X.env = pure false := by rfl) (hf : X.fn x = true ∨ X.env.scope.names.lookup x = some .local := by first | exact .inl rfl | exact .inr rfl) : XS X kp (.Assign [.Name x pos'] e pos) Γ G :=
  xs_of (ps_set hN hi hx pe_wp hs hf) (js_asgN h k hk)
theorem xs_asgG {js : List Nat} (es : D → List D) (h : XE X m e Γ Φ) (hg : PG X tg g) (gt : ∀ d, Φ d → XGt X.K g d js (es d)) (k : ∀ d, Φ d → G.nx (setG Γ js (es d))) (hk : ∀ j ∈ js, kp ≤ j := by decide) (hs : swapsWithSole [tg] e pos.line X.env = pure false := by rfl) (hw : swappedStores [tg] e X.env = pure none := by rfl)
    (h1 : (assignEach [tg] X.env).map (·.2) = [assign tg X.env] := by rfl) : XS X kp (.Assign [tg] e pos) Γ G := xs_of (ps_asg pe_wp hg hs hw h1) (js_asgG es h gt hk k)
/-- y = [e for ..], on one line, y a local -/
theorem xs_asgLc {elt tg iter : Expr} {ifs : List Expr} {scope : Scope} {tt : TT} {α β : Type} {f : α → D} {xs : List α} (i : Nat) (js : List Nat) (es : α → List D) (p : α → Bool) (f' : β → D) (h : α → β) (own : List (Str × Nat)) (hi : XW X tg iter Γ (xs.map f)) (hg : Bk X scope fun Y => PG Y tg g) (gt : ∀ x ∈ xs, XGt X.K g (f x) js (es x)) (hf : Ifs X scope ifs tt)
    (ht : ∀ x ∈ xs, JT X.K false tt (setG Γ js (es x)) fun z => z = p x) (he : ∀ x ∈ xs, p x = true → Bk X scope fun Y => XV Y elt (setG Γ js (es x)) (f' (h x))) (hl : xs.length ≤ 100000) (k : G.nx (Γ.set i (.ow (.ml (((xs.filter p).map h).map f'))))) (ok : BlkOk X.N X.env.scope scope own) (hN : X.N.Nodup) (hsw : swapsWith (.ListComp elt [⟨tg, iter, ifs, 0⟩] scope pos) (some (.Name x pos')) st2.line X.env = pure true)
    (hw : wipeG Γ (own.map (·.2)) = Γ := by rfl) (hv : ∀ j ∈ js, j ∈ own.map (·.2) := by decide) (hk : kp ≤ i := by decide) (hy : X.N[i]? = some x := by rfl) (hyl : X.env.scope.names.lookup x = some .local := by rfl)
    (hc : X.calm = true := by rfl) (hs : ∀ x, foldedSetIterable iter X.env x = pure x := by intro _; rfl) : XS X kp (.Assign [.Name x pos'] (.ListComp elt [⟨tg, iter, ifs, 0⟩] scope pos) st2) Γ G :=
  xs_of (ps_setLc hc hN hy hyl hsw pi_wp ok hg hf.ok pe_wb hs) (js_asgN (jn_lcP hw hi hv hl gt ht fun x hx hp => jr_wb (he x hx hp)) (fun o z => by rw [z]; exact k) hk)
theorem xs_asgLcN {elt tg iter : Expr} {ifs : List Expr} {scope : Scope} {tt : TT} {Φ : List D → Prop} (i : Nat) (js : List Nat) (es : List D → Nat → List D) (P : List D → Nat → List D → Prop) (own : List (Str × Nat)) (hi : XI X m tg iter Γ Φ) (hg : Bk X scope fun Y => PG Y tg g) (gt : ∀ ds, Φ ds → ∀ (i : Nat) d, ds[i]? = some d → XGt X.K g d js (es ds i)) (hf : Ifs X scope ifs tt) (h0 : ∀ ds, Φ ds → P ds 0 [])
    (hs : ∀ ds, Φ ds → ∀ (i : Nat) d acc, ds[i]? = some d → P ds i acc → JT X.K m tt (setG Γ js (es ds i)) fun b => (b = true → Bk X scope fun Y => XE Y m elt (setG Γ js (es ds i)) fun e => P ds (i + 1) (acc ++ [e])) ∧ (b = false → P ds (i + 1) acc)) (hl : ∀ ds, Φ ds → ds.length ≤ 100000) (k : ∀ ds acc, Φ ds → P ds ds.length acc → G.nx (Γ.set i (.ow (.ml acc)))) (ok : BlkOk X.N X.env.scope scope own) (hN : X.N.Nodup) (hsw : swapsWith (.ListComp elt [⟨tg, iter, ifs, 0⟩] scope pos) (some (.Name x pos')) st2.line X.env = pure true)
    (hw : wipeG Γ (own.map (·.2)) = Γ := by rfl) (hv : ∀ j ∈ js, j ∈ own.map (·.2) := by decide) (hk : kp ≤ i := by decide) (hy : X.N[i]? = some x := by rfl) (hyl : X.env.scope.names.lookup x = some .local := by rfl)
    (hc : X.calm = true := by rfl) (hss : ∀ x, foldedSetIterable iter X.env x = pure x := by intro _; rfl) : XS X kp (.Assign [.Name x pos'] (.ListComp elt [⟨tg, iter, ifs, 0⟩] scope pos) st2) Γ G :=
  xs_of (ps_setLc hc hN hy hyl hsw pi_wp ok hg hf.ok pe_wb hss) (js_asgN (jn_lc es P hw hi hv hl h0 gt fun ds e i d acc hd hp => fun σ Hb H E Q q => hs ds e i d acc hd hp σ Hb H E Q fun b Hb' H' z => q b Hb' H' ⟨fun hb => jr_wb (z.1 hb), z.2⟩) (fun o z => by
    obtain ⟨ds, acc, e1, rfl, e2⟩ := z
    exact k ds acc e1 e2) hk)
theorem xs_if {Φ : Bool → Prop} (h : XT X m c Γ Φ) (h1 : Φ true → XSs X kp A Γ G) (h2 : Φ false → XSs X kp B Γ G) : XS X kp (.If c A B pos) Γ G := xs_of (ps_if pt_wp pss_wp pss_wp) (js_if h h1 h2)
theorem xs_ret (h : XE X m e Γ Φ) (k : ∀ d, Φ d → G.rt d Γ) : XS X kp (.Return (some e) pos) Γ G := xs_of (ps_ret pe_wp) (js_ret h k)
theorem xs_retV {d : D} (h : XV X e Γ d) (k : G.rt d Γ) : XS X kp (.Return (some e) pos) Γ G := xs_ret h fun _ z => by rw [z]; exact k
theorem xs_asgV (i : Nat) {d : D} (h : XV X e Γ d) (k : G.nx (Γ.set i (.pd d))) (hN : X.N.Nodup) (hk : kp ≤ i := by decide) (hi : X.N[i]? = some x := by rfl) (hx : Loc X.env.scope x := by first | exact .inl rfl | exact .inr rfl) (hs : swapsWith e (some (.Name x pos')) pos.line X.env = pure false := by rfl) (hf : X.fn x = true ∨ X.env.scope.names.lookup x = some .local := by first | exact .inl rfl | exact .inr rfl) : XS X kp (.Assign [.Name x pos'] e pos) Γ G :=
  xs_asg i h (fun _ z => by rw [z]; exact k) hN hk hi hx hs hf
theorem xs_asgO (i : Nat) {o : MO} (h : XO X e Γ o) (k : G.nx (Γ.set i (.ow o))) (hN : X.N.Nodup) (hk : kp ≤ i := by decide) (hi : X.N[i]? = some x := by rfl) (hx : Loc X.env.scope x := by first | exact .inl rfl | exact .inr rfl) (hs : swapsWith e (some (.Name x pos')) pos.line X.env = pure false := by rfl) (hf : X.fn x = true ∨ X.env.scope.names.lookup x = some .local := by first | exact .inl rfl | exact .inr rfl) : XS X kp (.Assign [.Name x pos'] e pos) Γ G :=
  xs_asgN i h (fun _ z => by rw [z]; exact k) hN hk hi hx hs hf
theorem xs_app (i : Nat) {ds : List D} {pos2 pos3 : Pos} (he : XE X m e Γ Φ) (k : ∀ d, Φ d → G.nx (Γ.set i (.ow (.ml (ds ++ [d]))))) (hz : ds.length < 100000) (h : Γ[i]? = some (.ow (.ml ds)) := by rfl) (hN : X.N[i]? = some x := by rfl) (hv : Vis X.env.scope x := by first | exact Or.inl rfl | exact Or.inr (Or.inl rfl) | exact Or.inr (Or.inr rfl)) (hd : (x == ("__debug__" : Str)) = false := by decide)
    (hcd : (x == ("__classdict__" : Str)) = false := by decide) (hs1 : starEach (e :: []) X.env = (false, eval e X.env) :: starEach [] X.env := by rfl) (hs : swapsWith (.Call (.Attribute (.Name x pos') "append" pos2) [e] [] pos3) none pos.line X.env = pure false := by rfl)
    (hbm : PE X (.Call (.Attribute (.Name x pos') "append" pos2) [e] [] pos3) (tBM X.K "list" rAppend (tVar i) (tCons (wpE X e) tNil)) := by exact pe_bm PySem.F.plainAttrs_list PySem.F.slot_list_append PySem.F.type_list_append mt_append (pe_var (by rfl) (by first | exact Or.inl rfl | exact Or.inr (Or.inl rfl) | exact Or.inr (Or.inr rfl))) (pa_cons pe_wp pa_nil)) :
    XS X kp (.Expr (.Call (.Attribute (.Name x pos') "append" pos2) [e] [] pos3) pos) Γ G := xs_of (ps_expr hbm hs) (js_app h he hz k)
theorem xs_setO (i j : Nat) {n : Int} {ds : List D} {a : Expr} {pos2 : Pos} (he : XE X m e Γ Φ) (hj : XV X a Γ (.int n)) (hn : ixN ds.length n = some j) (k : ∀ d, Φ d → G.nx (Γ.set i (.ow (.ml (ds.set j d))))) (h : Γ[i]? = some (.ow (.ml ds)) := by rfl)
    (hps : PS X (.Assign [.Subscript (.Name x pos') a pos2] e pos) (tAsg (wpE X e) (gSub (tVar i) (wpE X a) rSetL)) := by exact ps_asg pe_wp (pg_sub (pe_var (by rfl) (by first | exact Or.inl rfl | exact Or.inr (Or.inl rfl) | exact Or.inr (Or.inr rfl))) pe_wp set_list)) :
    XS X kp (.Assign [.Subscript (.Name x pos') a pos2] e pos) Γ G := xs_of hps (js_setL h he hj hn k)
theorem xs_aug (i : Nat) {op : Operator} {f : Int → Int → Int} {a b : Int} (ho : PIp X op (ipI f)) (he : XV X e Γ (.int b)) (k : G.nx (Γ.set i (.pd (.int (f a b))))) (hN : X.N.Nodup) (h : Γ[i]? = some (.pd (.int a)) := by rfl) (hk : kp ≤ i := by decide) (hi : X.N[i]? = some x := by rfl) (hx : Loc X.env.scope x := by first | exact .inl rfl | exact .inr rfl)
    (hf : X.fn x = true ∨ X.env.scope.names.lookup x = some .local := by first | exact .inl rfl | exact .inr rfl) : XS X kp (.AugAssign (.Name x pos') op e pos) Γ G := xs_of (ps_aug hN hi hx pe_wp ho hf) (js_aug (Φ := fun z => z = .int b) h (he.imp fun d z => ⟨b, z, rfl⟩) (fun y z => by cases z; exact k) hk)
theorem xs_for {js : List Nat} {Φ : List D → Prop} (es : List D → Nat → List D) (Inv : List D → Nat → List Sl → Prop) (hi : XI X m tg iter Γ Φ) (hp : PG X tg g) (h0 : ∀ ds, Φ ds → Inv ds 0 Γ) (hg : ∀ ds, Φ ds → ∀ (i : Nat) d, ds[i]? = some d → XGt X.K g d js (es ds i))
    (hs : ∀ ds, Φ ds → ∀ (i : Nat) d Γ', ds[i]? = some d → Inv ds i Γ' → XSs X kp body (setG Γ' js (es ds i)) { nx := Inv ds (i + 1), ct := Inv ds (i + 1), bk := G.nx, rt := G.rt }) (hd : ∀ ds Γ', Φ ds → Inv ds ds.length Γ' → G.nx Γ') (hps : PassesOwn (model X.prog X.w) X.A X.env X.xe) (hj : ∀ j ∈ js, kp ≤ j := by decide) (hc : X.calm = true := by rfl)
    (hss : ∀ x, foldedSetIterable iter X.env x = pure x := by intro _; rfl) : XS X kp (.For tg iter body [] pos) Γ G := xs_of (ps_for hps hc pi_wp hp pss_wp hss) (js_for es Inv hi h0 hg hj hs hd)
/-- over known, typed items; the slots behind a turn's place -/
theorem xs_forT {α : Type} {f : α → D} {xs : List α} {js : List Nat} (es : α → List D) (Inv : List α → List Sl → Prop) (hi : XW X tg iter Γ (xs.map f)) (hp : PG X tg g) (h0 : Inv [] Γ) (hg : ∀ x ∈ xs, XGt X.K g (f x) js (es x))
    (hs : ∀ pre x post Γ', xs = pre ++ x :: post → Inv pre Γ' → XSs X kp body (setG Γ' js (es x)) { nx := Inv (pre ++ [x]), ct := Inv (pre ++ [x]), bk := G.nx, rt := G.rt }) (hd : ∀ Γ', Inv xs Γ' → G.nx Γ') (hps : PassesOwn (model X.prog X.w) X.A X.env X.xe) (hj : ∀ j ∈ js, kp ≤ j := by decide) (hc : X.calm = true := by rfl)
    (hss : ∀ x, foldedSetIterable iter X.env x = pure x := by intro _; rfl) : XS X kp (.For tg iter body [] pos) Γ G := by
  refine xs_for (fun _ i => (xs[i]?.map es).getD []) (fun _ i => Inv (xs.take i)) hi hp (fun ds e => by rw [List.take_zero]; exact h0) (fun ds e i d hd' => ?_) (fun ds e i d Γ' hd' hv => ?_) (fun ds Γ' e hv => ?_) hps hj hc hss
  · subst e
    rw [List.getElem?_map] at hd'
    cases hx : xs[i]? with
    | none => rw [hx] at hd'; cases hd'
    | some x =>
      rw [hx] at hd'
      cases hd'
      exact hg x (List.mem_of_getElem? hx)
  · subst e
    rw [List.getElem?_map] at hd'
    cases hx : xs[i]? with
    | none => rw [hx] at hd'; cases hd'
    | some x =>
      have et : xs.take (i + 1) = xs.take i ++ [x] := by rw [List.take_add_one, hx]; rfl
      have z := hs (xs.take i) x (xs.drop (i + 1)) Γ' (by
        obtain ⟨h1, h2⟩ := List.getElem?_eq_some_iff.mp hx
        rw [← h2, ← List.drop_eq_getElem_cons h1, List.take_append_drop]) hv
      rw [et]
      exact z
  · subst e
    rw [List.length_map, List.take_length] at hv
    exact hd Γ' hv
theorem xs_while (Inv : Nat → List Sl → Prop) (n : Nat) (h0 : Inv n Γ) (hs : ∀ (k : Nat) Γ', Inv k Γ' → ∃ Φt : Bool → Prop, XT X m c Γ' Φt ∧ (Φt true → XSs X kp body Γ' { nx := fun Γ2 => ∃ j, j < k ∧ Inv j Γ2, ct := fun Γ2 => ∃ j, j < k ∧ Inv j Γ2, bk := G.nx, rt := G.rt }) ∧ (Φt false → G.nx Γ')) (hps : PassesOwn (model X.prog X.w) X.A X.env X.xe) : XS X kp (.While c body [] pos) Γ G := xs_of (ps_while hps pt_wp pss_wp) (js_while Inv n h0 hs)
theorem XS.imp {G' : Dn} (h : XS X kp st Γ G) (k : ∀ Γ', G.nx Γ' → G'.nx Γ') (k1 : ∀ d Γ', G.rt d Γ' → G'.rt d Γ') (k2 : ∀ Γ', G.bk Γ' → G'.bk Γ') (k3 : ∀ Γ', G.ct Γ' → G'.ct Γ') : XS X kp st Γ G' := fun σ Hb H E F a b c d => h σ Hb H E F (fun _ _ _ _ y => a _ _ _ _ (k _ y)) (fun _ _ _ _ y => b _ _ _ _ (k2 _ y)) (fun _ _ _ _ y => c _ _ _ _ (k3 _ y)) fun _ _ _ _ _ _ y => d _ _ _ _ _ _ (k1 _ _ y)
theorem XSs.imp {G' : Dn} (h : XSs X kp sts Γ G) (k : ∀ Γ', G.nx Γ' → G'.nx Γ') (k1 : ∀ d Γ', G.rt d Γ' → G'.rt d Γ') (k2 : ∀ Γ', G.bk Γ' → G'.bk Γ') (k3 : ∀ Γ', G.ct Γ' → G'.ct Γ') : XSs X kp sts Γ G' := fun σ Hb H E F a b c d => h σ Hb H E F (fun _ _ _ _ y => a _ _ _ _ (k _ y)) (fun _ _ _ _ y => b _ _ _ _ (k2 _ y)) (fun _ _ _ _ y => c _ _ _ _ (k3 _ y)) fun _ _ _ _ _ _ y => d _ _ _ _ _ _ (k1 _ _ y)
end
end DL

namespace DL
open PySem PySem.Spec PyProof.Rows L2 Evl

/-! ### an owned list looked at -/
def D.flat : D → Bool
  | .non => true | .bl _ => true | .int _ => true | .str _ => true
  | _ => false
def cutA (H : Hp) (a : Addr) : Hp := fun b => if b = a then none else H b
theorem cutA_same {H : Hp} {a : Addr} : cutA H a a = none := if_pos rfl
theorem cutA_ne {H : Hp} {a b : Addr} (h : b ≠ a) : cutA H a b = H b := if_neg h
section
variable {K : PySem.W.Frag} {Γ : List Sl} {te : TE} {tt : TT} {Φ : D → Prop}
theorem unfreeze {σ : L2.St} {Hb H : Hp} {i : Nat} {ds : List D} (E : En K Hb H σ Γ) (hi : Γ[i]? = some (.ow (.ml ds))) {a : Addr} {vs : List V} (h1 : σ[i]? = some (some (.ref a))) (h2 : Hb a = none) (h3 : H a = some (.lst vs)) {Hb' H' : Hp} (g : Gr (WW false σ (Γ.set i (.pd (.lst ds)))) (upd Hb a (.lst vs)) H Hb' H') (E' : En K Hb' H' σ (Γ.set i (.pd (.lst ds)))) :
    Gr (WW false σ Γ) Hb H (cutA Hb' a) H' ∧ En K (cutA Hb' a) H' σ Γ := by
  have nf : ∀ {q : Addr} {Γ : List Sl}, ¬ WW false σ Γ q := fun z => by cases z.1
  have eb : Ex Hb (cutA Hb' a) := fun b o e => by
    have ne : b ≠ a := ne_of_none e h2
    rw [cutA_ne ne]
    exact g.b b o (by rw [upd_ne ne]; exact e)
  have G : Gr (WW false σ Γ) Hb H (cutA Hb' a) H' := ⟨eb, fun q o e _ => g.h q o e nf, g.al, fun b o e => by
      by_cases z : b = a
      · subst z; rw [cutA_same] at e; cases e
      · rw [cutA_ne z] at e; exact g.s b o e, fun b e _ => by
      by_cases z : b = a
      · subst z; rw [cutA_same, h2]
      · rw [cutA_ne z, g.f b e nf, upd_ne z]⟩
  refine ⟨G, ?_⟩
  have N : New Hb H (cutA Hb' a) H' := ww_new (Γ := Γ) (σ := σ) G
  exact E.new N
theorem DR.flat_any {Hb Hb' : Hp} {v : V} {d : D} (r : DR K Hb v d) (h : d.flat = true) : DR K Hb' v d := by
  cases r with
  | non => exact .non
  | bl b => exact .bl b
  | int b => exact .int b
  | str b => exact .str b
  | lst _ _ => cases h
  | tup _ _ => cases h
  | ins _ _ _ _ => cases h
  | dic _ _ _ _ => cases h
  | sc _ => cases h
theorem jr_borrow {i : Nat} {ds : List D} (h : Γ[i]? = some (.ow (.ml ds))) (hx : JR K false te (Γ.set i (.pd (.lst ds))) Φ) (hs : ∀ d, Φ d → d.flat = true) : JR K false te Γ Φ := fun σ Hb H E Q q => by
  obtain ⟨a, vs, h1, h3, h4, h2, h5, E2⟩ := E.freeze h
  refine hx σ _ H E2 Q fun v d Hb' H' p g E' r => ?_
  obtain ⟨G, E3⟩ := unfreeze E h h1 h2 h3 g E'
  exact q v d _ H' p G E3 (r.flat_any (hs d p))
theorem jt_borrow {i : Nat} {ds : List D} {Φ : Bool → Prop} (h : Γ[i]? = some (.ow (.ml ds))) (hx : JT K false tt (Γ.set i (.pd (.lst ds))) Φ) : JT K false tt Γ Φ := fun σ Hb H E Q q => by
  obtain ⟨a, vs, h1, h3, h4, h2, h5, E2⟩ := E.freeze h
  refine hx σ _ H E2 Q fun b Hb' H' p g E' => ?_
  obtain ⟨G, E3⟩ := unfreeze E h h1 h2 h3 g E'
  exact q b _ H' p G E3
end
section
variable {X : Cx} {kp : Nat} {Γ : List Sl} {G : Dn} {m : Bool} {e : Expr} {es : List Expr} {pos p : Pos} {Φ : D → Prop} {x : Str} {sts : List Stmt}
theorem xe_borrow (i : Nat) {ds : List D} (hx : XE X false e (Γ.set i (.pd (.lst ds))) Φ) (hs : ∀ d, Φ d → d.flat = true) (h : Γ[i]? = some (.ow (.ml ds)) := by rfl) : XE X false e Γ Φ := jr_borrow h hx hs
theorem xv_borrow (i : Nat) {ds : List D} {d : D} (hx : XV X e (Γ.set i (.pd (.lst ds))) d) (hs : d.flat = true := by rfl) (h : Γ[i]? = some (.ow (.ml ds)) := by rfl) : XV X e Γ d := jr_borrow h hx fun z q => by rw [q]; exact hs
theorem xt_borrow (i : Nat) {ds : List D} {Φ : Bool → Prop} (hx : XT X false e (Γ.set i (.pd (.lst ds))) Φ) (h : Γ[i]? = some (.ow (.ml ds)) := by rfl) : XT X false e Γ Φ := jt_borrow h hx
/-- an owned object's word: opened, told anew -/
theorem xs_case (i : Nat) {o : MO} {P : MO → Prop} (hP : ∀ (Hb : Hp) (u : HO), MR X.K Hb u o → ∃ o', P o' ∧ MR X.K Hb u o') (h : ∀ o', P o' → XSs X kp sts (Γ.set i (.ow o')) G) (hi : Γ[i]? = some (.ow o) := by rfl) : XSs X kp sts Γ G := fun σ Hb H E F a b c d => by
  obtain ⟨q, u, h1, h2, h3, h4⟩ := E.own i o hi
  obtain ⟨o', p1, p2⟩ := hP Hb u h4
  have E2 : En X.K Hb H σ (Γ.set i (.ow o')) := by
    have z := E.put hi h1 p2
    have e : upd H q u = H := by
      funext b
      by_cases y : b = q
      · subst y; rw [upd_same, h3]
      · rw [upd_ne y]
    rw [e] at z
    exact z
  have ow : ∀ r, Own σ (Γ.set i (.ow o')) r → Own σ Γ r := fun r y => own_set hi y
  have kk : ∀ Γ2 σ2 Hb2 H2, GS X.K kp σ (Γ.set i (.ow o')) Hb H σ2 Γ2 Hb2 H2 → GS X.K kp σ Γ Hb H σ2 Γ2 Hb2 H2 := fun Γ2 σ2 Hb2 H2 g => ⟨g.gr.wk ow, g.en, fun r z => (g.own r z).imp (ow r) id, g.kp⟩
  exact h o' p1 σ Hb H E2 F (fun Γ2 σ2 Hb2 H2 y k => a Γ2 σ2 Hb2 H2 y (kk _ _ _ _ k)) (fun Γ2 σ2 Hb2 H2 y k => b Γ2 σ2 Hb2 H2 y (kk _ _ _ _ k)) (fun Γ2 σ2 Hb2 H2 y k => c Γ2 σ2 Hb2 H2 y (kk _ _ _ _ k)) fun d2 v Γ2 σ2 Hb2 H2 y k => d d2 v Γ2 σ2 Hb2 H2 y (kk _ _ _ _ k)
theorem xs_fold (i : Nat) {o o' : MO} (hP : ∀ (Hb : Hp) (u : HO), MR X.K Hb u o → MR X.K Hb u o') (h : XSs X kp sts (Γ.set i (.ow o')) G) (hi : Γ[i]? = some (.ow o) := by rfl) : XSs X kp sts Γ G := xs_case i (P := fun z => z = o') (fun Hb u r => ⟨o', rfl, hP Hb u r⟩) (fun z e => by rw [e]; exact h) hi
end

/-! ### promises -/
abbrev Con := List D → (D → Prop) → Prop
/-- a pure def -/
def spP (K : PySem.W.Frag) (C : Con) : Sp := fun vs H Q _ => ∃ ds Φ Hb, C ds Φ ∧ Ex Hb H ∧ DRs K Hb vs ds ∧ ∀ v d Hb' H', Φ d → New Hb H Hb' H' → DR K Hb' v d → Q v H'
/-- a pure def that hands back a new object of its own -/
def spN (K : PySem.W.Frag) (C : List D → (MO → Prop) → Prop) : Sp := fun vs H Q _ => ∃ ds Φ Hb, C ds Φ ∧ Ex Hb H ∧ DRs K Hb vs ds ∧ ∀ p u o Hb' H', Φ o → H p = none → New Hb H Hb' H' → Hb' p = none → H' p = some u → MR K Hb' u o → Q (.ref p) H'
/-- a def that changes the object that its first argument is -/
def spE (K : PySem.W.Frag) (o : MO) (C : Con) : Sp := fun vs H Q _ => ∃ (a : Addr) (ws : List V) (ds : List D) (Φ : D → Prop) (Hb : Hp) (u : HO), vs = .ref a :: ws ∧ C ds Φ ∧ Ex Hb H ∧ Hb a = none ∧ H a = some u ∧ MR K Hb u o ∧ DRs K Hb ws ds ∧
  ∀ v d Hb' H' u', Φ d → Gr (fun b => b = a) Hb H Hb' H' → Hb' a = none → H' a = some u' → MR K Hb' u' o → DR K Hb' v d → Q v H'
structure Cal (P : Program) (w : World) (K : PySem.W.Frag) (mg : Str → Option Value) (base : Heap) (k : Nat) (x : Str) (ps : List Str) (sp : Sp) : Prop where
  ex : ∃ (f : Addr) (fd : FuncData), FnOk P w K mg base CX0 k f fd ps sp ∧ mg x = some (.ref f) ∧ PySem.W.keepIn K (.ref f) = true ∧ Binds K fd ps []
section
variable {X : Cx} {Γ : List Sl} {m : Bool} {e : Expr} {es : List Expr} {pos p : Pos} {Φ : D → Prop} {x : Str} {k : Nat} {ps : List Str}
theorem xe_call {C : Con} {Φa : List D → Prop} (c : Cal X.prog X.w X.K X.mg X.base k x ps (spP X.K C)) (hr : Room k X.A) (ha : XA X m (e :: es) Γ Φa) (hc : ∀ ds, Φa ds → C ds Φ) (hg : Gl X x := by rfl) (hdb : (x == ("__debug__" : Str)) = false := by decide) (he : starEach (e :: es) X.env = (false, eval e X.env) :: starEach es X.env := by rfl) (hpl : (backTo pos (starEach es X.env)).any (·.1) = false := by rfl) :
    XE X m (.Call (.Name x p) (e :: es) [] pos) Γ Φ := by
  obtain ⟨f, fd, F, h1, h2, h3⟩ := c.ex
  refine xe_of (pe_call F hr hg h1 h2 h3 .nil pass0 pa_wp hdb he hpl) fun σ Hb H E Q q => ha σ Hb H E _ fun vs ds Hb1 H1 p1 g1 E1 r1 => ?_
  refine ⟨ds, Φ, Hb1, hc ds p1, E1.ex, by rw [List.append_nil]; exact r1, fun v d Hb2 H2 p2 g2 r2 => q v d Hb2 H2 p2 (gwn g1 g2) (E1.new g2) r2⟩
theorem xv_call {C : Con} {ds : List D} {d : D} (c : Cal X.prog X.w X.K X.mg X.base k x ps (spP X.K C)) (hr : Room k X.A) (ha : XL X (e :: es) Γ ds) (hc : C ds fun z => z = d) (hg : Gl X x := by rfl) (hdb : (x == ("__debug__" : Str)) = false := by decide) (he : starEach (e :: es) X.env = (false, eval e X.env) :: starEach es X.env := by rfl) (hpl : (backTo pos (starEach es X.env)).any (·.1) = false := by rfl) :
    XV X (.Call (.Name x p) (e :: es) [] pos) Γ d := xe_call c hr ha (fun z q => by rw [q]; exact hc) hg hdb he hpl
theorem xn_call {C : List D → (MO → Prop) → Prop} {Φa : List D → Prop} {Φ : MO → Prop} (c : Cal X.prog X.w X.K X.mg X.base k x ps (spN X.K C)) (hr : Room k X.A) (ha : XA X m (e :: es) Γ Φa) (hc : ∀ ds, Φa ds → C ds Φ) (hg : Gl X x := by rfl) (hdb : (x == ("__debug__" : Str)) = false := by decide) (he : starEach (e :: es) X.env = (false, eval e X.env) :: starEach es X.env := by rfl) (hpl : (backTo pos (starEach es X.env)).any (·.1) = false := by rfl) :
    XN X m (.Call (.Name x p) (e :: es) [] pos) Γ Φ := by
  obtain ⟨f, fd, F, h1, h2, h3⟩ := c.ex
  refine xn_of (pe_call F hr hg h1 h2 h3 .nil pass0 pa_wp hdb he hpl) fun σ Hb H E Q q => ha σ Hb H E _ fun vs ds Hb1 H1 p1 g1 E1 r1 => ?_
  refine ⟨ds, Φ, Hb1, hc ds p1, E1.ex, by rw [List.append_nil]; exact r1, fun a u o Hb2 H2 p2 n2 g2 nb h2 r2 => q a u o Hb2 H2 p2 (new_none g1 n2) (gwn g1 g2) (E1.new g2) nb h2 r2⟩
/-- f(state, ..): state the owned object in slot i -/
theorem xe_callE (i : Nat) {y : Str} {py : Pos} {o : MO} {C : Con} {Φa : List D → Prop} (c : Cal X.prog X.w X.K X.mg X.base k x ps (spE X.K o C)) (hr : Room k X.A) (ha : XA X true es Γ Φa) (hc : ∀ ds, Φa ds → C ds Φ) (h : Γ[i]? = some (.ow o) := by rfl) (hN : X.N[i]? = some y := by rfl) (hv : Vis X.env.scope y := by first | exact Or.inl rfl | exact Or.inr (Or.inl rfl) | exact Or.inr (Or.inr rfl)) (hd : (y == ("__debug__" : Str)) = false := by decide)
    (hcd : (y == ("__classdict__" : Str)) = false := by decide) (hg : Gl X x := by rfl) (hdb : (x == ("__debug__" : Str)) = false := by decide) (he : starEach (.Name y py :: es) X.env = (false, eval (.Name y py) X.env) :: starEach es X.env := by rfl) (hpl : (backTo pos (starEach es X.env)).any (·.1) = false := by rfl) :
    XE X true (.Call (.Name x p) (.Name y py :: es) [] pos) Γ Φ := by
  obtain ⟨f, fd, F, h1, h2, h3⟩ := c.ex
  refine xe_of (pe_call F hr hg h1 h2 h3 .nil pass0 (pa_cons (pe_var hN hv hd hcd) pa_wp he) hdb he hpl) fun σ Hb H E Q q => ?_
  obtain ⟨a, u, k1, k2, k3, k4⟩ := E.own i o h
  refine ⟨.ref a, k1, ha σ Hb H E _ fun ws ds Hb1 H1 p1 g1 E1 r1 => ?_⟩
  obtain ⟨a', u1, e1, e2, e3, e4⟩ := E1.own i o h
  rw [k1] at e1
  cases e1
  refine ⟨a, ws, ds, Φ, Hb1, u1, by rw [List.append_nil], hc ds p1, E1.ex, e2, e3, e4, r1, fun v d Hb2 H2 u2 p2 g2 n2 h2 r2 rd => ?_⟩
  have g3 : Gr (WW true σ Γ) Hb1 H1 Hb2 H2 := g2.wk fun b z => ⟨rfl, i, o, h, by rw [z]; exact k1⟩
  have E2 : En X.K Hb2 H2 σ Γ := {
    ex := g2.s
    val := fun j z hj => by obtain ⟨v, z1, z2⟩ := E1.val j z hj; exact ⟨v, z1, z2.mono g2.b⟩
    own := fun j m hj => by
      obtain ⟨b, w, z1, z2, z3, z4⟩ := E1.own j m hj
      by_cases e : b = a
      · subst e
        have ij := E1.sep i j b o m h hj k1 z1
        subst ij
        rw [h] at hj
        cases hj
        exact ⟨b, u2, z1, n2, h2, r2⟩
      · exact ⟨b, w, z1, (g2.f b (by rw [z3]; simp) e).trans z2, g2.h b w z3 e, z4.mono g2.b⟩
    sep := E1.sep
    len := E1.len }
  exact q v d Hb2 H2 p2 (gww g1 g3) E2 rd
end

/-! ### defs -/
section
variable {P : Program} {w : World} {K : PySem.W.Frag} {mg : Str → Option Value} {base : Heap} {x qual : Str} {st : Stmt} {f : Addr} {fd : FuncData} {N ps : List Str} {k : Nat}
def stG (N : List Str) (gs : List Sl) : List Sl := gs ++ List.replicate (N.length - gs.length) .un
theorem en_start {H Hb : Hp} {vs : List V} {ds : List D} (e : Ex Hb H) (r : DRs K Hb vs ds) : En K Hb H (L2.start N vs) (stG N (ds.map .pd)) where
  ex := e
  val := fun i d h => by
    unfold stG at h
    by_cases hi : i < (ds.map Sl.pd).length
    · rw [List.getElem?_append_left hi, List.getElem?_map] at h
      cases hd : ds[i]? with
      | none => rw [hd] at h; cases h
      | some d' =>
        rw [hd] at h
        cases h
        obtain ⟨v, h1, h2⟩ := r.get hd
        refine ⟨v, ?_, h2⟩
        unfold L2.start
        rw [List.getElem?_append_left (by rw [List.length_map]; exact (List.getElem?_eq_some_iff.mp h1).1), List.getElem?_map, h1]
        rfl
    · rw [List.getElem?_append_right (by omega), List.getElem?_replicate] at h
      split at h <;> cases h
  own := fun i o h => by
    unfold stG at h
    by_cases hi : i < (ds.map Sl.pd).length
    · rw [List.getElem?_append_left hi, List.getElem?_map] at h
      cases hd : ds[i]? with
      | none => rw [hd] at h; cases h
      | some d' => rw [hd] at h; cases h
    · rw [List.getElem?_append_right (by omega), List.getElem?_replicate] at h
      split at h <;> cases h
  sep := fun i j a o o' h => by
    unfold stG at h
    by_cases hi : i < (ds.map Sl.pd).length
    · rw [List.getElem?_append_left hi, List.getElem?_map] at h
      cases hd : ds[i]? with
      | none => rw [hd] at h; cases h
      | some d' => rw [hd] at h; cases h
    · rw [List.getElem?_append_right (by omega), List.getElem?_replicate] at h
      split at h <;> cases h
  len := by
    unfold L2.start stG
    rw [List.length_append, List.length_append, List.length_map, List.length_map, List.length_replicate, List.length_replicate, r.len]
theorem no_own {vs : List V} {ds : List D} {a : Addr} : ¬ Own (L2.start N vs) (stG N (ds.map .pd)) a := fun ⟨i, o, h, _⟩ => by
  unfold stG at h
  by_cases hi : i < (ds.map Sl.pd).length
  · rw [List.getElem?_append_left hi, List.getElem?_map] at h
    cases hd : ds[i]? with
    | none => rw [hd] at h; cases h
    | some d' => rw [hd] at h; cases h
  · rw [List.getElem?_append_right (by omega), List.getElem?_replicate] at h
    split at h <;> cases h
abbrev cxF (P : Program) (w : World) (K : PySem.W.Frag) (mg : Str → Option Value) (base : Heap) (N : List Str) (qual : Str) (st : Stmt) (f : Addr) (cdv : Value) (A : Around) (outer : List Env) (s : Shared) (H : Hp) (E : XK) : Cx := (cxOf CX0 P w K mg base N qual (defScope st) f cdv A outer s H E).nox
/-- a pure def: its body, for arguments by the promise -/
theorem fn_pure {C : Con} (F : Fun K x qual st f fd) (S : FnScope N ps (defScope st)) (len : ∀ ds Φ, C ds Φ → ds.length = ps.length)
    (body : ∀ (cdv : Value) (A : Around) (outer : List Env) (s : Shared) (H : Hp) (E : XK), Room k (A.deeper (envOfC qual (defScope st) s.heap.objs.size f cdv)) → ∀ ds Φ, C ds Φ → XSs (cxF P w K mg base N qual st f cdv A outer s H E) 0 (defBody st) (stG N (ds.map .pd)) { nx := fun _ => Φ .non, rt := fun d _ => Φ d }) :
    FnOk P w K mg base CX0 (k + 1) f fd ps (spP K C) := by
  refine F.ok S (fun vs H Q E h => ?_) (fun cdv A outer s H vs Q E hr h => ?_)
  · obtain ⟨ds, Φ, Hb, h1, h2, h3, _⟩ := h
    rw [h3.len]
    exact len ds Φ h1
  · obtain ⟨ds, Φ, Hb, h1, h2, h3, q⟩ := h
    have nw : ∀ {Hb' H' : Hp}, Gr (Own (L2.start N vs) (stG N (ds.map .pd))) Hb H Hb' H' → New Hb H Hb' H' := fun g => g.wk fun a z => no_own z
    exact ⟨_, pss_wp, body cdv A outer s H E hr ds Φ h1 _ Hb H (en_start h2 h3) _ (fun _ _ Hb' H' z g => q .non .non Hb' H' z (nw g.gr) .non) (fun _ _ _ _ z => z.elim) (fun _ _ _ _ z => z.elim) fun d v _ _ Hb' H' z g r => q v d Hb' H' z (nw g.gr) r⟩
/-- one that hands back a new list of its own (told by the slot that holds it at the return) -/
theorem fn_new {C : List D → (MO → Prop) → Prop} (F : Fun K x qual st f fd) (S : FnScope N ps (defScope st)) (len : ∀ ds Φ, C ds Φ → ds.length = ps.length)
    (body : ∀ (cdv : Value) (A : Around) (outer : List Env) (s : Shared) (H : Hp) (E : XK), Room k (A.deeper (envOfC qual (defScope st) s.heap.objs.size f cdv)) → ∀ ds Φ, C ds Φ → ∃ t, PSs (cxF P w K mg base N qual st f cdv A outer s H E) (defBody st) t ∧ ∀ (σ : L2.St) (Hb H : Hp), En K Hb H σ (stG N (ds.map .pd)) → ∀ Q : VK, (∀ p u o Hb' H', Φ o → H p = none → New Hb H Hb' H' → Hb' p = none → H' p = some u → MR K Hb' u o → Q (.ref p) H') → t { nx := fun _ H' => Q .non H', rt := Q } σ H) :
    FnOk P w K mg base CX0 (k + 1) f fd ps (spN K C) := by
  refine F.ok S (fun vs H Q E h => ?_) (fun cdv A outer s H vs Q E hr h => ?_)
  · obtain ⟨ds, Φ, Hb, h1, h2, h3, _⟩ := h
    rw [h3.len]
    exact len ds Φ h1
  · obtain ⟨ds, Φ, Hb, h1, h2, h3, q⟩ := h
    obtain ⟨t, ht, b⟩ := body cdv A outer s H E hr ds Φ h1
    exact ⟨t, ht, b _ Hb H (en_start h2 h3) Q q⟩
theorem en_startE {H Hb : Hp} {a : Addr} {u : HO} {o : MO} {vs : List V} {ds : List D} (e : Ex Hb H) (h1 : Hb a = none) (h2 : H a = some u) (h3 : MR K Hb u o) (r : DRs K Hb vs ds) : En K Hb H (L2.start N (.ref a :: vs)) (stG N (.ow o :: ds.map .pd)) where
  ex := e
  val := fun i d h => by
    unfold stG at h
    cases i with
    | zero => cases h
    | succ i =>
      have h' : (ds.map Sl.pd ++ List.replicate (N.length - (Sl.ow o :: ds.map Sl.pd).length) Sl.un)[i]? = some (.pd d) := h
      by_cases hi : i < (ds.map Sl.pd).length
      · rw [List.getElem?_append_left hi, List.getElem?_map] at h'
        cases hd : ds[i]? with
        | none => rw [hd] at h'; cases h'
        | some d' =>
          rw [hd] at h'
          cases h'
          obtain ⟨v, k1, k2⟩ := r.get hd
          refine ⟨v, ?_, k2⟩
          show (vs.map some ++ List.replicate (N.length - (V.ref a :: vs).length) none)[i]? = _
          rw [List.getElem?_append_left (by rw [List.length_map]; exact (List.getElem?_eq_some_iff.mp k1).1), List.getElem?_map, k1]
          rfl
      · rw [List.getElem?_append_right (by omega), List.getElem?_replicate] at h'
        split at h' <;> cases h'
  own := fun i o' h => by
    unfold stG at h
    cases i with
    | zero =>
      cases h
      exact ⟨a, u, rfl, h1, h2, h3⟩
    | succ i =>
      have h' : (ds.map Sl.pd ++ List.replicate (N.length - (Sl.ow o :: ds.map Sl.pd).length) Sl.un)[i]? = some (.ow o') := h
      by_cases hi : i < (ds.map Sl.pd).length
      · rw [List.getElem?_append_left hi, List.getElem?_map] at h'
        cases hd : ds[i]? with
        | none => rw [hd] at h'; cases h'
        | some d' => rw [hd] at h'; cases h'
      · rw [List.getElem?_append_right (by omega), List.getElem?_replicate] at h'
        split at h' <;> cases h'
  sep := fun i j b o1 o2 k1 k2 _ _ => by
    have one : ∀ (i : Nat) (o' : MO), (stG N (.ow o :: ds.map .pd))[i]? = some (.ow o') → i = 0 := fun i o' h => by
      unfold stG at h
      cases i with
      | zero => rfl
      | succ i =>
        have h' : (ds.map Sl.pd ++ List.replicate (N.length - (Sl.ow o :: ds.map Sl.pd).length) Sl.un)[i]? = some (.ow o') := h
        by_cases hi : i < (ds.map Sl.pd).length
        · rw [List.getElem?_append_left hi, List.getElem?_map] at h'
          cases hd : ds[i]? with
          | none => rw [hd] at h'; cases h'
          | some d' => rw [hd] at h'; cases h'
        · rw [List.getElem?_append_right (by omega), List.getElem?_replicate] at h'
          split at h' <;> cases h'
    rw [one i o1 k1, one j o2 k2]
  len := by
    unfold L2.start stG
    rw [List.length_append, List.length_append, List.length_map, List.length_cons, List.length_cons, List.length_map, List.length_replicate, List.length_replicate, r.len]
theorem one_own {a b : Addr} {o : MO} {vs : List V} {ds : List D} (h : Own (L2.start N (.ref a :: vs)) (stG N (.ow o :: ds.map .pd)) b) : b = a := by
  obtain ⟨i, o', h1, h2⟩ := h
  unfold stG at h1
  cases i with
  | zero =>
    have z : some (some (V.ref a)) = some (some (V.ref b)) := h2
    injection z with z
    injection z with z
    injection z with z
    exact z.symm
  | succ i =>
    have h' : (ds.map Sl.pd ++ List.replicate (N.length - (Sl.ow o :: ds.map Sl.pd).length) Sl.un)[i]? = some (.ow o') := h1
    by_cases hi : i < (ds.map Sl.pd).length
    · rw [List.getElem?_append_left hi, List.getElem?_map] at h'
      cases hd : ds[i]? with
      | none => rw [hd] at h'; cases h'
      | some d' => rw [hd] at h'; cases h'
    · rw [List.getElem?_append_right (by omega), List.getElem?_replicate] at h'
      split at h' <;> cases h'
/-- a def whose first argument is an object that it changes; R: how the object may stand at the end -/
theorem fn_eff {o : MO} {C : Con} (R : MO → Prop) (hR : ∀ (Hb : Hp) (u : HO) (o' : MO), R o' → MR K Hb u o' → MR K Hb u o) (F : Fun K x qual st f fd) (S : FnScope N ps (defScope st)) (len : ∀ ds Φ, C ds Φ → ds.length + 1 = ps.length)
    (body : ∀ (cdv : Value) (A : Around) (outer : List Env) (s : Shared) (H : Hp) (E : XK), Room k (A.deeper (envOfC qual (defScope st) s.heap.objs.size f cdv)) → ∀ ds Φ, C ds Φ → XSs (cxF P w K mg base N qual st f cdv A outer s H E) 1 (defBody st) (stG N (.ow o :: ds.map .pd)) { nx := fun Γ' => Φ .non ∧ ∃ o', R o' ∧ Γ'[0]? = some (.ow o'), rt := fun d Γ' => Φ d ∧ ∃ o', R o' ∧ Γ'[0]? = some (.ow o') }) :
    FnOk P w K mg base CX0 (k + 1) f fd ps (spE K o C) := by
  refine F.ok S (fun vs H Q E h => ?_) (fun cdv A outer s H vs Q E hr h => ?_)
  · obtain ⟨a, ws, ds, Φ, Hb, u, rfl, h1, _, _, _, _, h3, _⟩ := h
    rw [List.length_cons, h3.len]
    exact len ds Φ h1
  · obtain ⟨a, ws, ds, Φ, Hb, u, rfl, h1, h2, h3, h4, h5, h6, q⟩ := h
    have fin : ∀ {Γ' : List Sl} {σ' : L2.St} {Hb' H' : Hp} {v : V} {d : D}, (Φ d ∧ ∃ o', R o' ∧ Γ'[0]? = some (.ow o')) → GS K 1 (L2.start N (.ref a :: ws)) (stG N (.ow o :: ds.map .pd)) Hb H σ' Γ' Hb' H' → DR K Hb' v d → Q v H' := fun {Γ' σ' Hb' H' v d} z g r => by
      obtain ⟨p1, o', p2, p3⟩ := z
      obtain ⟨b, u', e1, e2, e3, e4⟩ := g.en.own 0 o' p3
      have e0 := g.kp 0 (by decide)
      rw [e1] at e0
      have z : some (some (V.ref b)) = some (some (V.ref a)) := e0
      injection z with z
      injection z with z
      injection z with z
      subst z
      exact q v d Hb' H' u' p1 (g.gr.wk fun c y => one_own y) e2 e3 (hR Hb' u' o' p2 e4) r
    exact ⟨_, pss_wp, body cdv A outer s H E hr ds Φ h1 _ Hb H (en_startE h2 h3 h4 h5 h6) _ (fun _ _ Hb' H' z g => fin z g .non) (fun _ _ _ _ z => z.elim) (fun _ _ _ _ z => z.elim) fun d v _ _ Hb' H' z g r => fin z g r⟩
end
end DL

namespace DL
open PySem PySem.Spec PyProof.Rows L2 Evl

/-! ### in, for tuples of data -/
section
variable {X : Cx}
def rInU (K : PySem.W.Frag) (neg : Bool) : R2 := fun x y H Q => ∃ d ds, Dp K H x d ∧ Dp K H y (.tuple ds) ∧ SeqAt.shaped d = true ∧ SeqAt.shaped (.tuple ds) = true ∧ Q (.bl (if neg then !ds.any (fun z => PyData.eqv z d) else ds.any fun z => PyData.eqv z d)) H
theorem room_inU {A : Around} {ds : List PyData} {d : PyData} (sd : SeqAt.shaped d = true) (hu : A.units + 65 < cLine) : A.units + 1 + min (PyData.depthAll ds) d.depth < cLine := by
  have := SeqAt.depth_of_shaped sd
  omega
theorem op_inU (hu : X.A.units + 65 < cLine) : OpR X (compareOp .In) (rInU X.K false) := by
  intro pins s σ H x y v u Q I rx ry h
  obtain ⟨d, ds, hd, he, sd, se, q⟩ := h
  obtain ⟨as, r1⟩ := Dp.reads I d x v hd rx
  obtain ⟨bs, r2⟩ := Dp.reads I (.tuple ds) y u he ry
  exact SeqAt.in_tuple_reads r2 r1 (SeqAt.canLay_of_shaped se) (SeqAt.canLay_of_shaped sd) (room_inU sd hu) ⟨.bl _, H, I, rfl, q⟩
theorem op_notInU (hu : X.A.units + 65 < cLine) : OpR X (compareOp .NotIn) (rInU X.K true) := by
  intro pins s σ H x y v u Q I rx ry h
  obtain ⟨d, ds, hd, he, sd, se, q⟩ := h
  obtain ⟨as, r1⟩ := Dp.reads I d x v hd rx
  obtain ⟨bs, r2⟩ := Dp.reads I (.tuple ds) y u he ry
  exact SeqAt.notIn_tuple_reads r2 r1 (SeqAt.canLay_of_shaped se) (SeqAt.canLay_of_shaped sd) (room_inU sd hu) ⟨.bl _, H, I, rfl, q⟩
theorem v_inU {K : PySem.W.Frag} {α : Type} [DecidableEq α] {f : α → D} {n : Nat} [h : Enc f n] {x : α} {l : List α} (hn : n ≤ 63 := by decide) : RV2 K (rInU K false) (f x) (tT f l) (.bl (decide (x ∈ l))) := by
  rw [← any_map (f := f) l]
  exact rv_scal fun u w Hb H ex h1 h2 => ⟨.bl _, .bl _, fun Q q => ⟨(f x).py, pyL (l.map f), (h1.mono ex).dp (h.ok x), (h2.mono ex).dp (n := n + 1) (okL_map h.ok l), ok_shaped (h.ok x) (by omega), ok_shaped (d := tT f l) (n := n + 1) (okL_map h.ok l) (by omega), q⟩⟩
theorem v_niU {K : PySem.W.Frag} {α : Type} [DecidableEq α] {f : α → D} {n : Nat} [h : Enc f n] {x : α} {l : List α} (hn : n ≤ 63 := by decide) : RV2 K (rInU K true) (f x) (tT f l) (.bl (!decide (x ∈ l))) := by
  rw [← any_map (f := f) l]
  exact rv_scal fun u w Hb H ex h1 h2 => ⟨.bl _, .bl _, fun Q q => ⟨(f x).py, pyL (l.map f), (h1.mono ex).dp (h.ok x), (h2.mono ex).dp (n := n + 1) (okL_map h.ok l), ok_shaped (h.ok x) (by omega), ok_shaped (d := tT f l) (n := n + 1) (okL_map h.ok l) (by omega), q⟩⟩
end

/-! ### sorted -/
class Alk {α : Type} (f : α → D) : Prop where
  al : ∀ x y, PySem.W.alike (f x).py (f y).py = true
instance alkI : Alk D.int := ⟨fun _ _ => by simp [D.py, PySem.W.alike]⟩
instance alkB : Alk D.bl := ⟨fun _ _ => by simp [D.py, PySem.W.alike]⟩
instance alkS : Alk D.str := ⟨fun _ _ => by simp [D.py, PySem.W.alike]⟩
theorem alk_all {α : Type} {f : α → D} (h : ∀ x y, PySem.W.alike (f x).py (f y).py = true) : ∀ l m : List α, PySem.W.alikeAll (pyL (l.map f)) (pyL (m.map f)) = true
  | [], [] => by simp [pyL, PySem.W.alikeAll]
  | [], _ :: _ => by simp [pyL, PySem.W.alikeAll]
  | _ :: _, [] => by simp [pyL, PySem.W.alikeAll]
  | x :: l, y :: m => by
    show PySem.W.alikeAll ((f x).py :: pyL (l.map f)) ((f y).py :: pyL (m.map f)) = true
    rw [PySem.W.alikeAll, h x y, alk_all h l m]
    rfl
instance alkT {α : Type} {f : α → D} [h : Alk f] : Alk (tT f) := ⟨fun l m => by
  show PySem.W.alike (.tuple (pyL (l.map f))) (.tuple (pyL (m.map f))) = true
  rw [PySem.W.alike]
  exact alk_all h.al l m⟩
instance alkL {α : Type} {f : α → D} [h : Alk f] : Alk (lT f) := ⟨fun l m => by
  show PySem.W.alike (.list (pyL (l.map f))) (.list (pyL (m.map f))) = true
  rw [PySem.W.alike]
  exact alk_all h.al l m⟩
instance alkP {α β : Type} {f : α → D} {g : β → D} [h : Alk f] [h2 : Alk g] : Alk (pT f g) := ⟨fun p q => by
  show PySem.W.alike (.tuple [(f p.1).py, (g p.2).py]) (.tuple [(f q.1).py, (g q.2).py]) = true
  rw [PySem.W.alike, PySem.W.alikeAll, PySem.W.alikeAll, h.al, h2.al]
  simp [PySem.W.alikeAll]⟩
/-- the order of data, as Python has it -/
def leD {α : Type} (f : α → D) : α → α → Bool := PySem.W.dataLe false fun x => (f x).py
def sortD {α : Type} (f : α → D) (xs : List α) : List α := xs.mergeSort (leD f)
theorem leD_int : leD D.int = fun a b => decide (a ≤ b) := PySem.W.dataLe_int id
section
variable {X : Cx}
/-- sorted(xs): the items with their values -/
def rSortD {α : Type} (K : PySem.W.Frag) (f : α → D) : List V → Hp → VK → Prop := fun vs H Q => ∃ (a : Addr) (zs : List (α × V)) (n : Nat), vs = [.ref a] ∧ SqL K H a (zs.map (·.2)) ∧ (∀ z ∈ zs, Dp K H z.2 (f z.1).py ∧ (f z.1).py.depth ≤ n) ∧ n ≤ 60 ∧ PySem.W.AllAlike (zs.map fun z => (f z.1).py) ∧ PySem.W.Sortable (zs.map fun z => (f z.1).py) ∧
  ∀ p, H p = none → Q (.ref p) (upd H p (.lst ((zs.mergeSort (PySem.W.dataLe false fun z => (f z.1).py)).map (·.2))))
theorem each_of {H : Hp} {pins : List (Addr × Obj)} {s : Shared} {σ : L2.St} {α : Type} {f : α → D} (I : Inv X pins σ H s) : ∀ {zs : List (α × V)} {its : List Value}, Vals (zs.map (·.2)) its → (∀ z ∈ zs, Dp X.K H z.2 (f z.1).py) → PySem.W.EachIs (fun u z => RelV z.2 u) its zs ∧ PySem.W.EachIs (fun u z => ∃ as, Reads s.heap u (f z.1).py as) its zs
  | [], _, .nil, _ => ⟨.nil, .nil⟩
  | z :: zs, _, .cons r t, h => by
    obtain ⟨k1, k2⟩ := each_of I (zs := zs) t fun y hy => h y (List.mem_cons_of_mem _ hy)
    exact ⟨.cons r k1, .cons (Dp.reads I _ _ _ (h z (List.mem_cons_self ..)) r) k2⟩
theorem vals_each {α : Type} : ∀ {zs : List (α × V)} {out : List Value}, PySem.W.EachIs (fun u (z : α × V) => RelV z.2 u) out zs → Vals (zs.map (·.2)) out
  | _, _, .nil => .nil
  | _, _, .cons r t => .cons r (vals_each t)
theorem cr_sortD {α : Type} {f : α → D} (hu : X.A.units + 65 < cLine) : CallR X (.builtin "sorted") (rSortD X.K f) := by
  intro pins s σ H vs us Q I r h
  obtain ⟨a, zs, n, rfl, hs, hd, hn, hal, hso, q⟩ := h
  obtain ⟨its, rv, hl, hz⟩ := I.list hs
  rw [Vals.ref1 r]
  obtain ⟨e1, e2⟩ := each_of I rv fun z hz => (hd z hz).1
  refine PySem.W.sorted_data (enc := fun z : α × V => (f z.1).py) hl.isList e1 e2 hal hso (by rw [List.length_map] at hz; exact hz) (fun b hb => ?_) fun out hlen eo => ?_
  · have := (hd b hb).2
    omega
  · obtain ⟨ep, he'⟩ := PyProof.Rows.sortedAll_at s.heap its out.toArray
    have hlen' : ((zs.mergeSort (PySem.W.dataLe false fun z => (f z.1).py)).map (·.2)).length ≤ sizeLine := by
      rw [List.length_map, List.length_mergeSort]
      rw [List.length_map] at hz
      exact hz
    exact ⟨.ref _, upd H (s.heap.objs.size + 1) (.lst ((zs.mergeSort (PySem.W.dataLe false fun z => (f z.1).py)).map (·.2))), I.laid (t' := s.toks) (fun _ _ => PyProof.Rows.sortedAll_old) (Nat.le_succ _) ⟨hlen', out, ep, vals_each eo, he'⟩, rfl, q _ (I.hok.fresh (Nat.le_succ _))⟩
theorem zip_snd {K : PySem.W.Frag} {Hb : Hp} {α : Type} {f : α → D} : ∀ {xs : List α} {vs : List V}, DRs K Hb vs (xs.map f) → (xs.zip vs).map (·.2) = vs ∧ (xs.zip vs).map (·.1) = xs ∧ ∀ z ∈ xs.zip vs, DR K Hb z.2 (f z.1)
  | [], _, h => by cases h; exact ⟨rfl, rfl, fun z hz => (List.not_mem_nil hz).elim⟩
  | x :: xs, _, h => by
    cases h with
    | cons a b =>
      obtain ⟨h1, h2, h3⟩ := zip_snd b
      refine ⟨by simp only [List.zip_cons_cons, List.map_cons]; rw [h1], by simp only [List.zip_cons_cons, List.map_cons]; rw [h2], fun z hz => ?_⟩
      rcases List.mem_cons.mp hz with e | e
      · subst e; exact a
      · exact h3 z e
theorem drs_zip {K : PySem.W.Frag} {Hb : Hp} {α : Type} {f : α → D} : ∀ {zs : List (α × V)}, (∀ z ∈ zs, DR K Hb z.2 (f z.1)) → DRs K Hb (zs.map (·.2)) ((zs.map (·.1)).map f)
  | [], _ => .nil
  | z :: zs, h => .cons (h z (List.mem_cons_self ..)) (drs_zip fun y hy => h y (List.mem_cons_of_mem _ hy))
theorem l_sorted {K : PySem.W.Frag} {α : Type} [DecidableEq α] {f : α → D} {n : Nat} [he : Enc f n] [ha : Alk f] {xs : List α} (hso : PySem.W.Sortable (xs.map fun x => (f x).py)) (hn : n ≤ 60 := by decide) : RLN K (rSortD K f) [lT f xs] fun z => z = .ml ((sortD f xs).map f) := fun vs Hb H ex h1 Q q => by
  obtain ⟨v, rfl, r⟩ := h1.one_inv
  cases r with
  | @lst a ws _ hb k =>
    obtain ⟨e1, e2, e3⟩ := zip_snd k
    have em : (xs.zip ws).map (fun z => (f z.1).py) = xs.map fun x => (f x).py := by
      rw [← e2, List.map_map, e2]
      rfl
    refine ⟨a, xs.zip ws, n, rfl, by rw [e1]; exact SqL.of (ex _ _ hb), fun z hz => ⟨((e3 z hz).mono ex).dp (he.ok z.1), (ok_depth (he.ok z.1)).2⟩, hn, ?_, by rw [em]; exact hso, fun p hp => ?_⟩
    · rw [em]
      exact PySem.W.AllAlike.of ha.al
    · have es : ((xs.zip ws).mergeSort (PySem.W.dataLe false fun z => (f z.1).py)).map (·.1) = sortD f xs := by
        have z := PySem.W.sort_maps (r := PySem.W.dataLe false fun z : α × V => (f z.1).py) (s := leD f) (fun z : α × V => z.1) (l := xs.zip ws) (fun _ _ _ _ => rfl)
        rw [e2] at z
        exact z
      refine q p _ _ Hb _ rfl hp (New.side ex hp) (fresh_back ex hp) upd_same ⟨_, rfl, ?_⟩
      rw [← es]
      exact drs_zip fun z hz => e3 z (List.mem_mergeSort.mp hz)
theorem so_int {xs : List Int} : PySem.W.Sortable (xs.map fun x => (D.int x).py) := PySem.W.Sortable.others (enc := fun x => (D.int x).py) fun b => ⟨fun h => (nomatch h), fun _ h => (nomatch h)⟩
theorem so_tup {α : Type} {f : α → D} {xs : List (List α)} (h : ∀ x ∈ xs, x ≠ []) : PySem.W.Sortable (xs.map fun x => (tT f x).py) := .inl fun d hd => by
  obtain ⟨b, hb, rfl⟩ := List.mem_map.mp hd
  cases b with
  | nil => exact absurd rfl (h _ hb)
  | cons y ys => exact ⟨_, _, rfl⟩
theorem so_pair {α β : Type} {f : α → D} {g : β → D} {xs : List (α × β)} : PySem.W.Sortable (xs.map fun x => (pT f g x).py) := .inl fun d hd => by
  obtain ⟨b, hb, rfl⟩ := List.mem_map.mp hd
  exact ⟨_, _, rfl⟩
/-! ### set(tuple of ints), sorted -/
def rSetTI (w : World) (K : PySem.W.Frag) : List V → Hp → VK → Prop := fun xs H Q => ∃ (a : Addr) (ns : List Int), xs = [.ref a] ∧ SqT K H a (ns.map V.int) ∧ ns.length ≤ 60 ∧ ∀ p c, c ≤ ns.length → H p = none → Q (.ref p) (upd H p (SetO w p (fun j => decide (j ∈ ns)) c))
theorem cr_setTI (hc : X.calm = true) : CallR X (.type "set") (rSetTI X.w X.K) := by
  intro pins s σ H xs us Q I r h
  obtain ⟨a, ns, rfl, hs, h60, q⟩ := h
  obtain ⟨its, rv, ht, hz⟩ := I.tuple hs
  rw [Vals.ref1 r]
  have hi := rv.ints
  refine call_set_tupI ns (I.ok.hd hc) (show s.heap.IsTuple a its.toArray from ht) (by simpa using hi) (by unfold scanBound; omega) fun h' tk c R hcn hk => ?_
  exact ⟨.ref _, upd H s.heap.objs.size (SetO X.w s.heap.objs.size (fun j => decide (j ∈ ns)) c), I.laid (t' := tk) hk (Nat.le_refl _) (setO_new R), rfl, q _ c hcn (I.hok.fresh (Nat.le_refl _))⟩
end
/-- what sorted(set(ns)) is: ascending, each once -/
def insI (x : Int) : List Int → List Int
  | [] => [x]
  | y :: l => if x < y then x :: y :: l else if x = y then y :: l else y :: insI x l
def setI : List Int → List Int
  | [] => []
  | x :: l => insI x (setI l)
theorem mem_insI {x y : Int} : ∀ {l : List Int}, y ∈ insI x l ↔ y = x ∨ y ∈ l
  | [] => by simp [insI]
  | z :: l => by
    unfold insI
    by_cases h : x < z
    · rw [if_pos h]; simp
    · rw [if_neg h]
      by_cases h2 : x = z
      · rw [if_pos h2]; subst h2; simp
      · rw [if_neg h2]
        simp only [List.mem_cons, mem_insI (l := l)]
        constructor
        · rintro (h | h | h) <;> simp [h]
        · rintro (h | h | h) <;> simp [h]
theorem mem_setI {y : Int} : ∀ {l : List Int}, y ∈ setI l ↔ y ∈ l
  | [] => Iff.rfl
  | x :: l => by
    show y ∈ insI x (setI l) ↔ _
    rw [mem_insI, mem_setI, List.mem_cons]
theorem insI_asc {x : Int} : ∀ {l : List Int}, l.Pairwise (· < ·) → (insI x l).Pairwise (· < ·)
  | [], _ => List.pairwise_singleton _ _
  | z :: l, h => by
    have h1 := (List.pairwise_cons.mp h)
    unfold insI
    by_cases e : x < z
    · rw [if_pos e]
      exact List.pairwise_cons.mpr ⟨fun y hy => (List.mem_cons.mp hy).elim (fun q => by omega) fun q => by have := h1.1 y q; omega, h⟩
    · rw [if_neg e]
      by_cases e2 : x = z
      · rw [if_pos e2]; exact h
      · rw [if_neg e2]
        exact List.pairwise_cons.mpr ⟨fun y hy => (mem_insI.mp hy).elim (fun q => by omega) (h1.1 y), insI_asc h1.2⟩
theorem setI_asc : ∀ l : List Int, (setI l).Pairwise (· < ·)
  | [] => List.Pairwise.nil
  | x :: l => insI_asc (setI_asc l)
theorem asc_unique : ∀ {l m : List Int}, l.Pairwise (· < ·) → m.Pairwise (· < ·) → (∀ x, x ∈ l ↔ x ∈ m) → l = m
  | [], [], _, _, _ => rfl
  | [], y :: m, _, _, h => absurd ((h y).mpr (List.mem_cons_self ..)) (List.not_mem_nil)
  | x :: l, [], _, _, h => absurd ((h x).mp (List.mem_cons_self ..)) (List.not_mem_nil)
  | x :: l, y :: m, hl, hm, h => by
    have h1 := List.pairwise_cons.mp hl
    have h2 := List.pairwise_cons.mp hm
    have e : x = y := by
      rcases List.mem_cons.mp ((h x).mp (List.mem_cons_self ..)) with e | e
      · exact e
      · rcases List.mem_cons.mp ((h y).mpr (List.mem_cons_self ..)) with e' | e'
        · exact e'.symm
        · have a := h2.1 x e
          have b := h1.1 y e'
          omega
    subst e
    rw [asc_unique h1.2 h2.2 fun z => ?_]
    constructor
    · intro hz
      rcases List.mem_cons.mp ((h z).mp (List.mem_cons_of_mem _ hz)) with e | e
      · subst e
        have := h1.1 z hz
        omega
      · exact e
    · intro hz
      rcases List.mem_cons.mp ((h z).mpr (List.mem_cons_of_mem _ hz)) with e | e
      · subst e
        have := h2.1 z hz
        omega
      · exact e
theorem setI_len : ∀ l : List Int, (setI l).length ≤ l.length
  | [] => Nat.le_refl _
  | x :: l => by
    have h1 : ∀ m : List Int, (insI x m).length ≤ m.length + 1 := fun m => by
      induction m with
      | nil => exact Nat.le_refl _
      | cons y m ih =>
        unfold insI
        by_cases e : x < y
        · rw [if_pos e]; exact Nat.le_refl _
        · rw [if_neg e]
          by_cases e2 : x = y
          · rw [if_pos e2]; exact Nat.le_succ _
          · rw [if_neg e2]; exact Nat.succ_le_succ ih
    exact Nat.le_trans (h1 (setI l)) (Nat.succ_le_succ (setI_len l))
section
variable {X : Cx} {Γ : List Sl} {e : Expr} {pos p p1 pos1 : Pos}
/-- sorted(set(t)), t a tuple of ints -/
theorem xo_sortedSetT {ns : List Int} (h : XV X e Γ (tT D.int ns)) (hz : ns.length ≤ 60) (hm : X.mg "sorted" = none) (hm1 : X.mg "set" = none) (hc : X.calm = true := by rfl) (hg : Gl X "sorted" := by rfl) (hg1 : Gl X "set" := by rfl)
    (he : starEach (e :: []) X.env = (false, eval e X.env) :: starEach [] X.env := by rfl) (hpl : (backTo pos1 (starEach [] X.env)).any (·.1) = false := by rfl) (he2 : starEach (.Call (.Name "set" p1) [e] [] pos1 :: []) X.env = (false, eval (.Call (.Name "set" p1) [e] [] pos1) X.env) :: starEach [] X.env := by rfl) (hpl2 : (backTo pos (starEach [] X.env)).any (·.1) = false := by rfl) :
    XO X (.Call (.Name "sorted" p) [.Call (.Name "set" p1) [e] [] pos1] [] pos) Γ (.ml ((setI ns).map D.int)) := by
  have hs : PE X (.Call (.Name "set" p1) [e] [] pos1) (tCB (rSetTI X.w X.K) (tCons (wpE X e) tNil)) := pe_callTy (cr_setTI hc) hg1 hm1 PyProof.Rows.boot_set (pa_cons pe_wp pa_nil he) (by decide) (by decide) he hpl
  refine xn_of (pe_callB (cr_sortedSet hc) hg hm (by decide +kernel) (pa_cons hs pa_nil he2) (by decide) (by decide) he2 hpl2) fun σ Hb H E Q q => h σ Hb H E _ fun v d Hb1 H1 p1 g1 E1 r1 => ?_
  subst p1
  cases r1 with
  | @tup a vs _ ha k =>
    have e1 := k.ints
    subst e1
    refine ⟨a, ns, rfl, ex_t E1.ex ha, hz, fun p c hcn hp => ⟨p, _, c, rfl, upd_same, by omega, fun ms p2 hs hmem _ hp2 => ?_⟩⟩
    have em : ms = setI ns := asc_unique hs (setI_asc ns) fun x => by
      rw [hmem x, mem_setI]
      exact decide_eq_true_iff
    subst em
    have n1 := New.side (o := SetO X.w p (fun j => decide (j ∈ ns)) c) E1.ex hp
    have E2 := E1.new n1
    have n2 := New.side (o := .lst ((setI ns).map V.int)) E2.ex hp2
    exact q p2 _ _ Hb1 _ rfl (new_none g1 (new_none n1 hp2)) (gwn (gwn g1 n1) n2) (E2.new n2) (fresh_back E2.ex hp2) upd_same ⟨_, rfl, drs_ints _⟩
end

/-! ### typed forms in short -/
theorem atI_getD {α : Type} {l : List α} {i : Int} {d : α} (h0 : 0 ≤ i) (h : i < l.length) : atI l i = some (l.getD i.toNat d) := by
  obtain ⟨n, rfl⟩ : ∃ n : Nat, i = n := ⟨i.toNat, by omega⟩
  have hn : n < l.length := by omega
  refine atI_nat ?_
  rw [List.getElem?_eq_getElem hn]
  show _ = some (l.getD n d)
  rw [List.getD_eq_getElem?_getD, List.getElem?_eq_getElem hn]
  rfl
/-- the least, the greatest of ints -/
def lmin : List Int → Int
  | [] => 0
  | [x] => x
  | x :: y :: l => if lmin (y :: l) < x then lmin (y :: l) else x
def lmax : List Int → Int
  | [] => 0
  | [x] => x
  | x :: y :: l => if x < lmax (y :: l) then lmax (y :: l) else x
theorem lmin_ok : ∀ {l : List Int}, l ≠ [] → lmin l ∈ l ∧ ∀ y ∈ l, lmin l ≤ y
  | [x], _ => ⟨List.mem_cons_self .., fun y hy => by rw [List.mem_singleton.mp hy]; exact Int.le_refl _⟩
  | x :: y :: l, _ => by
    obtain ⟨h1, h2⟩ := lmin_ok (l := y :: l) (by simp)
    unfold lmin
    by_cases e : lmin (y :: l) < x
    · rw [if_pos e]
      exact ⟨List.mem_cons_of_mem _ h1, fun z hz => (List.mem_cons.mp hz).elim (fun q => by omega) (h2 z)⟩
    · rw [if_neg e]
      exact ⟨List.mem_cons_self .., fun z hz => (List.mem_cons.mp hz).elim (fun q => by omega) fun q => by have := h2 z q; omega⟩
theorem lmax_ok : ∀ {l : List Int}, l ≠ [] → lmax l ∈ l ∧ ∀ y ∈ l, y ≤ lmax l
  | [x], _ => ⟨List.mem_cons_self .., fun y hy => by rw [List.mem_singleton.mp hy]; exact Int.le_refl _⟩
  | x :: y :: l, _ => by
    obtain ⟨h1, h2⟩ := lmax_ok (l := y :: l) (by simp)
    unfold lmax
    by_cases e : x < lmax (y :: l)
    · rw [if_pos e]
      exact ⟨List.mem_cons_of_mem _ h1, fun z hz => (List.mem_cons.mp hz).elim (fun q => by omega) (h2 z)⟩
    · rw [if_neg e]
      exact ⟨List.mem_cons_self .., fun z hz => (List.mem_cons.mp hz).elim (fun q => by omega) fun q => by have := h2 z q; omega⟩
section
variable {X : Cx} {Γ : List Sl} {m : Bool} {a b c e tg : Expr} {pos p : Pos} {α β : Type}
theorem xv_catT {f : α → D} {l l' : List α} (ha : XV X a Γ (tT f l)) (hb : XV X b Γ (tT f l')) (hz : l.length + l'.length ≤ 100000) : XV X (.BinOp a .Add b pos) Γ (tT f (l ++ l')) := by
  have z := xv_bin (pos := pos) op_catA (v_catT (K := X.K) (ds := l.map f) (es := l'.map f) (by rw [List.length_map, List.length_map]; exact hz)) ha hb
  rw [← List.map_append] at z
  exact z
theorem xo_catL {f : α → D} {l l' : List α} (ha : XV X a Γ (lT f l)) (hb : XV X b Γ (lT f l')) (hz : l.length + l'.length ≤ 100000) : XO X (.BinOp a .Add b pos) Γ (.ml ((l ++ l').map f)) := xn_of (pe_op op_cat pe_wp pe_wp) (jn_bin ha (fun _ _ => hb) fun d d' p q => by
  subst p q
  have z := v_catL (K := X.K) (ds := l.map f) (es := l'.map f) (by rw [List.length_map, List.length_map]; exact hz)
  rw [← List.map_append] at z
  exact z)
theorem xv_lenL {ds : List D} (h : XV X a Γ (.lst ds)) (hm : X.mg "len" = none) (hg : Gl X "len" := by rfl) (hs : starEach (a :: []) X.env = (false, eval a X.env) :: starEach [] X.env := by rfl) (hpl : (backTo pos (starEach [] X.env)).any (·.1) = false := by rfl) : XV X (.Call (.Name "len" p) [a] [] pos) Γ (.int ds.length) := xe_callB call_len_seq hm PySem.boot_len (xl_cons h xa_nil hs) (fun _ z => by rw [z]; exact l_lenL) hg (by decide) (by decide) hs hpl
theorem xv_lenT {ds : List D} (h : XV X a Γ (.tup ds)) (hm : X.mg "len" = none) (hg : Gl X "len" := by rfl) (hs : starEach (a :: []) X.env = (false, eval a X.env) :: starEach [] X.env := by rfl) (hpl : (backTo pos (starEach [] X.env)).any (·.1) = false := by rfl) : XV X (.Call (.Name "len" p) [a] [] pos) Γ (.int ds.length) := xe_callB call_len_seq hm PySem.boot_len (xl_cons h xa_nil hs) (fun _ z => by rw [z]; exact l_lenT) hg (by decide) (by decide) hs hpl
theorem xv_lenLT {f : α → D} {l : List α} (h : XV X a Γ (lT f l)) (hm : X.mg "len" = none) (hg : Gl X "len" := by rfl) (hs : starEach (a :: []) X.env = (false, eval a X.env) :: starEach [] X.env := by rfl) (hpl : (backTo pos (starEach [] X.env)).any (·.1) = false := by rfl) : XV X (.Call (.Name "len" p) [a] [] pos) Γ (.int l.length) := by
  have z := xv_lenL (pos := pos) (p := p) h hm hg hs hpl
  rw [List.length_map] at z
  exact z
theorem xv_lenTT {f : α → D} {l : List α} (h : XV X a Γ (tT f l)) (hm : X.mg "len" = none) (hg : Gl X "len" := by rfl) (hs : starEach (a :: []) X.env = (false, eval a X.env) :: starEach [] X.env := by rfl) (hpl : (backTo pos (starEach [] X.env)).any (·.1) = false := by rfl) : XV X (.Call (.Name "len" p) [a] [] pos) Γ (.int l.length) := by
  have z := xv_lenT (pos := pos) (p := p) h hm hg hs hpl
  rw [List.length_map] at z
  exact z
theorem xv_tupleL {f : α → D} {l : List α} (h : XV X a Γ (lT f l)) (hm : X.mg "tuple" = none) (hg : Gl X "tuple" := by rfl) (hs : starEach (a :: []) X.env = (false, eval a X.env) :: starEach [] X.env := by rfl) (hpl : (backTo pos (starEach [] X.env)).any (·.1) = false := by rfl) : XV X (.Call (.Name "tuple" p) [a] [] pos) Γ (tT f l) := xe_callT call_tuple_of hm (by decide +kernel) (xl_cons h xa_nil hs) (fun _ z => by rw [z]; exact l_tupleL) hg (by decide) (by decide) hs hpl
theorem xv_tupleT {f : α → D} {l : List α} (h : XV X a Γ (tT f l)) (hm : X.mg "tuple" = none) (hg : Gl X "tuple" := by rfl) (hs : starEach (a :: []) X.env = (false, eval a X.env) :: starEach [] X.env := by rfl) (hpl : (backTo pos (starEach [] X.env)).any (·.1) = false := by rfl) : XV X (.Call (.Name "tuple" p) [a] [] pos) Γ (tT f l) := xe_callT call_tuple_of hm (by decide +kernel) (xl_cons h xa_nil hs) (fun _ z => by rw [z]; exact l_tupleT) hg (by decide) (by decide) hs hpl
theorem xo_listL {f : α → D} {l : List α} (h : XV X a Γ (lT f l)) (hm : X.mg "list" = none) (hg : Gl X "list" := by rfl) (hs : starEach (a :: []) X.env = (false, eval a X.env) :: starEach [] X.env := by rfl) (hpl : (backTo pos (starEach [] X.env)).any (·.1) = false := by rfl) : XO X (.Call (.Name "list" p) [a] [] pos) Γ (.ml (l.map f)) := xn_callT call_list_of hm (by decide +kernel) (xl_cons h xa_nil hs) (fun _ z => by rw [z]; exact l_listL) hg (by decide) (by decide) hs hpl
theorem xo_listT {f : α → D} {l : List α} (h : XV X a Γ (tT f l)) (hm : X.mg "list" = none) (hg : Gl X "list" := by rfl) (hs : starEach (a :: []) X.env = (false, eval a X.env) :: starEach [] X.env := by rfl) (hpl : (backTo pos (starEach [] X.env)).any (·.1) = false := by rfl) : XO X (.Call (.Name "list" p) [a] [] pos) Γ (.ml (l.map f)) := xn_callT call_list_of hm (by decide +kernel) (xl_cons h xa_nil hs) (fun _ z => by rw [z]; exact l_listT) hg (by decide) (by decide) hs hpl
theorem xv_all {l : List Bool} (h : XV X a Γ (lT D.bl l)) (hm : X.mg "all" = none) (hc : X.calm = true := by rfl) (hg : Gl X "all" := by rfl) (hs : starEach (a :: []) X.env = (false, eval a X.env) :: starEach [] X.env := by rfl) (hpl : (backTo pos (starEach [] X.env)).any (·.1) = false := by rfl) : XV X (.Call (.Name "all" p) [a] [] pos) Γ (.bl (l.all id)) := xe_callB (cr_all hc) hm (by decide +kernel) (xl_cons h xa_nil hs) (fun _ z => by rw [z]; exact l_all) hg (by decide) (by decide) hs hpl
theorem xv_any {l : List Bool} (h : XV X a Γ (lT D.bl l)) (hm : X.mg "any" = none) (hc : X.calm = true := by rfl) (hg : Gl X "any" := by rfl) (hs : starEach (a :: []) X.env = (false, eval a X.env) :: starEach [] X.env := by rfl) (hpl : (backTo pos (starEach [] X.env)).any (·.1) = false := by rfl) : XV X (.Call (.Name "any" p) [a] [] pos) Γ (.bl (l.any id)) := xe_callB (cr_any hc) hm (by decide +kernel) (xl_cons h xa_nil hs) (fun _ z => by rw [z]; exact l_any) hg (by decide) (by decide) hs hpl
theorem xv_intI {i : Int} (h : XV X a Γ (.int i)) (hm : X.mg "int" = none) (hg : Gl X "int" := by rfl) (hs : starEach (a :: []) X.env = (false, eval a X.env) :: starEach [] X.env := by rfl) (hpl : (backTo pos (starEach [] X.env)).any (·.1) = false := by rfl) : XV X (.Call (.Name "int" p) [a] [] pos) Γ (.int i) := xe_callT call_int1 hm PyProof.Rows.boot_int (xl_cons h xa_nil hs) (fun _ z => by rw [z]; exact l_int) hg (by decide) (by decide) hs hpl
theorem xv_intB {i : Bool} (h : XV X a Γ (.bl i)) (hm : X.mg "int" = none) (hg : Gl X "int" := by rfl) (hs : starEach (a :: []) X.env = (false, eval a X.env) :: starEach [] X.env := by rfl) (hpl : (backTo pos (starEach [] X.env)).any (·.1) = false := by rfl) : XV X (.Call (.Name "int" p) [a] [] pos) Γ (.int (if i then 1 else 0)) := xe_callT call_int1 hm PyProof.Rows.boot_int (xl_cons h xa_nil hs) (fun _ z => by rw [z]; exact l_intB) hg (by decide) (by decide) hs hpl
theorem xv_abs {i : Int} (h : XV X a Γ (.int i)) (hm : X.mg "abs" = none) (hg : Gl X "abs" := by rfl) (hs : starEach (a :: []) X.env = (false, eval a X.env) :: starEach [] X.env := by rfl) (hpl : (backTo pos (starEach [] X.env)).any (·.1) = false := by rfl) : XV X (.Call (.Name "abs" p) [a] [] pos) Γ (.int (if i < 0 then -i else i)) := xe_callB call_abs hm PyProof.Rows.boot_abs (xl_cons h xa_nil hs) (fun _ z => by rw [z]; exact l_abs) hg (by decide) (by decide) hs hpl
theorem xv_min {ns : List Int} (h : XV X a Γ (lT D.int ns)) (h0 : ns ≠ []) (hm : X.mg "min" = none) (hc : X.calm = true := by rfl) (hg : Gl X "min" := by rfl) (hs : starEach (a :: []) X.env = (false, eval a X.env) :: starEach [] X.env := by rfl) (hpl : (backTo pos (starEach [] X.env)).any (·.1) = false := by rfl) : XV X (.Call (.Name "min" p) [a] [] pos) Γ (.int (lmin ns)) := by
  refine XE.imp (Φ := fun z => ∃ m, z = .int m ∧ m ∈ ns ∧ ∀ y ∈ ns, m ≤ y) (xe_callB (cr_min hc) hm (by decide +kernel) (xl_cons h xa_nil hs) (fun _ z => by rw [z]; exact l_min (List.length_pos_iff.mpr h0)) hg (by decide) (by decide) hs hpl) ?_
  rintro d ⟨m, e, h1, h2⟩
  show d = _
  obtain ⟨k1, k2⟩ := lmin_ok h0
  have a1 := h2 _ k1
  have a2 := k2 _ h1
  rw [e, show m = lmin ns by omega]
theorem xv_max {ns : List Int} (h : XV X a Γ (lT D.int ns)) (h0 : ns ≠ []) (hm : X.mg "max" = none) (hc : X.calm = true := by rfl) (hg : Gl X "max" := by rfl) (hs : starEach (a :: []) X.env = (false, eval a X.env) :: starEach [] X.env := by rfl) (hpl : (backTo pos (starEach [] X.env)).any (·.1) = false := by rfl) : XV X (.Call (.Name "max" p) [a] [] pos) Γ (.int (lmax ns)) := by
  refine XE.imp (Φ := fun z => ∃ m, z = .int m ∧ m ∈ ns ∧ ∀ y ∈ ns, y ≤ m) (xe_callB (cr_max hc) hm (by decide +kernel) (xl_cons h xa_nil hs) (fun _ z => by rw [z]; exact l_max (List.length_pos_iff.mpr h0)) hg (by decide) (by decide) hs hpl) ?_
  rintro d ⟨m, e, h1, h2⟩
  show d = _
  obtain ⟨k1, k2⟩ := lmax_ok h0
  have a1 := h2 _ k1
  have a2 := k2 _ h1
  rw [e, show m = lmax ns by omega]
theorem xo_sorted [DecidableEq α] {f : α → D} {n : Nat} [Enc f n] [Alk f] {l : List α} (h : XV X a Γ (lT f l)) (hso : PySem.W.Sortable (l.map fun x => (f x).py)) (hu : X.A.units + 65 < cLine) (hm : X.mg "sorted" = none) (hn : n ≤ 60 := by decide) (hg : Gl X "sorted" := by rfl) (hs : starEach (a :: []) X.env = (false, eval a X.env) :: starEach [] X.env := by rfl) (hpl : (backTo pos (starEach [] X.env)).any (·.1) = false := by rfl) : XO X (.Call (.Name "sorted" p) [a] [] pos) Γ (.ml ((sortD f l).map f)) := xn_callB (cr_sortD (f := f) hu) hm (by decide +kernel) (xl_cons h xa_nil hs) (fun _ z => by rw [z]; exact l_sorted hso hn) hg (by decide) (by decide) hs hpl
theorem xw_listT {f : α → D} {l : List α} (h : XV X e Γ (lT f l)) : XW X tg e Γ (l.map f) := xw_list h
theorem xw_tupT {f : α → D} {l : List α} (h : XV X e Γ (tT f l)) : XW X tg e Γ (l.map f) := xw_tup h
theorem xv_ifT {f : α → D} {k : Bool} {x y : α} (ht : XB X c Γ k) (ha : k = true → XV X a Γ (f x)) (hb : k = false → XV X b Γ (f y)) : XV X (.IfExp c a b pos) Γ (f (if k = true then x else y)) := xe_if ht (fun z => by
  rw [if_pos z.symm]
  exact ha z.symm) fun z => by
  rw [if_neg (by rw [← z]; exact Bool.false_ne_true)]
  exact hb z.symm
theorem xb_truthI {i : Int} (h : XV X e Γ (.int i)) (he : ∀ whole, isTrue e X.env whole = (do let v ← whole; standAt e.pos; holding [v] (truthy v)) := by intro _; rfl) : XB X e Γ (i != 0) := xt_of (pt_truth pe_wp he) fun σ Hb H E Q q => h σ Hb H E _ fun v d Hb1 H1 p1 g1 E1 r1 => by
  subst p1
  cases r1
  exact ⟨i != 0, rfl, q _ Hb1 H1 rfl g1 E1⟩
theorem xv_neg {i : Int} (h : XV X e Γ (.int i)) : XV X (.UnaryOp .USub e pos) Γ (.int (-i)) := xe_of (pe_un un_neg pe_wp) fun σ Hb H E Q q => h σ Hb H E _ fun v d Hb1 H1 p1 g1 E1 r1 => by
  subst p1
  cases r1
  exact ⟨i, rfl, q _ _ Hb1 H1 rfl g1 E1 (.int _)⟩
theorem v_isB {K : PySem.W.Frag} {x y : Bool} : RV2 K (fun x y H Q => ∃ a b, x = .bl a ∧ y = .bl b ∧ Q (.bl (decide (a = b))) H) (.bl x) (.bl y) (.bl (decide (x = y))) := rv_scal fun u w Hb H ex h1 h2 => by
  cases h1
  cases h2
  exact ⟨.bl _, .bl _, fun Q q => ⟨x, y, rfl, rfl, q⟩⟩
theorem v_isnotB {K : PySem.W.Frag} {x y : Bool} : RV2 K (fun x y H Q => ∃ a b, x = .bl a ∧ y = .bl b ∧ Q (.bl (!decide (a = b))) H) (.bl x) (.bl y) (.bl (!decide (x = y))) := rv_scal fun u w Hb H ex h1 h2 => by
  cases h1
  cases h2
  exact ⟨.bl _, .bl _, fun Q q => ⟨x, y, rfl, rfl, q⟩⟩
end
end DL

namespace DL
open PySem PySem.Spec PyProof.Rows L2 Evl
section
variable {X : Cx} {m : Bool} {elt tg iter c : Expr} {ifs : List Expr} {scope : Scope} {Γ : List Sl} {pos : Pos} {own : List (Str × Nat)} {g : TG} {tt : TT} {kp : Nat} {G : Dn}
/-- without a test -/
theorem xo_map {α β : Type} {f : α → D} {xs : List α} (js : List Nat) (es : α → List D) (f' : β → D) (h : α → β) (own : List (Str × Nat)) (hi : XW X tg iter Γ (xs.map f)) (hg : Bk X scope fun Y => PG Y tg g) (gt : ∀ x ∈ xs, XGt X.K g (f x) js (es x))
    (he : ∀ x ∈ xs, Bk X scope fun Y => XV Y elt (setG Γ js (es x)) (f' (h x))) (hl : xs.length ≤ 100000) (ok : BlkOk X.N X.env.scope scope own) (hN : X.N.Nodup) (hw : wipeG Γ (own.map (·.2)) = Γ := by rfl) (hv : ∀ j ∈ js, j ∈ own.map (·.2) := by decide)
    (hc : X.calm = true := by rfl) (hs : ∀ x, foldedSetIterable iter X.env x = pure x := by intro _; rfl) : XO X (.ListComp elt [⟨tg, iter, [], 0⟩] scope pos) Γ (.ml ((xs.map h).map f')) := by
  have z := xo_lc (pos := pos) js es (fun _ => true) f' h own hi hg gt (.no) (fun _ _ => jt_yes rfl) (fun x hx _ => he x hx) hl ok hN hw hv hc hs
  rw [List.filter_eq_self.mpr (fun _ _ => rfl)] at z
  exact z
theorem xs_asgMap {st2 py : Pos} {x : Str} {α β : Type} {f : α → D} {xs : List α} (i : Nat) (js : List Nat) (es : α → List D) (f' : β → D) (h : α → β) (own : List (Str × Nat)) (hi : XW X tg iter Γ (xs.map f)) (hg : Bk X scope fun Y => PG Y tg g) (gt : ∀ x ∈ xs, XGt X.K g (f x) js (es x))
    (he : ∀ x ∈ xs, Bk X scope fun Y => XV Y elt (setG Γ js (es x)) (f' (h x))) (hl : xs.length ≤ 100000) (k : G.nx (Γ.set i (.ow (.ml ((xs.map h).map f'))))) (ok : BlkOk X.N X.env.scope scope own) (hN : X.N.Nodup) (hsw : swapsWith (.ListComp elt [⟨tg, iter, [], 0⟩] scope pos) (some (.Name x py)) st2.line X.env = pure true)
    (hw : wipeG Γ (own.map (·.2)) = Γ := by rfl) (hv : ∀ j ∈ js, j ∈ own.map (·.2) := by decide) (hk : kp ≤ i := by decide) (hy : X.N[i]? = some x := by rfl) (hyl : X.env.scope.names.lookup x = some .local := by rfl)
    (hc : X.calm = true := by rfl) (hs : ∀ x, foldedSetIterable iter X.env x = pure x := by intro _; rfl) : XS X kp (.Assign [.Name x py] (.ListComp elt [⟨tg, iter, [], 0⟩] scope pos) st2) Γ G := by
  refine xs_asgLc i js es (fun _ => true) f' h own hi hg gt (.no) (fun _ _ => jt_yes rfl) (fun x hx _ => he x hx) hl ?_ ok hN hsw hw hv hk hy hyl hc hs
  rw [List.filter_eq_self.mpr (fun _ _ => rfl)]
  exact k
end

/-! ### two clauses -/
section
variable {K : PySem.W.Frag} {Γ : List Sl} {wi wi1 : TI} {g g1 : TG} {tt tt1 : TT} {te : TE}
theorem jn_lc2P {α β γ : Type} {vs vs1 js js1 : List Nat} {f : α → D} {xs : List α} {es : α → List D} {p : α → Bool} {f1 : β → D} {ys : α → List β} {es1 : β → List D} {p1 : α → β → Bool} {f' : γ → D} {h : α → β → γ} (hw : wipeG Γ vs = Γ) (hw1 : ∀ x ∈ xs, wipeG (setG Γ js (es x)) vs1 = setG Γ js (es x)) (hi : JI K false wi Γ fun z => z = xs.map f) (hv : ∀ j ∈ js, j ∈ vs) (hv1 : ∀ j ∈ js1, j ∈ vs1) (hl : ((xs.filter p).flatMap fun x => ((ys x).filter (p1 x)).map (h x)).length < 100000)
    (hg : ∀ x ∈ xs, XGt K g (f x) js (es x)) (ht : ∀ x ∈ xs, JT K false tt (setG Γ js (es x)) fun z => z = p x) (hi1 : ∀ x ∈ xs, p x = true → JI K false wi1 (setG Γ js (es x)) fun z => z = (ys x).map f1) (hg1 : ∀ x ∈ xs, ∀ y ∈ ys x, XGt K g1 (f1 y) js1 (es1 y))
    (ht1 : ∀ x ∈ xs, ∀ y ∈ ys x, JT K false tt1 (setG (setG Γ js (es x)) js1 (es1 y)) fun z => z = p1 x y) (he : ∀ x ∈ xs, ∀ y ∈ ys x, p1 x y = true → JR K false te (setG (setG Γ js (es x)) js1 (es1 y)) fun z => z = f' (h x y)) :
    JN K false (tLc2 wi g tt wi1 g1 tt1 te vs vs1) Γ fun o => o = .ml (((xs.filter p).flatMap fun x => ((ys x).filter (p1 x)).map (h x)).map f') := fun σ Hb H E Q q => by
  refine hi σ Hb H E _ fun J ds Hb1 H1 e0 g1' E1 it => fun Dl nD => ?_
  subst e0
  have nb : Hb1 Dl = none := fresh_back E1.ex nD
  have noD : ¬ Own σ Γ Dl := fun z => (E1.own_some z).1 nD
  have nW : ∀ {σ' : L2.St} {Γ' : List Sl} {b : Addr}, ¬ WW false σ' Γ' b := fun z => by cases z.1
  -- what is made of the first i items, and of the first j of the inner ones
  let A : Nat → List γ := fun i => ((xs.take i).filter p).flatMap fun x => ((ys x).filter (p1 x)).map (h x)
  let St : List γ → Hp → Prop := fun acc H2 => ∃ Hb2 ws, Gr (fun a => a = Dl) Hb1 (upd H1 Dl (.lst [])) Hb2 H2 ∧ En K Hb2 H2 σ Γ ∧ Hb2 Dl = none ∧ H2 Dl = some (.lst ws) ∧ DRs K Hb2 ws (acc.map f')
  have hlen : (xs.map f).length = xs.length := List.length_map _
  refine ⟨fun i mm H2 => mm = xs.length - i ∧ i ≤ xs.length ∧ St (A i) H2, ⟨xs.length, by simp, Nat.zero_le _, Hb1, [], Gr.refl (New.side E1.ex nD).s, E1.new (New.side E1.ex nD), nb, upd_same, by simp [A]; exact .nil⟩, ?_⟩
  rintro i mm H2 ⟨rfl, hi', Hb2, ws, G2, E2, n2, h2, r2⟩
  by_cases hlt : i < xs.length
  · obtain ⟨go, yl⟩ := (it Hb2 H2 G2.b E2.ex i).1 (by rw [hlen]; exact hlt)
    have hx : xs[i]? = some xs[i] := List.getElem?_eq_getElem hlt
    have mx : xs[i] ∈ xs := List.getElem_mem hlt
    have et : xs.take (i + 1) = xs.take i ++ [xs[i]] := by rw [List.take_add_one, hx]; rfl
    have eA : A (i + 1) = A i ++ if p xs[i] = true then ((ys xs[i]).filter (p1 xs[i])).map (h xs[i]) else [] := by
      show ((xs.take (i + 1)).filter p).flatMap _ = _
      rw [et, List.filter_append, List.flatMap_append]
      by_cases hp : p xs[i] = true
      · rw [if_pos hp, List.filter_cons, if_pos hp]
        simp [A]
      · rw [if_neg hp, List.filter_cons, if_neg hp]
        simp [A]
    have lenA : ∀ l : List γ, l <+: ((xs.filter p).flatMap fun x => ((ys x).filter (p1 x)).map (h x)) → l.length < 100000 := fun l z => Nat.lt_of_le_of_lt z.length_le hl
    have preA : A (i + 1) <+: ((xs.filter p).flatMap fun x => ((ys x).filter (p1 x)).map (h x)) := by
      refine ⟨((xs.drop (i + 1)).filter p).flatMap fun x => ((ys x).filter (p1 x)).map (h x), ?_⟩
      show ((xs.take (i + 1)).filter p).flatMap _ ++ _ = _
      rw [← List.flatMap_append, ← List.filter_append, List.take_append_drop]
    refine .inr ⟨go, St (A (i + 1)), fun H' hN => ⟨xs.length - (i + 1), by omega, rfl, hlt, hN⟩, fun x H3 y => ?_⟩
    obtain ⟨d, Hb3, e, g3, rx⟩ := yl x H3 y
    rw [List.getElem?_map, hx] at e
    cases e
    generalize hxx : xs[i] = xi at *
    have E3 := E2.new g3
    have n3 : Hb3 Dl = none := (g3.f Dl (by rw [h2]; simp) fun z => z).trans n2
    have h3 := g3.ex Dl _ h2
    refine hg xi mx x Hb3 H3 (wipe σ vs) _ E3.ex rx fun vals rv => ⟨(wipe_setL hv).trans wipe_wipe, ?_⟩
    have mk : ∀ {Hbc Hc : Hp}, En K Hbc Hc σ Γ → Ex Hb3 Hbc → En K Hbc Hc (DL.setL (wipe σ vs) js vals) (setG Γ js (es xi)) := fun {Hbc Hc} Ec xc => by
      have z := (Ec.wipe vs).setL (js := js) (rv.mono xc)
      rw [hw] at z
      exact z
    have bk : ∀ {σ' : L2.St} {Γ' : List Sl} {Hbc Hc Hbd Hd : Hp}, En K Hbc Hc σ Γ → Gr (WW false σ' Γ') Hbc Hc Hbd Hd → En K Hbd Hd σ Γ := fun {σ' Γ' Hbc Hc Hbd Hd} Ec gc => Ec.new (ww_new gc)
    refine ht xi mx _ Hb3 H3 (mk E3 (Ex.refl _)) _ fun b Hb4 H4 eb g4 E4' => ?_
    have E4 := bk E3 g4
    have h4 := g4.h Dl _ h3 nW
    have n4 : Hb4 Dl = none := (g4.f Dl (by rw [h3]; simp) nW).trans n3
    have G4 : Gr (fun a => a = Dl) Hb1 (upd H1 Dl (.lst [])) Hb4 H4 := (G2.trans g3 fun _ z => z.elim).trans (ww_new g4) fun _ z => z.elim
    have r4 := r2.mono (g3.b.trans g4.b)
    cases b with
    | false =>
      refine iteF ⟨Hb4, ws, G4, E4, n4, h4, ?_⟩
      rw [eA, if_neg (by rw [← eb]; exact Bool.false_ne_true), List.append_nil]
      exact r4
    | true =>
      refine iteT (hi1 xi mx eb.symm _ Hb4 H4 E4' _ fun J1 ds1 Hb5 H5 e1 g5 E5' it1 => ?_)
      subst e1
      have E5 := bk E4 g5
      have h5 := g5.h Dl _ h4 nW
      have n5 : Hb5 Dl = none := (g5.f Dl (by rw [h4]; simp) nW).trans n4
      have G5 : Gr (fun a => a = Dl) Hb1 (upd H1 Dl (.lst [])) Hb5 H5 := G4.trans (ww_new g5) fun _ z => z.elim
      have r5 := r4.mono g5.b
      rw [if_pos eb.symm] at eA
      let B : Nat → List γ := fun j => A i ++ (((ys xi).take j).filter (p1 xi)).map (h xi)
      have hlen1 : ((ys xi).map f1).length = (ys xi).length := List.length_map _
      refine ⟨fun j kk Hc => kk = (ys xi).length - j ∧ j ≤ (ys xi).length ∧ ∃ Hbc wc, Ex Hb5 Hbc ∧ Gr (fun a => a = Dl) Hb1 (upd H1 Dl (.lst [])) Hbc Hc ∧ En K Hbc Hc σ Γ ∧ Hbc Dl = none ∧ Hc Dl = some (.lst wc) ∧ DRs K Hbc wc ((B j).map f'), ⟨(ys xi).length, by simp, Nat.zero_le _, Hb5, ws, Ex.refl _, G5, E5, n5, h5, by simp [B]; exact r5⟩, ?_⟩
      rintro j kk Hc ⟨rfl, hj, Hbc, wc, xc, Gc, Ec, nc, hc, rc⟩
      by_cases hjl : j < (ys xi).length
      · obtain ⟨go1, yl1⟩ := (it1 Hbc Hc xc Ec.ex j).1 (by rw [hlen1]; exact hjl)
        have hy : (ys xi)[j]? = some (ys xi)[j] := List.getElem?_eq_getElem hjl
        have my : (ys xi)[j] ∈ ys xi := List.getElem_mem hjl
        have et1 : (ys xi).take (j + 1) = (ys xi).take j ++ [(ys xi)[j]] := by rw [List.take_add_one, hy]; rfl
        have eB : B (j + 1) = B j ++ if p1 xi (ys xi)[j] = true then [h xi (ys xi)[j]] else [] := by
          show A i ++ (((ys xi).take (j + 1)).filter (p1 xi)).map (h xi) = _
          rw [et1, List.filter_append, List.map_append, List.filter_cons]
          by_cases hp : p1 xi (ys xi)[j] = true
          · rw [if_pos hp, if_pos hp]; simp [B]
          · rw [if_neg hp, if_neg hp]; simp [B]
        have preB : B (j + 1) <+: A (i + 1) := by
          rw [eA]
          refine ⟨(((ys xi).drop (j + 1)).filter (p1 xi)).map (h xi), ?_⟩
          show (A i ++ _) ++ _ = _
          rw [List.append_assoc, ← List.map_append, ← List.filter_append, List.take_append_drop]
        refine .inr ⟨go1, fun Hd => ∃ Hbd wd, Ex Hb5 Hbd ∧ Gr (fun a => a = Dl) Hb1 (upd H1 Dl (.lst [])) Hbd Hd ∧ En K Hbd Hd σ Γ ∧ Hbd Dl = none ∧ Hd Dl = some (.lst wd) ∧ DRs K Hbd wd ((B (j + 1)).map f'), fun H' hN => ⟨(ys xi).length - (j + 1), by omega, rfl, hjl, hN⟩, fun x1 H6 y1 => ?_⟩
        obtain ⟨d1, Hb6, e1, g6, rx1⟩ := yl1 x1 H6 y1
        rw [List.getElem?_map, hy] at e1
        cases e1
        generalize hyy : (ys xi)[j] = yj at *
        have E6 := Ec.new g6
        have n6 : Hb6 Dl = none := (g6.f Dl (by rw [hc]; simp) fun z => z).trans nc
        have h6 := g6.ex Dl _ hc
        have xb : Ex Hb3 Hb6 := ((g4.b.trans g5.b).trans xc).trans g6.b
        refine hg1 xi mx yj my x1 Hb6 H6 (wipe (DL.setL (wipe σ vs) js vals) vs1) _ E6.ex rx1 fun vals1 rv1 => ⟨(wipe_setL hv1).trans wipe_wipe, ?_⟩
        have E7 : En K Hb6 H6 (DL.setL (wipe (DL.setL (wipe σ vs) js vals) vs1) js1 vals1) (setG (setG Γ js (es xi)) js1 (es1 yj)) := by
          have z := ((mk E6 xb).wipe vs1).setL (js := js1) rv1
          rw [hw1 xi mx] at z
          exact z
        refine ht1 xi mx yj my _ Hb6 H6 E7 _ fun b1 Hb8 H8 eb1 g8 E8' => ?_
        have E8 := bk E6 g8
        have h8 := g8.h Dl _ h6 nW
        have n8 : Hb8 Dl = none := (g8.f Dl (by rw [h6]; simp) nW).trans n6
        have G8 : Gr (fun a => a = Dl) Hb1 (upd H1 Dl (.lst [])) Hb8 H8 := (Gc.trans g6 fun _ z => z.elim).trans (ww_new g8) fun _ z => z.elim
        have r8 := rc.mono (g6.b.trans g8.b)
        cases b1 with
        | false =>
          refine iteF ⟨Hb8, wc, (xc.trans g6.b).trans g8.b, G8, E8, n8, h8, ?_⟩
          rw [eB, if_neg (by rw [← eb1]; exact Bool.false_ne_true), List.append_nil]
          exact r8
        | true =>
          refine iteT (he xi mx yj my eb1.symm _ Hb8 H8 E8' _ fun y e9 Hb9 H9 q9 g9 E9' r9 => ?_)
          subst q9
          have E9 := bk E8 g9
          have h9 := g9.h Dl _ h8 nW
          have n9 : Hb9 Dl = none := (g9.f Dl (by rw [h8]; simp) nW).trans n8
          have G9 : Gr (fun a => a = Dl) Hb1 (upd H1 Dl (.lst [])) Hb9 H9 := G8.trans (ww_new g9) fun _ z => z.elim
          have lB : (B (j + 1)).length < 100000 := Nat.lt_of_le_of_lt preB.length_le (lenA _ preA)
          rw [if_pos eb1.symm] at eB
          refine ⟨wc, h9, sz_lt ?_, Hb9, wc ++ [y], ((xc.trans g6.b).trans g8.b).trans g9.b, G9.trans (Gr.put (W := fun a => a = Dl) E9.ex n9 (by rw [h9]; simp) rfl) (fun a z => .inl z), E9.side n9 noD, n9, upd_same, ?_⟩
          · rw [rc.len, List.length_map]
            rw [eB, List.length_append] at lB
            have : ([h xi yj] : List γ).length = 1 := rfl
            omega
          · rw [eB, List.map_append]
            exact (r8.mono g9.b).app (.one r9)
      · have ej : j = (ys xi).length := by omega
        refine .inl ⟨(it1 Hbc Hc xc Ec.ex j).2 (by rw [hlen1]; omega), Hbc, wc, Gc, Ec, nc, hc, ?_⟩
        rw [eA]
        have z : B j = A i ++ ((ys xi).filter (p1 xi)).map (h xi) := by
          show A i ++ (((ys xi).take j).filter (p1 xi)).map (h xi) = _
          rw [ej, List.take_length]
        rw [← z]
        exact rc
  · have e : i = xs.length := by omega
    refine .inl ⟨(it Hb2 H2 G2.b E2.ex i).2 (by rw [hlen]; omega), q Dl (.lst ws) _ Hb2 H2 rfl (new_none g1' nD) ?_ E2 n2 h2 ⟨ws, rfl, ?_⟩⟩
    · refine g1'.trans ((New.side (o := .lst []) E1.ex nD).gr (W := fun a => a = Dl) |>.trans G2 fun a z => .inl z) fun a z => ?_
      subst z
      exact .inr (new_none g1' nD)
    · have z : A i = (xs.filter p).flatMap fun x => ((ys x).filter (p1 x)).map (h x) := by
        show ((xs.take i).filter p).flatMap _ = _
        rw [e, List.take_length]
      rw [← z]
      exact r2
end
section
variable {X : Cx} {elt tg iter tg1 iter1 : Expr} {ifs ifs1 : List Expr} {scope : Scope} {Γ : List Sl} {pos : Pos} {own : List (Str × Nat)} {g g1 : TG} {tt tt1 : TT} {kp : Nat} {G : Dn}
theorem xo_lc2 {α β γ : Type} {f : α → D} {xs : List α} (js js1 : List Nat) (es : α → List D) (es1 : β → List D) (p : α → Bool) (f1 : β → D) (ys : α → List β) (p1 : α → β → Bool) (f' : γ → D) (h : α → β → γ) (own : List (Str × Nat)) (vs1 : List Nat) (hi : XW X tg iter Γ (xs.map f)) (hg : Bk X scope fun Y => PG Y tg g) (gt : ∀ x ∈ xs, XGt X.K g (f x) js (es x)) (hf : Ifs X scope ifs tt) (ht : ∀ x ∈ xs, JT X.K false tt (setG Γ js (es x)) fun z => z = p x)
    (hi1 : ∀ x ∈ xs, p x = true → Bk X scope fun Y => XW Y tg1 iter1 (setG Γ js (es x)) ((ys x).map f1)) (hg1 : Bk X scope fun Y => PG Y tg1 g1) (gt1 : ∀ x ∈ xs, ∀ y ∈ ys x, XGt X.K g1 (f1 y) js1 (es1 y)) (hf1 : Ifs X scope ifs1 tt1) (ht1 : ∀ x ∈ xs, ∀ y ∈ ys x, JT X.K false tt1 (setG (setG Γ js (es x)) js1 (es1 y)) fun z => z = p1 x y)
    (he : ∀ x ∈ xs, ∀ y ∈ ys x, p1 x y = true → Bk X scope fun Y => XV Y elt (setG (setG Γ js (es x)) js1 (es1 y)) (f' (h x y))) (hl : ((xs.filter p).flatMap fun x => ((ys x).filter (p1 x)).map (h x)).length < 100000) (ok : BlkOk X.N X.env.scope scope own) (hN : X.N.Nodup) (hw : wipeG Γ (own.map (·.2)) = Γ := by rfl) (hw1 : ∀ x ∈ xs, wipeG (setG Γ js (es x)) vs1 = setG Γ js (es x) := by intro _ _; rfl) (hv : ∀ j ∈ js, j ∈ own.map (·.2) := by decide) (hv1 : ∀ j ∈ js1, j ∈ vs1 := by decide) (hv2 : ∀ i ∈ vs1, i ∈ own.map (·.2) := by decide)
    (hc : X.calm = true := by rfl) (hs : ∀ x, foldedSetIterable iter X.env x = pure x := by intro _; rfl) (hs1 : ∀ env x, foldedSetIterable iter1 env x = pure x := by intro _ _; rfl) : XO X (.ListComp elt [⟨tg, iter, ifs, 0⟩, ⟨tg1, iter1, ifs1, 0⟩] scope pos) Γ (.ml (((xs.filter p).flatMap fun x => ((ys x).filter (p1 x)).map (h x)).map f')) :=
  xn_of (pe_lc2 hc hN pi_wp ok hv2 hg hf.ok pi_wb hg1 hf1.ok pe_wb hs hs1) (jn_lc2P hw hw1 hi hv hv1 hl gt ht (fun x hx hp => ji_wb (hi1 x hx hp)) gt1 ht1 fun x hx y hy hp => jr_wb (he x hx y hy hp))
theorem xs_asgLc2 {st2 py : Pos} {x : Str} {α β γ : Type} {f : α → D} {xs : List α} (i : Nat) (js js1 : List Nat) (es : α → List D) (es1 : β → List D) (p : α → Bool) (f1 : β → D) (ys : α → List β) (p1 : α → β → Bool) (f' : γ → D) (h : α → β → γ) (own : List (Str × Nat)) (vs1 : List Nat) (hi : XW X tg iter Γ (xs.map f)) (hg : Bk X scope fun Y => PG Y tg g) (gt : ∀ x ∈ xs, XGt X.K g (f x) js (es x)) (hf : Ifs X scope ifs tt) (ht : ∀ x ∈ xs, JT X.K false tt (setG Γ js (es x)) fun z => z = p x)
    (hi1 : ∀ x ∈ xs, p x = true → Bk X scope fun Y => XW Y tg1 iter1 (setG Γ js (es x)) ((ys x).map f1)) (hg1 : Bk X scope fun Y => PG Y tg1 g1) (gt1 : ∀ x ∈ xs, ∀ y ∈ ys x, XGt X.K g1 (f1 y) js1 (es1 y)) (hf1 : Ifs X scope ifs1 tt1) (ht1 : ∀ x ∈ xs, ∀ y ∈ ys x, JT X.K false tt1 (setG (setG Γ js (es x)) js1 (es1 y)) fun z => z = p1 x y)
    (he : ∀ x ∈ xs, ∀ y ∈ ys x, p1 x y = true → Bk X scope fun Y => XV Y elt (setG (setG Γ js (es x)) js1 (es1 y)) (f' (h x y))) (hl : ((xs.filter p).flatMap fun x => ((ys x).filter (p1 x)).map (h x)).length < 100000) (k : G.nx (Γ.set i (.ow (.ml (((xs.filter p).flatMap fun x => ((ys x).filter (p1 x)).map (h x)).map f'))))) (ok : BlkOk X.N X.env.scope scope own) (hN : X.N.Nodup) (hsw : swapsWith (.ListComp elt [⟨tg, iter, ifs, 0⟩, ⟨tg1, iter1, ifs1, 0⟩] scope pos) (some (.Name x py)) st2.line X.env = pure true)
    (hw : wipeG Γ (own.map (·.2)) = Γ := by rfl) (hw1 : ∀ x ∈ xs, wipeG (setG Γ js (es x)) vs1 = setG Γ js (es x) := by intro _ _; rfl) (hv : ∀ j ∈ js, j ∈ own.map (·.2) := by decide) (hv1 : ∀ j ∈ js1, j ∈ vs1 := by decide) (hv2 : ∀ i ∈ vs1, i ∈ own.map (·.2) := by decide) (hk : kp ≤ i := by decide) (hy : X.N[i]? = some x := by rfl) (hyl : X.env.scope.names.lookup x = some .local := by rfl)
    (hc : X.calm = true := by rfl) (hs : ∀ x, foldedSetIterable iter X.env x = pure x := by intro _; rfl) (hs1 : ∀ env x, foldedSetIterable iter1 env x = pure x := by intro _ _; rfl) : XS X kp (.Assign [.Name x py] (.ListComp elt [⟨tg, iter, ifs, 0⟩, ⟨tg1, iter1, ifs1, 0⟩] scope pos) st2) Γ G :=
  xs_of (ps_setLc2 hc hN hy hyl hsw pi_wp ok hv2 hg hf.ok pi_wb hg1 hf1.ok pe_wb hs hs1) (js_asgN (jn_lc2P hw hw1 hi hv hv1 hl gt ht (fun x hx hp => ji_wb (hi1 x hx hp)) gt1 ht1 fun x hx y hy hp => jr_wb (he x hx y hy hp)) (fun o z => by rw [z]; exact k) hk)
end
end DL

namespace DL
open PySem PySem.Spec PyProof.Rows L2 Evl

/-! ### min(xs, default=d) -/
theorem lmin_fold (x : Int) (xs : List Int) : PySem.W.minOf x xs ∈ x :: xs ∧ ∀ y ∈ x :: xs, PySem.W.minOf x xs ≤ y := by
  unfold PySem.W.minOf
  induction xs generalizing x with
  | nil => exact ⟨List.mem_cons_self .., fun y hy => by rw [List.mem_singleton.mp hy]; exact Int.le_refl _⟩
  | cons z xs ih =>
    rw [List.foldl_cons]
    show _ ∧ _
    by_cases h : z < x
    · have e : (if PySem.W.DatumOrd.lt z x = true then z else x) = z := if_pos (show decide (z < x) = true from decide_eq_true h)
      rw [e]
      obtain ⟨h1, h2⟩ := ih z
      refine ⟨List.mem_cons_of_mem _ h1, fun y hy => ?_⟩
      rcases List.mem_cons.mp hy with q | q
      · have := h2 z (List.mem_cons_self ..)
        omega
      · exact h2 y q
    · have e : (if PySem.W.DatumOrd.lt z x = true then z else x) = x := if_neg (show ¬ decide (z < x) = true from fun q => h (of_decide_eq_true q))
      rw [e]
      obtain ⟨h1, h2⟩ := ih x
      refine ⟨?_, fun y hy => ?_⟩
      · rcases List.mem_cons.mp h1 with q | q
        · rw [q]; exact List.mem_cons_self ..
        · exact List.mem_cons_of_mem _ (List.mem_cons_of_mem _ q)
      · rcases List.mem_cons.mp hy with q | q
        · rw [q]; exact h2 x (List.mem_cons_self ..)
        · rcases List.mem_cons.mp q with q | q
          · have := h2 x (List.mem_cons_self ..)
            omega
          · exact h2 y (List.mem_cons_of_mem _ q)
theorem minOf_lmin {y : Int} {ys : List Int} : PySem.W.minOf y ys = lmin (y :: ys) := by
  obtain ⟨h1, h2⟩ := lmin_fold y ys
  obtain ⟨k1, k2⟩ := lmin_ok (l := y :: ys) (by simp)
  have a := h2 _ k1
  have b := k2 _ h1
  omega
/-- min with a default -/
def lminD (d : Int) (l : List Int) : Int := if l = [] then d else lmin l
def rMinD (K : PySem.W.Frag) : List V → List V → Hp → VK → Prop := fun vs zs H Q => ∃ (a : Addr) (ns : List Int) (d : Int), vs = [V.ref a] ∧ zs = [.int d] ∧ SqL K H a (ns.map V.int) ∧ Q (.int (lminD d ns)) H
theorem cr_minD {X : Cx} (hc : X.calm = true) (hu : X.A.units + 65 < cLine) : CallRK X (.builtin "min") [Str.ofString "default"] (rMinD X.K) := by
  intro pins s σ H vs zs us ws Q I r rz h
  obtain ⟨a, ns, d, rfl, rfl, hs, q⟩ := h
  obtain rfl := Vals.ref1 r
  obtain ⟨w1, rfl, e1⟩ := vals1 rz
  obtain ⟨t, rfl⟩ := e1
  obtain ⟨its, rv, hl, hz⟩ := I.list hs
  have hi := rv.ints
  refine PySem.W.min_list_datum_default (α := Int) (I.ok.hd hc) hl.isList (xs := ns) (PySem.W.HoldAll.of_ints (by simpa using hi)) (by show X.A.units + 1 + 0 < cLine; omega) (fun e h' tk hk => ?_) fun y ys i v h' tk e hv hh hk => ?_
  · subst e
    refine ⟨.int d, H, I.kept (t' := tk) hk, ⟨t, rfl⟩, ?_⟩
    exact q
  · obtain ⟨t', rfl⟩ := PySem.W.int_of_holds hh
    refine ⟨.int (lminD d ns), H, I.kept (t' := tk) hk, ⟨t', ?_⟩, q⟩
    subst e
    rw [minOf_lmin]
    rfl
section
variable {X : Cx} {Γ : List Sl} {e b : Expr} {pos p kp : Pos}
theorem xv_minD {ns : List Int} {d : Int} (h : XV X e Γ (lT D.int ns)) (hb : XV X b Γ (.int d)) (hm : X.mg "min" = none) (hu : X.A.units + 65 < cLine) (hk : PK X [⟨some (Str.ofString "default"), b, kp⟩] (tCons (wpE X b) tNil)) (hc : X.calm = true := by rfl) (hg : Gl X "min" := by rfl)
    (he : backTo pos (starEach (e :: []) X.env) = (false, eval e X.env) :: backTo pos (starEach [] X.env) := by rfl) (hpl : (backTo pos (starEach (e :: []) X.env)).any (·.1) = false := by rfl)
    (hall : (backToKw pos (keywordEach [⟨some (Str.ofString "default"), b, kp⟩] X.env)).all (·.1.isSome) = true := by rfl) (hnone : (backToKw pos (keywordEach [⟨some (Str.ofString "default"), b, kp⟩] X.env)).any (·.1.isNone) = false := by rfl) (hks : (backToKw pos (keywordEach [⟨some (Str.ofString "default"), b, kp⟩] X.env)).filterMap (·.1) = [Str.ofString "default"] := by rfl)
    (hs : starEach (e :: []) X.env = (false, eval e X.env) :: starEach [] X.env := by rfl) : XV X (.Call (.Name "min" p) [e] [⟨some (Str.ofString "default"), b, kp⟩] pos) Γ (.int (lminD d ns)) :=
  xe_of (pe_callBK (cr_minD hc hu) hg hm (by decide +kernel) (pa_cons pe_wp pa_nil hs) hk (by decide) (by decide) he hpl hall hnone hks) fun σ Hb H E Q q => h σ Hb H E _ fun v z Hb1 H1 p1 g1 E1 r1 => hb σ Hb1 H1 E1 _ fun w z2 Hb2 H2 p2 g2 E2 r2 => by
    subst p1 p2
    cases r2
    cases r1 with
    | @lst a vs _ ha k =>
      have e1 := k.ints
      subst e1
      exact ⟨a, ns, d, rfl, rfl, SqL.of (E2.ex _ _ (g2.b _ _ ha)), q _ _ Hb2 H2 rfl (gww g1 g2) E2 (.int _)⟩
end
end DL

namespace DL
open PySem PySem.Spec PyProof.Rows L2 Evl

/-! ### saying less -/
theorem le_refl {Γ : List Sl} : Le Γ Γ := ⟨rfl, fun _ _ h => .inr h⟩
theorem le_nil : Le [] [] := le_refl
theorem le_un {a : Sl} {Γ Γ' : List Sl} (h : Le Γ Γ') : Le (a :: Γ) (.un :: Γ') := ⟨by rw [List.length_cons, List.length_cons, h.1], fun i s k => by
  cases i with
  | zero => cases k; exact .inl rfl
  | succ i => exact h.2 i s k⟩
theorem le_eq {a : Sl} {Γ Γ' : List Sl} (h : Le Γ Γ') : Le (a :: Γ) (a :: Γ') := ⟨by rw [List.length_cons, List.length_cons, h.1], fun i s k => by
  cases i with
  | zero => exact .inr k
  | succ i => exact h.2 i s k⟩
theorem Le.set {Γ Γ' : List Sl} (h : Le Γ Γ') (i : Nat) (s : Sl) : Le (Γ.set i s) (Γ'.set i s) := ⟨by rw [List.length_set, List.length_set, h.1], fun j t k => by
  rcases set_at k with ⟨rfl, z2, z3⟩ | ⟨z1, z2⟩
  · exact .inr (by rw [List.getElem?_set_self (by rw [h.1]; exact z3), z2])
  · exact (h.2 j t z2).imp id fun q => by rw [List.getElem?_set_ne z1]; exact q⟩
theorem Le.setG : ∀ {js : List Nat} {es : List D} {Γ Γ' : List Sl}, Le Γ Γ' → Le (DL.setG Γ js es) (DL.setG Γ' js es)
  | [], _, _, _, h => h
  | _ :: _, [], _, _, h => h
  | j :: js, d :: es, _, _, h => Le.setG (js := js) (h.set j (.pd d))
section
variable {X : Cx} {elt tg iter tg1 iter1 : Expr} {scope : Scope} {Γ : List Sl} {pos : Pos} {g g1 : TG} {kp : Nat} {G : Dn}
theorem flat_all {α β γ : Type} {xs : List α} {ys : α → List β} {h : α → β → γ} : ((xs.filter fun _ => true).flatMap fun x => ((ys x).filter fun _ => true).map (h x)) = xs.flatMap fun x => (ys x).map (h x) := by
  rw [List.filter_eq_self.mpr (fun _ _ => rfl)]
  have e : (fun x => ((ys x).filter fun _ => true).map (h x)) = fun x => (ys x).map (h x) := funext fun x => by rw [List.filter_eq_self.mpr (fun _ _ => rfl)]
  rw [e]
theorem xo_map2 {α β γ : Type} {f : α → D} {xs : List α} (js js1 : List Nat) (es : α → List D) (es1 : β → List D) (f1 : β → D) (ys : α → List β) (f' : γ → D) (h : α → β → γ) (own : List (Str × Nat)) (vs1 : List Nat) (hi : XW X tg iter Γ (xs.map f)) (hg : Bk X scope fun Y => PG Y tg g) (gt : ∀ x ∈ xs, XGt X.K g (f x) js (es x))
    (hi1 : ∀ x ∈ xs, Bk X scope fun Y => XW Y tg1 iter1 (setG Γ js (es x)) ((ys x).map f1)) (hg1 : Bk X scope fun Y => PG Y tg1 g1) (gt1 : ∀ x ∈ xs, ∀ y ∈ ys x, XGt X.K g1 (f1 y) js1 (es1 y))
    (he : ∀ x ∈ xs, ∀ y ∈ ys x, Bk X scope fun Y => XV Y elt (setG (setG Γ js (es x)) js1 (es1 y)) (f' (h x y))) (hl : (xs.flatMap fun x => (ys x).map (h x)).length < 100000) (ok : BlkOk X.N X.env.scope scope own) (hN : X.N.Nodup) (hw : wipeG Γ (own.map (·.2)) = Γ := by rfl) (hw1 : ∀ x ∈ xs, wipeG (setG Γ js (es x)) vs1 = setG Γ js (es x) := by intro _ _; rfl) (hv : ∀ j ∈ js, j ∈ own.map (·.2) := by decide) (hv1 : ∀ j ∈ js1, j ∈ vs1 := by decide) (hv2 : ∀ i ∈ vs1, i ∈ own.map (·.2) := by decide)
    (hc : X.calm = true := by rfl) (hs : ∀ x, foldedSetIterable iter X.env x = pure x := by intro _; rfl) (hs1 : ∀ env x, foldedSetIterable iter1 env x = pure x := by intro _ _; rfl) : XO X (.ListComp elt [⟨tg, iter, [], 0⟩, ⟨tg1, iter1, [], 0⟩] scope pos) Γ (.ml ((xs.flatMap fun x => (ys x).map (h x)).map f')) := by
  have z := xo_lc2 (pos := pos) js js1 es es1 (fun _ => true) f1 ys (fun _ _ => true) f' h own vs1 hi hg gt (.no) (fun _ _ => jt_yes rfl) (fun x hx _ => hi1 x hx) hg1 gt1 (.no) (fun _ _ _ _ => jt_yes rfl) (fun x hx y hy _ => he x hx y hy) (by rw [flat_all]; exact hl) ok hN hw hw1 hv hv1 hv2 hc hs hs1
  rw [flat_all] at z
  exact z
theorem xs_asgMap2 {st2 py : Pos} {x : Str} {α β γ : Type} {f : α → D} {xs : List α} (i : Nat) (js js1 : List Nat) (es : α → List D) (es1 : β → List D) (f1 : β → D) (ys : α → List β) (f' : γ → D) (h : α → β → γ) (own : List (Str × Nat)) (vs1 : List Nat) (hi : XW X tg iter Γ (xs.map f)) (hg : Bk X scope fun Y => PG Y tg g) (gt : ∀ x ∈ xs, XGt X.K g (f x) js (es x))
    (hi1 : ∀ x ∈ xs, Bk X scope fun Y => XW Y tg1 iter1 (setG Γ js (es x)) ((ys x).map f1)) (hg1 : Bk X scope fun Y => PG Y tg1 g1) (gt1 : ∀ x ∈ xs, ∀ y ∈ ys x, XGt X.K g1 (f1 y) js1 (es1 y))
    (he : ∀ x ∈ xs, ∀ y ∈ ys x, Bk X scope fun Y => XV Y elt (setG (setG Γ js (es x)) js1 (es1 y)) (f' (h x y))) (hl : (xs.flatMap fun x => (ys x).map (h x)).length < 100000) (k : G.nx (Γ.set i (.ow (.ml ((xs.flatMap fun x => (ys x).map (h x)).map f'))))) (ok : BlkOk X.N X.env.scope scope own) (hN : X.N.Nodup) (hsw : swapsWith (.ListComp elt [⟨tg, iter, [], 0⟩, ⟨tg1, iter1, [], 0⟩] scope pos) (some (.Name x py)) st2.line X.env = pure true)
    (hw : wipeG Γ (own.map (·.2)) = Γ := by rfl) (hw1 : ∀ x ∈ xs, wipeG (setG Γ js (es x)) vs1 = setG Γ js (es x) := by intro _ _; rfl) (hv : ∀ j ∈ js, j ∈ own.map (·.2) := by decide) (hv1 : ∀ j ∈ js1, j ∈ vs1 := by decide) (hv2 : ∀ i ∈ vs1, i ∈ own.map (·.2) := by decide) (hk : kp ≤ i := by decide) (hy : X.N[i]? = some x := by rfl) (hyl : X.env.scope.names.lookup x = some .local := by rfl)
    (hc : X.calm = true := by rfl) (hs : ∀ x, foldedSetIterable iter X.env x = pure x := by intro _; rfl) (hs1 : ∀ env x, foldedSetIterable iter1 env x = pure x := by intro _ _; rfl) : XS X kp (.Assign [.Name x py] (.ListComp elt [⟨tg, iter, [], 0⟩, ⟨tg1, iter1, [], 0⟩] scope pos) st2) Γ G := by
  refine xs_asgLc2 i js js1 es es1 (fun _ => true) f1 ys (fun _ _ => true) f' h own vs1 hi hg gt (.no) (fun _ _ => jt_yes rfl) (fun x hx _ => hi1 x hx) hg1 gt1 (.no) (fun _ _ _ _ => jt_yes rfl) (fun x hx y hy _ => he x hx y hy) (by rw [flat_all]; exact hl) ?_ ok hN hsw hw hw1 hv hv1 hv2 hk hy hyl hc hs hs1
  rw [flat_all]
  exact k
end
section
variable {X : Cx} {kp : Nat} {sts rest body : List Stmt} {Γ : List Sl} {G : Dn} {tg iter : Expr} {pos : Pos} {g : TG}
/-- a loop whose slots behind each turn are known: st, what the turns so far have made -/
theorem xs_loop {α S : Type} {f : α → D} {xs : List α} {js : List Nat} (es : α → List D) (emb : S → List Sl) (st : List α → S) (hi : XW X tg iter Γ (xs.map f)) (hp : PG X tg g) (hg : ∀ x ∈ xs, XGt X.K g (f x) js (es x)) (h0 : Le Γ (emb (st [])))
    (hs : ∀ pre x post, xs = pre ++ x :: post → XSs X kp body (setG (emb (st pre)) js (es x)) { nx := fun Γ' => Le Γ' (emb (st (pre ++ [x]))), ct := fun Γ' => Le Γ' (emb (st (pre ++ [x]))), bk := fun _ => False, rt := G.rt }) (hd : XSs X kp rest (emb (st xs)) G) (hps : PassesOwn (model X.prog X.w) X.A X.env X.xe) (hj : ∀ j ∈ js, kp ≤ j := by decide) (hc : X.calm = true := by rfl)
    (hss : ∀ x, foldedSetIterable iter X.env x = pure x := by intro _; rfl) : XSs X kp (.For tg iter body [] pos :: rest) Γ G := by
  refine xs_cons (xs_forT es (fun pre Γ' => Le Γ' (emb (st pre))) hi hp h0 hg (fun pre x post Γ' hx hv => ?_) (fun Γ' hv => hd.le hv) hps hj hc hss)
  exact ((hs pre x post hx).le hv.setG).imp (fun _ z => z) (fun _ _ z => z) (fun _ z => z.elim) fun _ z => z
theorem xs_leave (h : ∀ Γ', Le Γ Γ' → G.nx Γ') : XSs X kp [] Γ G := xs_nil (h Γ le_refl)
end
theorem hu_65 {k : Nat} {A : Around} (r : Room k A) : A.units + 65 < cLine := by
  have := r.un
  omega
theorem hu_64 {k : Nat} {A : Around} (r : Room k A) : A.units + 64 < cLine := by
  have := r.un
  omega
end DL

namespace DL
open PySem PySem.Spec PyProof.Rows L2 Evl
/-! ### defs as facts: what the kit tells of a def, in one -/
section
variable {P : Program} {w : World} {K : PySem.W.Frag} {mg : Str → Option Value} {base h : Heap}
structure Dd (K : PySem.W.Frag) (mg : Str → Option Value) (x : Str) (st : Stmt) (ps : List Str) : Prop where
  ex : ∃ (f : Addr) (fd : FuncData), Fun K x x st f fd ∧ mg x = some (.ref f) ∧ PySem.W.keepIn K (.ref f) = true ∧ Binds K fd ps []
/-- how the arguments are bound: by running bindArgs on a list of the right length -/
def Bnd (x : Str) (st : Stmt) (ps : List Str) : Prop := ∀ (kV doc pm : Value) (an : Option Addr) (cdv ct : Value) (us : List Value), us.length = ps.length → bindArgs (PySem.W.fnOf x x (defArgs st) (defBody st) (defScope st) .none kV doc pm an cdv ct) ⟨us, []⟩ = pure (ps.zip us)
theorem dd_mk {x : Str} {st : Stmt} {ps : List Str} (b : Bnd x st ps) (X : K.In h) (G : h.Ns mainGlobals mg) {f : Addr} {oc : Value} {od an : Option Addr} {osl : Array (Option Value)} {kV doc pm cdv ct : Value}
    (a : PySem.W.nsIn K mainGlobals x = some (some (.ref f))) (l : K.lookup f = some ⟨oc, od, .func (PySem.W.fnOf x x (defArgs st) (defBody st) (defScope st) .none kV doc pm an cdv ct), osl⟩)
    (c : PySem.W.codeIn K cdv x = true) (k : PySem.W.keepIn K (.ref f) = true) : Dd K mg x st ps := by
  have F := fun_mk (st := st) l c k
  exact ⟨f, _, F, PySem.W.mg_of X G a, k, F.binds fun kV doc pm an cdv ct us hl => b kV doc pm an cdv ct us hl⟩
theorem Cal.of {x : Str} {st : Stmt} {ps : List Str} {k : Nat} {sp : Sp} (D : Dd K mg x st ps) (ok : ∀ {f : Addr} {fd : FuncData}, Fun K x x st f fd → FnOk P w K mg base CX0 k f fd ps sp) : Cal P w K mg base k x ps sp := by
  obtain ⟨f, fd, F, h1, h2, h3⟩ := D.ex
  exact ⟨f, fd, ok F, h1, h2, h3⟩
theorem fn_absurd {ps : List Str} {sp : Sp} {k : Nat} {f : Addr} {fd : FuncData} (h : ∀ vs H Q E, ¬ sp vs H Q E) : FnOk P w K mg base CX0 k f fd ps sp := ⟨fun vs H Q E z => absurd z (h vs H Q E), fun A outer s H args us vs Q E hr e b v z => absurd z (h vs H Q E)⟩
/-- a def that calls itself: by how deep it still may go -/
theorem cal_rec {x : Str} {st : Stmt} {ps : List Str} {C : Nat → Con} (D : Dd K mg x st ps) (h0 : ∀ ds Φ, ¬ C 0 ds Φ) (step : ∀ n, Cal P w K mg base n x ps (spP K (C n)) → ∀ {f : Addr} {fd : FuncData}, Fun K x x st f fd → FnOk P w K mg base CX0 (n + 1) f fd ps (spP K (C (n + 1)))) : ∀ n, Cal P w K mg base n x ps (spP K (C n))
  | 0 => Cal.of D fun _ => fn_absurd fun vs H Q E ⟨ds, Φ, Hb, z, _⟩ => h0 ds Φ z
  | n + 1 => Cal.of D (step n (cal_rec D h0 step n))
theorem cal_recE {x : Str} {st : Stmt} {ps : List Str} {o : MO} {C : Nat → Con} (D : Dd K mg x st ps) (h0 : ∀ ds Φ, ¬ C 0 ds Φ) (step : ∀ n, Cal P w K mg base n x ps (spE K o (C n)) → ∀ {f : Addr} {fd : FuncData}, Fun K x x st f fd → FnOk P w K mg base CX0 (n + 1) f fd ps (spE K o (C (n + 1)))) : ∀ n, Cal P w K mg base n x ps (spE K o (C n))
  | 0 => Cal.of D fun _ => fn_absurd fun vs H Q E ⟨a, ws, ds, Φ, Hb, u, _, z, _⟩ => h0 ds Φ z
  | n + 1 => Cal.of D (step n (cal_recE D h0 step n))
theorem Cal.mono {x : Str} {ps : List Str} {j k : Nat} {sp : Sp} (c : Cal P w K mg base j x ps sp) (h : j ≤ k) : Cal P w K mg base k x ps sp := by
  obtain ⟨f, fd, F, h1, h2, h3⟩ := c.ex
  exact ⟨f, fd, F.mono h, h1, h2, h3⟩
/-! ### the law -/
def cLaw (n : Nat) : Con := fun ds Φ => ∃ ns : List Int, ds = [.sc ns] ∧ ns.length ≤ n ∧ Φ (.bl true)
structure Dl (K : PySem.W.Frag) (mg : Str → Option Value) (st : Stmt) (x : Str) : Prop where
  ex : ∃ (f : Addr) (fd : FuncData), Fun K "law" "law" st f fd ∧ mg "law" = some (.ref f) ∧ ∀ (s : Shared) (u : Value), BindsTo s fd ⟨[u], []⟩ [(x, u)]
theorem dl_mk {st : Stmt} {x : Str} (b : Bnd "law" st [x]) (X : K.In h) (G : h.Ns mainGlobals mg) {f : Addr} {oc : Value} {od an : Option Addr} {osl : Array (Option Value)} {kV doc pm cdv ct : Value}
    (a : PySem.W.nsIn K mainGlobals "law" = some (some (.ref f))) (l : K.lookup f = some ⟨oc, od, .func (PySem.W.fnOf "law" "law" (defArgs st) (defBody st) (defScope st) .none kV doc pm an cdv ct), osl⟩)
    (c : PySem.W.codeIn K cdv "law" = true) (k : PySem.W.keepIn K (.ref f) = true) : Dl K mg st x :=
  ⟨f, _, fun_mk (st := st) l c k, PySem.W.mg_of X G a, fun s u => .of_eq (b kV doc pm an cdv ct [u] rfl)⟩
theorem law_walk {l : PySem.W.OpenLaw} (n k : Nat) {q : Program} {loose : List Str} {XP : (Str → Option Value) → Heap → Prop} {YP : World → Heap → Prop} {d : DefRec} {K : Params → PySem.W.Frag} {st : Stmt} {x : Str}
    (hn : l.most = some n) (hn2 : n ≤ sizeLine) (hdf : d.params.defaults = []) (hr : Room k callerA) (hd : d.name = "law") (hY : ∀ (w : World) (h : Heap), YP w h → (K w.params).In h)
    (F : ∀ (w : World) (mg : Str → Option Value) (h : Heap), (K w.params).In h → h.Ns mainGlobals mg → Dl (K w.params) mg st x ∧ ∀ (base : Heap) (f : Addr) (fd : FuncData), Fun (K w.params) "law" "law" st f fd → FnOk l.prog w (K w.params) mg base CX0 k f fd [x] (spP (K w.params) (cLaw n))) :
    PySem.W.WalkO q loose XP YP l.row.toRowW d [] (fun f vs => PySem.call f vs) := by
  refine walk_of (n := n) (k := k) (x := x) (K := K) (CX := fun _ => CX0) (sp := fun w => spP (K w.params) (cLaw n)) hn hn2 hdf hr hY (fun w mg fa h KX G hmg => ?_) (fun w H a ns hl hO hS => ?_) fun _ _ _ _ _ z => z
  · obtain ⟨h0, h3⟩ := F w mg h KX G
    obtain ⟨f, fd, Ff, h1, h2⟩ := h0.ex
    rw [hd] at hmg
    cases h1.symm.trans hmg
    exact ⟨fd, h2, fun base _ _ => h3 base _ fd Ff⟩
  · exact ⟨[.sc ns], fun z => z = .bl true, H, ⟨ns, rfl, hl, rfl⟩, Ex.refl H, .cons (.sc hS) .nil, fun v d Hb' H' z _ r => by
      subst z
      cases r
      rfl⟩
end
end DL

namespace DL
open PySem PySem.Spec PyProof.Rows L2 Evl
theorem xv_nilL {X : Cx} {Γ : List Sl} {α : Type} {f : α → D} {pos : Pos} : XV X (.List [] pos) Γ (lT f []) := xv_lst (ds := []) xa_nil (by decide)
section
variable {X : Cx} {kp : Nat} {sts rest body : List Stmt} {Γ : List Sl} {G : Dn} {tg iter : Expr} {pos : Pos} {g : TG}
/-- .. with what is known besides -/
theorem xs_loopP {α S : Type} {f : α → D} {xs : List α} {js : List Nat} (es : α → List D) (emb : S → List Sl) (st : List α → S) (Iv : List α → Prop) (hi : XW X tg iter Γ (xs.map f)) (hp : PG X tg g) (hg : ∀ x ∈ xs, XGt X.K g (f x) js (es x)) (h0 : Le Γ (emb (st []))) (i0 : Iv [])
    (hs : ∀ pre x post, xs = pre ++ x :: post → Iv pre → XSs X kp body (setG (emb (st pre)) js (es x)) { nx := fun Γ' => Le Γ' (emb (st (pre ++ [x]))) ∧ Iv (pre ++ [x]), ct := fun Γ' => Le Γ' (emb (st (pre ++ [x]))) ∧ Iv (pre ++ [x]), bk := fun _ => False, rt := G.rt }) (hd : Iv xs → XSs X kp rest (emb (st xs)) G) (hps : PassesOwn (model X.prog X.w) X.A X.env X.xe) (hj : ∀ j ∈ js, kp ≤ j := by decide) (hc : X.calm = true := by rfl)
    (hss : ∀ x, foldedSetIterable iter X.env x = pure x := by intro _; rfl) : XSs X kp (.For tg iter body [] pos :: rest) Γ G := by
  refine xs_cons (xs_forT es (fun pre Γ' => Le Γ' (emb (st pre)) ∧ Iv pre) hi hp ⟨h0, i0⟩ hg (fun pre x post Γ' hx hv => ?_) (fun Γ' hv => (hd hv.2).le hv.1) hps hj hc hss)
  exact ((hs pre x post hx hv.2).le hv.1.setG).imp (fun _ z => z) (fun _ _ z => z) (fun _ z => z.elim) fun _ z => z
end
end DL

namespace DL
open PySem PySem.Spec PyProof.Rows L2 Evl
/-! ### the law's script -/
theorem atI_mapV {α β : Type} {f : α → β} {l : List α} {i : Int} {x : α} (h : atI l i = some x) : atI (l.map f) i = some (f x) := by
  unfold atI at h ⊢
  rw [List.length_map]
  cases e : ixN l.length i with
  | none => rw [e] at h; cases h
  | some j =>
    rw [e] at h
    show (l.map f)[j]? = some (f x)
    rw [List.getElem?_map, show l[j]? = some x from h]
    rfl
theorem v_ixSc {K : PySem.W.Frag} {ns : List Int} {i j : Int} (h : atI ns i = some j) : RV2 K (rIxL K) (.sc ns) (.int i) (.int j) := rv_scal fun x y Hb H ex h1 h2 => by
  cases h1 with
  | sc ha =>
    cases h2
    exact ⟨.int j, .int j, fun Q q => ⟨_, _, i, .int j, rfl, rfl, ex_l ex ha, atI_mapV h, q⟩⟩
theorem l_lenSc {K : PySem.W.Frag} {ns : List Int} : RL K (fun xs H Q => ∃ p ys, xs = [.ref p] ∧ (SqL K H p ys ∨ SqT K H p ys) ∧ Q (.int ys.length) H) [.sc ns] fun z => z = .int ns.length := rl_scal fun xs Hb H ex h1 => by
  obtain ⟨v, rfl, r⟩ := h1.one_inv
  cases r with
  | sc ha => exact ⟨.int ns.length, .int _, fun Q k => ⟨_, _, rfl, .inl (ex_l ex ha), by rw [List.length_map]; exact k⟩⟩
theorem xv_lenSc {X : Cx} {Γ : List Sl} {a : Expr} {pos p : Pos} {ns : List Int} (h : XV X a Γ (.sc ns)) (hm : X.mg "len" = none) (hg : Gl X "len" := by rfl) (hs : starEach (a :: []) X.env = (false, eval a X.env) :: starEach [] X.env := by rfl) (hpl : (backTo pos (starEach [] X.env)).any (·.1) = false := by rfl) : XV X (.Call (.Name "len" p) [a] [] pos) Γ (.int ns.length) := xe_callB call_len_seq hm PySem.boot_len (xl_cons h xa_nil hs) (fun _ z => by
  rw [z]
  exact l_lenSc) hg (by decide) (by decide) hs hpl
/-! ### isinstance(x, T), T a built-in class -/
def D.ty : D → Option String
  | .non => some "NoneType" | .bl _ => some "bool" | .int _ => some "int" | .str _ => some "str" | .lst _ => some "list" | .tup _ => some "tuple"
  | _ => none
theorem ty_of {K : PySem.W.Frag} {H : Hp} {v : V} {d : D} {t : String} (r : DR K H v d) (h : d.ty = some t) : TyX K H v (.type t) := by
  cases r with
  | non => cases h; exact .base .non
  | bl b => cases h; exact .base (.bl b)
  | int b => cases h; exact .base (.int b)
  | str b => cases h; exact .base (.str b)
  | lst k _ =>
    cases h
    exact .base (.lst k)
  | tup k _ =>
    cases h
    rcases k with k | ⟨o, its, n, k1, k2, _⟩
    · rcases k with k | ⟨ob, k⟩
      · exact .base (.tup k)
      · exact .fTuple k
    · exact .kTuple k1 k2
  | ins _ _ _ _ => cases h
  | dic _ _ _ _ => cases h
  | sc _ => cases h
section
variable {X : Cx} {Γ : List Sl} {a : Expr} {pos p pt : Pos} {d : D}
theorem xe_isi {m : Bool} {Φa Φ : D → Prop} (T : String) (ha : XE X m a Γ Φa) (h : ∀ d, Φa d → ∃ t b, d.ty = some t ∧ kitB t T = some b ∧ Φ (.bl b)) (hm : X.mg "isinstance" = none) (hm2 : X.mg (Str.ofString T) = none) (hv : bootBuiltins (Str.ofString T) = some (.type T) := by decide +kernel) (hb : bootBuiltins "isinstance" = some (.builtin "isinstance") := by decide +kernel)
    (hg : Gl X "isinstance" := by rfl) (hg2 : Gl X (Str.ofString T) := by rfl) (hn2 : (Str.ofString T) ≠ "__name__" := by decide) (hdb2 : ((Str.ofString T) == ("__debug__" : Str)) = false := by decide)
    (hs : starEach [a, .Name (Str.ofString T) pt] X.env = (false, eval a X.env) :: starEach [.Name (Str.ofString T) pt] X.env := by rfl) (hs2 : starEach [.Name (Str.ofString T) pt] X.env = (false, eval (.Name (Str.ofString T) pt) X.env) :: starEach [] X.env := by rfl) (hpl : (backTo pos (starEach [.Name (Str.ofString T) pt] X.env)).any (·.1) = false := by rfl) : XE X m (.Call (.Name "isinstance" p) [a, .Name (Str.ofString T) pt] [] pos) Γ Φ :=
  xe_of (pe_callB call_isi hg hm hb (pa_cons pe_wp (pa_cons (pe_bltn (v := .ty T) hg2 hm2 hv rfl hn2 hdb2) pa_nil hs2) hs) (by decide) (by decide) hs hpl) fun σ Hb H E Q q => ha σ Hb H E _ fun v d Hb1 H1 p1 g1 E1 r1 => by
    obtain ⟨t, b, h1, h2, h3⟩ := h d p1
    exact ⟨v, .ty T, .type t, .type T, b, rfl, .ty T, ty_of (r1.mono E1.ex) h1, kit_ty h2, q (.bl b) (.bl b) Hb1 H1 h3 g1 E1 (.bl b)⟩
theorem xv_isi {t : String} {b : Bool} (T : String) (ha : XV X a Γ d) (hm : X.mg "isinstance" = none) (hm2 : X.mg (Str.ofString T) = none) (h1 : d.ty = some t := by rfl) (h2 : kitB t T = some b := by decide +kernel) (hv : bootBuiltins (Str.ofString T) = some (.type T) := by decide +kernel) (hb : bootBuiltins "isinstance" = some (.builtin "isinstance") := by decide +kernel)
    (hg : Gl X "isinstance" := by rfl) (hg2 : Gl X (Str.ofString T) := by rfl) (hn2 : (Str.ofString T) ≠ "__name__" := by decide) (hdb2 : ((Str.ofString T) == ("__debug__" : Str)) = false := by decide)
    (hs : starEach [a, .Name (Str.ofString T) pt] X.env = (false, eval a X.env) :: starEach [.Name (Str.ofString T) pt] X.env := by rfl) (hs2 : starEach [.Name (Str.ofString T) pt] X.env = (false, eval (.Name (Str.ofString T) pt) X.env) :: starEach [] X.env := by rfl) (hpl : (backTo pos (starEach [.Name (Str.ofString T) pt] X.env)).any (·.1) = false := by rfl) : XV X (.Call (.Name "isinstance" p) [a, .Name (Str.ofString T) pt] [] pos) Γ (.bl b) :=
  xe_isi T ha (fun z e => ⟨t, b, by rw [e]; exact h1, h2, rfl⟩) hm hm2 hv hb hg hg2 hn2 hdb2 hs hs2 hpl
end
/-! ### a def that hands back a list it has just written down -/
section
variable {P : Program} {w : World} {K : PySem.W.Frag} {mg : Str → Option Value} {base : Heap} {x qual : Str} {st : Stmt} {f : Addr} {fd : FuncData} {N ps : List Str} {k : Nat} {e : Expr} {pos : Pos}
theorem no_ownG {σ : L2.St} {ds : List D} {a : Addr} : ¬ Own σ (stG N (ds.map .pd)) a := fun ⟨i, o, h, _⟩ => by
  unfold stG at h
  by_cases hi : i < (ds.map Sl.pd).length
  · rw [List.getElem?_append_left hi, List.getElem?_map] at h
    cases hd : ds[i]? with
    | none => rw [hd] at h; cases h
    | some d' => rw [hd] at h; cases h
  · rw [List.getElem?_append_right (by omega), List.getElem?_replicate] at h
    split at h <;> cases h
theorem fn_newRet {C : List D → (MO → Prop) → Prop} (F : Fun K x qual st f fd) (S : FnScope N ps (defScope st)) (len : ∀ ds Φ, C ds Φ → ds.length = ps.length) (hb : defBody st = [.Return (some e) pos])
    (body : ∀ (cdv : Value) (A : Around) (outer : List Env) (s : Shared) (H : Hp) (E : XK), Room k (A.deeper (envOfC qual (defScope st) s.heap.objs.size f cdv)) → ∀ ds Φ, C ds Φ → XN (cxF P w K mg base N qual st f cdv A outer s H E) true e (stG N (ds.map .pd)) Φ) :
    FnOk P w K mg base CX0 (k + 1) f fd ps (spN K C) := fn_new F S len fun cdv A outer s H E hr ds Φ h1 => by
  rw [hb]
  refine ⟨_, pss_cons (ps_ret pe_wp) pss_nil, fun σ Hb H2 En Q q => ?_⟩
  refine body cdv A outer s H E hr ds Φ h1 σ Hb H2 En Q fun p u o Hb' H' z n g E' nb hp r => ?_
  exact q p u o Hb' H' z n (g.wk fun _ y => (no_ownG y.2).elim) nb hp r
end
end DL

namespace DL
open PySem PySem.Spec PyProof.Rows L2 Evl
/-! ### the drawn numbers' state: [script, place, rest, seed] -/
def stM (ns : List Int) (i r z : Int) : MO := .ml [.sc ns, .int i, .int r, .int z]
def stB (i r z : Int) : Prop := 0 ≤ i ∧ 0 ≤ r ∧ 0 ≤ z ∧ z < 4294967296
def stO : MO := .inv fun K Hb o => ∃ ns i r z, stB i r z ∧ MR K Hb o (stM ns i r z)
def stR (o : MO) : Prop := ∃ ns i r z, stB i r z ∧ o = stM ns i r z
section
variable {K : PySem.W.Frag} {Hb : Hp} {u : HO} {o : MO}
theorem st_in (h : stR o) (r : MR K Hb u o) : MR K Hb u stO := fun Hb' e => by
  obtain ⟨ns, i, r', z, b, rfl⟩ := h
  exact ⟨ns, i, r', z, b, r.mono e⟩
theorem st_out (r : MR K Hb u stO) : ∃ o', stR o' ∧ MR K Hb u o' := by
  obtain ⟨ns, i, r', z, b, h⟩ := r Hb (Ex.refl Hb)
  exact ⟨_, ⟨ns, i, r', z, b, rfl⟩, h⟩
end
def cStart : List D → (MO → Prop) → Prop := fun ds Φ => ∃ ns : List Int, ds = [.sc ns] ∧ Φ stO
def cPick : Con := fun ds Φ => ∃ limit : Int, ds = [.int limit] ∧ (1 ≤ limit ∧ limit < 1073741824) ∧ ∀ v, 0 ≤ v → v < limit → Φ (.int v)
/-! what both sides of _law_same may be -/
def D.sm : Nat → D → Prop
  | _, .non => True | _, .bl _ => True | _, .int _ => True | _, .str _ => True
  | n + 1, .lst l => l.length ≤ 100000 ∧ ∀ d ∈ l, D.sm n d
  | n + 1, .tup l => l.length ≤ 100000 ∧ ∀ d ∈ l, D.sm n d
  | _, _ => False
theorem sm_int {n : Nat} {i : Int} : (D.int i).sm n := by cases n <;> trivial
theorem sm_bl {n : Nat} {i : Bool} : (D.bl i).sm n := by cases n <;> trivial
theorem sm_str {n : Nat} {i : Str} : (D.str i).sm n := by cases n <;> trivial
theorem sm_non {n : Nat} : D.non.sm n := by cases n <;> trivial
theorem sm_lT {α : Type} {f : α → D} {xs : List α} {n : Nat} (hl : xs.length ≤ 100000) (h : ∀ x ∈ xs, (f x).sm n) : (lT f xs).sm (n + 1) := ⟨by rw [List.length_map]; exact hl, fun d hd => by
  obtain ⟨x, hx, rfl⟩ := List.mem_map.mp hd
  exact h x hx⟩
theorem sm_tT {α : Type} {f : α → D} {xs : List α} {n : Nat} (hl : xs.length ≤ 100000) (h : ∀ x ∈ xs, (f x).sm n) : (tT f xs).sm (n + 1) := ⟨by rw [List.length_map]; exact hl, fun d hd => by
  obtain ⟨x, hx, rfl⟩ := List.mem_map.mp hd
  exact h x hx⟩
def cSame (n : Nat) : Con := fun ds Φ => ∃ d : D, ds = [d, d] ∧ (∃ m, n = m + 1 ∧ d.sm m) ∧ Φ (.bl true)
theorem atI_get {l : List D} {i : Int} (h0 : 0 ≤ i) (h : i < l.length) : atI l i = some (l.getD i.toNat .non) := by
  obtain ⟨n, rfl⟩ : ∃ n : Nat, i = n := ⟨i.toNat, by omega⟩
  have hn : n < l.length := by omega
  refine atI_nat ?_
  rw [List.getD_eq_getElem?_getD]
  show _ = some ((l[n]?).getD D.non)
  rw [List.getElem?_eq_getElem hn]
  rfl
theorem get_in {l : List D} {i : Int} (h0 : 0 ≤ i) (h : i < l.length) : l.getD i.toNat .non ∈ l := by
  rw [List.getD_eq_getElem?_getD, List.getElem?_eq_getElem (by omega)]
  exact List.getElem_mem _
theorem XN.cast {X : Cx} {m : Bool} {e : Expr} {Γ : List Sl} {Φ Ψ : MO → Prop} (h : XN X m e Γ Φ) (k : ∀ o, Φ o → ∃ o', Ψ o' ∧ ∀ (Hb : Hp) (u : HO), MR X.K Hb u o → MR X.K Hb u o') : XN X m e Γ Ψ := fun σ Hb H E Q q => h σ Hb H E Q fun p u o Hb' H' z n g E' nb hp r => by
  obtain ⟨o', h1, h2⟩ := k o z
  exact q p u o' Hb' H' h1 n g E' nb hp (h2 Hb' u r)
end DL

namespace DL
open PySem PySem.Spec PyProof.Rows L2 Evl
/-! ### drawing in the midst of a row -/
section
variable {X : Cx} {Γ : List Sl} {m : Bool} {a b e : Expr} {es : List Expr} {pos p : Pos} {k : Nat} {y : Str} {py : Pos}
abbrev dInt (L : Int) : D → Prop := fun d => ∃ v, d = .int v ∧ 0 ≤ v ∧ v < L
theorem xe_pick (i : Nat) {L : Int} (c : Cal X.prog X.w X.K X.mg X.base k "_law_pick" ["state", "limit"] (spE X.K stO cPick)) (hr : Room k X.A) (ha : XV X e Γ (.int L)) (hL : 1 ≤ L ∧ L < 1073741824) (h : Γ[i]? = some (.ow stO) := by rfl) (hN : X.N[i]? = some y := by rfl) (hv : Vis X.env.scope y := by first | exact Or.inl rfl | exact Or.inr (Or.inl rfl) | exact Or.inr (Or.inr rfl)) (hd : (y == ("__debug__" : Str)) = false := by decide)
    (hcd : (y == ("__classdict__" : Str)) = false := by decide) (hg : Gl X "_law_pick" := by rfl) (he : starEach [.Name y py, e] X.env = (false, eval (.Name y py) X.env) :: starEach [e] X.env := by rfl) (he2 : starEach [e] X.env = (false, eval e X.env) :: starEach [] X.env := by rfl) (hpl : (backTo pos (starEach [e] X.env)).any (·.1) = false := by rfl) :
    XE X true (.Call (.Name "_law_pick" p) [.Name y py, e] [] pos) Γ (dInt L) :=
  xe_callE i c hr (xl_cons ha xa_nil he2).up (fun ds h => ⟨L, h, hL, fun v h0 h1 => ⟨v, rfl, h0, h1⟩⟩) h hN hv hd hcd hg (by decide) he hpl
theorem xt_eqI {L j : Int} (ha : XE X m a Γ (dInt L)) (hb : XV X b Γ (.int j)) {Φ : Bool → Prop} (h : ∀ v, 0 ≤ v → v < L → Φ (decide (v = j))) (hm : behindInMarks .Eq b = false := by first | exact nobehind _ (by decide) (by decide) | rfl) : XT X m (.Compare a [.Eq] [b] pos) Γ Φ :=
  xt_cmp op_eq hm ha (fun _ _ => hb.up) fun d e ⟨v, hv, h0, h1⟩ q => by
    subst hv q
    intro x y Hb H ex r1 r2 Q w
    exact v_eqI x y Hb H ex r1 r2 Q fun z d' Hb' H' f => w z d' Hb' H' ⟨_, f, h v h0 h1⟩
theorem xa_one {Φ : D → Prop} {Ψ : List D → Prop} (h : XE X m e Γ Φ) (k : ∀ d, Φ d → Ψ [d]) (hs : starEach (e :: []) X.env = (false, eval e X.env) :: starEach [] X.env := by rfl) : XA X m [e] Γ Ψ := xa_cons h (fun _ _ => xa_nil.up) (fun d ds p q => by rw [q]; exact k d p) hs
theorem xa_then {d : D} {Φ Ψ : List D → Prop} (h : XV X e Γ d) (hb : XA X m es Γ Φ) (k : ∀ ds, Φ ds → Ψ (d :: ds)) (hs : starEach (e :: es) X.env = (false, eval e X.env) :: starEach es X.env := by rfl) : XA X m (e :: es) Γ Ψ := xa_cons h.up (fun _ _ => hb) (fun d' ds p q => by rw [p]; exact k ds q) hs
end
end DL

namespace DL
open PySem PySem.Spec PyProof.Rows L2 Evl
/-! ### slices -/
def cutD {α : Type} (xs : List α) (lo hi : Option Int) : List α := (xs.drop (HT.sIx xs.length 0 lo)).take (HT.sIx xs.length xs.length hi - HT.sIx xs.length 0 lo)
theorem cutD_map {α β : Type} {f : α → β} {xs : List α} {lo hi : Option Int} : cutD (xs.map f) lo hi = (cutD xs lo hi).map f := by
  unfold cutD
  rw [List.length_map, ← List.map_drop, ← List.map_take]
theorem cutD_to {α : Type} {xs : List α} {k : Nat} : cutD xs none (some (k : Int)) = xs.take k := by
  unfold cutD
  rw [HT.sIx_none, HT.sIx_nat, List.drop_zero, Nat.sub_zero]
  rw [← List.take_take, List.take_length]
theorem cutD_from {α : Type} {xs : List α} {k : Nat} : cutD xs (some (k : Int)) none = xs.drop k := by
  unfold cutD
  rw [HT.sIx_none, HT.sIx_nat]
  rw [List.take_of_length_le (by rw [List.length_drop]; omega)]
  by_cases h : k ≤ xs.length
  · rw [Nat.min_eq_left h]
  · rw [Nat.min_eq_right (by omega), List.drop_eq_nil_of_le (Nat.le_refl _), List.drop_eq_nil_of_le (by omega)]
theorem cutD_whole {α : Type} {xs : List α} {lo hi : Option Int} (h : HT.sIx xs.length 0 lo = 0 ∧ HT.sIx xs.length xs.length hi = xs.length) : cutD xs lo hi = xs := by
  unfold cutD
  rw [h.1, h.2, List.drop_zero, Nat.sub_zero, List.take_length]
/-- a slice's bound -/
def XP (X : Cx) (Γ : List Sl) (o : Option Expr) (v : Option Int) : Prop := ∃ to, PO X o to ∧ ∀ (σ : L2.St) (Hb H : Hp), En X.K Hb H σ Γ → ∀ Q : Option Int → Hp → Prop, (∀ Hb' H', Gr (WW false σ Γ) Hb H Hb' H' → En X.K Hb' H' σ Γ → Q v H') → to σ H Q
section
variable {X : Cx} {Γ : List Sl} {m : Bool} {a b e elt tg iter : Expr} {es : List Expr} {pos p p2 : Pos} {lo hi : Option Expr} {lv hv : Option Int} {x : Str}
theorem xp_none : XP X Γ none none := ⟨_, po_none, fun σ Hb H E Q q => q Hb H (Gr.refl E.ex) E⟩
theorem xp_some {i : Int} (h : XV X e Γ (.int i)) : XP X Γ (some e) (some i) := ⟨_, po_some pe_wp, fun σ Hb H E Q q => h σ Hb H E _ fun v d Hb' H' p g E' r => by
  subst p
  cases r
  exact ⟨i, rfl, q Hb' H' g E'⟩⟩
theorem xo_slL {α : Type} {f : α → D} {l : List α} (h : XV X a Γ (lT f l)) (hl : XP X Γ lo lv) (hh : XP X Γ hi hv) : XO X (.Subscript a (.Slice lo hi none p2) pos) Γ (.ml ((cutD l lv hv).map f)) := by
  obtain ⟨tl, h1, h2⟩ := hl
  obtain ⟨th, k1, k2⟩ := hh
  refine xn_of (pe_slice sl_list pe_wp h1 k1) fun σ Hb H E Q q => h σ Hb H E _ fun v d Hb1 H1 p1 g1 E1 r1 => h2 σ Hb1 H1 E1 _ fun Hb2 H2 g2 E2 => k2 σ Hb2 H2 E2 _ fun Hb3 H3 g3 E3 => ?_
  subst p1
  cases r1 with
  | @lst c vs _ ha r =>
    refine ⟨c, vs, rfl, SqL.of (E3.ex _ _ (g3.b _ _ (g2.b _ _ ha))), fun p hp => ?_⟩
    have hb := fresh_back E3.ex hp
    refine q p _ _ Hb3 _ rfl (new_none (gww g1 (gww g2 g3)) hp) (gwn (gww g1 (gww g2 g3)) (New.side E3.ex hp)) (E3.new (New.side E3.ex hp)) hb upd_same ⟨_, rfl, ?_⟩
    have z := ((r.mono g2.b).mono g3.b)
    have e := z.len
    rw [← cutD_map]
    unfold cutV cutD
    rw [e]
    exact (z.drop _).take _
theorem xv_slL {α : Type} {f : α → D} {l : List α} (h : XV X a Γ (lT f l)) (hl : XP X Γ lo lv) (hh : XP X Γ hi hv) : XV X (.Subscript a (.Slice lo hi none p2) pos) Γ (lT f (cutD l lv hv)) := (xo_slL h hl hh).frz
theorem xv_slT {α : Type} {f : α → D} {l : List α} (h : XV X a Γ (tT f l)) (hl : XP X Γ lo lv) (hh : XP X Γ hi hv) : XV X (.Subscript a (.Slice lo hi none p2) pos) Γ (tT f (cutD l lv hv)) := by
  obtain ⟨tl, h1, h2⟩ := hl
  obtain ⟨th, k1, k2⟩ := hh
  refine xe_of (pe_slice sl_tupA pe_wp h1 k1) fun σ Hb H E Q q => h σ Hb H E _ fun v d Hb1 H1 p1 g1 E1 r1 => h2 σ Hb1 H1 E1 _ fun Hb2 H2 g2 E2 => k2 σ Hb2 H2 E2 _ fun Hb3 H3 g3 E3 => ?_
  subst p1
  cases r1 with
  | @tup c vs _ ha r =>
    have ha3 := ex_t g3.b (ex_t g2.b ha)
    have z := ((r.mono g2.b).mono g3.b)
    have e := z.len
    refine ⟨c, vs, rfl, ex_t E3.ex ha3, fun w => ?_, fun w p hp => ?_⟩
    · refine q (.ref c) _ Hb3 H3 ?_ (gww g1 (gww g2 g3)) E3 (.tup ha3 z)
      rw [e, List.length_map] at w
      rw [cutD_whole w]
      rfl
    · refine q (.ref p) _ _ _ rfl (gwn (gww g1 (gww g2 g3)) (New.mk E3.ex hp)) (E3.new (New.mk E3.ex hp)) (.tup (SqT.of upd_same) ((?_ : DRs X.K Hb3 _ _).mono (Ex.new (fresh_back E3.ex hp))))
      rw [← cutD_map]
      unfold cutV cutD
      rw [e]
      exact (z.drop _).take _
/-! ### comprehensions whose items are drawn -/
theorem xn_lcD {scope : Scope} {g : TG} {α β : Type} {f : α → D} {xs : List α} {Ψ : β → Prop} (js : List Nat) (es : α → List D) (f' : β → D) (own : List (Str × Nat)) (hi : XW X tg iter Γ (xs.map f)) (hg : Bk X scope fun Y => PG Y tg g) (gt : ∀ x ∈ xs, XGt X.K g (f x) js (es x))
    (he : ∀ x ∈ xs, Bk X scope fun Y => XE Y true elt (setG Γ js (es x)) fun d => ∃ b, d = f' b ∧ Ψ b) (hl : xs.length ≤ 100000) (ok : BlkOk X.N X.env.scope scope own) (hN : X.N.Nodup) (hw : wipeG Γ (own.map (·.2)) = Γ := by rfl) (hv : ∀ j ∈ js, j ∈ own.map (·.2) := by decide)
    (hc : X.calm = true := by rfl) (hs : ∀ x, foldedSetIterable iter X.env x = pure x := by intro _; rfl) : XN X true (.ListComp elt [⟨tg, iter, [], 0⟩] scope pos) Γ fun o => ∃ bs : List β, o = .ml (bs.map f') ∧ bs.length = xs.length ∧ ∀ b ∈ bs, Ψ b := by
  refine (xn_lc (Φ := fun z => z = xs.map f) js (fun _ i => (xs[i]?.map es).getD []) (fun _ i acc => ∃ bs : List β, acc = bs.map f' ∧ bs.length = i ∧ ∀ b ∈ bs, Ψ b) own hi.up hg (fun ds e i d hd => ?_) .no (fun ds e => ⟨[], rfl, rfl, fun b hb => nomatch hb⟩) (fun ds e i d acc hd hp => ?_) (fun ds e => by rw [e, List.length_map]; exact hl) ok hN hw hv hc hs).imp ?_
  · subst e
    rw [List.getElem?_map] at hd
    cases hx : xs[i]? with
    | none => rw [hx] at hd; cases hd
    | some x =>
      rw [hx] at hd
      cases hd
      exact gt x (List.mem_of_getElem? hx)
  · subst e
    rw [List.getElem?_map] at hd
    cases hx : xs[i]? with
    | none => rw [hx] at hd; cases hd
    | some x =>
      have z := he x (List.mem_of_getElem? hx)
      refine jt_yes ⟨fun _ s H C cl fp => ?_, fun h => nomatch h⟩
      show XE _ true elt (setG Γ js (es x)) _
      refine (z s H C cl fp).imp fun d hb => ?_
      obtain ⟨b, h1, h2⟩ := hb
      obtain ⟨bs, k1, k2, k3⟩ := hp
      refine ⟨bs ++ [b], by rw [k1, h1, List.map_append]; rfl, by rw [List.length_append, k2]; rfl, fun c hc => ?_⟩
      rcases List.mem_append.mp hc with hc | hc
      · exact k3 c hc
      · rw [List.mem_singleton.mp hc]
        exact h2
  · rintro o ⟨ds, acc, rfl, h1, bs, h2, h3, h4⟩
    exact ⟨bs, by rw [h1, h2], by rw [h3, List.length_map], h4⟩
theorem xe_tupN {β : Type} {f' : β → D} {Φ : List β → Prop} (h : XN X m a Γ fun o => ∃ bs : List β, o = .ml (bs.map f') ∧ Φ bs) (hm : X.mg "tuple" = none) (hg : Gl X "tuple" := by rfl) (hs : starEach (a :: []) X.env = (false, eval a X.env) :: starEach [] X.env := by rfl) (hpl : (backTo pos (starEach [] X.env)).any (·.1) = false := by rfl) : XE X m (.Call (.Name "tuple" p) [a] [] pos) Γ fun d => ∃ bs, d = tT f' bs ∧ Φ bs :=
  xe_callT call_tuple_of hm (by decide +kernel) (xa_one (Ψ := fun ds => ∃ bs : List β, ds = [lT f' bs] ∧ Φ bs) ((h.imp fun o ⟨bs, h1, h2⟩ => ⟨bs.map f', h1, bs, rfl, h2⟩ : XN X m a Γ fun o => ∃ ds, o = .ml ds ∧ ∃ bs : List β, ds = bs.map f' ∧ Φ bs).frzP) (fun d ⟨ds, h1, bs, h2, h3⟩ => ⟨bs, by rw [h1, h2]; rfl, h3⟩) hs) (fun ds ⟨bs, h1, h2⟩ => by
    rw [h1]
    exact fun xs Hb H ex r Q q => l_tupleL xs Hb H ex r Q fun z d' Hb' H' e => q z d' Hb' H' ⟨bs, e, h2⟩) hg (by decide) (by decide) hs hpl
/-- i + what is drawn -/
theorem xe_addD {i L : Int} (ha : XV X a Γ (.int i)) (hb : XE X m b Γ (dInt L)) : XE X m (.BinOp a .Add b pos) Γ fun d => ∃ v, d = .int (i + v) ∧ 0 ≤ v ∧ v < L :=
  xe_bin op_add ha.up (fun _ _ => hb) fun d e h ⟨v, h2, h3⟩ => by
    subst h h2
    exact fun x y Hb H ex r1 r2 Q q => v_add x y Hb H ex r1 r2 Q fun z d' Hb' H' e => q z d' Hb' H' ⟨v, e, h3⟩
end
end DL
namespace DL
open PySem PySem.Spec PyProof.Rows L2 Evl
section
variable {X : Cx} {kp : Nat} {Γ : List Sl} {c : Expr} {A B rest : List Stmt} {G : Dn} {pos : Pos}
/-- a test that fails: what it guards is passed by -/
theorem xs_no (h : XB X c Γ false) (k : XSs X kp rest Γ G) : XSs X kp (.If c A [] pos :: rest) Γ G := xs_cons (xs_if h (fun h => nomatch h) fun _ => xs_nil k)
/-- a test whose part leaves all as it was -/
theorem xs_ifJ {b : Bool} (h : XB X c Γ b) (h1 : b = true → XSs X kp A Γ { G with nx := fun Γ' => Le Γ' Γ }) (k : XSs X kp rest Γ G) : XSs X kp (.If c A [] pos :: rest) Γ G :=
  xs_cons (xs_if h (fun e => (h1 e.symm).imp (fun Γ' l => k.le l) (fun _ _ z => z) (fun _ z => z) fun _ z => z) fun _ => xs_nil k)
end
end DL

namespace DL
open PySem PySem.Spec PyProof.Rows L2 Evl
/-! ### list(range(..)), tuple(range(..)) -/
theorem rgV_rng {a b : Int} : rgV a b = (rng a b).map V.int := by
  unfold rgV rng
  rw [List.map_map]
  rfl
theorem dr_ints {K : PySem.W.Frag} {H : Hp} : ∀ ns : List Int, DRs K H (ns.map V.int) (ns.map D.int)
  | [] => .nil
  | n :: ns => .cons (.int n) (dr_ints ns)
/-- range(..) as an argument, its ends known -/
def XG (X : Cx) (Γ : List Sl) (e : Expr) (a b : Int) : Prop := ∃ t, PRg X e t ∧ ∀ (σ : L2.St) (Hb H : Hp), En X.K Hb H σ Γ → ∀ Q : Int → Int → Hp → Prop, (∀ Hb' H', Gr (WW false σ Γ) Hb H Hb' H' → En X.K Hb' H' σ Γ → Q a b H') → t σ H Q
section
variable {X : Cx} {Γ : List Sl} {m : Bool} {a b e : Expr} {pos p : Pos}
theorem xg_1 {n : Int} (h : XV X a Γ (.int n)) (hm : X.mg "range" = none) (hg : Gl X "range" := by rfl) (na : starEach [a] X.env = (false, eval a X.env) :: starEach [] X.env := by rfl) : XG X Γ (.Call (.Name "range" p) [a] [] pos) 0 n :=
  ⟨_, prg_1 hg hm pe_wp na, fun σ Hb H E Q q => h σ Hb H E _ fun v d Hb1 H1 p1 g1 E1 r1 => by
    subst p1
    cases r1
    exact ⟨n, rfl, q Hb1 H1 g1 E1⟩⟩
theorem xg_2 {i j : Int} (h : XV X a Γ (.int i)) (h2 : XV X b Γ (.int j)) (hm : X.mg "range" = none) (hg : Gl X "range" := by rfl) (na : starEach [a, b] X.env = (false, eval a X.env) :: starEach [b] X.env := by rfl)
    (nb : starEach [b] X.env = (false, eval b X.env) :: starEach [] X.env := by rfl) (hp : (backTo pos (starEach [b] X.env)).any (·.1) = false := by rfl) : XG X Γ (.Call (.Name "range" p) [a, b] [] pos) i j :=
  ⟨_, prg_2 hg hm pe_wp pe_wp na nb hp, fun σ Hb H E Q q => h σ Hb H E _ fun v d Hb1 H1 p1 g1 E1 r1 => h2 σ Hb1 H1 E1 _ fun v2 d2 Hb2 H2 p2 g2 E2 r2 => by
    subst p1 p2
    cases r1
    cases r2
    exact ⟨i, j, rfl, rfl, q Hb2 H2 (gww g1 g2) E2⟩⟩
theorem xo_listRg {i j : Int} (h : XG X Γ e i j) (hi : -100000 ≤ i ∧ i ≤ 100000) (hj : -100000 ≤ j ∧ j ≤ 100000) (hm : X.mg "list" = none) (hc : X.calm = true := by rfl) (hg : Gl X "list" := by rfl) (na : starEach [e] X.env = (false, eval e X.env) :: starEach [] X.env := by rfl) : XO X (.Call (.Name "list" p) [e] [] pos) Γ (.ml ((rng i j).map D.int)) := by
  obtain ⟨t, h1, h2⟩ := h
  refine xn_of (pe_listRg hc hg hm h1 na) fun σ Hb H E Q q => h2 σ Hb H E _ fun Hb1 H1 g1 E1 => ⟨⟨by omega, by omega, by omega, by omega, by omega⟩, fun p hp => ?_⟩
  exact q p _ _ Hb1 _ rfl (new_none g1 hp) (gwn g1 (New.side E1.ex hp)) (E1.new (New.side E1.ex hp)) (fresh_back E1.ex hp) upd_same ⟨_, rfl, by rw [rgV_rng]; exact dr_ints _⟩
theorem xv_listRg {i j : Int} (h : XG X Γ e i j) (hi : -100000 ≤ i ∧ i ≤ 100000) (hj : -100000 ≤ j ∧ j ≤ 100000) (hm : X.mg "list" = none) (hc : X.calm = true := by rfl) (hg : Gl X "list" := by rfl) (na : starEach [e] X.env = (false, eval e X.env) :: starEach [] X.env := by rfl) : XV X (.Call (.Name "list" p) [e] [] pos) Γ (lT D.int (rng i j)) := (xo_listRg h hi hj hm hc hg na).frz
theorem xv_tupRg {i j : Int} (h : XG X Γ e i j) (hi : -100000 ≤ i ∧ i ≤ 100000) (hj : -100000 ≤ j ∧ j ≤ 100000) (hm : X.mg "tuple" = none) (hc : X.calm = true := by rfl) (hg : Gl X "tuple" := by rfl) (na : starEach [e] X.env = (false, eval e X.env) :: starEach [] X.env := by rfl) : XV X (.Call (.Name "tuple" p) [e] [] pos) Γ (tT D.int (rng i j)) := by
  obtain ⟨t, h1, h2⟩ := h
  refine xe_of (pe_tupRg hc hg hm h1 na) fun σ Hb H E Q q => h2 σ Hb H E _ fun Hb1 H1 g1 E1 => ⟨⟨by omega, by omega, by omega, by omega, by omega⟩, fun p hp => ?_⟩
  exact q (.ref p) _ _ _ rfl (gwn g1 (New.mk E1.ex hp)) (E1.new (New.mk E1.ex hp)) (.tup (SqT.of upd_same) (by rw [rgV_rng]; exact dr_ints _))
/-! ### a op b op c -/
theorem jr_chain {K : PySem.W.Frag} {r r' : R2} {ta tb tc : TE} {d d1 d2 : D} {k l : Bool} (ha : JR K m ta Γ fun z => z = d) (hb : JR K m tb Γ fun z => z = d1) (hc : JR K m tc Γ fun z => z = d2) (hr : RV2 K r d d1 (.bl k)) (hr' : k = true → RV2 K r' d1 d2 (.bl l)) : JR K m (tChain r r' ta tb tc) Γ fun z => z = .bl (k && l) := fun σ Hb H E Q q =>
  ha σ Hb H E _ fun x e1 Hb1 H1 p1 g1 E1 r1 => hb σ Hb1 H1 E1 _ fun y e2 Hb2 H2 p2 g2 E2 r2 => by
    subst p1 p2
    refine hr x y Hb2 H2 E2.ex (r1.mono g2.b) r2 _ fun z e3 Hb3 H3 p3 g3 r3 => ?_
    subst p3
    cases r3
    refine ⟨k, rfl, ?_⟩
    cases k with
    | false =>
      rw [if_neg (fun z => Bool.noConfusion z)]
      exact q (.bl false) (.bl false) Hb3 H3 rfl (gwn (gww g1 g2) g3) (E2.new g3) (.bl false)
    | true =>
      rw [if_pos rfl]
      refine hc σ Hb3 H3 (E2.new g3) _ fun w' e4 Hb4 H4 p4 g4 E4 r4 => ?_
      subst p4
      refine hr' rfl y w' Hb4 H4 E4.ex ((r2.mono g3.b).mono g4.b) r4 _ fun z e5 Hb5 H5 p5 g5 r5 => ?_
      exact q z e5 Hb5 H5 p5 (gwn (gww (gwn (gww g1 g2) g3) g4) g5) (E4.new g5) r5
theorem xv_chain {op op' : CmpOp} {r r' : R2} {c : Expr} {d d1 d2 : D} {k l : Bool} (ho : OpR X (compareOp op) r) (hr : RV2 X.K r d d1 (.bl k)) (ho' : OpR X (compareOp op') r') (hr' : k = true → RV2 X.K r' d1 d2 (.bl l)) (ha : XV X a Γ d) (hb : XV X b Γ d1) (hc : XV X c Γ d2) (hm : lastMarks [op, op'] [b, c] = false := by with_unfolding_all rfl) : XV X (.Compare a [op, op'] [b, c] pos) Γ (.bl (k && l)) := xe_of (pe_chain ho ho' pe_wp pe_wp pe_wp hm) (jr_chain ha hb hc hr hr')
theorem xb_chain {op op' : CmpOp} {r r' : R2} {c : Expr} {d d1 d2 : D} {k l : Bool} (ho : OpR X (compareOp op) r) (hr : RV2 X.K r d d1 (.bl k)) (ho' : OpR X (compareOp op') r') (hr' : k = true → RV2 X.K r' d1 d2 (.bl l)) (ha : XV X a Γ d) (hb : XV X b Γ d1) (hc : XV X c Γ d2) (hm : lastMarks [op, op'] [b, c] = false := by with_unfolding_all rfl) : XB X (.Compare a [op, op'] [b, c] pos) Γ (k && l) := xt_of (pt_chain ho ho' pe_wp pe_wp pe_wp hm) (jt_test fun σ Hb H E Q q => jr_chain ha hb hc hr hr' σ Hb H E Q fun v d Hb' H' e => q v d Hb' H' ⟨_, e, rfl⟩)
end
end DL
namespace DL
open PySem PySem.Spec PyProof.Rows L2 Evl
section
variable {X : Cx} {kp : Nat} {Γ Γ' : List Sl} {c : Expr} {body rest : List Stmt} {G : Dn} {pos : Pos}
theorem XT.le {Φ : Bool → Prop} (h : XT X false c Γ' Φ) (l : Le Γ Γ') : XT X false c Γ Φ := fun σ Hb H E Q q => h σ Hb H (E.le l) Q fun b Hb' H' p g E' => q b Hb' H' p ((ww_new g).wk fun _ z => z.elim) (E.new (ww_new g))
/-- a while loop over known states -/
theorem xs_whl {S : Type} (emb : S → List Sl) (ms : S → Nat) (Iv : S → Prop) (s0 : S) (h0 : Le Γ (emb s0)) (i0 : Iv s0) (hs : ∀ s, Iv s → ∃ b, XB X c (emb s) b ∧ (b = true → XSs X kp body (emb s) { nx := fun Γ2 => ∃ s', ms s' < ms s ∧ Iv s' ∧ Le Γ2 (emb s'), ct := fun Γ2 => ∃ s', ms s' < ms s ∧ Iv s' ∧ Le Γ2 (emb s'), bk := fun _ => False, rt := G.rt }) ∧ (b = false → XSs X kp rest (emb s) G)) (hps : PassesOwn (model X.prog X.w) X.A X.env X.xe) : XSs X kp (.While c body [] pos :: rest) Γ G := by
  refine xs_cons (xs_while (m := false) (fun k Γ2 => ∃ s, k = ms s ∧ Iv s ∧ Le Γ2 (emb s)) (ms s0) ⟨s0, rfl, i0, h0⟩ (fun k Γ2 ⟨s, hk, hI, l⟩ => ?_) hps)
  subst hk
  obtain ⟨b, h1, h2, h3⟩ := hs s hI
  exact ⟨fun z => z = b, XT.le h1 l, fun e => ((h2 e.symm).le l).imp (fun _ ⟨s', y1, y2, y3⟩ => ⟨ms s', y1, s', rfl, y2, y3⟩) (fun _ _ z => z) (fun _ z => z.elim) (fun _ ⟨s', y1, y2, y3⟩ => ⟨ms s', y1, s', rfl, y2, y3⟩), fun e => (h3 e.symm).le l⟩
end
end DL

namespace DL
open PySem PySem.Spec PyProof.Rows L2 Evl
section
variable {X : Cx} {Γ : List Sl} {m : Bool} {a b e tg : Expr} {pos p : Pos} {kp : Nat} {sts rest body : List Stmt} {G : Dn} {g : TG}
/-- range(n), n drawn -/
theorem xi_range1D {L : Int} (h : XE X m e Γ (dInt L)) (hL : L ≤ 100000) (hm : X.mg "range" = none) (hg : Gl X "range" := by rfl) (hs : starEach [e] X.env = [(false, eval e X.env)] := by rfl) : XI X m tg (.Call (.Name "range" p) [e] [] pos) Γ fun ds => ∃ n, ds = (rng 0 n).map D.int ∧ 0 ≤ n ∧ n < L := xi_of (pi_range1 hg hm pa_wp hs) fun σ Hb H E R q => (xa_one (Ψ := fun ds => ∃ n, ds = [.int n] ∧ 0 ≤ n ∧ n < L) h (fun d ⟨v, h1, h2⟩ => ⟨v, by rw [h1], h2⟩) hs) σ Hb H E _ fun vs ds Hb1 H1 p1 g1 E1 r1 => by
  obtain ⟨n, rfl, h0, h1⟩ := p1
  cases r1 with
  | cons r1 r2 =>
    cases r2
    cases r1
    have z := q (Itr 0 (n - 0).toNat) _ Hb1 H1 ⟨n, rfl, h0, h1⟩ g1 E1 itd_rng
    rw [Int.sub_zero] at z
    exact ⟨n, rfl, by omega, by omega, z⟩
/-- a loop over a drawn number of turns; st: what may stand behind i turns -/
theorem xs_loopD {S : Type} {js : List Nat} {L : Int} {iter : Expr} (emb : S → List Sl) (Iv : Nat → S → Prop) (s0 : S) (hi : XI X m tg iter Γ fun ds => ∃ n, ds = (rng 0 n).map D.int ∧ 0 ≤ n ∧ n < L) (hp : PG X tg g) (hg : ∀ k : Int, XGt X.K g (.int k) js [.int k]) (h0 : Le Γ (emb s0)) (i0 : Iv 0 s0)
    (hs : ∀ (i : Nat) (s : S), (i : Int) < L → Iv i s → XSs X kp body (setG (emb s) js [.int i]) { nx := fun Γ' => ∃ s', Iv (i + 1) s' ∧ Le Γ' (emb s'), ct := fun Γ' => ∃ s', Iv (i + 1) s' ∧ Le Γ' (emb s'), bk := fun _ => False, rt := G.rt })
    (hd : ∀ (n : Nat) (s : S), (n : Int) < L → Iv n s → XSs X kp rest (emb s) G) (hps : PassesOwn (model X.prog X.w) X.A X.env X.xe) (hj : ∀ j ∈ js, kp ≤ j := by decide) (hc : X.calm = true := by rfl) (hss : ∀ x, foldedSetIterable iter X.env x = pure x := by intro _; rfl) : XSs X kp (.For tg iter body [] pos :: rest) Γ G := by
  refine xs_cons (xs_for (fun _ i => [.int i]) (fun _ i Γ' => ∃ s, Iv i s ∧ Le Γ' (emb s)) hi hp (fun ds _ => ⟨s0, i0, h0⟩) (fun ds ⟨n, e, h1, h2⟩ i d hd' => ?_) (fun ds ⟨n, e, h1, h2⟩ i d Γ' hd' hv => ?_) (fun ds Γ' ⟨n, e, h1, h2⟩ hv => ?_) hps hj hc hss)
  · subst e
    rw [List.getElem?_map] at hd'
    cases hx : (rng 0 n)[i]? with
    | none => rw [hx] at hd'; cases hd'
    | some k =>
      rw [hx] at hd'
      cases hd'
      have hlt : i < (rng 0 n).length := (List.getElem?_eq_some_iff.mp hx).1
      rw [rng_len] at hlt
      rw [rng_get (by omega)] at hx
      cases hx
      rw [Int.zero_add]
      exact hg i
  · subst e
    have hlt : i < (rng 0 n).length := by
      have := (List.getElem?_eq_some_iff.mp hd').1
      rwa [List.length_map] at this
    rw [rng_len] at hlt
    obtain ⟨s, v1, v2⟩ := hv
    exact ((hs i s (by omega) v1).le v2.setG).imp (fun _ z => z) (fun _ _ z => z) (fun _ z => z.elim) fun _ z => z
  · subst e
    rw [List.length_map, rng_len] at hv
    obtain ⟨s, v1, v2⟩ := hv
    exact (hd _ s (by omega) v1).le v2
/-- xs[i], i drawn -/
theorem xe_ixD {L : Int} {α : Type} {f : α → D} {l : List α} {Ψ : D → Prop} (ha : XV X a Γ (lT f l)) (hb : XE X m b Γ (dInt L)) (hL : L ≤ l.length) (h : ∀ x ∈ l, Ψ (f x)) (hs : PlainIx b := by exact fun _ _ => rfl) : XE X m (.Subscript a b pos) Γ Ψ :=
  xe_ix ix_list ha.up (fun _ _ => hb) (fun d e h1 ⟨v, h2, h3, h4⟩ => by
    subst h1 h2
    obtain ⟨n, rfl⟩ : ∃ n : Nat, v = n := ⟨v.toNat, by omega⟩
    have hn : n < l.length := by omega
    have z : RV2 X.K (rIxL X.K) (lT f l) (.int (n : Int)) (f l[n]) := v_ixLT (atI_nat (by rw [List.getElem?_eq_getElem hn]))
    exact fun x y Hb H ex r1 r2 Q q => z x y Hb H ex r1 r2 Q fun z' d' Hb' H' e => q z' d' Hb' H' (by rw [e]; exact h _ (List.getElem_mem _))) hs
theorem xe_ixDT {L : Int} {α : Type} {f : α → D} {l : List α} {Ψ : D → Prop} (ha : XV X a Γ (tT f l)) (hb : XE X m b Γ (dInt L)) (hL : L ≤ l.length) (h : ∀ x ∈ l, Ψ (f x)) (hs : PlainIx b := by exact fun _ _ => rfl) : XE X m (.Subscript a b pos) Γ Ψ :=
  xe_ix ix_tup ha.up (fun _ _ => hb) (fun d e h1 ⟨v, h2, h3, h4⟩ => by
    subst h1 h2
    obtain ⟨n, rfl⟩ : ∃ n : Nat, v = n := ⟨v.toNat, by omega⟩
    have hn : n < l.length := by omega
    have z : RV2 X.K (rIxT X.K) (tT f l) (.int (n : Int)) (f l[n]) := v_ixTT (atI_nat (by rw [List.getElem?_eq_getElem hn]))
    exact fun x y Hb H ex r1 r2 Q q => z x y Hb H ex r1 r2 Q fun z' d' Hb' H' e => q z' d' Hb' H' (by rw [e]; exact h _ (List.getElem_mem _))) hs
/-- a loop over known items; Iv: what may be behind i turns -/
theorem xs_loopI {α S : Type} {f : α → D} {xs : List α} {js : List Nat} {iter : Expr} (es : α → List D) (emb : S → List Sl) (Iv : Nat → S → Prop) (s0 : S) (hi : XW X tg iter Γ (xs.map f)) (hp : PG X tg g) (hg : ∀ x ∈ xs, XGt X.K g (f x) js (es x)) (h0 : Le Γ (emb s0)) (i0 : Iv 0 s0)
    (hs : ∀ (i : Nat) (x : α) (s : S), xs[i]? = some x → Iv i s → XSs X kp body (setG (emb s) js (es x)) { nx := fun Γ' => ∃ s', Iv (i + 1) s' ∧ Le Γ' (emb s'), ct := fun Γ' => ∃ s', Iv (i + 1) s' ∧ Le Γ' (emb s'), bk := fun _ => False, rt := G.rt })
    (hd : ∀ (s : S), Iv xs.length s → XSs X kp rest (emb s) G) (hps : PassesOwn (model X.prog X.w) X.A X.env X.xe) (hj : ∀ j ∈ js, kp ≤ j := by decide) (hc : X.calm = true := by rfl) (hss : ∀ x, foldedSetIterable iter X.env x = pure x := by intro _; rfl) : XSs X kp (.For tg iter body [] pos :: rest) Γ G := by
  refine xs_cons (xs_for (fun _ i => (xs[i]?.map es).getD []) (fun _ i Γ' => ∃ s, Iv i s ∧ Le Γ' (emb s)) hi hp (fun ds _ => ⟨s0, i0, h0⟩) (fun ds e i d hd' => ?_) (fun ds e i d Γ' hd' hv => ?_) (fun ds Γ' e hv => ?_) hps hj hc hss)
  · subst e
    rw [List.getElem?_map] at hd'
    cases hx : xs[i]? with
    | none => rw [hx] at hd'; cases hd'
    | some x =>
      rw [hx] at hd'
      cases hd'
      exact hg x (List.mem_of_getElem? hx)
  · subst e
    rw [List.getElem?_map] at hd'
    cases hx : xs[i]? with
    | none => rw [hx] at hd'; cases hd'
    | some x =>
      obtain ⟨s, v1, v2⟩ := hv
      exact ((hs i x s hx v1).le v2.setG).imp (fun _ z => z) (fun _ _ z => z) (fun _ z => z.elim) fun _ z => z
  · subst e
    rw [List.length_map] at hv
    obtain ⟨s, v1, v2⟩ := hv
    exact (hd s v1).le v2
end
end DL
namespace DL
open PySem PySem.Spec PyProof.Rows L2 Evl
section
variable {X : Cx} {Γ : List Sl} {m : Bool} {a b : Expr} {pos : Pos}
/-- a drawn list + a list -/
theorem xe_catLD {α : Type} {f : α → D} {l' : List α} {Φ : List α → Prop} (ha : XE X m a Γ fun d => ∃ l, d = lT f l ∧ Φ l) (hb : XV X b Γ (lT f l')) (hz : ∀ l, Φ l → l.length + l'.length ≤ 100000) : XE X m (.BinOp a .Add b pos) Γ fun d => ∃ l, d = lT f (l ++ l') ∧ Φ l := by
  have z : XN X m (.BinOp a .Add b pos) Γ fun o => ∃ ds, o = .ml ds ∧ ∃ l, ds = (l ++ l').map f ∧ Φ l := xn_of (pe_op op_cat pe_wp pe_wp) (jn_bin ha (fun _ _ => hb.up) fun d e ⟨l, h1, h2⟩ q => by
    subst h1 q
    have y := v_catL (K := X.K) (ds := l.map f) (es := l'.map f) (by rw [List.length_map, List.length_map]; exact hz l h2)
    exact fun x1 y1 Hb H ex r1 r2 Q q => y x1 y1 Hb H ex r1 r2 Q fun p u o Hb' H' e => q p u o Hb' H' ⟨_, e, l, by rw [List.map_append], h2⟩)
  exact z.frzP.imp fun d ⟨ds, h1, l, h2, h3⟩ => ⟨l, by rw [h1, h2]; rfl, h3⟩
/-- a list times a number -/
theorem xv_repL {α : Type} {f : α → D} {l : List α} {k : Int} (ha : XV X a Γ (lT f l)) (hb : XV X b Γ (.int k)) (hk : 0 ≤ k ∧ k ≤ 100000) (hz : l.length * k.toNat ≤ 100000) : XV X (.BinOp a .Mult b pos) Γ (lT f (List.replicate k.toNat l).flatten) := by
  refine XN.frz (ds := (List.replicate k.toNat l).flatten.map f) (xn_of (pe_op op_rep pe_wp pe_wp) (jn_bin ha (fun _ _ => hb) fun d e h1 h2 => ?_))
  subst h1 h2
  intro x y Hb H ex r1 r2 Q q
  cases r1 with
  | lst h r =>
    cases r2
    have hl := r.len
    rw [List.length_map] at hl
    refine ⟨_, k, _, rfl, rfl, ex _ _ h, by omega, by omega, sz_of (by rw [hl]; exact hz), fun p hp => q p _ _ Hb _ rfl hp (New.side ex hp) (fresh_back ex hp) upd_same ⟨_, rfl, ?_⟩⟩
    have e : (List.replicate k.toNat l).flatten.map f = (List.replicate k.toNat (l.map f)).flatten := by rw [List.map_flatten, List.map_replicate]
    rw [e]
    generalize k.toNat = n
    induction n with
    | zero => exact .nil
    | succ n ih =>
      rw [List.replicate_succ, List.replicate_succ, List.flatten_cons, List.flatten_cons]
      exact r.app ih
end
end DL

namespace DL
open PySem PySem.Spec PyProof.Rows L2 Evl
/-! ### len(set(t)), t a tuple of ints -/
section
variable {X : Cx} {Γ : List Sl} {m : Bool} {e : Expr} {pos pos1 p p1 : Pos}
def rLenSet (w : World) : List V → Hp → VK → Prop := fun xs H Q => ∃ (p : Addr) (S : Int → Bool) (c : Nat), xs = [.ref p] ∧ H p = some (SetO w p S c) ∧ c ≤ 1000 ∧ ((∃ ks : List Int, ks.Nodup ∧ (∀ k, S k = true ↔ k ∈ ks) ∧ ks.length = c) → Q (.int c) H)
theorem cr_lenSet : CallR X (.builtin "len") (rLenSet X.w) := by
  intro pins s σ H xs us Q I r h
  obtain ⟨p, S, c, rfl, hp, hc, q⟩ := h
  rw [Vals.ref1 r]
  obtain ⟨R, _⟩ := (show ObjOk X.prog X.w H s.heap p (SetO X.w p S c) from I.hok p _ hp)
  obtain ⟨o, es, ep, t, ho, hex, hd, hg, hn, hm, hb, hf, hs, _⟩ := R
  exact call_len_set ho hex hd hf (by rw [hs]; omega) ⟨.int c, H, I.tok _, ⟨_, by rw [hs]⟩, q ⟨es.toList.map keyOf, hn, hm, by rw [List.length_map, Array.length_toList, hs]⟩⟩
theorem xv_lenSetT {ns : List Int} (h : XV X e Γ (tT D.int ns)) (hz : ns.length ≤ 60) (hm : X.mg "len" = none) (hm1 : X.mg "set" = none) (hc : X.calm = true := by rfl) (hg : Gl X "len" := by rfl) (hg1 : Gl X "set" := by rfl)
    (he : starEach (e :: []) X.env = (false, eval e X.env) :: starEach [] X.env := by rfl) (hpl : (backTo pos1 (starEach [] X.env)).any (·.1) = false := by rfl) (he2 : starEach (.Call (.Name "set" p1) [e] [] pos1 :: []) X.env = (false, eval (.Call (.Name "set" p1) [e] [] pos1) X.env) :: starEach [] X.env := by rfl) (hpl2 : (backTo pos (starEach [] X.env)).any (·.1) = false := by rfl) :
    XV X (.Call (.Name "len" p) [.Call (.Name "set" p1) [e] [] pos1] [] pos) Γ (.int (setI ns).length) := by
  have hs : PE X (.Call (.Name "set" p1) [e] [] pos1) (tCB (rSetTI X.w X.K) (tCons (wpE X e) tNil)) := pe_callTy (cr_setTI hc) hg1 hm1 PyProof.Rows.boot_set (pa_cons pe_wp pa_nil he) (by decide) (by decide) he hpl
  refine xe_of (pe_callB cr_lenSet hg hm (by decide +kernel) (pa_cons hs pa_nil he2) (by decide) (by decide) he2 hpl2) fun σ Hb H E Q q => h σ Hb H E _ fun v d Hb1 H1 p1 g1 E1 r1 => ?_
  subst p1
  cases r1 with
  | @tup a vs _ ha k =>
    have e1 := k.ints
    subst e1
    refine ⟨a, ns, rfl, ex_t E1.ex ha, hz, fun p c hcn hp => ⟨p, _, c, rfl, upd_same, by omega, fun ⟨ks, k1, k2, k3⟩ => ?_⟩⟩
    have n1 := New.side (o := SetO X.w p (fun j => decide (j ∈ ns)) c) E1.ex hp
    have el : c = (setI ns).length := by
      rw [← k3]
      have nd : (setI ns).Nodup := (setI_asc ns).imp fun h => by omega
      exact ((List.perm_ext_iff_of_nodup k1 nd).mpr fun x => by rw [← k2 x, mem_setI]; exact decide_eq_true_iff).length_eq
    exact q (.int c) _ Hb1 _ (by rw [el]) (gwn g1 n1) (E1.new n1) (.int _)
/-! ### [drawn for k in range(drawn)], sorted of it -/
variable {a elt tg iter : Expr}
theorem xn_lcDD {scope : Scope} {g : TG} {β : Type} {Ψ : β → Prop} {L : Int} (js : List Nat) (f' : β → D) (own : List (Str × Nat)) (hi : XI X true tg iter Γ fun ds => ∃ n, ds = (rng 0 n).map D.int ∧ 0 ≤ n ∧ n < L) (hL : L ≤ 100000) (hg : Bk X scope fun Y => PG Y tg g) (gt : ∀ k : Int, XGt X.K g (.int k) js [.int k])
    (he : ∀ k : Int, Bk X scope fun Y => XE Y true elt (setG Γ js [.int k]) fun d => ∃ b, d = f' b ∧ Ψ b) (ok : BlkOk X.N X.env.scope scope own) (hN : X.N.Nodup) (hw : wipeG Γ (own.map (·.2)) = Γ := by rfl) (hv : ∀ j ∈ js, j ∈ own.map (·.2) := by decide)
    (hc : X.calm = true := by rfl) (hs : ∀ x, foldedSetIterable iter X.env x = pure x := by intro _; rfl) : XN X true (.ListComp elt [⟨tg, iter, [], 0⟩] scope pos) Γ fun o => ∃ bs : List β, o = .ml (bs.map f') ∧ (bs.length : Int) < L ∧ ∀ b ∈ bs, Ψ b := by
  refine (xn_lc (Φ := fun ds => ∃ n, ds = (rng 0 n).map D.int ∧ 0 ≤ n ∧ n < L) js (fun _ i => [.int i]) (fun _ i acc => ∃ bs : List β, acc = bs.map f' ∧ bs.length = i ∧ ∀ b ∈ bs, Ψ b) own hi hg (fun ds ⟨n, e, h0, h1⟩ i d hd => ?_) .no (fun ds e => ⟨[], rfl, rfl, fun b hb => nomatch hb⟩) (fun ds ⟨n, e, h0, h1⟩ i d acc hd hp => ?_) (fun ds ⟨n, e, h0, h1⟩ => by rw [e, List.length_map, rng_len]; omega) ok hN hw hv hc hs).imp ?_
  · subst e
    rw [List.getElem?_map] at hd
    cases hx : (rng 0 n)[i]? with
    | none => rw [hx] at hd; cases hd
    | some x =>
      rw [hx] at hd
      cases hd
      have hlt := (List.getElem?_eq_some_iff.mp hx).1
      rw [rng_len] at hlt
      rw [rng_get (by omega)] at hx
      cases hx
      rw [Int.zero_add]
      exact gt i
  · refine jt_yes ⟨fun _ s H C cl fp => ?_, fun h => nomatch h⟩
    show XE _ true elt (setG Γ js [.int i]) _
    refine (he i s H C cl fp).imp fun d hb => ?_
    obtain ⟨b, h1, h2⟩ := hb
    obtain ⟨bs, k1, k2, k3⟩ := hp
    refine ⟨bs ++ [b], by rw [k1, h1, List.map_append]; rfl, by rw [List.length_append, k2]; rfl, fun c hc => ?_⟩
    rcases List.mem_append.mp hc with hc | hc
    · exact k3 c hc
    · rw [List.mem_singleton.mp hc]
      exact h2
  · rintro o ⟨ds, acc, ⟨n, e, h0, h1⟩, rfl, bs, h2, h3, h4⟩
    exact ⟨bs, by rw [h2], by rw [h3, e, List.length_map, rng_len]; omega, h4⟩
theorem xn_sortedN {α : Type} [DecidableEq α] {f : α → D} {n : Nat} [Enc f n] [Alk f] {Φ : List α → Prop} (h : XN X m a Γ fun o => ∃ xs : List α, o = .ml (xs.map f) ∧ Φ xs) (hso : ∀ xs, Φ xs → PySem.W.Sortable (xs.map fun x => (f x).py)) (hu : X.A.units + 65 < cLine) (hm : X.mg "sorted" = none) (hn : n ≤ 60 := by decide) (hg : Gl X "sorted" := by rfl) (hs : starEach (a :: []) X.env = (false, eval a X.env) :: starEach [] X.env := by rfl) (hpl : (backTo pos (starEach [] X.env)).any (·.1) = false := by rfl) :
    XN X m (.Call (.Name "sorted" p) [a] [] pos) Γ fun o => ∃ xs : List α, o = .ml ((sortD f xs).map f) ∧ Φ xs :=
  xn_callB (cr_sortD (f := f) hu) hm (by decide +kernel) (xa_one (Ψ := fun ds => ∃ xs : List α, ds = [lT f xs] ∧ Φ xs) ((h.imp fun o ⟨bs, h1, h2⟩ => ⟨bs.map f, h1, bs, rfl, h2⟩ : XN X m a Γ fun o => ∃ ds, o = .ml ds ∧ ∃ xs : List α, ds = xs.map f ∧ Φ xs).frzP) (fun d ⟨ds, h1, bs, h2, h3⟩ => ⟨bs, by rw [h1, h2]; rfl, h3⟩) hs) (fun ds ⟨xs, h1, h2⟩ => by
    rw [h1]
    exact fun vs Hb H ex r Q q => l_sorted (hso xs h2) hn vs Hb H ex r Q fun p u o Hb' H' e => q p u o Hb' H' ⟨xs, e, h2⟩) hg (by decide) (by decide) hs hpl
end
end DL
namespace DL
open PySem PySem.Spec PyProof.Rows L2 Evl
/-! ### max(t), t a tuple of ints -/
theorem lmax_fold (x : Int) (xs : List Int) : PySem.W.maxOf x xs ∈ x :: xs ∧ ∀ y ∈ x :: xs, y ≤ PySem.W.maxOf x xs := by
  unfold PySem.W.maxOf
  induction xs generalizing x with
  | nil => exact ⟨List.mem_cons_self .., fun y hy => by rw [List.mem_singleton.mp hy]; exact Int.le_refl _⟩
  | cons z xs ih =>
    rw [List.foldl_cons]
    obtain ⟨h1, h2⟩ := ih (if PySem.W.DatumOrd.lt x z = true then z else x)
    have e : (if PySem.W.DatumOrd.lt x z = true then z else x) = max x z := by
      show (if decide (x < z) = true then z else x) = max x z
      by_cases c : x < z
      · rw [if_pos (decide_eq_true c)]; omega
      · rw [if_neg (by simpa using c)]; omega
    rw [e] at h1 h2 ⊢
    constructor
    · rcases List.mem_cons.mp h1 with y | y
      · rw [y]
        rcases Int.le_total x z with c | c
        · rw [Int.max_eq_right c]; simp
        · rw [Int.max_eq_left c]; simp
      · exact List.mem_cons_of_mem _ (List.mem_cons_of_mem _ y)
    · intro y hy
      have h3 := h2 (max x z) (List.mem_cons_self ..)
      rcases List.mem_cons.mp hy with rfl | hy
      · have := Int.le_max_left y z; omega
      · rcases List.mem_cons.mp hy with rfl | hy
        · have := Int.le_max_right x y; omega
        · exact h2 y (List.mem_cons_of_mem _ hy)
theorem maxOf_lmax {y : Int} {ys : List Int} : PySem.W.maxOf y ys = lmax (y :: ys) := by
  obtain ⟨h1, h2⟩ := lmax_fold y ys
  obtain ⟨k1, k2⟩ := lmax_ok (l := y :: ys) (by simp)
  have a := k2 _ h1
  have b := h2 _ k1
  omega
def rMaxT (K : PySem.W.Frag) : List V → Hp → VK → Prop := fun vs H Q => ∃ (a : Addr) (ns : List Int), vs = [V.ref a] ∧ SqT K H a (ns.map V.int) ∧ ns ≠ [] ∧ Q (.int (lmax ns)) H
theorem cr_maxT {X : Cx} (hc : X.calm = true) (hu : X.A.units + 65 < cLine) : CallR X (.builtin "max") (rMaxT X.K) := by
  intro pins s σ H vs us Q I r h
  obtain ⟨a, ns, rfl, hs, hne, q⟩ := h
  obtain rfl := Vals.ref1 r
  obtain ⟨its, rv, hl, hz⟩ := I.tuple hs
  have hi := rv.ints
  cases ns with
  | nil => exact absurd rfl hne
  | cons y ys =>
    refine PySem.W.max_tuple_datum (α := Int) (I.ok.hd hc) (show s.heap.IsTuple a its.toArray from hl) (x := y) (xs := ys) (PySem.W.HoldAll.of_ints (by simpa using hi)) (by show X.A.units + 1 + 0 < cLine; omega) fun i v h' tk hv hh hk => ?_
    obtain ⟨t', rfl⟩ := PySem.W.int_of_holds hh
    refine ⟨.int (lmax (y :: ys)), H, I.kept (t' := tk) hk, ⟨t', ?_⟩, q⟩
    rw [maxOf_lmax]
theorem xv_maxT {X : Cx} {Γ : List Sl} {a : Expr} {pos p : Pos} {ns : List Int} (h : XV X a Γ (tT D.int ns)) (h0 : ns ≠ []) (hm : X.mg "max" = none) (hu : X.A.units + 65 < cLine) (hc : X.calm = true := by rfl) (hg : Gl X "max" := by rfl) (hs : starEach (a :: []) X.env = (false, eval a X.env) :: starEach [] X.env := by rfl) (hpl : (backTo pos (starEach [] X.env)).any (·.1) = false := by rfl) : XV X (.Call (.Name "max" p) [a] [] pos) Γ (.int (lmax ns)) :=
  xe_callB (cr_maxT hc hu) hm (by decide +kernel) (xl_cons h xa_nil hs) (fun _ z => by
    rw [z]
    exact rl_scal fun xs Hb H ex h1 => by
      obtain ⟨v, rfl, r⟩ := h1.one_inv
      cases r with
      | @tup a vs _ ha k =>
        have e1 := k.ints
        subst e1
        exact ⟨.int (lmax ns), .int _, fun Q q => ⟨a, ns, rfl, ex_t ex ha, h0, q⟩⟩) hg (by decide) (by decide) hs hpl
end DL

namespace DL
open PySem PySem.Spec PyProof.Rows L2 Evl
/-! ### and, of values that are true, where owned objects may change -/
section
variable {X : Cx} {m : Bool} {a b : Expr} {es : List Expr} {Γ : List Sl} {pos : Pos} {Φ : D → Prop}
theorem xe_one {op : BoolOp} (h : XE X m a Γ Φ) : XE X m (.BoolOp op [a] pos) Γ Φ := xe_of (pe_one pe_wp) h
theorem xe_andT (h : XE X m a Γ fun z => z = .bl true) (h2 : XE X m (.BoolOp .And (b :: es) pos) Γ Φ) : XE X m (.BoolOp .And (a :: b :: es) pos) Γ Φ :=
  xe_of (pe_and pe_wp pe_wp) fun σ Hb H E Q q => h σ Hb H E _ fun v d Hb1 H1 p1 g1 E1 r1 => by
    subst p1
    cases r1
    exact ⟨true, rfl, iteT (h2 σ Hb1 H1 E1 Q fun v2 d2 Hb2 H2 p2 g2 E2 r2 => q v2 d2 Hb2 H2 p2 (gww g1 g2) E2 r2)⟩
end
end DL

/-! Points, sayings of letters, ranks of points: what the programs compute, and the plain laws of it. -/
namespace WB
open PySem PySem.Spec PyProof.Rows L2 Evl DL
/-! ### points -/
def ptsN : Nat → List (List Int)
  | 0 => [[]]
  | n + 1 => (ptsN n).flatMap fun p => ([0, 1] : List Int).map fun b => p ++ [b]
def points (many : Int) : List (List Int) := ptsN many.toNat
def lpN : Nat → List (List Int)
  | 0 => [[]]
  | n + 1 => (lpN n).map (fun p => p ++ [0]) ++ (lpN n).map fun p => p ++ [1]
theorem ptsN_len : ∀ n, (ptsN n).length = 2 ^ n
  | 0 => rfl
  | n + 1 => by
    have e : ∀ l : List (List Int), (l.flatMap fun p => ([0, 1] : List Int).map fun b => p ++ [b]).length = 2 * l.length := fun l => by
      induction l with
      | nil => rfl
      | cons x l ih => rw [List.flatMap_cons, List.length_append, ih, List.length_cons]; simp; omega
    show ((ptsN n).flatMap _).length = _
    rw [e, ptsN_len n, Nat.pow_succ, Nat.mul_comm]
theorem ptsN_mem : ∀ {n : Nat} {p : List Int}, p ∈ ptsN n → p.length = n
  | 0, p, h => by rw [List.mem_singleton.mp h]; rfl
  | n + 1, p, h => by
    obtain ⟨q, hq, h2⟩ := List.mem_flatMap.mp h
    obtain ⟨b, _, rfl⟩ := List.mem_map.mp h2
    rw [List.length_append, ptsN_mem hq]
    rfl
theorem lpN_len : ∀ n, (lpN n).length = 2 ^ n
  | 0 => rfl
  | n + 1 => by
    show ((lpN n).map (fun p => p ++ [0]) ++ (lpN n).map fun p => p ++ [1]).length = _
    rw [List.length_append, List.length_map, List.length_map, lpN_len n, Nat.pow_succ]
    omega
theorem lpN_mem : ∀ {n : Nat} {p : List Int}, p ∈ lpN n → p.length = n
  | 0, p, h => by rw [List.mem_singleton.mp h]; rfl
  | n + 1, p, h => by
    rcases List.mem_append.mp h with h | h <;>
    · obtain ⟨q, hq, rfl⟩ := List.mem_map.mp h
      rw [List.length_append, lpN_mem hq]
      rfl
theorem sort_is {α : Type} {f : α → D} {xs ys : List α} (hp : ys.Perm xs) (hs : ys.Pairwise (fun a b => leD f a b = true)) (ha : ∀ a ∈ ys, ∀ b ∈ ys, leD f a b = true → leD f b a = true → a = b) : sortD f xs = ys := by
  have h1 := PySem.W.sort_pairwise (PySem.W.sortLe_total (PyProof.Rows.listOrd PyProof.Rows.itemOrd) false fun x : α => PySem.W.keyToks (f x).py) xs
  exact (List.Perm.eq_of_pairwise (le := fun a b => leD f a b = true) (fun a b m n => ha a m b (((hp.trans (List.mergeSort_perm xs _).symm).mem_iff).mpr n)) hs h1 (hp.trans (List.mergeSort_perm xs _).symm)).symm
theorem lp_sorted : ∀ {n : Nat}, 1 ≤ n → n ≤ 3 → sortD (tT D.int) (lpN n) = ptsN n
  | 1, _, _ => sort_is (by decide +kernel) (by decide +kernel) (by decide +kernel)
  | 2, _, _ => sort_is (by decide +kernel) (by decide +kernel) (by decide +kernel)
  | 3, _, _ => sort_is (by decide +kernel) (by decide +kernel) (by decide +kernel)

def cPoints : Con := fun ds Φ => ∃ many : Int, ds = [.int many] ∧ (1 ≤ many ∧ many ≤ 3) ∧ Φ (lT (tT D.int) (points many))
theorem pow8 {n : Nat} (h : n ≤ 3) : 2 ^ n ≤ 8 := by
  have : 2 ^ n ≤ 2 ^ 3 := Nat.pow_le_pow_right (by decide) h
  omega
inductive Sy where
  | letter (i : Int) | fls | neg (a : Sy) | and (a b : Sy) | or (a b : Sy) | imp (a b : Sy)
def eS : Sy → D
  | .letter i => .tup [.str "letter", .int i]
  | .fls => .tup [.str "false"]
  | .neg a => .tup [.str "not", eS a]
  | .and a b => .tup [.str "and", eS a, eS b]
  | .or a b => .tup [.str "or", eS a, eS b]
  | .imp a b => .tup [.str "if", eS a, eS b]
def Sy.dep : Sy → Nat
  | .letter _ => 0
  | .fls => 0
  | .neg a => a.dep + 1
  | .and a b => max a.dep b.dep + 1
  | .or a b => max a.dep b.dep + 1
  | .imp a b => max a.dep b.dep + 1
def Sy.lt : Sy → Int → Prop
  | .letter i, n => 0 ≤ i ∧ i < n
  | .fls, _ => True
  | .neg a, n => a.lt n
  | .and a b, n => a.lt n ∧ b.lt n
  | .or a b, n => a.lt n ∧ b.lt n
  | .imp a b, n => a.lt n ∧ b.lt n
def fits : Sy → List Int → Bool
  | .letter i, p => decide (p.getD i.toNat 0 = 1)
  | .fls, _ => false
  | .neg a, p => !fits a p
  | .and a b, p => fits a p && fits b p
  | .or a b, p => fits a p || fits b p
  | .imp a b, p => !fits a p || fits b p
def cFits (n : Nat) : Con := fun ds Φ => ∃ s p, ds = [eS s, tT D.int p] ∧ s.dep < n ∧ s.lt p.length ∧ Φ (.bl (fits s p))


def someK (s : Sy) (rows : List (List Int)) : List Int := ((rng 0 (rows.length : Int)).filter fun k => fits s (rows.getD k.toNat [])).map fun k => k
theorem someK_mem {s : Sy} {rows : List (List Int)} {k : Int} (h : k ∈ someK s rows) : 0 ≤ k ∧ k < rows.length ∧ fits s (rows.getD k.toNat []) = true := by
  unfold someK at h
  obtain ⟨k', hk', rfl⟩ := List.mem_map.mp h
  obtain ⟨h1, h2⟩ := List.mem_filter.mp hk'
  have := mem_rng.mp h1
  exact ⟨this.1, this.2, h2⟩
theorem mem_someK {s : Sy} {rows : List (List Int)} {k : Int} (h0 : 0 ≤ k) (h : k < rows.length) (hf : fits s (rows.getD k.toNat []) = true) : k ∈ someK s rows :=
  List.mem_map.mpr ⟨k, List.mem_filter.mpr ⟨mem_rng.mpr ⟨h0, h⟩, hf⟩, rfl⟩
theorem someK_len {s : Sy} {rows : List (List Int)} : (someK s rows).length ≤ rows.length := by
  unfold someK
  rw [List.length_map]
  have h1 := List.length_filter_le (fun k : Int => fits s (rows.getD k.toNat [])) (rng 0 (rows.length : Int))
  rw [rng_len] at h1
  omega
def leastR (ranks : List Int) (s : Sy) (rows : List (List Int)) : Int := lminD 0 ((someK s rows).map fun k => ranks.getD k.toNat 0)
def leastP (ranks : List Int) (s : Sy) (many : Int) : List (List Int) := ((someK s (points many)).filter fun k => decide (ranks.getD k.toNat 0 = leastR ranks s (points many))).map fun k => (points many).getD k.toNat []
def holds (ranks : List Int) (r : Sy × Sy) (many : Int) : Bool := ((leastP ranks r.1 many).map fun p => fits r.2 p).all id
theorem points_len {many : Int} : (points many).length = 2 ^ many.toNat := ptsN_len _
theorem points_len8 {many : Int} (h : 1 ≤ many ∧ many ≤ 3) : (points many).length ≤ 8 := by
  rw [points_len]
  exact pow8 (by omega)
theorem points_mem {many : Int} (h : 1 ≤ many ∧ many ≤ 3) {p : List Int} (hp : p ∈ points many) : (p.length : Int) = many := by
  have := ptsN_mem hp
  omega
theorem rows_mem {many : Int} {k : Int} (h0 : 0 ≤ k) (h : k < (points many).length) : (points many).getD k.toNat [] ∈ points many := by
  rw [List.getD_eq_getElem?_getD, List.getElem?_eq_getElem (by omega)]
  exact List.getElem_mem _
theorem leastP_mem {ranks : List Int} {s : Sy} {many : Int} : ∀ p ∈ leastP ranks s many, p ∈ points many := fun p h => by
  obtain ⟨k, hk, rfl⟩ := List.mem_map.mp h
  have := someK_mem (List.mem_filter.mp hk).1
  exact rows_mem this.1 this.2.1
def cLeast : Con := fun ds Φ => ∃ ranks s many, ds = [tT D.int ranks, eS s, .int many] ∧ ((1 ≤ many ∧ many ≤ 3) ∧ ranks.length = (points many).length ∧ s.dep < 8 ∧ s.lt many) ∧ Φ (lT (tT D.int) (leastP ranks s many))
def cHolds : Con := fun ds Φ => ∃ ranks r many, ds = [tT D.int ranks, pT eS eS r, .int many] ∧ ((1 ≤ many ∧ many ≤ 3) ∧ ranks.length = (points many).length ∧ (r.1.dep < 8 ∧ r.1.lt many) ∧ (r.2.dep < 8 ∧ r.2.lt many)) ∧ Φ (.bl (holds ranks r many))
def wouldS : List (List (List Int)) → Sy → Sy → Bool
  | [], _, _ => true
  | sp :: rest, a, b => if 0 < (((sp.filter fun p => fits a p).map fun p => p).length : Int) then (((sp.filter fun p => fits a p).map fun p => p).map fun p => fits b p).all id else wouldS rest a b
def would (spheres : List (List (List Int))) (a b : Sy) (_ : Int) : Bool := wouldS spheres a b
def sphOk (many : Int) (spheres : List (List (List Int))) : Prop := ∀ sp ∈ spheres, sp.length ≤ 8 ∧ ∀ p ∈ sp, p ∈ points many
theorem filt_mem {xs : List (List Int)} {f : List Int → Bool} {p : List Int} (h : p ∈ (xs.filter f).map fun p => p) : p ∈ xs := by
  obtain ⟨q, hq, rfl⟩ := List.mem_map.mp h
  exact (List.mem_filter.mp hq).1
def cWould : Con := fun ds Φ => ∃ spheres a b many, ds = [lT (tT (tT D.int)) spheres, eS a, eS b, .int many] ∧ ((1 ≤ many ∧ many ≤ 3) ∧ sphOk many spheres ∧ (a.dep < 8 ∧ a.lt many) ∧ (b.dep < 8 ∧ b.lt many)) ∧ Φ (.bl (would spheres a b many))
def sphere (ranks : List Int) (rows : List (List Int)) (rank : Int) : List (List Int) := ((rng 0 (rows.length : Int)).filter fun k => decide (ranks.getD k.toNat 0 ≤ rank)).map fun k => rows.getD k.toNat []
def spheres (ranks : List Int) (many : Int) : List (List (List Int)) := (setI ranks).map (sphere ranks (points many))
def cSpheres : Con := fun ds Φ => ∃ ranks many, ds = [tT D.int ranks, .int many] ∧ ((1 ≤ many ∧ many ≤ 3) ∧ ranks.length = (points many).length) ∧ Φ (lT (tT (tT D.int)) (spheres ranks many))
def lholds (ranks : List Int) (r : Sy × Sy) (many : Int) : Bool :=
  if someK r.1 (points many) = [] then true else
  decide (((someK r.1 (points many)).filter fun k => decide (ranks.getD k.toNat 0 = lmin ((someK r.1 (points many)).map fun k => ranks.getD k.toNat 0)) && !fits r.2 ((points many).getD k.toNat [])).map (fun _ => (1 : Int)) = [])
def cLHolds : Con := fun ds Φ => ∃ ranks r many, ds = [tT D.int ranks, pT eS eS r, .int many] ∧ ((1 ≤ many ∧ many ≤ 3) ∧ ranks.length = (points many).length ∧ (r.1.dep < 8 ∧ r.1.lt many) ∧ (r.2.dep < 8 ∧ r.2.lt many)) ∧ Φ (.bl (lholds ranks r many))
/-! ### the maths: k least among those that fit -/
section
variable {ranks : List Int} {many : Int} {a b c : Sy}
abbrev pt (many k : Int) : List Int := (points many).getD k.toNat []
abbrev rk (ranks : List Int) (k : Int) : Int := ranks.getD k.toNat 0
def Mn (ranks : List Int) (many : Int) (a : Sy) (k : Int) : Prop := 0 ≤ k ∧ k < (points many).length ∧ fits a (pt many k) = true ∧ ∀ j : Int, 0 ≤ j → j < (points many).length → fits a (pt many j) = true → rk ranks k ≤ rk ranks j
def Hp (ranks : List Int) (many : Int) (a b : Sy) : Prop := ∀ k, Mn ranks many a k → fits b (pt many k) = true
theorem least_iff {k : Int} (hk : k ∈ someK a (points many)) : (rk ranks k = leastR ranks a (points many)) ↔ ∀ j ∈ someK a (points many), rk ranks k ≤ rk ranks j := by
  have ne : (someK a (points many)).map (fun k => ranks.getD k.toNat 0) ≠ [] := by
    intro e
    rw [List.map_eq_nil_iff.mp e] at hk
    cases hk
  unfold leastR lminD
  rw [if_neg ne]
  obtain ⟨m1, m2⟩ := lmin_ok ne
  constructor
  · intro e j hj
    rw [e]
    exact m2 _ (List.mem_map.mpr ⟨j, hj, rfl⟩)
  · intro h
    obtain ⟨j, hj, e⟩ := List.mem_map.mp m1
    have h1 := h j hj
    have h2 := m2 _ (List.mem_map.mpr ⟨k, hk, rfl⟩)
    rw [← e]
    rw [← e] at h2
    show rk ranks k = rk ranks j
    have h3 : rk ranks j ≤ rk ranks k := h2
    omega
theorem mn_iff {k : Int} : Mn ranks many a k ↔ k ∈ someK a (points many) ∧ ∀ j ∈ someK a (points many), rk ranks k ≤ rk ranks j :=
  ⟨fun ⟨h0, h1, h2, h3⟩ => ⟨mem_someK h0 h1 h2, fun j hj => by
    obtain ⟨j0, j1, j2⟩ := someK_mem hj
    exact h3 j j0 j1 j2⟩, fun ⟨h, h3⟩ => by
    obtain ⟨h0, h1, h2⟩ := someK_mem h
    exact ⟨h0, h1, h2, fun j j0 j1 j2 => h3 j (mem_someK j0 j1 j2)⟩⟩
theorem holds_iff : holds ranks (a, b) many = true ↔ Hp ranks many a b := by
  unfold holds leastP Hp
  rw [List.all_eq_true]
  constructor
  · intro h k hk
    obtain ⟨m1, m2⟩ := mn_iff.mp hk
    exact h _ (List.mem_map.mpr ⟨_, List.mem_map.mpr ⟨k, List.mem_filter.mpr ⟨m1, decide_eq_true ((least_iff m1).mpr m2)⟩, rfl⟩, rfl⟩)
  · intro h x hx
    obtain ⟨p, hp, rfl⟩ := List.mem_map.mp hx
    obtain ⟨k, hk, rfl⟩ := List.mem_map.mp hp
    obtain ⟨m1, m2⟩ := List.mem_filter.mp hk
    exact h k (mn_iff.mpr ⟨m1, (least_iff m1).mp (of_decide_eq_true m2)⟩)
theorem lholds_iff : lholds ranks (a, b) many = true ↔ Hp ranks many a b := by
  unfold lholds
  by_cases e : someK a (points many) = []
  · rw [if_pos e]
    refine ⟨fun _ k hk => ?_, fun _ => rfl⟩
    have := (mn_iff.mp hk).1
    rw [e] at this
    cases this
  · rw [if_neg e, decide_eq_true_iff, List.map_eq_nil_iff, List.filter_eq_nil_iff]
    have el : ∀ k ∈ someK a (points many), lmin ((someK a (points many)).map fun k => ranks.getD k.toNat 0) = leastR ranks a (points many) := fun k hk => by
      unfold leastR lminD
      rw [if_neg fun z => e (List.map_eq_nil_iff.mp z)]
    constructor
    · intro h k hk
      obtain ⟨m1, m2⟩ := mn_iff.mp hk
      have := h k m1
      rw [show (a, b).1 = a from rfl, el k m1, (show decide (ranks.getD k.toNat 0 = leastR ranks a (points many)) = true from decide_eq_true ((least_iff m1).mpr m2))] at this
      simpa using this
    · intro h k hk
      rw [show (a, b).1 = a from rfl, el k hk]
      by_cases l : ranks.getD k.toNat 0 = leastR ranks a (points many)
      · have := h k (mn_iff.mpr ⟨hk, (least_iff hk).mp l⟩)
        intro z
        have z2 := (Bool.and_eq_true_iff.mp z).2
        rw [show fits (a, b).2 ((points many).getD k.toNat []) = true from this] at z2
        cases z2
      · intro z
        exact l (of_decide_eq_true (Bool.and_eq_true_iff.mp z).1)
theorem lholds_eq : lholds ranks (a, b) many = holds ranks (a, b) many := Bool.eq_iff_iff.mpr (lholds_iff.trans holds_iff.symm)
theorem sphere_mem {rows : List (List Int)} {r : Int} {p : List Int} : p ∈ sphere ranks rows r ↔ ∃ k : Int, 0 ≤ k ∧ k < rows.length ∧ rk ranks k ≤ r ∧ rows.getD k.toNat [] = p := by
  unfold sphere
  rw [List.mem_map]
  constructor
  · rintro ⟨k, hk, e⟩
    obtain ⟨h1, h2⟩ := List.mem_filter.mp hk
    have := mem_rng.mp h1
    exact ⟨k, this.1, this.2, of_decide_eq_true h2, e⟩
  · rintro ⟨k, h0, h1, h2, e⟩
    exact ⟨k, List.mem_filter.mpr ⟨mem_rng.mpr ⟨h0, h1⟩, decide_eq_true h2⟩, e⟩
theorem would_rec : ∀ (L : List Int), L.Pairwise (· < ·) → (∀ k : Int, 0 ≤ k → k < (points many).length → fits a (pt many k) = true → rk ranks k ∈ L) → (wouldS (L.map (sphere ranks (points many))) a b = true ↔ Hp ranks many a b)
  | [], _, h => by
    refine ⟨fun _ k hk => ?_, fun _ => rfl⟩
    exact nomatch h k hk.1 hk.2.1 hk.2.2.1
  | r :: L, hp, h => by
    have h1 := List.pairwise_cons.mp hp
    rw [List.map_cons, wouldS]
    by_cases c : 0 < ((((sphere ranks (points many) r).filter fun p => fits a p).map fun p => p).length : Int)
    · rw [if_pos c, List.all_eq_true]
      rw [List.map_id'] at c ⊢
      have ge : ∀ k : Int, 0 ≤ k → k < (points many).length → fits a (pt many k) = true → r ≤ rk ranks k := fun k k0 k1 k2 => by
        rcases List.mem_cons.mp (h k k0 k1 k2) with e | e
        · omega
        · have := h1.1 _ e
          omega
      obtain ⟨p, hpm⟩ := List.exists_mem_of_length_pos (l := (sphere ranks (points many) r).filter fun p => fits a p) (by omega)
      obtain ⟨q1, q2⟩ := List.mem_filter.mp hpm
      obtain ⟨k0, z0, z1, z2, rfl⟩ := sphere_mem.mp q1
      have ek0 : rk ranks k0 = r := by
        have := ge k0 z0 z1 q2
        omega
      constructor
      · intro w k ⟨m0, m1, m2, m3⟩
        have := m3 k0 z0 z1 q2
        exact w _ (List.mem_map.mpr ⟨pt many k, List.mem_filter.mpr ⟨sphere_mem.mpr ⟨k, m0, m1, by omega, rfl⟩, m2⟩, rfl⟩)
      · intro w x hx
        obtain ⟨p, hp', rfl⟩ := List.mem_map.mp hx
        obtain ⟨y1, y2⟩ := List.mem_filter.mp hp'
        obtain ⟨k, m0, m1, m2, rfl⟩ := sphere_mem.mp y1
        exact w k ⟨m0, m1, y2, fun j j0 j1 j2 => by
          have := ge j j0 j1 j2
          omega⟩
    · rw [if_neg c]
      refine would_rec L h1.2 fun k k0 k1 k2 => ?_
      rcases List.mem_cons.mp (h k k0 k1 k2) with e | e
      · exfalso
        refine c ?_
        rw [List.map_id']
        have : pt many k ∈ (sphere ranks (points many) r).filter fun p => fits a p := List.mem_filter.mpr ⟨sphere_mem.mpr ⟨k, k0, k1, by omega, rfl⟩, k2⟩
        have := List.length_pos_of_mem this
        omega
      · exact e
theorem rk_mem {k : Int} (hl : ranks.length = (points many).length) (h0 : 0 ≤ k) (h1 : k < (points many).length) : rk ranks k ∈ ranks := by
  unfold rk
  rw [List.getD_eq_getElem?_getD, List.getElem?_eq_getElem (by omega)]
  exact List.getElem_mem _
theorem would_eq {n : Int} (hl : ranks.length = (points many).length) : would (spheres ranks many) a b n = holds ranks (a, b) many :=
  Bool.eq_iff_iff.mpr ((would_rec (setI ranks) (setI_asc ranks) fun k k0 k1 _ => mem_setI.mpr (rk_mem hl k0 k1)).trans holds_iff.symm)
/-! the laws of reasoning -/
theorem mn_ex (h : ∃ k : Int, 0 ≤ k ∧ k < (points many).length ∧ fits a (pt many k) = true) : ∃ k, Mn ranks many a k := by
  obtain ⟨k, h0, h1, h2⟩ := h
  have ne : (someK a (points many)).map (fun k => ranks.getD k.toNat 0) ≠ [] := by
    intro e
    have := mem_someK h0 h1 h2
    rw [List.map_eq_nil_iff.mp e] at this
    cases this
  obtain ⟨m1, m2⟩ := lmin_ok ne
  obtain ⟨j, hj, e⟩ := List.mem_map.mp m1
  exact ⟨j, mn_iff.mpr ⟨hj, fun i hi => by
    have := m2 _ (List.mem_map.mpr ⟨i, hi, rfl⟩)
    rw [← e] at this
    exact this⟩⟩
theorem fits_and {p : List Int} : fits (.and a b) p = true ↔ fits a p = true ∧ fits b p = true := by simp [fits]
theorem fits_or {p : List Int} : fits (.or a b) p = true ↔ fits a p = true ∨ fits b p = true := by simp [fits]
theorem hp_refl : Hp ranks many a a := fun k h => h.2.2.1
theorem hp_and (h1 : Hp ranks many a b) (h2 : Hp ranks many a c) : Hp ranks many a (.and b c) := fun k h => fits_and.mpr ⟨h1 k h, h2 k h⟩
theorem mn_and {k k0 : Int} (hk0 : Mn ranks many a k0) (hb : fits b (pt many k0) = true) (h : Mn ranks many (.and a b) k) : Mn ranks many a k := by
  obtain ⟨h0, h1, h2, h3⟩ := h
  have := h3 k0 hk0.1 hk0.2.1 (fits_and.mpr ⟨hk0.2.2.1, hb⟩)
  exact ⟨h0, h1, (fits_and.mp h2).1, fun j j0 j1 j2 => by
    have := hk0.2.2.2 j j0 j1 j2
    omega⟩
theorem hp_cm (h1 : Hp ranks many a b) (h2 : Hp ranks many a c) : Hp ranks many (.and a b) c := fun k h => by
  obtain ⟨k0, hk0⟩ := mn_ex (ranks := ranks) ⟨k, h.1, h.2.1, (fits_and.mp h.2.2.1).1⟩
  exact h2 k (mn_and hk0 (h1 k0 hk0) h)
theorem hp_or (h1 : Hp ranks many a c) (h2 : Hp ranks many b c) : Hp ranks many (.or a b) c := fun k ⟨h0, hk, h3, h4⟩ => by
  rcases fits_or.mp h3 with e | e
  · exact h1 k ⟨h0, hk, e, fun j j0 j1 j2 => h4 j j0 j1 (fits_or.mpr (.inl j2))⟩
  · exact h2 k ⟨h0, hk, e, fun j j0 j1 j2 => h4 j j0 j1 (fits_or.mpr (.inr j2))⟩
theorem hp_rm (h1 : Hp ranks many a c) (h2 : ¬ Hp ranks many a (.neg b)) : Hp ranks many (.and a b) c := fun k h => by
  by_cases z : ∃ k0, Mn ranks many a k0 ∧ fits b (pt many k0) = true
  · obtain ⟨k0, hk0, hb⟩ := z
    exact h1 k (mn_and hk0 hb h)
  · exfalso
    refine h2 fun k0 hk0 => ?_
    have : ¬ fits b (pt many k0) = true := fun y => z ⟨k0, hk0, y⟩
    simpa [fits] using this
theorem hp_cut (h1 : Hp ranks many a b) (h2 : Hp ranks many (.and a b) c) : Hp ranks many a c := fun k h =>
  h2 k ⟨h.1, h.2.1, fits_and.mpr ⟨h.2.2.1, h1 k h⟩, fun j j0 j1 j2 => h.2.2.2 j j0 j1 (fits_and.mp j2).1⟩
theorem hp_same (h : ∀ p ∈ points many, fits a p = fits b p) : holds ranks (a, c) many = holds ranks (b, c) many := by
  have e : ∀ k : Int, 0 ≤ k → k < (points many).length → fits a (pt many k) = fits b (pt many k) := fun k h0 h1 => h _ (rows_mem h0 h1)
  refine Bool.eq_iff_iff.mpr (holds_iff.trans (Iff.trans ?_ holds_iff.symm))
  refine ⟨fun w k hk => w k ⟨hk.1, hk.2.1, by rw [e k hk.1 hk.2.1]; exact hk.2.2.1, fun j j0 j1 j2 => hk.2.2.2 j j0 j1 (by rw [← e j j0 j1]; exact j2)⟩, fun w k hk => w k ⟨hk.1, hk.2.1, by rw [← e k hk.1 hk.2.1]; exact hk.2.2.1, fun j j0 j1 j2 => hk.2.2.2 j j0 j1 (by rw [e j j0 j1]; exact j2)⟩⟩
/-! the spheres -/
theorem asc_ext {l m : List Int} (h1 : l.Pairwise (· < ·)) (h2 : m.Pairwise (· < ·)) (h : ∀ x, x ∈ l ↔ x ∈ m) : l = m := by
  have n1 : l.Nodup := h1.imp fun h => by omega
  have n2 : m.Nodup := h2.imp fun h => by omega
  exact List.Perm.eq_of_pairwise (le := (· < ·)) (fun a b _ _ h h' => by omega) h1 h2 ((List.perm_ext_iff_of_nodup n1 n2).mpr h)
theorem rng_asc {lo hi : Int} : (rng lo hi).Pairwise (· < ·) := by
  unfold rng
  rw [List.pairwise_map]
  exact List.pairwise_lt_range.imp fun h => by omega
theorem setI_small (h : ∀ r ∈ ranks, 0 ≤ r ∧ r < 4) : (rng 0 4).filter (fun r => decide (r ∈ ranks)) = setI ranks :=
  asc_ext (rng_asc.filter _) (setI_asc ranks) fun x => by
    rw [List.mem_filter, mem_rng, decide_eq_true_iff, mem_setI]
    exact ⟨fun z => z.2, fun z => ⟨h x z, z⟩⟩
theorem setI_map {f : Int → Int} (hf : ∀ x y, x < y → f x < f y) : setI (ranks.map f) = (setI ranks).map f :=
  asc_ext (setI_asc _) (List.pairwise_map.mpr ((setI_asc ranks).imp fun h => hf _ _ h)) fun x => by
    rw [mem_setI, List.mem_map, List.mem_map]
    exact ⟨fun ⟨y, h, e⟩ => ⟨y, mem_setI.mpr h, e⟩, fun ⟨y, h, e⟩ => ⟨y, mem_setI.mp h, e⟩⟩
theorem spheres_up (hl : ranks.length = (points many).length) : spheres (ranks.map fun r => 2 * r + 1) many = spheres ranks many := by
  unfold spheres
  rw [setI_map (fun x y h => by omega), List.map_map]
  refine List.map_congr_left fun r _ => ?_
  show sphere (ranks.map fun r => 2 * r + 1) (points many) (2 * r + 1) = sphere ranks (points many) r
  unfold sphere
  congr 1
  refine List.filter_congr fun k hk => ?_
  have hk := mem_rng.mp hk
  have e : (ranks.map fun r => 2 * r + 1).getD k.toNat 0 = 2 * ranks.getD k.toNat 0 + 1 := by
    rw [List.getD_eq_getElem?_getD, List.getD_eq_getElem?_getD, List.getElem?_map, List.getElem?_eq_getElem (by omega)]
    rfl
  rw [e]
  exact decide_eq_decide.mpr (by omega)
theorem spheres_ok (h8 : (points many).length ≤ 8) : sphOk many (spheres ranks many) := fun sp h => by
  obtain ⟨r, _, rfl⟩ := List.mem_map.mp h
  refine ⟨?_, fun p hp => ?_⟩
  · unfold sphere
    rw [List.length_map]
    have := List.length_filter_le (fun k : Int => decide (ranks.getD k.toNat 0 ≤ r)) (rng 0 ((points many).length : Int))
    rw [rng_len] at this
    omega
  · obtain ⟨k, h0, h1, _, rfl⟩ := sphere_mem.mp hp
    exact rows_mem h0 h1
theorem would_false : ∀ (L : List (List (List Int))) (n : Int), would L .fls a n = true
  | [], _ => rfl
  | sp :: L, n => by
    show wouldS (sp :: L) .fls a = true
    rw [wouldS, if_neg (by simp [fits])]
    exact would_false L n
theorem least_fits {p : List Int} (h : p ∈ leastP ranks a many) : fits a p = true := by
  obtain ⟨k, hk, rfl⟩ := List.mem_map.mp h
  exact (someK_mem (List.mem_filter.mp hk).1).2.2
end
theorem leastP_len {ranks : List Int} {s : Sy} {many : Int} : (leastP ranks s many).length ≤ (points many).length := by
  unfold leastP
  rw [List.length_map]
  have h1 := someK_len (s := s) (rows := points many)
  have h2 := List.length_filter_le (fun k : Int => decide (ranks.getD k.toNat 0 = leastR ranks s (points many))) (someK s (points many))
  omega
theorem same_no {ranks : List Int} {many : Int} (a b c : Sy) : ((decide ((((points many).filter fun point => (((fits a point) != (fits b point)))).map fun point => point) = [])) && (((holds ranks (a, c) many) != (holds ranks (b, c) many)))) = false := by
  cases e : (decide ((((points many).filter fun point => (((fits a point) != (fits b point)))).map fun point => point) = [])) with
  | false => rfl
  | true =>
    have h := List.filter_eq_nil_iff.mp (List.map_eq_nil_iff.mp (of_decide_eq_true e))
    rw [hp_same (a := a) (b := b) fun p hp => by simpa using h p hp]
    simp
end WB

/-! Rules, layers of rules, what follows. -/
namespace WB
open PySem PySem.Spec PyProof.Rows L2 Evl DL
abbrev Rule := Sy × Sy
def ok (m : Int) (s : Sy) : Prop := s.dep < 8 ∧ s.lt m
def okR (m : Int) (r : Rule) : Prop := ok m r.1 ∧ ok m r.2
def okRs (m : Int) (rules : List Rule) : Prop := rules.length ≤ 100 ∧ ∀ r ∈ rules, okR m r
def breaks (r : Rule) (p : List Int) : Bool := fits r.1 p && !fits r.2 p
def cBreaks : Con := fun ds Φ => ∃ r p, ds = [pT eS eS r, tT D.int p] ∧ okR p.length r ∧ Φ (.bl (breaks r p))
def pw (s : Sy) (many : Int) : List (List Int) := (points many).filter fun p => fits s p
def cPw : Con := fun ds Φ => ∃ s many, ds = [eS s, .int many] ∧ ((1 ≤ many ∧ many ≤ 3) ∧ ok many s) ∧ Φ (lT (tT D.int) (pw s many))
def tolB (r : Rule) (rules : List Rule) (p : List Int) : Bool := fits r.1 p && (fits r.2 p && !((rules.map fun one => breaks one p).any id))
def tol (r : Rule) (rules : List Rule) (many : Int) : Option (List Int) := (points many).find? (tolB r rules)
def cTol : Con := fun ds Φ => ∃ r rules many, ds = [pT eS eS r, lT (pT eS eS) rules, .int many] ∧ ((1 ≤ many ∧ many ≤ 3) ∧ okR many r ∧ okRs many rules) ∧ Φ (oT (tT D.int) (tol r rules many))
def isfree (r : Rule) (rules : List Rule) (many : Int) : Bool := decide (((pw r.1 many).length : Int) = 0) || !(tol r rules many).isNone
def cFree : Con := fun ds Φ => ∃ r rules many, ds = [pT eS eS r, lT (pT eS eS) rules, .int many] ∧ ((1 ≤ many ∧ many ≤ 3) ∧ okR many r ∧ okRs many rules) ∧ Φ (.bl (isfree r rules many))
theorem isN_oT {o : Option (List Int)} : (oT (tT D.int) o).isN = o.isNone := by cases o <;> rfl
def getR (rules : List Rule) (k : Int) : Rule := rules.getD k.toNat (.fls, .fls)
inductive Lay where
  | no (l : List Int) | yes (ls : List (List Int))
def eLay : Lay → D
  | .no l => .tup [.str "no", tT D.int l]
  | .yes ls => .tup [.str "yes", tT (tT D.int) ls]
def level (rules : List Rule) (many : Int) (left : List Int) : List Int := (left.filter fun k => isfree (getR rules k) (left.map (getR rules)) many).map fun k => k
def lessL (rules : List Rule) (many : Int) (left : List Int) : List Int := (left.filter fun k => !decide (k ∈ level rules many left)).map fun k => k
def layGo (rules : List Rule) (many : Int) : Nat → List Int → List (List Int) → Lay
  | 0, left, found => if left = [] then .yes found else .no left
  | n + 1, left, found => if left = [] then .yes found else if level rules many left = [] then .no left else layGo rules many n (lessL rules many left) (found ++ [level rules many left])
def layers (rules : List Rule) (many : Int) : Lay := layGo rules many rules.length (rng 0 (rules.length : Int)) []
def cLayers : Con := fun ds Φ => ∃ rules many, ds = [lT (pT eS eS) rules, .int many] ∧ ((1 ≤ many ∧ many ≤ 3) ∧ okRs many rules) ∧ Φ (eLay (layers rules many))
/-! what is asked about -/
inductive Val where
  | nums (l : List Int) | mix (l : List Int) (b : Bool) | tex (s : Str) | lis (l : List Int) | nun | txt (s : Str)
def eV : Val → D
  | .nums l => tT D.int l
  | .mix l b => .tup (l.map D.int ++ [.bl b])
  | .tex s => .tup [.str s]
  | .lis l => lT D.int l
  | .nun => .non
  | .txt s => .str s
def Val.sm : Val → Prop
  | .nums l => l.length ≤ 100 | .mix l _ => l.length ≤ 100 | .lis l => l.length ≤ 100 | .txt s => PyData.strOk s = true | .tex s => PyData.strOk s = true | .nun => True
theorem ifn {b : Bool} (h : false = b) : ¬ b = true := by subst h; exact fun z => Bool.noConfusion z
def stuckB (rules : List Rule) (many : Int) (l : List Int) : Bool :=
  if ((!true) || (decide ((l.length : Int) = 0))) = true then false else
  if (!((l.map fun k => (true && ((!false) && ((decide (0 ≤ k)) && (decide (k < (rules.length : Int))))))).all id)) = true then false else
  if (((rng 0 ((l.length : Int) - 1)).map fun j => (decide ((l.getD ((j + 1)).toNat 0) ≤ (l.getD (j).toNat 0)))).any id) = true then false else
  (!(((l.map (getR rules)).map fun rule => (isfree rule (l.map (getR rules)) many)).any id))
/-- an item that is no place -/
def elemB (n : Int) : D → Bool
  | .int k => (true && ((!false) && ((decide (0 ≤ k)) && (decide (k < n)))))
  | _ => false
def elemR : D → Bool
  | .int k => (true && ((!false) && (decide (0 ≤ k))))
  | _ => false
theorem mix_all {f : D → Bool} {l : List Int} {b : Bool} (h : f (.bl b) = false) : ((l.map D.int ++ [D.bl b]).map f).all id = false := by
  rw [List.map_append, List.all_append]
  simp [h]
theorem mix_len {l : List Int} {b : Bool} : (false || decide ((((l.map D.int ++ [D.bl b]).length : Nat) : Int) = 0)) = false := by
  rw [List.length_append, List.length_map]
  simp
  omega
def stuckV (rules : List Rule) (many : Int) : Val → Bool
  | .nums l => stuckB rules many l
  | _ => false
def cStuck : Con := fun ds Φ => ∃ rules many v, ds = [lT (pT eS eS) rules, .int many, eV v] ∧ ((1 ≤ many ∧ many ≤ 3) ∧ okRs many rules ∧ v.sm) ∧ Φ (.bl (stuckV rules many v))
def rop (rules : List Rule) (told : List (List Int)) (p : List Int) : Int := lmax ([0] ++ (((rng 0 (told.length : Int)).filter fun k => ((told.getD k.toNat []).map fun j => breaks (getR rules j) p).any id).map fun k => k + 1))
/-- the levels hold places of the rules -/
def lvOk (rules : List Rule) (told : List (List Int)) : Prop := told.length ≤ 100 ∧ ∀ l ∈ told, l.length ≤ 100 ∧ ∀ k ∈ l, 0 ≤ k ∧ k < (rules.length : Int)
def cRopT : Con := fun ds Φ => ∃ rules told p, ds = [lT (pT eS eS) rules, tT (tT D.int) told, tT D.int p] ∧ ((∃ m, okRs m rules ∧ (p.length : Int) = m) ∧ lvOk rules told) ∧ Φ (.int (rop rules told p))
def ranksOf (rules : List Rule) (many : Int) : Option (List Int) := match layers rules many with
  | .no _ => none
  | .yes ls => some ((points many).map fun p => rop rules ls p)
def cRanksOf : Con := fun ds Φ => ∃ rules many, ds = [lT (pT eS eS) rules, .int many] ∧ ((1 ≤ many ∧ many ≤ 3) ∧ okRs many rules) ∧ Φ (oT (tT D.int) (ranksOf rules many))
def isRanksV (many : Int) : Val → Bool
  | .nums l => if ((!true) || (!decide ((l.length : Int) = (1 * 2 ^ (many).toNat)))) = true then false else ((l.map fun one => (true && ((!false) && (decide (0 ≤ one))))).all id)
  | _ => false
def cIsRanks : Con := fun ds Φ => ∃ v many, ds = [eV v, .int many] ∧ ((1 ≤ many ∧ many ≤ 3) ∧ v.sm) ∧ Φ (.bl (isRanksV many v))
inductive Fo where
  | yes (l : List Int) | no (l : List Int)
def eFo : Fo → D
  | .yes l => .tup [.str "yes", tT D.int l]
  | .no l => .tup [.str "no", tT D.int l]
def more (rules : List Rule) (r : Rule) : List Rule := rules ++ [(r.1, .neg r.2)]
def follows (rules : List Rule) (r : Rule) (many : Int) : Fo := if ((pw r.1 many).length : Int) = 0 then .yes [] else match layers (more rules r) many with
  | .no l => .yes l
  | .yes ls => .no ((points many).map fun p => rop (more rules r) ls p)
def okM (m : Int) (rules : List Rule) (r : Rule) : Prop := okRs m rules ∧ rules.length ≤ 20 ∧ okR m r ∧ r.2.dep < 7
def cFollows : Con := fun ds Φ => ∃ rules r many, ds = [lT (pT eS eS) rules, pT eS eS r, .int many] ∧ ((1 ≤ many ∧ many ≤ 3) ∧ okM many rules r) ∧ Φ (eFo (follows rules r many))
def showsB (rules : List Rule) (r : Rule) (many : Int) : Val → Bool
  | .nums l => if ((decide (l = [])) && true) = true then decide (((pw r.1 many).length : Int) = 0) else stuckB (more rules r) many l
  | _ => false
def cShows : Con := fun ds Φ => ∃ rules r many v, ds = [lT (pT eS eS) rules, pT eS eS r, .int many, eV v] ∧ ((1 ≤ many ∧ many ≤ 3) ∧ okM many rules r ∧ v.sm) ∧ Φ (.bl (showsB rules r many v))
def holdsAll (ranks : List Int) (rules : List Rule) (many : Int) : Bool := (rules.map fun one => holds ranks one many).all id
def showsNotB (rules : List Rule) (r : Rule) (many : Int) : Val → Bool
  | .nums l => if (!isRanksV many (.nums l)) = true then false else (holdsAll l rules many && !holds l r many)
  | _ => false
def cShowsNot : Con := fun ds Φ => ∃ rules r many v, ds = [lT (pT eS eS) rules, pT eS eS r, .int many, eV v] ∧ ((1 ≤ many ∧ many ≤ 3) ∧ okM many rules r ∧ v.sm) ∧ Φ (.bl (showsNotB rules r many v))
def closely (rules : List Rule) (r : Rule) (many : Int) : Bool := match ranksOf rules many with
  | none => true
  | some l => holds l r many
def cClosely : Con := fun ds Φ => ∃ rules r many, ds = [lT (pT eS eS) rules, pT eS eS r, .int many] ∧ ((1 ≤ many ∧ many ≤ 3) ∧ okM many rules r) ∧ Φ (.bl (closely rules r many))
/-! the law's own judge of stuck rules -/
def lstuck (rules : List Rule) (r : Rule) (many : Int) (l : List Int) : Bool :=
  if (decide (l = [])) = true then (decide ((((points many).filter fun point => (fits r.1 point)).map fun _ => (1 : Int)) = [])) else
  (decide ((((l.map (getR (more rules r))).filter fun one => (isfree one (l.map (getR (more rules r))) many)).map fun _ => (1 : Int)) = []))
def cLStuck : Con := fun ds Φ => ∃ rules r many l, ds = [lT (pT eS eS) rules, pT eS eS r, .int many, tT D.int l] ∧ ((1 ≤ many ∧ many ≤ 3) ∧ okM many rules r ∧ l.length ≤ 100 ∧ ∀ k ∈ l, 0 ≤ k ∧ k < ((more rules r).length : Int)) ∧ Φ (.bl (lstuck rules r many l))
def lfree (r : Rule) (rules : List Rule) (many : Int) : Bool :=
  if (decide ((((points many).filter fun point => (fits r.1 point)).map fun point => point) = [])) = true then true else
  (!decide ((((((points many).filter fun point => (fits r.1 point)).map fun point => point).filter fun point => ((fits r.2 point) && (decide (((rules.filter fun one => (breaks one point)).map fun _ => (1 : Int)) = [])))).map fun _ => (1 : Int)) = []))
theorem isfree_iff {r : Rule} {rules : List Rule} {many : Int} : isfree r rules many = true ↔ (∀ p ∈ points many, ¬ fits r.1 p = true) ∨ ∃ p ∈ points many, fits r.1 p = true ∧ fits r.2 p = true ∧ ∀ s ∈ rules, ¬ breaks s p = true := by
  unfold isfree pw tol
  rw [Bool.or_eq_true, decide_eq_true_iff]
  refine or_congr ?_ ?_
  · constructor
    · intro h p hp hf
      have : p ∈ (points many).filter fun p => fits r.1 p := List.mem_filter.mpr ⟨hp, hf⟩
      have := List.length_pos_of_mem this
      omega
    · intro h
      rw [List.filter_eq_nil_iff.mpr h]
      rfl
  · have e : (!((points many).find? (tolB r rules)).isNone) = ((points many).find? (tolB r rules)).isSome := by cases (points many).find? (tolB r rules) <;> rfl
    rw [e, List.find?_isSome]
    refine exists_congr fun p => and_congr_right fun _ => ?_
    unfold tolB
    rw [Bool.and_eq_true, Bool.and_eq_true]
    refine and_congr_right fun _ => and_congr_right fun _ => ?_
    simp
theorem lfree_eq {r : Rule} {rules : List Rule} {many : Int} : lfree r rules many = isfree r rules many := by
  refine Bool.eq_iff_iff.mpr (Iff.trans ?_ isfree_iff.symm)
  unfold lfree
  rw [List.map_id']
  by_cases h : ((points many).filter fun point => fits r.1 point) = []
  · rw [if_pos (decide_eq_true h)]
    exact ⟨fun _ => .inl (List.filter_eq_nil_iff.mp h), fun _ => rfl⟩
  · rw [if_neg (fun z => h (of_decide_eq_true z))]
    rw [Bool.not_eq_true', decide_eq_false_iff_not, List.map_eq_nil_iff, List.filter_eq_nil_iff]
    constructor
    · intro z
      refine .inr ?_
      apply Classical.byContradiction
      intro y
      refine z fun p hp w => y ?_
      obtain ⟨p1, p2⟩ := List.mem_filter.mp hp
      obtain ⟨w1, w2⟩ := Bool.and_eq_true_iff.mp w
      exact ⟨p, p1, p2, w1, List.filter_eq_nil_iff.mp (List.map_eq_nil_iff.mp (of_decide_eq_true w2))⟩
    · rintro (z | ⟨p, p1, p2, p3, p4⟩) y
      · exact h (List.filter_eq_nil_iff.mpr z)
      · exact y p (List.mem_filter.mpr ⟨p1, p2⟩) (Bool.and_eq_true_iff.mpr ⟨p3, decide_eq_true (List.map_eq_nil_iff.mpr (List.filter_eq_nil_iff.mpr p4))⟩)
/-! ### walking the layers -/
section
variable {rules : List Rule} {many : Int} {left : List Int} {found : List (List Int)}
theorem getR_ok (h : okRs many rules) {k : Int} (h0 : 0 ≤ k) (h1 : k < (rules.length : Int)) : okR many (getR rules k) := by
  refine h.2 _ ?_
  unfold getR
  rw [List.getD_eq_getElem?_getD, List.getElem?_eq_getElem (by omega)]
  exact List.getElem_mem _
theorem getRs_ok (h : okRs many rules) (hl : ∀ k ∈ left, 0 ≤ k ∧ k < (rules.length : Int)) (hn : left.length ≤ 100) : okRs many (left.map (getR rules)) := ⟨by rw [List.length_map]; exact hn, fun r hr => by
  obtain ⟨k, hk, rfl⟩ := List.mem_map.mp hr
  exact getR_ok h (hl k hk).1 (hl k hk).2⟩
theorem level_eq : level rules many left = left.filter fun k => isfree (getR rules k) (left.map (getR rules)) many := List.map_id' _
theorem lessL_eq : lessL rules many left = left.filter fun k => !decide (k ∈ level rules many left) := List.map_id' _
theorem level_sub {k : Int} (h : k ∈ level rules many left) : k ∈ left := by
  rw [level_eq] at h
  exact (List.mem_filter.mp h).1
theorem level_len : (level rules many left).length ≤ left.length := by
  rw [level_eq]
  exact List.length_filter_le _ _
theorem left_less (h : level rules many left ≠ []) : (lessL rules many left).length < left.length := by
  rw [lessL_eq]
  obtain ⟨k, hk⟩ := List.exists_mem_of_ne_nil _ h
  exact List.length_filter_lt_length_iff_exists.mpr ⟨k, level_sub hk, by simp [hk]⟩
/-- where the loop stands -/
def layI (rules : List Rule) (many : Int) (left : List Int) (found : List (List Int)) : Prop :=
  (∃ n, left.length ≤ n ∧ layGo rules many n left found = layers rules many) ∧ (∀ k ∈ left, 0 ≤ k ∧ k < (rules.length : Int)) ∧ found.length + left.length ≤ rules.length
theorem layI_start : layI rules many (rng 0 (rules.length : Int)) [] := ⟨⟨rules.length, by rw [rng_len]; omega, rfl⟩, fun k hk => mem_rng.mp hk, by rw [rng_len]; simp⟩
theorem layI_end (h : layI rules many [] found) : layers rules many = .yes found := by
  obtain ⟨⟨n, _, h2⟩, _⟩ := h
  rw [← h2]
  cases n <;> rfl
theorem layI_no (h : layI rules many left found) (hn : left ≠ []) (hl : level rules many left = []) : layers rules many = .no left := by
  obtain ⟨⟨n, h1, h2⟩, _⟩ := h
  rw [← h2]
  cases n with
  | zero => exact absurd (List.eq_nil_of_length_eq_zero (by omega)) hn
  | succ n => rw [layGo, if_neg hn, if_pos hl]
theorem layI_step (h : layI rules many left found) (hn : left ≠ []) (hl : level rules many left ≠ []) : layI rules many (lessL rules many left) (found ++ [level rules many left]) := by
  obtain ⟨⟨n, h1, h2⟩, h3, h4⟩ := h
  have h5 := left_less hl
  refine ⟨?_, fun k hk => h3 k (by rw [lessL_eq] at hk; exact (List.mem_filter.mp hk).1), by rw [List.length_append]; simp only [List.length_cons, List.length_nil]; omega⟩
  cases n with
  | zero => exact absurd (List.eq_nil_of_length_eq_zero (by omega)) hn
  | succ n => exact ⟨n, by omega, by rw [← h2, layGo, if_neg hn, if_neg hl]⟩
end
/-! more of the layers -/
section
variable {rules : List Rule} {many : Int} {r : Rule}
theorem okM_more (h : okM many rules r) : okRs many (more rules r) := by
  obtain ⟨h1, h2, h3, h4⟩ := h
  refine ⟨by unfold more; rw [List.length_append]; simp only [List.length_cons, List.length_nil]; omega, fun s hs => ?_⟩
  rcases List.mem_append.mp hs with hs | hs
  · exact h1.2 s hs
  · rw [List.mem_singleton.mp hs]
    exact ⟨h3.1, by show (Sy.neg r.2).dep < 8; simp only [Sy.dep]; omega, h3.2.2⟩
theorem layGo_ok (h : okRs many rules) : ∀ (n : Nat) (left : List Int) (found ls : List (List Int)), left.length ≤ n → layI rules many left found → lvOk rules found → layGo rules many n left found = .yes ls → lvOk rules ls
  | 0, left, found, ls, hn, hI, hf, e => by
    have : left = [] := List.eq_nil_of_length_eq_zero (by omega)
    rw [layGo, if_pos this] at e
    cases e
    exact hf
  | n + 1, left, found, ls, hn, hI, hf, e => by
    rw [layGo] at e
    by_cases hl : left = []
    · rw [if_pos hl] at e
      cases e
      exact hf
    · rw [if_neg hl] at e
      by_cases hv : level rules many left = []
      · rw [if_pos hv] at e; cases e
      · rw [if_neg hv] at e
        have hs := layI_step hI hl hv
        have hll := left_less hv
        refine layGo_ok h n _ _ ls (by omega) hs ⟨by have := hs.2.2; have := h.1; omega, fun l hl' => ?_⟩ e
        rcases List.mem_append.mp hl' with y | y
        · exact hf.2 l y
        · rw [List.mem_singleton.mp y]
          refine ⟨by have := level_len (rules := rules) (many := many) (left := left); have := hI.2.2; have := h.1; omega, fun k hk => hI.2.1 k (level_sub hk)⟩
theorem layers_ok (h : okRs many rules) {ls : List (List Int)} (e : layers rules many = .yes ls) : lvOk rules ls :=
  layGo_ok h rules.length _ [] ls (by rw [rng_len]; omega) layI_start ⟨by simp, fun l hl => nomatch hl⟩ e
theorem ranksOf_len {l : List Int} (e : ranksOf rules many = some l) : l.length = (points many).length := by
  unfold ranksOf at e
  cases y : layers rules many with
  | no ls => rw [y] at e; cases e
  | yes ls =>
    rw [y] at e
    cases e
    exact List.length_map ..
theorem isRanks_len {l : List Int} (hm : 1 ≤ many ∧ many ≤ 3) (h : isRanksV many (.nums l) = true) : l.length = (points many).length := by
  rw [isRanksV] at h
  cases y : ((!true) || (!decide ((l.length : Int) = (1 * 2 ^ (many).toNat)))) with
  | true => rw [if_pos y] at h; cases h
  | false =>
    have e : (l.length : Int) = 1 * 2 ^ many.toNat := by simpa using y
    rw [points_len]
    have e2 : ((2 ^ many.toNat : Nat) : Int) = 2 ^ many.toNat := by rw [Int.natCast_pow]; rfl
    omega
end
theorem v_eqF {K : PySem.W.Frag} {d e : D} {n k : Nat} (hd : d.ok n = true) (he : e.ok k = true) (h : PyData.eqv d.py e.py = false) (hn : n ≤ 64 := by decide) (hk : k ≤ 64 := by decide) : RV2 K (rEqD K) d e (.bl false) := by
  rw [← h]
  exact v_eqD hd he hn hk
theorem enil : (D.tup []).ok 5 = true := rfl
theorem v_nb {K : PySem.W.Frag} {l : List Int} {b : Bool} : RV2 K (rEqD K) (eV (.mix l b)) (.tup []) (.bl false) := v_eqF (n := 5) (k := 5) (show okL (l.map D.int ++ [.bl b]) 4 = true from okL_iff.mpr fun d hd => by
  rcases List.mem_append.mp hd with h | h
  · obtain ⟨i, _, rfl⟩ := List.mem_map.mp h
    rfl
  · rw [List.mem_singleton.mp h]; rfl) rfl (by cases l <;> rfl)
theorem v_nt {K : PySem.W.Frag} {s : Str} (h : PyData.strOk s = true) : RV2 K (rEqD K) (eV (.tex s)) (.tup []) (.bl false) := v_eqF (n := 5) (k := 5) (show okL [D.str s] 4 = true by rw [okL, okL, D.ok, h]; rfl) rfl rfl
theorem v_nl {K : PySem.W.Frag} {l : List Int} : RV2 K (rEqD K) (eV (.lis l)) (.tup []) (.bl false) := v_eqF (k := 5) (Enc.ok (f := lT D.int) l) rfl rfl
theorem v_nn {K : PySem.W.Frag} : RV2 K (rEqD K) (eV .nun) (.tup []) (.bl false) := v_eqF (n := 5) (k := 5) rfl rfl rfl
theorem v_ns {K : PySem.W.Frag} {s : Str} (h : PyData.strOk s = true) : RV2 K (rEqD K) (eV (.txt s)) (.tup []) (.bl false) := v_eqF (n := 5) (k := 5) (show (D.str s).ok 5 = true by rw [D.ok]; exact h) rfl rfl
/-! drawn rules -/
def small (m : Int) (s : Sy) : Prop := s.dep ≤ 2 ∧ s.lt m
def smallR (m : Int) (r : Rule) : Prop := small m r.1 ∧ small m r.2
def smallRs (m : Int) (rules : List Rule) : Prop := ∀ r ∈ rules, smallR m r
def cSay (n : Nat) : Con := fun ds Φ => ∃ letters depth : Int, ds = [.int letters, .int depth, .bl false] ∧ (1 ≤ letters ∧ letters < 1000 ∧ 0 ≤ depth ∧ depth < n) ∧ ∀ s : Sy, (s.dep : Int) ≤ depth → s.lt letters → Φ (eS s)
def cRules : Con := fun ds Φ => ∃ many most : Int, ds = [.int many, .int most] ∧ ((1 ≤ many ∧ many ≤ 3) ∧ 0 ≤ most ∧ most ≤ 10) ∧ ∀ rules : List Rule, (rules.length : Int) ≤ most → smallRs many rules → Φ (lT (pT eS eS) rules)
end WB

/-! What follows: layers, ranks made of them, and all ranks that keep the rules. -/
namespace WB
open PySem PySem.Spec PyProof.Rows L2 Evl DL
section
variable {ranks : List Int} {many : Int} {rules some' : List Rule} {r : Rule}
def Sat (ranks : List Int) (many : Int) (rules : List Rule) : Prop := ∀ r ∈ rules, Hp ranks many r.1 r.2
theorem ex_min {P : Int → Prop} (h : ∃ k : Int, 0 ≤ k ∧ k < ((points many).length : Int) ∧ P k) : ∃ k : Int, (0 ≤ k ∧ k < ((points many).length : Int) ∧ P k) ∧ ∀ j : Int, 0 ≤ j → j < ((points many).length : Int) → P j → rk ranks k ≤ rk ranks j := by
  classical
  obtain ⟨k, h0, h1, h2⟩ := h
  have hm : k ∈ (rng 0 ((points many).length : Int)).filter fun k => decide (P k) := List.mem_filter.mpr ⟨mem_rng.mpr ⟨h0, h1⟩, decide_eq_true h2⟩
  have ne : ((rng 0 ((points many).length : Int)).filter fun k => decide (P k)).map (rk ranks) ≠ [] := fun e => by
    rw [List.map_eq_nil_iff.mp e] at hm
    cases hm
  obtain ⟨m1, m2⟩ := lmin_ok ne
  obtain ⟨i, hi, e⟩ := List.mem_map.mp m1
  obtain ⟨i1, i2⟩ := List.mem_filter.mp hi
  have i3 := mem_rng.mp i1
  refine ⟨i, ⟨i3.1, i3.2, of_decide_eq_true i2⟩, fun j j0 j1 j2 => ?_⟩
  have := m2 _ (List.mem_map.mpr ⟨j, List.mem_filter.mpr ⟨mem_rng.mpr ⟨j0, j1⟩, decide_eq_true j2⟩, rfl⟩)
  rw [← e] at this
  exact this
theorem pt_of {p : List Int} (h : p ∈ points many) : ∃ k : Int, 0 ≤ k ∧ k < ((points many).length : Int) ∧ pt many k = p := by
  obtain ⟨n, hn, e⟩ := List.getElem_of_mem h
  refine ⟨n, by omega, by omega, ?_⟩
  unfold pt
  rw [List.getD_eq_getElem?_getD]
  show ((points many)[n]?).getD [] = p
  rw [List.getElem?_eq_getElem hn]
  exact e
/-- no ranks keep rules none of which is free -/
theorem stuck_unsat (hne : some' ≠ []) (hf : ∀ r ∈ some', ¬ isfree r some' many = true) : ¬ Sat ranks many some' := fun hs => by
  obtain ⟨r0, hr0⟩ := List.exists_mem_of_ne_nil _ hne
  have ha : ∀ r ∈ some', ∃ p ∈ points many, fits r.1 p = true := fun r hr => by
    apply Classical.byContradiction
    intro y
    exact hf r hr (isfree_iff.mpr (.inl fun p hp hq => y ⟨p, hp, hq⟩))
  obtain ⟨p0, hp0, hq0⟩ := ha r0 hr0
  obtain ⟨k0, a0, a1, rfl⟩ := pt_of hp0
  obtain ⟨k, ⟨b0, b1, r, hr, hk⟩, hmin⟩ := ex_min (ranks := ranks) (many := many) (P := fun k => ∃ r ∈ some', fits r.1 (pt many k) = true) ⟨k0, a0, a1, r0, hr0, hq0⟩
  have mn : ∀ s ∈ some', fits s.1 (pt many k) = true → fits s.2 (pt many k) = true := fun s hs' hq => hs s hs' k ⟨b0, b1, hq, fun j j0 j1 j2 => hmin j j0 j1 ⟨s, hs', j2⟩⟩
  refine hf r hr (isfree_iff.mpr (.inr ⟨pt many k, rows_mem b0 b1, hk, mn r hr hk, fun s hs' hb => ?_⟩))
  unfold breaks at hb
  obtain ⟨c1, c2⟩ := Bool.and_eq_true_iff.mp hb
  rw [mn s hs' c1] at c2
  cases c2
theorem Sat.sub {l : List Rule} (h : Sat ranks many rules) (k : ∀ r ∈ l, r ∈ rules) : Sat ranks many l := fun r hr => h r (k r hr)
/-! the layers -/
def tolP (many : Int) (r : Rule) (ok : List Int → Prop) : Prop := (∀ p ∈ points many, ¬ fits r.1 p = true) ∨ ∃ p ∈ points many, fits r.1 p = true ∧ fits r.2 p = true ∧ ok p
structure Ly (rules : List Rule) (many : Int) (left : List Int) (found : List (List Int)) : Prop where
  all : ∀ k ∈ rng 0 (rules.length : Int), k ∈ left ∨ ∃ (i : Nat) (l : List Int), found[i]? = some l ∧ k ∈ l
  tol : ∀ (i : Nat) (l : List Int), found[i]? = some l → ∀ k ∈ l, tolP many (getR rules k) fun p => (∀ j ∈ left, ¬ breaks (getR rules j) p = true) ∧ ∀ (i' : Nat) (l' : List Int), i ≤ i' → found[i']? = some l' → ∀ j ∈ l', ¬ breaks (getR rules j) p = true
  asc : left.Pairwise (· < ·)
theorem ly_step {left : List Int} {found : List (List Int)} (h : Ly rules many left found) : Ly rules many (lessL rules many left) (found ++ [level rules many left]) where
  all := fun k hk => by
    rcases h.all k hk with y | ⟨i, l, h1, h2⟩
    · by_cases z : k ∈ level rules many left
      · exact .inr ⟨found.length, _, by rw [List.getElem?_append_right (Nat.le_refl _), Nat.sub_self]; rfl, z⟩
      · exact .inl (by rw [lessL_eq]; exact List.mem_filter.mpr ⟨y, by simp [z]⟩)
    · refine .inr ⟨i, l, ?_, h2⟩
      rw [List.getElem?_append_left (List.getElem?_eq_some_iff.mp h1).1]
      exact h1
  tol := fun i l hl k hk => by
    have sub : ∀ j ∈ lessL rules many left, j ∈ left := fun j hj => by rw [lessL_eq] at hj; exact (List.mem_filter.mp hj).1
    by_cases hi : i < found.length
    · rw [List.getElem?_append_left hi] at hl
      rcases h.tol i l hl k hk with y | ⟨p, p1, p2, p3, p4, p5⟩
      · exact .inl y
      · refine .inr ⟨p, p1, p2, p3, fun j hj => p4 j (sub j hj), fun i' l' h1 h2 j hj => ?_⟩
        by_cases hi' : i' < found.length
        · rw [List.getElem?_append_left hi'] at h2
          exact p5 i' l' h1 h2 j hj
        · rw [List.getElem?_append_right (by omega)] at h2
          have e : l' = level rules many left := by
            cases z : i' - found.length with
            | zero => rw [z] at h2; cases h2; rfl
            | succ n => rw [z] at h2; cases h2
          rw [e] at hj
          exact p4 j (level_sub hj)
    · rw [List.getElem?_append_right (by omega)] at hl
      have e : l = level rules many left ∧ i = found.length := by
        cases z : i - found.length with
        | zero => rw [z] at hl; cases hl; exact ⟨rfl, by omega⟩
        | succ n => rw [z] at hl; cases hl
      obtain ⟨rfl, rfl⟩ := e
      have hk' := hk
      rw [level_eq] at hk'
      rcases isfree_iff.mp (List.mem_filter.mp hk').2 with y | ⟨p, p1, p2, p3, p4⟩
      · exact .inl y
      · refine .inr ⟨p, p1, p2, p3, fun j hj => p4 _ (List.mem_map.mpr ⟨j, sub j hj, rfl⟩), fun i' l' h1 h2 j hj => ?_⟩
        rw [List.getElem?_append_right h1] at h2
        have e : l' = level rules many left := by
          cases z : i' - found.length with
          | zero => rw [z] at h2; cases h2; rfl
          | succ n => rw [z] at h2; cases h2
        rw [e] at hj
        exact p4 _ (List.mem_map.mpr ⟨j, level_sub hj, rfl⟩)
  asc := by rw [lessL_eq]; exact h.asc.filter _
theorem ly_start : Ly rules many (rng 0 (rules.length : Int)) [] := ⟨fun k hk => .inl hk, fun i l hl => by simp at hl, rng_asc⟩
theorem layGo_yes : ∀ (n : Nat) (left : List Int) (found ls : List (List Int)), left.length ≤ n → Ly rules many left found → layGo rules many n left found = .yes ls → Ly rules many [] ls
  | 0, left, found, ls, hn, hI, e => by
    have hl : left = [] := List.eq_nil_of_length_eq_zero (by omega)
    subst hl
    rw [layGo, if_pos rfl] at e
    cases e
    exact hI
  | n + 1, left, found, ls, hn, hI, e => by
    rw [layGo] at e
    by_cases hl : left = []
    · subst hl
      rw [if_pos rfl] at e
      cases e
      exact hI
    · rw [if_neg hl] at e
      by_cases hv : level rules many left = []
      · rw [if_pos hv] at e; cases e
      · rw [if_neg hv] at e
        exact layGo_yes n _ _ ls (by have := left_less hv; omega) (ly_step hI) e
theorem layGo_no : ∀ (n : Nat) (left : List Int) (found : List (List Int)) (l : List Int), left.length ≤ n → Ly rules many left found → (∀ k ∈ left, 0 ≤ k ∧ k < (rules.length : Int)) → layGo rules many n left found = .no l → l ≠ [] ∧ level rules many l = [] ∧ l.Pairwise (· < ·) ∧ (∀ k ∈ l, 0 ≤ k ∧ k < (rules.length : Int)) ∧ l.length ≤ left.length
  | 0, left, found, l, hn, hI, hk, e => by
    have hl : left = [] := List.eq_nil_of_length_eq_zero (by omega)
    subst hl
    rw [layGo, if_pos rfl] at e
    cases e
  | n + 1, left, found, l, hn, hI, hk, e => by
    rw [layGo] at e
    by_cases hl : left = []
    · rw [if_pos hl] at e
      cases e
    · rw [if_neg hl] at e
      by_cases hv : level rules many left = []
      · rw [if_pos hv] at e
        cases e
        exact ⟨hl, hv, hI.asc, hk, Nat.le_refl _⟩
      · rw [if_neg hv] at e
        have hll := left_less hv
        obtain ⟨z1, z2, z3, z4, z5⟩ := layGo_no n _ _ l (by omega) (ly_step hI) (fun k h => hk k (by rw [lessL_eq] at h; exact (List.mem_filter.mp h).1)) e
        exact ⟨z1, z2, z3, z4, by omega⟩
theorem layers_yes {ls : List (List Int)} (e : layers rules many = .yes ls) : Ly rules many [] ls := layGo_yes rules.length _ [] ls (by rw [rng_len]; omega) ly_start e
theorem layers_no {l : List Int} (e : layers rules many = .no l) : l ≠ [] ∧ level rules many l = [] ∧ l.Pairwise (· < ·) ∧ (∀ k ∈ l, 0 ≤ k ∧ k < (rules.length : Int)) ∧ l.length ≤ rules.length := by
  have z := layGo_no rules.length _ [] l (by rw [rng_len]; omega) ly_start (fun k hk => mem_rng.mp hk) e
  rw [rng_len] at z
  exact ⟨z.1, z.2.1, z.2.2.1, z.2.2.2.1, by have := z.2.2.2.2; omega⟩
theorem getR_mem {k : Int} (h0 : 0 ≤ k) (h1 : k < (rules.length : Int)) : getR rules k ∈ rules := by
  unfold getR
  rw [List.getD_eq_getElem?_getD, List.getElem?_eq_getElem (by omega)]
  exact List.getElem_mem _
theorem level_nil {l : List Int} (h : level rules many l = []) : ∀ r ∈ l.map (getR rules), ¬ isfree r (l.map (getR rules)) many = true := fun r hr => by
  obtain ⟨k, hk, rfl⟩ := List.mem_map.mp hr
  rw [level_eq] at h
  exact List.filter_eq_nil_iff.mp h k hk
theorem layers_no_unsat {l : List Int} (e : layers rules many = .no l) : ¬ Sat ranks many rules := fun hs => by
  obtain ⟨h1, h2, h3, h4, _⟩ := layers_no e
  refine stuck_unsat (ranks := ranks) (fun z => h1 (List.map_eq_nil_iff.mp z)) (level_nil h2) (hs.sub fun r hr => ?_)
  obtain ⟨k, hk, rfl⟩ := List.mem_map.mp hr
  exact getR_mem (h4 k hk).1 (h4 k hk).2
/-! ranks by the layers -/
theorem lmax_le {l : List Int} (hl : l ≠ []) {i : Int} : lmax l ≤ i ↔ ∀ x ∈ l, x ≤ i := by
  obtain ⟨m1, m2⟩ := lmax_ok hl
  exact ⟨fun h x hx => by have := m2 x hx; omega, fun h => h _ m1⟩
theorem rop_le {told : List (List Int)} {p : List Int} {i : Int} (h0 : 0 ≤ i) : rop rules told p ≤ i ↔ ∀ (k : Nat) (l : List Int), told[k]? = some l → (∃ j ∈ l, breaks (getR rules j) p = true) → (k : Int) + 1 ≤ i := by
  unfold rop
  rw [lmax_le (by simp)]
  constructor
  · intro h k l hk ⟨j, hj, hb⟩
    have hlt := (List.getElem?_eq_some_iff.mp hk).1
    refine h _ (List.mem_append.mpr (.inr (List.mem_map.mpr ⟨(k : Int), List.mem_filter.mpr ⟨mem_rng.mpr ⟨by omega, by omega⟩, ?_⟩, rfl⟩)))
    rw [List.any_eq_true]
    refine ⟨_, List.mem_map.mpr ⟨j, ?_, rfl⟩, hb⟩
    rw [List.getD_eq_getElem?_getD]
    show j ∈ (told[k]?).getD []
    rw [hk]
    exact hj
  · intro h x hx
    rcases List.mem_append.mp hx with hx | hx
    · rw [List.mem_singleton.mp hx]; exact h0
    · obtain ⟨k, hk, rfl⟩ := List.mem_map.mp hx
      obtain ⟨k1, k2⟩ := List.mem_filter.mp hk
      have k3 := mem_rng.mp k1
      obtain ⟨y, hy, hb⟩ := List.any_eq_true.mp k2
      obtain ⟨j, hj, rfl⟩ := List.mem_map.mp hy
      have z := h k.toNat (told.getD k.toNat []) (by rw [List.getD_eq_getElem?_getD, List.getElem?_eq_getElem (by omega)]; rfl) ⟨j, hj, hb⟩
      omega
theorem rop_nonneg {told : List (List Int)} {p : List Int} : 0 ≤ rop rules told p := by
  unfold rop
  exact (lmax_ok (by simp)).2 0 (by simp)
theorem rk_map {f : List Int → Int} {k : Int} (h0 : 0 ≤ k) (h1 : k < ((points many).length : Int)) : rk ((points many).map f) k = f (pt many k) := by
  unfold rk pt
  rw [List.getD_eq_getElem?_getD, List.getD_eq_getElem?_getD, List.getElem?_map, List.getElem?_eq_getElem (by omega)]
  rfl
theorem zrank_sat {ls : List (List Int)} (e : layers rules many = .yes ls) : Sat ((points many).map fun p => rop rules ls p) many rules := fun r hr k hk => by
  have L := layers_yes e
  obtain ⟨n, hn, en⟩ := List.getElem_of_mem hr
  have er : getR rules (n : Int) = r := by
    unfold getR
    rw [List.getD_eq_getElem?_getD]
    show ((rules[n]?).getD _) = r
    rw [List.getElem?_eq_getElem hn]
    exact en
  rcases L.all (n : Int) (mem_rng.mpr ⟨by omega, by omega⟩) with y | ⟨i, l, h1, h2⟩
  · cases y
  · obtain ⟨k0, k1, k2, k3⟩ := hk
    rcases L.tol i l h1 n h2 with y | ⟨p, p1, p2, p3, p4, p5⟩
    · rw [er] at y
      exact absurd k2 (y _ (rows_mem k0 k1))
    · rw [er] at p2 p3
      obtain ⟨k', a0, a1, rfl⟩ := pt_of p1
      have hle := k3 k' a0 a1 p2
      rw [rk_map k0 k1, rk_map a0 a1] at hle
      have h5 : rop rules ls (pt many k') ≤ (i : Int) := (rop_le (by omega)).mpr fun j l' hj ⟨x, hx, hb⟩ => by
        by_cases z : i ≤ j
        · exact absurd hb (p5 j l' z hj x hx)
        · omega
      have h6 := (rop_le (i := (i : Int)) (by omega)).mp (show rop rules ls (pt many k) ≤ (i : Int) by omega)
      apply Classical.byContradiction
      intro hf
      have := h6 i l h1 ⟨(n : Int), h2, by
        rw [er]
        unfold breaks
        rw [k2]
        simpa using hf⟩
      omega
/-! what follows of rules -/
theorem shift {ranks : List Int} (hs : Sat ranks many rules) (hn : ¬ Hp ranks many r.1 r.2) : ∃ ranks' : List Int, ranks'.length = (points many).length ∧ Sat ranks' many (more rules r) := by
  have ⟨k0, hk0, hf⟩ : ∃ k0, Mn ranks many r.1 k0 ∧ ¬ fits r.2 (pt many k0) = true := by
    apply Classical.byContradiction
    intro y
    exact hn fun k hk => by
      apply Classical.byContradiction
      intro z
      exact y ⟨k, hk, z⟩
  refine ⟨(rng 0 ((points many).length : Int)).map fun k => if k = k0 then 2 * rk ranks k0 else 2 * rk ranks k + 1, by rw [List.length_map, rng_len]; omega, ?_⟩
  have er : ∀ k : Int, 0 ≤ k → k < ((points many).length : Int) → rk ((rng 0 ((points many).length : Int)).map fun k => if k = k0 then 2 * rk ranks k0 else 2 * rk ranks k + 1) k = if k = k0 then 2 * rk ranks k0 else 2 * rk ranks k + 1 := fun k h0 h1 => by
    unfold rk
    rw [List.getD_eq_getElem?_getD, List.getElem?_map, rng_get (by omega)]
    have : (0 : Int) + (k.toNat : Int) = k := by omega
    rw [this]
    rfl
  have back : ∀ (a : Sy) (k : Int), Mn ((rng 0 ((points many).length : Int)).map fun k => if k = k0 then 2 * rk ranks k0 else 2 * rk ranks k + 1) many a k → Mn ranks many a k := fun a k ⟨h0, h1, h2, h3⟩ => ⟨h0, h1, h2, fun j j0 j1 j2 => by
    have z := h3 j j0 j1 j2
    rw [er k h0 h1, er j j0 j1] at z
    by_cases e1 : k = k0
    · rw [if_pos e1] at z
      subst e1
      by_cases e2 : j = k
      · subst e2; omega
      · rw [if_neg e2] at z; omega
    · rw [if_neg e1] at z
      by_cases e2 : j = k0
      · subst e2; rw [if_pos rfl] at z; omega
      · rw [if_neg e2] at z; omega⟩
  intro s hs' k hk
  rcases List.mem_append.mp hs' with y | y
  · exact hs s y k (back _ k hk)
  · rw [List.mem_singleton.mp y] at hk ⊢
    have e : k = k0 := by
      apply Classical.byContradiction
      intro ne
      have z := hk.2.2.2 k0 hk0.1 hk0.2.1 hk0.2.2.1
      rw [er k hk.1 hk.2.1, er k0 hk0.1 hk0.2.1, if_neg ne, if_pos rfl] at z
      have := hk0.2.2.2 k hk.1 hk.2.1 hk.2.2.1
      omega
    subst e
    show (!fits r.2 (pt many k)) = true
    simpa using hf
def Fo.isYes : Fo → Bool
  | .yes _ => true
  | .no _ => false
theorem follows_yes {l : List Int} (e : follows rules r many = .yes l) : ∀ ranks, Sat ranks many rules → Hp ranks many r.1 r.2 := fun ranks hs => by
  unfold follows at e
  by_cases h : ((pw r.1 many).length : Int) = 0
  · intro k hk
    have : pt many k ∈ pw r.1 many := List.mem_filter.mpr ⟨rows_mem hk.1 hk.2.1, hk.2.2.1⟩
    have := List.length_pos_of_mem this
    omega
  · rw [if_neg h] at e
    cases y : layers (more rules r) many with
    | yes ls => rw [y] at e; cases e
    | no l' =>
      apply Classical.byContradiction
      intro hn
      obtain ⟨ranks', _, hs'⟩ := shift hs hn
      exact layers_no_unsat y hs'
theorem follows_no {l : List Int} (e : follows rules r many = .no l) : Sat l many rules ∧ ¬ Hp l many r.1 r.2 ∧ Sat l many (more rules r) ∧ l.length = (points many).length ∧ (∀ x ∈ l, 0 ≤ x) ∧ ∃ ls, layers (more rules r) many = .yes ls := by
  unfold follows at e
  by_cases h : ((pw r.1 many).length : Int) = 0
  · rw [if_pos h] at e; cases e
  · rw [if_neg h] at e
    cases y : layers (more rules r) many with
    | no ls => rw [y] at e; cases e
    | yes ls =>
      rw [y] at e
      cases e
      have hs := zrank_sat y
      refine ⟨hs.sub fun s hs' => List.mem_append.mpr (.inl hs'), fun hh => ?_, hs, List.length_map .., fun x hx => ?_, ls, rfl⟩
      · have : ∃ p, p ∈ pw r.1 many := List.exists_mem_of_length_pos (by omega)
        obtain ⟨p, hp⟩ := this
        obtain ⟨p1, p2⟩ := List.mem_filter.mp hp
        obtain ⟨k, a0, a1, rfl⟩ := pt_of p1
        obtain ⟨j, hj⟩ := mn_ex (ranks := (points many).map fun p => rop (more rules r) ls p) (many := many) (a := r.1) ⟨k, a0, a1, p2⟩
        have h1 := hh j hj
        have h2 : fits (.neg r.2) (pt many j) = true := hs (r.1, .neg r.2) (List.mem_append.mpr (.inr (List.mem_singleton.mpr rfl))) j hj
        rw [show fits (.neg r.2) (pt many j) = !fits r.2 (pt many j) from rfl, h1] at h2
        cases h2
      · obtain ⟨p, _, rfl⟩ := List.mem_map.mp hx
        exact rop_nonneg
theorem yes_iff : (follows rules r many).isYes = true ↔ ∀ ranks, Sat ranks many rules → Hp ranks many r.1 r.2 := by
  cases e : follows rules r many with
  | yes l => exact ⟨fun _ => follows_yes e, fun _ => rfl⟩
  | no l =>
    obtain ⟨h1, h2, _⟩ := follows_no e
    exact ⟨fun h => (nomatch h), fun h => absurd (h l h1) h2⟩
end
end WB

namespace WB
open PySem PySem.Spec PyProof.Rows L2 Evl DL
section
variable {ranks : List Int} {many : Int} {rules : List Rule} {r : Rule}
theorem all_id {α : Type} {l : List α} {f : α → Bool} : (l.map f).all id = true ↔ ∀ x ∈ l, f x = true := by
  rw [List.all_eq_true]
  exact ⟨fun h x hx => h _ (List.mem_map.mpr ⟨x, hx, rfl⟩), fun h y hy => by
    obtain ⟨x, hx, rfl⟩ := List.mem_map.mp hy
    exact h x hx⟩
theorem any_id {α : Type} {l : List α} {f : α → Bool} : (l.map f).any id = true ↔ ∃ x ∈ l, f x = true := by
  rw [List.any_eq_true]
  exact ⟨fun ⟨y, hy, h⟩ => by
    obtain ⟨x, hx, rfl⟩ := List.mem_map.mp hy
    exact ⟨x, hx, h⟩, fun ⟨x, hx, h⟩ => ⟨_, List.mem_map.mpr ⟨x, hx, rfl⟩, h⟩⟩
theorem stuckB_iff {l : List Int} : stuckB rules many l = true ↔ l ≠ [] ∧ (∀ k ∈ l, 0 ≤ k ∧ k < (rules.length : Int)) ∧ (∀ j : Int, 0 ≤ j → j < (l.length : Int) - 1 → l.getD j.toNat 0 < l.getD (j + 1).toNat 0) ∧ ∀ s ∈ l.map (getR rules), ¬ isfree s (l.map (getR rules)) many = true := by
  unfold stuckB
  by_cases h1 : ((!true) || (decide ((l.length : Int) = 0))) = true
  · rw [if_pos h1]
    refine ⟨fun h => (nomatch h), fun h => absurd ?_ h.1⟩
    have : (l.length : Int) = 0 := by simpa using h1
    exact List.eq_nil_of_length_eq_zero (by omega)
  · rw [if_neg h1]
    have n1 : l ≠ [] := fun e => h1 (by rw [e]; rfl)
    by_cases h2 : (l.map fun k => (true && ((!false) && ((decide (0 ≤ k)) && (decide (k < (rules.length : Int))))))).all id = true
    · have n2 : ∀ k ∈ l, 0 ≤ k ∧ k < (rules.length : Int) := fun k hk => by
        have := all_id.mp h2 k hk
        simpa using this
      rw [if_neg (by rw [h2]; exact fun z => Bool.noConfusion z)]
      by_cases h3 : (((rng 0 ((l.length : Int) - 1)).map fun j => (decide ((l.getD ((j + 1)).toNat 0) ≤ (l.getD (j).toNat 0)))).any id) = true
      · rw [if_pos h3]
        refine ⟨fun h => (nomatch h), fun h => ?_⟩
        obtain ⟨j, hj, hd⟩ := any_id.mp h3
        have hj' := mem_rng.mp hj
        have := h.2.2.1 j hj'.1 hj'.2
        have := of_decide_eq_true hd
        omega
      · rw [if_neg h3]
        have n3 : ∀ j : Int, 0 ≤ j → j < (l.length : Int) - 1 → l.getD j.toNat 0 < l.getD (j + 1).toNat 0 := fun j h0 hl => by
          apply Classical.byContradiction
          intro z
          exact h3 (any_id.mpr ⟨j, mem_rng.mpr ⟨h0, hl⟩, decide_eq_true (by omega)⟩)
        rw [Bool.not_eq_true', Bool.eq_false_iff]
        exact ⟨fun h => ⟨n1, n2, n3, fun s hs z => h (any_id.mpr ⟨s, hs, z⟩)⟩, fun h z => by
          obtain ⟨s, hs, y⟩ := any_id.mp z
          exact h.2.2.2 s hs y⟩
    · rw [if_pos (by cases y : (l.map fun k => (true && ((!false) && ((decide (0 ≤ k)) && (decide (k < (rules.length : Int))))))).all id with | true => exact absurd y h2 | false => rfl)]
      refine ⟨fun h => (nomatch h), fun h => absurd (all_id.mpr fun k hk => ?_) h2⟩
      have := h.2.1 k hk
      simp [this.1, this.2]
theorem stuckB_unsat {l : List Int} (h : stuckB rules many l = true) : ¬ Sat ranks many rules := fun hs => by
  obtain ⟨h1, h2, _, h4⟩ := stuckB_iff.mp h
  refine stuck_unsat (ranks := ranks) (fun z => h1 (List.map_eq_nil_iff.mp z)) h4 (hs.sub fun s hs' => ?_)
  obtain ⟨k, hk, rfl⟩ := List.mem_map.mp hs'
  exact getR_mem (h2 k hk).1 (h2 k hk).2
theorem asc_at {l : List Int} (h : l.Pairwise (· < ·)) (j : Int) (h0 : 0 ≤ j) (h1 : j < (l.length : Int) - 1) : l.getD j.toNat 0 < l.getD (j + 1).toNat 0 := by
  have e : (j + 1).toNat = j.toNat + 1 := by omega
  rw [e, List.getD_eq_getElem?_getD, List.getD_eq_getElem?_getD, List.getElem?_eq_getElem (by omega), List.getElem?_eq_getElem (by omega)]
  exact List.pairwise_iff_getElem.mp h j.toNat (j.toNat + 1) (by omega) (by omega) (by omega)
theorem stuckB_of {l : List Int} (e : layers rules many = .no l) : stuckB rules many l = true := by
  obtain ⟨h1, h2, h3, h4, _⟩ := layers_no e
  exact stuckB_iff.mpr ⟨h1, h4, asc_at h3, level_nil h2⟩
/-! what `follows` tells -/
theorem fo_yes {l : List Int} (e : follows rules r many = .yes l) : (l = [] ∧ pw r.1 many = []) ∨ (l ≠ [] ∧ layers (more rules r) many = .no l) := by
  unfold follows at e
  by_cases h : ((pw r.1 many).length : Int) = 0
  · rw [if_pos h] at e
    cases e
    exact .inl ⟨rfl, List.eq_nil_of_length_eq_zero (by omega)⟩
  · rw [if_neg h] at e
    cases y : layers (more rules r) many with
    | yes ls => rw [y] at e; cases e
    | no l' =>
      rw [y] at e
      cases e
      exact .inr ⟨(layers_no y).1, rfl⟩
theorem fo_len {l : List Int} (e : follows rules r many = .yes l) (h : rules.length ≤ 20) : l.length ≤ 100 ∧ ∀ k ∈ l, 0 ≤ k ∧ k < ((more rules r).length : Int) := by
  rcases fo_yes e with ⟨rfl, _⟩ | ⟨_, y⟩
  · exact ⟨by simp, fun k hk => nomatch hk⟩
  · obtain ⟨_, _, _, h4, h5⟩ := layers_no y
    refine ⟨?_, h4⟩
    unfold more at h5
    rw [List.length_append] at h5
    simp only [List.length_cons, List.length_nil] at h5
    omega
theorem fo_lstuck {l : List Int} (e : follows rules r many = .yes l) : lstuck rules r many l = true := by
  unfold lstuck
  rcases fo_yes e with ⟨rfl, h⟩ | ⟨hne, y⟩
  · rw [if_pos (decide_eq_true rfl)]
    exact decide_eq_true (List.map_eq_nil_iff.mpr h)
  · rw [if_neg (by simpa using hne)]
    exact decide_eq_true (List.map_eq_nil_iff.mpr (List.filter_eq_nil_iff.mpr (level_nil (layers_no y).2.1)))
theorem fo_shows {l : List Int} (e : follows rules r many = .yes l) : showsB rules r many (.nums l) = true := by
  rw [showsB]
  rcases fo_yes e with ⟨rfl, h⟩ | ⟨hne, y⟩
  · rw [if_pos (by rw [decide_eq_true rfl]; rfl), h]
    rfl
  · rw [if_neg (by simpa using hne)]
    exact stuckB_of y
theorem holdsAll_iff : holdsAll ranks rules many = true ↔ Sat ranks many rules := by
  unfold holdsAll
  rw [all_id]
  exact ⟨fun h s hs => holds_iff.mp (h s hs), fun h s hs => holds_iff.mpr (h s hs)⟩
theorem isRanks_iff {l : List Int} (hm : 1 ≤ many ∧ many ≤ 3) : isRanksV many (.nums l) = true ↔ l.length = (points many).length ∧ ∀ x ∈ l, 0 ≤ x := by
  refine ⟨fun h => ⟨isRanks_len hm h, fun x hx => ?_⟩, fun ⟨h1, h2⟩ => ?_⟩
  · rw [isRanksV] at h
    cases y : ((!true) || (!decide ((l.length : Int) = (1 * 2 ^ (many).toNat)))) with
    | true => rw [if_pos y] at h; cases h
    | false =>
      rw [if_neg (by rw [y]; exact fun z => Bool.noConfusion z)] at h
      have := all_id.mp h x hx
      simpa using this
  · rw [isRanksV]
    have e2 : ((2 ^ many.toNat : Nat) : Int) = 2 ^ many.toNat := by rw [Int.natCast_pow]; rfl
    have e : (l.length : Int) = 1 * 2 ^ many.toNat := by rw [h1, points_len]; omega
    rw [if_neg (by rw [decide_eq_true e]; exact fun z => Bool.noConfusion z)]
    exact all_id.mpr fun x hx => by simp [h2 x hx]
theorem showsNot_iff {l : List Int} (hm : 1 ≤ many ∧ many ≤ 3) : showsNotB rules r many (.nums l) = true ↔ (l.length = (points many).length ∧ ∀ x ∈ l, 0 ≤ x) ∧ Sat l many rules ∧ ¬ Hp l many r.1 r.2 := by
  rw [showsNotB]
  by_cases h : isRanksV many (.nums l) = true
  · rw [if_neg (by rw [h]; exact fun z => Bool.noConfusion z), Bool.and_eq_true, holdsAll_iff, Bool.not_eq_true', Bool.eq_false_iff]
    exact ⟨fun ⟨a, b⟩ => ⟨(isRanks_iff hm).mp h, a, fun z => b (holds_iff.mpr z)⟩, fun ⟨_, a, b⟩ => ⟨a, fun z => b (holds_iff.mp z)⟩⟩
  · rw [if_pos (by cases y : isRanksV many (.nums l) with | true => exact absurd y h | false => rfl)]
    exact ⟨fun z => (nomatch z), fun z => absurd ((isRanks_iff hm).mpr z.1) h⟩
theorem fo_not {l : List Int} {l' : List Int} (hm : 1 ≤ many ∧ many ≤ 3) (e : follows rules r many = .yes l) : showsNotB rules r many (.nums l') = false := by
  rw [Bool.eq_false_iff]
  intro h
  obtain ⟨_, h2, h3⟩ := (showsNot_iff hm).mp h
  exact h3 (follows_yes e l' h2)
theorem fo_close {l : List Int} (e : follows rules r many = .yes l) : closely rules r many = true := by
  unfold closely ranksOf
  cases y : layers rules many with
  | no l' => rfl
  | yes ls => exact holds_iff.mpr (follows_yes e _ (zrank_sat y))
theorem fo_no_shows {l : List Int} (hm : 1 ≤ many ∧ many ≤ 3) (e : follows rules r many = .no l) : showsNotB rules r many (.nums l) = true ∧ showsB rules r many (.nums l) = false := by
  obtain ⟨h1, h2, h3, h4, h5, _⟩ := follows_no e
  refine ⟨(showsNot_iff hm).mpr ⟨⟨h4, h5⟩, h1, h2⟩, ?_⟩
  have ne : l ≠ [] := fun z => by
    rw [z] at h4
    have := points_len (many := many)
    have : 0 < 2 ^ many.toNat := Nat.pow_pos (by decide)
    simp at h4
    omega
  rw [showsB, if_neg (by simpa using ne), Bool.eq_false_iff]
  exact fun z => stuckB_unsat z h3
theorem close_self (h : r ∈ rules) : closely rules r many = true := by
  unfold closely ranksOf
  cases y : layers rules many with
  | no l' => rfl
  | yes ls => exact holds_iff.mpr (zrank_sat y r h)
theorem follows_self (h : r ∈ rules) : (follows rules r many).isYes = true := yes_iff.mpr fun ranks hs => hs r h
/-! all ranks below most -/
def lrN (most : Int) : Nat → List (List Int)
  | 0 => [[]]
  | n + 1 => (lrN most n).flatMap fun one => (rng 0 most).map fun rank => one ++ [rank]
theorem lrN_mem {most : Int} : ∀ {n : Nat} {l : List Int}, l ∈ lrN most n ↔ l.length = n ∧ ∀ x ∈ l, 0 ≤ x ∧ x < most
  | 0, l => ⟨fun h => by rw [List.mem_singleton.mp h]; exact ⟨rfl, fun x hx => nomatch hx⟩, fun h => by rw [List.eq_nil_of_length_eq_zero h.1]; exact List.mem_singleton.mpr rfl⟩
  | n + 1, l => by
    unfold lrN
    rw [List.mem_flatMap]
    constructor
    · rintro ⟨one, h1, h2⟩
      obtain ⟨x, hx, rfl⟩ := List.mem_map.mp h2
      obtain ⟨a, b⟩ := lrN_mem.mp h1
      refine ⟨by rw [List.length_append, a]; rfl, fun y hy => ?_⟩
      rcases List.mem_append.mp hy with hy | hy
      · exact b y hy
      · rw [List.mem_singleton.mp hy]; exact mem_rng.mp hx
    · rintro ⟨h1, h2⟩
      have ne : l ≠ [] := fun z => by rw [z] at h1; cases h1
      refine ⟨l.dropLast, lrN_mem.mpr ⟨by rw [List.length_dropLast]; omega, fun x hx => h2 x (List.dropLast_subset _ hx)⟩, List.mem_map.mpr ⟨l.getLast ne, mem_rng.mpr (h2 _ (List.getLast_mem ne)), List.dropLast_concat_getLast ne⟩⟩
theorem lrN_len {most : Int} (h : most ≤ 4) : ∀ n, (lrN most n).length ≤ 4 ^ n
  | 0 => Nat.le_refl 1
  | n + 1 => by
    have e : ∀ l : List (List Int), (l.flatMap fun one => (rng 0 most).map fun rank => one ++ [rank]).length ≤ 4 * l.length := fun l => by
      induction l with
      | nil => simp
      | cons x l ih =>
        rw [List.flatMap_cons, List.length_append, List.length_map, rng_len, List.length_cons]
        omega
    have := e (lrN most n)
    have := lrN_len h n
    rw [Nat.pow_succ]
    show ((lrN most n).flatMap _).length ≤ _
    omega
def cLRanks : Con := fun ds Φ => ∃ many most, ds = [.int many, .int most] ∧ ((1 ≤ many ∧ many ≤ 2) ∧ 0 ≤ most ∧ most ≤ 4) ∧ Φ (lT (tT D.int) (lrN most (points many).length))
/-! ranks made small -/
def cnt (ranks : List Int) (x : Int) : Nat := ((setI ranks).filter fun y => decide (y < x)).length
theorem cnt_lt {x y : Int} (hx : x ∈ ranks) (h : x < y) : cnt ranks x < cnt ranks y := by
  unfold cnt
  have e : ((setI ranks).filter fun z => decide (z < x)) = (((setI ranks).filter fun z => decide (z < y)).filter fun z => decide (z < x)) := by
    rw [List.filter_filter]
    refine List.filter_congr fun z _ => ?_
    by_cases c : z < x
    · have : z < y := by omega
      simp [c, this]
    · simp [c]
  rw [e]
  exact List.length_filter_lt_length_iff_exists.mpr ⟨x, List.mem_filter.mpr ⟨mem_setI.mpr hx, decide_eq_true h⟩, by simp⟩
theorem cnt_le {x y : Int} (hx : x ∈ ranks) (hy : y ∈ ranks) : cnt ranks x ≤ cnt ranks y ↔ x ≤ y := by
  constructor
  · intro h
    apply Classical.byContradiction
    intro z
    have := cnt_lt (ranks := ranks) hy (show y < x by omega)
    omega
  · intro h
    by_cases e : x = y
    · rw [e]; exact Nat.le_refl _
    · exact Nat.le_of_lt (cnt_lt hx (by omega))
theorem cnt_top {x : Int} (hx : x ∈ ranks) : cnt ranks x < ranks.length := by
  unfold cnt
  have h1 : ((setI ranks).filter fun y => decide (y < x)).length < (setI ranks).length := List.length_filter_lt_length_iff_exists.mpr ⟨x, mem_setI.mpr hx, by simp⟩
  have := setI_len ranks
  omega
theorem make_small (hl : ranks.length = (points many).length) : ∃ ranks' : List Int, ranks'.length = (points many).length ∧ (∀ x ∈ ranks', 0 ≤ x ∧ x < ((points many).length : Int)) ∧ ∀ a b : Sy, Hp ranks' many a b ↔ Hp ranks many a b := by
  refine ⟨ranks.map fun x => (cnt ranks x : Int), by rw [List.length_map, hl], fun x hx => ?_, fun a b => ?_⟩
  · obtain ⟨y, hy, rfl⟩ := List.mem_map.mp hx
    have := cnt_top hy
    omega
  · have er : ∀ k : Int, 0 ≤ k → k < ((points many).length : Int) → rk (ranks.map fun x => (cnt ranks x : Int)) k = (cnt ranks (rk ranks k) : Int) := fun k h0 h1 => by
      unfold rk
      rw [List.getD_eq_getElem?_getD, List.getD_eq_getElem?_getD, List.getElem?_map, List.getElem?_eq_getElem (by omega)]
      rfl
    have em : ∀ k, Mn (ranks.map fun x => (cnt ranks x : Int)) many a k ↔ Mn ranks many a k := fun k => by
      unfold Mn
      refine and_congr_right fun h0 => and_congr_right fun h1 => and_congr_right fun _ => ?_
      refine forall_congr' fun j => forall_congr' fun j0 => forall_congr' fun j1 => forall_congr' fun _ => ?_
      rw [er k h0 h1, er j j0 j1]
      have := cnt_le (ranks := ranks) (rk_mem hl h0 h1) (rk_mem hl j0 j1)
      omega
    exact forall_congr' fun k => by rw [em k]
theorem four {n : Int} (hm : 1 ≤ n ∧ n ≤ 2) : (points n).length ≤ 4 := by
  rw [points_len]
  have : 2 ^ n.toNat ≤ 2 ^ 2 := Nat.pow_le_pow_right (by decide) (by omega)
  omega
/-- those that keep the rules but not the rule -/
def againstB (rules : List Rule) (r : Rule) (many : Int) (ranks : List Int) : Bool := decide (((rules.filter fun one => !lholds ranks one many).map fun _ => (1 : Int)) = []) && !lholds ranks r many
theorem against_iff : againstB rules r many ranks = true ↔ Sat ranks many rules ∧ ¬ Hp ranks many r.1 r.2 := by
  unfold againstB
  rw [Bool.and_eq_true, decide_eq_true_iff, List.map_eq_nil_iff, List.filter_eq_nil_iff, Bool.not_eq_true', Bool.eq_false_iff]
  refine and_congr ⟨fun h s hs => lholds_iff.mp (by simpa using h s hs), fun h s hs => by simpa using lholds_iff.mpr (h s hs)⟩ ⟨fun h z => h (lholds_iff.mpr z), fun h z => h (lholds_iff.mp z)⟩
theorem against_nil (hm : 1 ≤ many ∧ many ≤ 2) : (lrN 4 (points many).length).filter (againstB rules r many) = [] ↔ (follows rules r many).isYes = true := by
  rw [List.filter_eq_nil_iff]
  constructor
  · intro h
    cases e : follows rules r many with
    | yes l => rfl
    | no l =>
      obtain ⟨h1, h2, _, h4, _⟩ := follows_no e
      obtain ⟨ranks', k1, k2, k3⟩ := make_small h4
      have := four hm
      refine absurd (against_iff.mpr ⟨fun s hs => (k3 _ _).mpr (h1 s hs), fun z => h2 ((k3 _ _).mp z)⟩) (h ranks' (lrN_mem.mpr ⟨k1, fun x hx => ?_⟩))
      have := k2 x hx
      omega
  · intro h ranks _ z
    obtain ⟨a, b⟩ := against_iff.mp z
    exact b (yes_iff.mp h ranks a)
end
end WB

namespace WB
open PySem PySem.Spec PyProof.Rows L2 Evl DL
section
variable {ranks : List Int} {many : Int} {rules : List Rule} {r : Rule}
def Fo.tag : Fo → Str
  | .yes _ => "yes"
  | .no _ => "no"
def Fo.val : Fo → List Int
  | .yes l => l
  | .no l => l
theorem eFo_eq (fo : Fo) : eFo fo = .tup [.str fo.tag, tT D.int fo.val] := by cases fo <;> rfl
theorem tag_yes {fo : Fo} : decide (fo.tag = "yes") = fo.isYes := by
  cases fo with
  | yes l => exact decide_eq_true rfl
  | no l => exact decide_eq_false (show ¬ (("no" : Str) = "yes") by decide)
theorem tag_no {fo : Fo} : (!decide (fo.tag = "no")) = fo.isYes := by
  cases fo with
  | yes l => rw [decide_eq_false (show ¬ ((Fo.yes l).tag = "no") from (show ¬ (("yes" : Str) = "no") by decide))]; rfl
  | no l => rw [decide_eq_true (show (Fo.no l).tag = "no" from rfl)]; rfl
theorem tag_nyes {fo : Fo} : (!decide (fo.tag = "yes")) = !fo.isYes := by rw [tag_yes]
theorem of_yes (h : (follows rules r many).isYes = true) : follows rules r many = .yes (follows rules r many).val := by
  cases e : follows rules r many with
  | yes l => rfl
  | no l => rw [e] at h; cases h
theorem of_no (h : (follows rules r many).isYes = false) : follows rules r many = .no (follows rules r many).val := by
  cases e : follows rules r many with
  | no l => rfl
  | yes l => rw [e] at h; cases h
theorem okM_of (hl : rules.length ≤ 20) (hs : smallRs many rules) (h : okR many r) (h7 : r.2.dep < 7) : okM many rules r := ⟨⟨by omega, fun s hs' => ⟨⟨by have := (hs s hs').1.1; omega, (hs s hs').1.2⟩, ⟨by have := (hs s hs').2.1; omega, (hs s hs').2.2⟩⟩⟩, hl, h, h7⟩
theorem ok_small {s : Sy} (h : small many s) : ok many s := ⟨by have := h.1; omega, h.2⟩
theorem okR_small (h : smallR many r) : okR many r := ⟨ok_small h.1, ok_small h.2⟩
theorem ok_let0 (hm : 1 ≤ many ∧ many ≤ 3) : ok many (.letter 0) := ⟨by decide, by show (0 : Int) ≤ 0 ∧ 0 < many; omega⟩
theorem ok_orS {a b : Sy} (ha : small many a) (hb : ok many b) (h : b.dep ≤ 2) : ok many (.or a b) := ⟨by have := ha.1; simp only [Sy.dep]; omega, ha.2, hb.2⟩
theorem ok_andS {a b : Sy} (ha : small many a) (hb : ok many b) (h : b.dep ≤ 2) : ok many (.and a b) := ⟨by have := ha.1; simp only [Sy.dep]; omega, ha.2, hb.2⟩
theorem odd_ok (h : okM many rules r) : ∀ v ∈ [Val.nun, .mix [] true, .lis [0], .nums [(rules.length : Int) + 1], .nums [0, 0], .txt "0"], ∃ v', eV v = eV v' ∧ v'.sm ∧ showsB rules r many v' = false := fun v hv => by
  simp only [List.mem_cons, List.not_mem_nil, or_false] at hv
  rcases hv with rfl | rfl | rfl | rfl | rfl | rfl
  · exact ⟨_, rfl, trivial, rfl⟩
  · exact ⟨_, rfl, (show ([] : List Int).length ≤ 100 by decide), rfl⟩
  · exact ⟨_, rfl, (show ([0] : List Int).length ≤ 100 by decide), rfl⟩
  · refine ⟨_, rfl, (show ([(rules.length : Int) + 1] : List Int).length ≤ 100 by simp), ?_⟩
    rw [showsB, if_neg (by simp), Bool.eq_false_iff]
    intro z
    have := (stuckB_iff.mp z).2.1 _ (List.mem_singleton.mpr rfl)
    unfold more at this
    rw [List.length_append] at this
    simp only [List.length_cons, List.length_nil] at this
    omega
  · refine ⟨_, rfl, (show ([0, 0] : List Int).length ≤ 100 by decide), ?_⟩
    rw [showsB, if_neg (by simp), Bool.eq_false_iff]
    intro z
    have := (stuckB_iff.mp z).2.2.1 0 (by decide) (by decide)
    exact absurd this (by decide)
  · exact ⟨_, rfl, (show PyData.strOk "0" = true by decide +kernel), rfl⟩
theorem nots_sm (v : Val) (hv : v ∈ [Val.nun, .nums [], .nums [0], .txt "0"]) : v.sm := by
  simp only [List.mem_cons, List.not_mem_nil, or_false] at hv
  rcases hv with rfl | rfl | rfl | rfl
  · trivial
  · exact (show ([] : List Int).length ≤ 100 by decide)
  · exact (show ([0] : List Int).length ≤ 100 by decide)
  · exact (show PyData.strOk "0" = true by decide +kernel)
theorem nots_ok (hm : 1 ≤ many ∧ many ≤ 3) : decide (([Val.nun, .nums [], .nums [0], .txt "0"].map fun v => showsNotB rules r many v) = (List.replicate (4 : Int).toNat [false]).flatten) = true := by
  have two : 2 ≤ (points many).length := by
    rw [points_len]
    have : 2 ^ 1 ≤ 2 ^ many.toNat := Nat.pow_le_pow_right (by decide) (by omega)
    omega
  have e1 : showsNotB rules r many (.nums []) = false := by
    rw [Bool.eq_false_iff]
    intro z
    have := ((showsNot_iff hm).mp z).1.1
    simp only [List.length_nil] at this
    omega
  have e2 : showsNotB rules r many (.nums [0]) = false := by
    rw [Bool.eq_false_iff]
    intro z
    have := ((showsNot_iff hm).mp z).1.1
    simp only [List.length_cons, List.length_nil] at this
    omega
  simp only [List.map_cons, List.map_nil, e1, e2]
  rfl
theorem in_against (hm : 1 ≤ many ∧ many ≤ 3) (hl : ranks.length = (points many).length) (h4 : ∀ x ∈ ranks, 0 ≤ x ∧ x < 4) : decide (ranks ∈ (lrN 4 (points many).length).filter (againstB rules r many)) = showsNotB rules r many (.nums ranks) := by
  refine Bool.eq_iff_iff.mpr ((decide_eq_true_iff).trans ((List.mem_filter).trans (Iff.trans ?_ (showsNot_iff hm).symm)))
  exact ⟨fun z => ⟨⟨hl, fun x hx => (h4 x hx).1⟩, against_iff.mp z.2⟩, fun z => ⟨lrN_mem.mpr ⟨hl, h4⟩, against_iff.mpr z.2⟩⟩
theorem no_fact (h1 : Sat ranks many rules) (h2 : ¬ Hp ranks many r.1 r.2) : (false || ((!decide (((rules.filter fun one => !lholds ranks one many).map fun _ => (1 : Int)) = [])) || lholds ranks r many)) = false := by
  have e1 : ((rules.filter fun one => !lholds ranks one many).map fun _ => (1 : Int)) = [] := List.map_eq_nil_iff.mpr (List.filter_eq_nil_iff.mpr fun s hs => by simpa using lholds_iff.mpr (h1 s hs))
  have e2 : lholds ranks r many = false := Bool.eq_false_iff.mpr fun z => h2 (lholds_iff.mp z)
  rw [decide_eq_true e1, e2]
  rfl
theorem first_rule {l : List Rule} (hm : 1 ≤ many ∧ many ≤ 3) (h : smallRs many l) : ∃ r : Rule, atI (l ++ [(Sy.letter 0, Sy.letter (many - 1))]) 0 = some r ∧ smallR many r := by
  cases l with
  | nil => exact ⟨_, rfl, ⟨by simp [Sy.dep], (show (0 : Int) ≤ 0 ∧ 0 < many by omega)⟩, ⟨by simp [Sy.dep], (show (0 : Int) ≤ many - 1 ∧ many - 1 < many by omega)⟩⟩
  | cons a l => exact ⟨a, atI_nat (j := 0) rfl, h a (List.mem_cons_self ..)⟩
theorem hp_weak {a b c : Sy} (h : Hp ranks many a b) : Hp ranks many a (.or b c) := fun k hk => fits_or.mpr (.inl (h k hk))
theorem yes_weak (h : (follows rules r many).isYes = true) (c : Sy) : (follows rules (r.1, .or r.2 c) many).isYes = true := yes_iff.mpr fun ranks hs => hp_weak (yes_iff.mp h ranks hs)
theorem yes_both (h : (follows rules r many).isYes = true) (c : Sy) : (follows rules (r.1, c) many).isYes = (follows rules (.and r.1 r.2, c) many).isYes := by
  refine Bool.eq_iff_iff.mpr ((yes_iff).trans (Iff.trans ?_ (yes_iff).symm))
  exact forall_congr' fun ranks => forall_congr' fun hs => ⟨fun z => hp_cm (yes_iff.mp h ranks hs) z, fun z => hp_cut (yes_iff.mp h ranks hs) z⟩
end
end WB

/-! More of the layers: the law's own levels, rules that are exceptional. -/
namespace WB
open PySem PySem.Spec PyProof.Rows L2 Evl DL
section
variable {ranks : List Int} {many : Int} {rules : List Rule} {r : Rule}
def cRopL : Con := fun ds Φ => ∃ rules told p, ds = [lT (pT eS eS) rules, lT (tT D.int) told, tT D.int p] ∧ ((∃ m, okRs m rules ∧ (p.length : Int) = m) ∧ lvOk rules told) ∧ Φ (.int (rop rules told p))
def cARanks : Con := fun ds Φ => ∃ many most, ds = [.int many, .int most] ∧ ((1 ≤ many ∧ many ≤ 2) ∧ 0 ≤ most ∧ most ≤ 4) ∧ Φ (lT (tT D.int) (lrN most (points many).length))
def excB (rules : List Rule) (many : Int) (k : Int) : Bool := ((pw (getR rules k).1 many).map fun point => ((rules.map fun one => breaks one point).any id)).all id
def exceptional (rules : List Rule) (many : Int) : List Int := (rng 0 (rules.length : Int)).filter (excB rules many)
def cExc : Con := fun ds Φ => ∃ rules many, ds = [lT (pT eS eS) rules, .int many] ∧ ((1 ≤ many ∧ many ≤ 3) ∧ okRs many rules) ∧ Φ (tT D.int (exceptional rules many))
/-- the law's levels: as the layers, or with what is stuck -/
def lvIs (rules : List Rule) (many : Int) (lv : List (List Int)) (st : Option (List Int)) : Prop := match layers rules many with
  | .yes ls => lv = ls ∧ st = none
  | .no l => st = some l
def cLevels : Con := fun ds Φ => ∃ rules many, ds = [lT (pT eS eS) rules, .int many] ∧ ((1 ≤ many ∧ many ≤ 3) ∧ okRs many rules) ∧ ∀ lv st, lvIs rules many lv st → Φ (.tup [lT (tT D.int) lv, oT (tT D.int) st])
/-- where the law's loop stands: what is left, the levels, what is stuck -/
structure LvS where
  left : List Int
  found : List (List Int)
  stuck : Option (List Int)
def lvI (rules : List Rule) (many : Int) (s : LvS) : Prop := match s.stuck with
  | none => layI rules many s.left s.found
  | some l => layers rules many = .no l ∧ (∀ k ∈ s.left, 0 ≤ k ∧ k < (rules.length : Int)) ∧ s.left.length ≤ rules.length ∧ s.found.length ≤ rules.length + 1
end
end WB

namespace WB
open PySem PySem.Spec PyProof.Rows L2 Evl DL
section
variable {ranks : List Int} {many : Int} {rules : List Rule} {r : Rule}
/-! ### sorted ints -/
theorem sortI_perm {l : List Int} : (sortD D.int l).Perm l := List.mergeSort_perm l _
theorem sortI_asc {l : List Int} : (sortD D.int l).Pairwise (· ≤ ·) := by
  have e : leD D.int = fun a b : Int => decide (a ≤ b) := PySem.W.dataLe_int fun x => x
  have h := PySem.W.sort_pairwise (PySem.W.sortLe_total (PyProof.Rows.listOrd PyProof.Rows.itemOrd) false fun x : Int => PySem.W.keyToks (D.int x).py) l
  have h2 : (sortD D.int l).Pairwise fun a b => leD D.int a b = true := h
  rw [e] at h2
  exact h2.imp fun h => of_decide_eq_true h
theorem insI_in {x : Int} : ∀ {s : List Int}, s.Pairwise (· < ·) → x ∈ s → (insI x s).length ≤ s.length
  | z :: s, hs, h => by
    have h1 := List.pairwise_cons.mp hs
    unfold insI
    by_cases c : x < z
    · rcases List.mem_cons.mp h with e | e
      · omega
      · have := h1.1 x e
        omega
    · rw [if_neg c]
      by_cases c2 : x = z
      · rw [if_pos c2]
        exact Nat.le_refl _
      · rw [if_neg c2, List.length_cons, List.length_cons]
        have := insI_in h1.2 ((List.mem_cons.mp h).resolve_left c2)
        omega
theorem insI_le {x : Int} : ∀ {s : List Int}, (insI x s).length ≤ s.length + 1
  | [] => by simp [insI]
  | z :: s => by
    unfold insI
    split
    · exact Nat.le_refl _
    · split
      · omega
      · rw [List.length_cons, List.length_cons]
        have := insI_le (x := x) (s := s)
        omega
theorem nodup_of : ∀ {l : List Int}, (setI l).length = l.length → l.Nodup
  | [], _ => List.nodup_nil
  | x :: l, h => by
    have h2 : (insI x (setI l)).length = l.length + 1 := h
    have h3 := setI_len l
    have h4 := insI_le (x := x) (s := setI l)
    have e : (setI l).length = l.length := by omega
    refine List.nodup_cons.mpr ⟨fun hx => ?_, nodup_of e⟩
    have := insI_in (setI_asc l) (mem_setI.mpr hx)
    omega
theorem strict_of {l : List Int} (h : l.Pairwise (· ≤ ·)) (hl : (setI l).length = l.length) : l.Pairwise (· < ·) :=
  (List.pairwise_and_iff.mpr ⟨h, nodup_of hl⟩).imp fun ⟨a, b⟩ => by omega
theorem setI_of_strict {l : List Int} (h : l.Pairwise (· < ·)) : (setI l).length = l.length := by
  rw [asc_ext (setI_asc l) h fun x => mem_setI]
end
end WB
namespace WB
open PySem PySem.Spec PyProof.Rows L2 Evl DL
section
variable {ranks : List Int} {many : Int} {rules : List Rule} {r : Rule}
/-! ### values drawn and judged -/
def rightB (rules : List Rule) (ys : List Int) : Bool := (!decide (ys = [])) && (decide (((setI ys).length : Int) = (ys.length : Int)) && decide (lmax ([0] ++ ys) < (rules.length : Int)))
def freeN (rules : List Rule) (many : Int) (ys : List Int) : Bool := decide ((((ys.map (getR rules)).filter fun one => isfree one (ys.map (getR rules)) many).map fun _ => (1 : Int)) = [])
theorem right_iff {ys : List Int} (h : ∀ y ∈ ys, 0 ≤ y) : rightB rules ys = true ↔ ys ≠ [] ∧ (setI ys).length = ys.length ∧ ∀ y ∈ ys, 0 ≤ y ∧ y < (rules.length : Int) := by
  unfold rightB
  rw [Bool.and_eq_true, Bool.and_eq_true, Bool.not_eq_true', decide_eq_false_iff_not, decide_eq_true_iff, decide_eq_true_iff]
  refine and_congr_right fun hne => and_congr ⟨fun e => by omega, fun e => by omega⟩ ?_
  obtain ⟨m1, m2⟩ := lmax_ok (l := [0] ++ ys) (by simp)
  constructor
  · intro hl y hy
    have := m2 y (List.mem_append.mpr (.inr hy))
    exact ⟨h y hy, by omega⟩
  · intro hy
    rcases List.mem_append.mp m1 with z | z
    · obtain ⟨y, hy'⟩ := List.exists_mem_of_ne_nil _ hne
      have := hy y hy'
      rw [List.mem_singleton.mp z]
      omega
    · exact (hy _ z).2
theorem judged_eq {ys : List Int} (hs : ys.Pairwise (· ≤ ·)) (h : ∀ y ∈ ys, 0 ≤ y) : stuckB rules many ys = (rightB rules ys && freeN rules many ys) := by
  refine Bool.eq_iff_iff.mpr (stuckB_iff.trans ?_)
  rw [Bool.and_eq_true, right_iff h]
  unfold freeN
  rw [decide_eq_true_iff, List.map_eq_nil_iff, List.filter_eq_nil_iff]
  constructor
  · rintro ⟨h1, h2, h3, h4⟩
    refine ⟨⟨h1, ?_, h2⟩, h4⟩
    refine setI_of_strict (List.pairwise_iff_getElem.mpr ?_)
    have step : ∀ (n i : Nat), i + n + 1 < ys.length → ys.getD i 0 < ys.getD (i + n + 1) 0 := fun n => by
      induction n with
      | zero => intro i hi; have := h3 i (by omega) (by omega); have e : ((i : Int) + 1).toNat = i + 1 := by omega
                rw [e] at this; exact this
      | succ n ih =>
        intro i hi
        have a := ih i (by omega)
        have b := h3 ((i + n + 1 : Nat) : Int) (by omega) (by omega)
        have e : (((i + n + 1 : Nat) : Int) + 1).toNat = i + (n + 1) + 1 := by omega
        rw [e] at b
        have e2 : (((i + n + 1 : Nat) : Int)).toNat = i + n + 1 := by omega
        rw [e2] at b
        omega
    intro i j hi hj hij
    have := step (j - i - 1) i (by omega)
    have e : i + (j - i - 1) + 1 = j := by omega
    rw [e, List.getD_eq_getElem?_getD, List.getD_eq_getElem?_getD, List.getElem?_eq_getElem hi, List.getElem?_eq_getElem hj] at this
    exact this
  · rintro ⟨⟨h1, h2, h3⟩, h4⟩
    exact ⟨h1, h3, asc_at (strict_of hs h2), h4⟩
def cJudged : Con := fun ds Φ => ∃ rules many, ds = [lT (pT eS eS) rules, .int many] ∧ ((1 ≤ many ∧ many ≤ 3) ∧ okRs many rules) ∧ Φ (.bl true)
end
end WB
namespace WB
open PySem PySem.Spec PyProof.Rows L2 Evl DL
section
variable {many : Int} {rules : List Rule}
theorem jud_sm (v : Val) (hv : v ∈ [Val.nun, .lis [0], .mix [] true, .nums [-1], .tex "0"]) : v.sm := by
  simp only [List.mem_cons, List.not_mem_nil, or_false] at hv
  rcases hv with rfl | rfl | rfl | rfl | rfl
  · trivial
  · exact (show ([0] : List Int).length ≤ 100 by decide)
  · exact (show ([] : List Int).length ≤ 100 by decide)
  · exact (show ([-1] : List Int).length ≤ 100 by decide)
  · exact (show PyData.strOk "0" = true by decide +kernel)
theorem jud_ok : decide (([Val.nun, .lis [0], .mix [] true, .nums [-1], .tex "0"].map fun v => stuckV rules many v) = (List.replicate (5 : Int).toNat [false]).flatten) = true := by
  have e1 : stuckV rules many (.nums [-1]) = false := by
    rw [stuckV, Bool.eq_false_iff]
    intro z
    have := (stuckB_iff.mp z).2.1 _ (List.mem_singleton.mpr rfl)
    omega
  simp only [List.map_cons, List.map_nil, e1]
  rfl
end
end WB

namespace WB
open PySem PySem.Spec PyProof.Rows L2 Evl DL
section
variable {many : Int} {rules : List Rule} {r : Rule}
/-! ### k77: what the law works out of each rule -/
abbrev ptsP (s : Sy) (many : Int) : List (List Int) := ((points many).filter fun point => fits s point).map fun point => point
abbrev noBr (rules : List Rule) (point : List Int) : Bool := decide (((rules.filter fun rule => breaks rule point).map fun _ => (1 : Int)) = [])
theorem noBr_eq {p : List Int} : noBr rules p = !((rules.map fun one => breaks one p).any id) := by
  refine Bool.eq_iff_iff.mpr ?_
  rw [decide_eq_true_iff, List.map_eq_nil_iff, List.filter_eq_nil_iff, Bool.not_eq_true', Bool.eq_false_iff]
  constructor
  · intro h z
    obtain ⟨x, hx, hb⟩ := any_id.mp z
    exact h x hx hb
  · intro h x hx hb
    exact h (any_id.mpr ⟨x, hx, hb⟩)
theorem ptsP_eq {s : Sy} : ptsP s many = pw s many := List.map_id' _
theorem due_eq {k : Int} : decide ((((ptsP (getR rules k).1 many).filter fun point => noBr rules point).map fun _ => (1 : Int)) = []) = excB rules many k := by
  refine Bool.eq_iff_iff.mpr ?_
  rw [decide_eq_true_iff, List.map_eq_nil_iff, List.filter_eq_nil_iff, ptsP_eq, excB, all_id]
  refine forall_congr' fun p => forall_congr' fun _ => ?_
  rw [noBr_eq]
  cases (rules.map fun one => breaks one p).any id <;> simp
abbrev hereL (r : Rule) (rules : List Rule) (many : Int) : List (List Int) := ((ptsP r.1 many).filter fun point => (fits r.2 point && noBr rules point)).map fun point => point
theorem here_eq : hereL r rules many = (points many).filter (tolB r rules) := by
  unfold hereL
  rw [ptsP_eq, List.map_id', pw, List.filter_filter]
  refine congrArg (fun f => List.filter f (points many)) (funext fun p => ?_)
  rw [noBr_eq, tolB, Bool.and_comm]
theorem here_first : atI ((hereL r rules many).map some ++ [none]) 0 = some (tol r rules many) := by
  rw [here_eq, tol, ← List.head?_filter]
  cases (points many).filter (tolB r rules) with
  | nil => rfl
  | cons x l =>
    unfold atI ixN
    simp
    rw [if_pos (by omega)]
    rfl
theorem here_data : lT (tT D.int) (hereL r rules many) = lT (oT (tT D.int)) ((hereL r rules many).map some) := by
  generalize hereL r rules many = l
  unfold lT
  rw [List.map_map]
  rfl
theorem here_free : (decide (ptsP r.1 many = []) || !decide (hereL r rules many = [])) = isfree r rules many := by
  rw [← lfree_eq, lfree]
  by_cases h : ptsP r.1 many = []
  · rw [decide_eq_true h, if_pos rfl, Bool.true_or]
  · rw [decide_eq_false h, if_neg Bool.false_ne_true, Bool.false_or]
    refine congrArg (fun b => !b) (Bool.eq_iff_iff.mpr ?_)
    rw [decide_eq_true_iff, decide_eq_true_iff, List.map_eq_nil_iff, List.map_eq_nil_iff]
theorem here_len : (hereL r rules many).length ≤ (points many).length := by
  rw [here_eq]
  exact List.length_filter_le _ _
theorem ptsP_len {s : Sy} : (ptsP s many).length ≤ (points many).length := by
  rw [ptsP_eq]
  exact List.length_filter_le _ _
theorem pw_pts {s : Sy} : (!decide (pw s many = ptsP s many)) = false := by
  rw [ptsP_eq, decide_eq_true rfl]
  rfl
theorem sm_tol (hm : 1 ≤ many ∧ many ≤ 3) : (oT (tT D.int) (tol r rules many)).sm 7 := by
  cases e : tol r rules many with
  | none => exact sm_non
  | some p =>
    have := points_mem hm (List.mem_of_find?_eq_some e)
    exact sm_tT (by omega) fun _ _ => sm_int
theorem exc_len : (exceptional rules many).length ≤ rules.length := by
  have := List.length_filter_le (excB rules many) (rng 0 (rules.length : Int))
  rw [rng_len] at this
  unfold exceptional
  omega
/-! ### .. of drawn ranks -/
theorem lleast_eq {ranks : List Int} {s : Sy} (hl : ranks.length = (points many).length) : ((someK s (points many)).filter fun k => decide (ranks.getD k.toNat 0 = lmin ((someK s (points many)).map fun j => ranks.getD j.toNat 0))).map (fun k => (points many).getD k.toNat []) = leastP ranks s many := by
  unfold leastP leastR lminD
  by_cases h : someK s (points many) = []
  · rw [h]; rfl
  · rw [if_neg fun e => h (List.map_eq_nil_iff.mp e)]
theorem odd_ranks {ranks : List Int} (hm : 1 ≤ many ∧ many ≤ 3) (hl : ranks.length = (points many).length) : ∀ v ∈ [Val.nun, .lis ranks, .nums (DL.cutD ranks (some 1) none), .nums (DL.cutD ranks none (some (-1)) ++ [-1]), .mix (DL.cutD ranks none (some (-1))) true], ∃ v', eV v = eV v' ∧ v'.sm ∧ isRanksV many v' = false := fun v hv => by
  have h8 := points_len8 hm
  have hc : ∀ (a b : Option Int), (DL.cutD ranks a b).length ≤ ranks.length := fun a b => by
    unfold DL.cutD
    rw [List.length_take, List.length_drop]
    omega
  have h1 : 1 ≤ ranks.length := by
    rw [hl, points_len]
    exact Nat.one_le_two_pow
  simp only [List.mem_cons, List.not_mem_nil, or_false] at hv
  rcases hv with rfl | rfl | rfl | rfl | rfl
  · exact ⟨_, rfl, trivial, rfl⟩
  · exact ⟨_, rfl, (show ranks.length ≤ 100 by omega), rfl⟩
  · refine ⟨_, rfl, (show (DL.cutD ranks (some 1) none).length ≤ 100 by have := hc (some 1) none; omega), ?_⟩
    rw [Bool.eq_false_iff]
    intro z
    have := (isRanks_iff hm).mp z
    have e := DL.cutD_from (xs := ranks) (k := 1)
    rw [show ((1 : Nat) : Int) = 1 from rfl] at e
    rw [e, List.length_drop] at this
    omega
  · refine ⟨_, rfl, (show (DL.cutD ranks none (some (-1)) ++ [-1]).length ≤ 100 by have := hc none (some (-1)); rw [List.length_append]; simp only [List.length_cons, List.length_nil]; omega), ?_⟩
    rw [Bool.eq_false_iff]
    intro z
    have := ((isRanks_iff hm).mp z).2 (-1) (by simp)
    omega
  · exact ⟨_, rfl, (show (DL.cutD ranks none (some (-1))).length ≤ 100 by have := hc none (some (-1)); omega), rfl⟩
def cRanked : Con := fun ds Φ => ∃ many, ds = [.int many] ∧ (1 ≤ many ∧ many ≤ 3) ∧ Φ (.bl true)
end
end WB

namespace WB
open PySem PySem.Spec PyProof.Rows L2 Evl DL
section
variable {many : Int} {rules : List Rule} {r : Rule} {lv : List (List Int)} {p : List Int}
/-! ### k77: the highest level that a point breaks, step by step -/
abbrev brk (rules : List Rule) (lv : List (List Int)) (p : List Int) (k : Int) : Bool := !decide ((((lv.getD k.toNat []).filter fun j => breaks (getR rules j) p).map fun _ => (1 : Int)) = [])
def hiStep (rules : List Rule) (lv : List (List Int)) (p : List Int) (h k : Int) : Int := if brk rules lv p k = true then k + 1 else h
def hiF (rules : List Rule) (lv : List (List Int)) (p : List Int) (ks : List Int) : Int := ks.foldl (hiStep rules lv p) 0
theorem hiF_snoc {ks : List Int} {k : Int} : hiF rules lv p (ks ++ [k]) = hiStep rules lv p (hiF rules lv p ks) k := by
  unfold hiF
  rw [List.foldl_append]
  rfl
theorem brk_eq {k : Int} : brk rules lv p k = ((lv.getD k.toNat []).map fun j => breaks (getR rules j) p).any id := by
  refine Bool.eq_iff_iff.mpr ?_
  rw [any_id, Bool.not_eq_true', decide_eq_false_iff_not, List.map_eq_nil_iff, List.filter_eq_nil_iff]
  constructor
  · intro h
    apply Classical.byContradiction
    intro z
    exact h fun j hj hb => z ⟨j, hj, hb⟩
  · rintro ⟨j, hj, hb⟩ h
    exact h j hj hb
theorem lmax_snoc {l : List Int} {x : Int} (h : ∀ y ∈ l, y ≤ x) : lmax (l ++ [x]) = x := by
  obtain ⟨h1, h2⟩ := lmax_ok (l := l ++ [x]) (by simp)
  have h3 := h2 x (by simp)
  rcases List.mem_append.mp h1 with z | z
  · have := h _ z; omega
  · exact List.mem_singleton.mp z
theorem rng_succ0 {n : Nat} : rng 0 ((n + 1 : Nat) : Int) = rng 0 (n : Int) ++ [(n : Int)] := by
  unfold rng
  rw [show (((n + 1 : Nat) : Int) - 0).toNat = n + 1 by omega, show ((n : Int) - 0).toNat = n by omega, List.range_succ, List.map_append]
  simp
theorem hi_rop : hiF rules lv p (rng 0 (lv.length : Int)) = rop rules lv p := by
  unfold rop
  generalize lv.length = n
  induction n with
  | zero => rfl
  | succ n ih =>
    rw [rng_succ0, hiF_snoc, ih, hiStep, brk_eq, List.filter_append, List.map_append]
    cases e : ((lv.getD ((n : Nat) : Int).toNat []).map fun j => breaks (getR rules j) p).any id with
    | true =>
      rw [if_pos rfl, show (List.filter (fun k : Int => ((lv.getD k.toNat []).map fun j => breaks (getR rules j) p).any id) [(n : Int)]) = [(n : Int)] by rw [List.filter_cons, if_pos e, List.filter_nil], List.map_cons, List.map_nil, ← List.append_assoc, lmax_snoc]
      intro y hy
      rcases List.mem_append.mp hy with hy | hy
      · rw [List.mem_singleton.mp hy]; omega
      · obtain ⟨k, hk, rfl⟩ := List.mem_map.mp hy
        have := (mem_rng.mp (List.mem_filter.mp hk).1).2
        omega
    | false =>
      rw [if_neg Bool.false_ne_true, show (List.filter (fun k : Int => ((lv.getD k.toNat []).map fun j => breaks (getR rules j) p).any id) [(n : Int)]) = [] by rw [List.filter_cons, if_neg (by rw [e]; exact Bool.false_ne_true), List.filter_nil], List.map_nil, List.append_nil]
abbrev zr (rules : List Rule) (lv : List (List Int)) (many : Int) : List Int := (points many).map (rop rules lv)
theorem lvIs_none (h : lvIs rules many lv none) : layers rules many = .yes lv := by
  unfold lvIs at h
  cases e : layers rules many with
  | yes ls => rw [e] at h; rw [h.1]
  | no l => rw [e] at h; cases h
theorem lvIs_some {l : List Int} (h : lvIs rules many lv (some l)) : layers rules many = .no l := by
  unfold lvIs at h
  cases e : layers rules many with
  | yes ls => rw [e] at h; cases h.2
  | no l' => rw [e] at h; cases h; rfl
theorem ranksOf_yes (e : layers rules many = .yes lv) : ranksOf rules many = some (zr rules lv many) := by rw [ranksOf, e]
theorem ranksOf_no {l : List Int} (e : layers rules many = .no l) : ranksOf rules many = none := by rw [ranksOf, e]
theorem z_ok (hm : 1 ≤ many ∧ many ≤ 3) : isRanksV many (.nums (zr rules lv many)) = true := (isRanks_iff hm).mpr ⟨List.length_map _, fun x hx => by
  obtain ⟨q, _, rfl⟩ := List.mem_map.mp hx
  exact rop_nonneg⟩
theorem z_bad (e : layers rules many = .yes lv) : (!decide (((rules.filter fun rule => ((!lholds (zr rules lv many) rule many) || (!decide (holds (zr rules lv many) rule many = true)))).map fun _ => (1 : Int)) = [])) = false := by
  rw [Bool.not_eq_false', decide_eq_true_iff, List.map_eq_nil_iff, List.filter_eq_nil_iff]
  intro rule hr
  have h := zrank_sat e rule hr
  have h1 : lholds (zr rules lv many) rule many = true := lholds_iff.mpr h
  have h2 : holds (zr rules lv many) rule many = true := holds_iff.mpr h
  rw [h1, h2]
  decide
abbrev allB (ranks : List Int) (rules : List Rule) (many : Int) : Bool := decide (((rules.filter fun rule => !lholds ranks rule many).map fun _ => (1 : Int)) = [])
theorem allB_iff {ranks : List Int} : allB ranks rules many = true ↔ Sat ranks many rules := by
  rw [decide_eq_true_iff, List.map_eq_nil_iff, List.filter_eq_nil_iff]
  refine forall_congr' fun s => forall_congr' fun _ => ?_
  rw [Bool.not_eq_true, Bool.not_eq_false']
  exact lholds_iff
theorem some_iff {st : Option (List Int)} (hm : 1 ≤ many ∧ many ≤ 2) (h : lvIs rules many lv st) : ((!decide ((((lrN 4 (points many).length).filter fun ranks => allB ranks rules many).map fun _ => (1 : Int)) = [])) != (oT (tT D.int) st).isN) = false := by
  have key : (!decide ((((lrN 4 (points many).length).filter fun ranks => allB ranks rules many).map fun _ => (1 : Int)) = [])) = st.isNone := by
    cases st with
    | none =>
      have hs := zrank_sat (lvIs_none h)
      obtain ⟨ranks', h1, h2, h3⟩ := make_small (many := many) (ranks := zr rules lv many) (List.length_map _)
      have h4 := four hm
      show _ = true
      rw [Bool.not_eq_true', decide_eq_false_iff_not, List.map_eq_nil_iff, List.filter_eq_nil_iff]
      intro z
      exact z ranks' (lrN_mem.mpr ⟨h1, fun x hx => ⟨(h2 x hx).1, by have := (h2 x hx).2; omega⟩⟩) (allB_iff.mpr fun s hs' => (h3 _ _).mpr (hs s hs'))
    | some l =>
      show _ = false
      rw [Bool.not_eq_false', decide_eq_true_iff, List.map_eq_nil_iff, List.filter_eq_nil_iff]
      intro ranks _ z
      exact layers_no_unsat (lvIs_some h) (allB_iff.mp z)
  rw [key, isN_oT]
  cases st <;> rfl
theorem okRs_small (hl : (rules.length : Int) ≤ 5) (hs : smallRs many rules) : okRs many rules := ⟨by omega, fun r hr => okR_small (hs r hr)⟩
end
end WB

namespace K77
open PySem PySem.Spec PyProof.Rows L2 Evl DL WB
def topS (i : Nat) : Stmt := PySem.Challenge.pw_worldwright_k77_whole_rules_that_hold_to.main.body.getD i (.Pass ⟨0, 0, 0, 0⟩)
section
variable {P : Program} {w : World} {K : PySem.W.Frag} {mg : Str → Option Value} {base : Heap}
abbrev s_points_of : Stmt := topS 1
abbrev n_points_of : List Str := ["many", "found", "k", "point", "bit"]
theorem sc_points_of : FnScope n_points_of ["many"] (defScope s_points_of) := ⟨rfl, rfl, rfl, by decide +kernel, rfl, by decide +kernel, by decide +kernel⟩
theorem ok_points_of {f : Addr} {fd : FuncData} (F : Fun K "points_of" "points_of" s_points_of f fd) (m_range : mg "range" = none) : FnOk P w K mg base CX0 (1 + 1) f fd ["many"] (spP K cPoints) := by
  refine fn_pure F sc_points_of (fun ds Φ ⟨many, hd, hm, hΦ⟩ => by rw [hd]; rfl) fun cdv A outer s0 H E hr ds Φ ⟨many, hd, hm, hΦ⟩ => ?_
  subst hd
  refine xs_cons (xs_asgV 1 (xv_lst (xl_cons (xv_tup xa_nil) xa_nil)) ?_ sc_points_of.nd)
  refine xs_loop (f := D.int) (xs := (rng 0 many)) (js := [2]) (fun k => [D.int k]) (fun n : Nat => [.pd (.int many), .pd (lT (tT D.int) (ptsN n)), .un, .un, .un]) (fun pre => pre.length) (xw_range1 (xl_cons (xv_var 0) xa_nil) (by omega) m_range (by omega)) (pg_name (i := 2) sc_points_of.nd rfl (by first | exact Or.inl rfl | exact Or.inr rfl)) (fun _ _ => gt_name) le_refl (fun pre k post hx => ?_) ?_ PassesOwn.never
  ·
    have hlen : pre.length < 3 := by
      have := congrArg List.length hx
      rw [rng_len, List.length_append, List.length_cons] at this
      omega
    have h8 := pow8 (n := pre.length) (by omega)
    have hl := ptsN_len pre.length
    have hl1 := ptsN_len (pre.length + 1)
    have h9 := pow8 (n := pre.length + 1) (by omega)
    refine xs_cons (xs_asgMap2 (f := (tT D.int)) (xs := ptsN pre.length) 1 [3] [4] (fun point => [(tT D.int) point]) (fun bit => [D.int bit]) D.int (fun point => [0, 1]) (tT D.int) (fun point bit => (point ++ [bit])) [("point", 3), ("bit", 4)] [4] (xw_listT (f := (tT D.int)) (xv_var 1)) (fun _ _ _ _ _ => pg_name (i := 3) sc_points_of.nd rfl (by first | exact Or.inl rfl | exact Or.inr rfl)) (fun _ _ => gt_name) (fun point hpoint _ _ _ _ _ => (xw_tupT (f := D.int) (xv_tup (xl_cons xv_int (xl_cons xv_int xa_nil))))) (fun _ _ _ _ _ => pg_name (i := 4) sc_points_of.nd rfl (by first | exact Or.inl rfl | exact Or.inr rfl)) (fun _ _ => (fun _ _ => gt_name)) (fun point hpoint bit hbit _ _ _ _ _ => (xv_catT (f := D.int) (xv_var 3) (xv_tup (hl := by simp) (xl_cons (xv_var 4) xa_nil)) (by have := ptsN_mem hpoint; simp; omega))) (by show (ptsN (pre.length + 1)).length < 100000; omega) ?_ (blkOk_by (N := n_points_of) (sc := defScope s_points_of) (by decide +kernel)) sc_points_of.nd (sw_true rfl rfl rfl (by decide +kernel)))
    refine xs_freeze 1 ?_
    refine xs_nil ?_
    rw [List.length_append]
    exact le_eq (le_eq (le_un (le_un (le_un le_nil))))
  ·
    refine xs_cons (xs_retV (xv_var 1) ?_)
    rw [rng_len, Int.sub_zero]
    exact hΦ
abbrev s_fits : Stmt := topS 2
theorem sc_fits : FnScope ["saying", "point", "kind", "first"] ["saying", "point"] (defScope s_fits) := ⟨rfl, rfl, rfl, by decide +kernel, rfl, by decide +kernel, by decide +kernel⟩
theorem ok_fits {f : Addr} {fd : FuncData} {n : Nat} (F : Fun K "fits" "fits" s_fits f fd) (G : Cal P w K mg base n "fits" ["saying", "point"] (spP K (cFits n))) : FnOk P w K mg base CX0 (n + 1) f fd ["saying", "point"] (spP K (cFits (n + 1))) := by
  refine fn_pure F sc_fits (fun ds Φ ⟨s, p, h, _⟩ => by rw [h]; rfl) fun cdv A outer s0 H E hr ds Φ ⟨s, p, hd, hn, hb, hΦ⟩ => ?_
  subst hd
  cases s with
  | letter i =>
    refine xs_cons (xs_asgV 2 (xv_ix ix_tup (v_ixT rfl) (xv_var 0) xv_int) ?_ sc_fits.nd)
    refine xs_cons (xs_if (xb_cmp op_eq v_eqS (xv_var 2) xv_str) (fun _ => ?_) (fun h => absurd h (by decide +kernel)))
    exact xs_cons (xs_retV (xv_cmp op_eq v_eqI (xv_ix ix_tup (v_ixTT (atI_getD hb.1 hb.2)) (xv_var 1) (xv_ix ix_tup (v_ixT rfl) (xv_var 0) xv_int)) xv_int) hΦ)
  | fls  =>
    refine xs_cons (xs_asgV 2 (xv_ix ix_tup (v_ixT rfl) (xv_var 0) xv_int) ?_ sc_fits.nd)
    refine xs_cons (xs_if (xb_cmp op_eq v_eqS (xv_var 2) xv_str) (fun h => absurd h (by decide +kernel)) (fun _ => xs_nil ?_))
    refine xs_cons (xs_if (xb_cmp op_eq v_eqS (xv_var 2) xv_str) (fun _ => ?_) (fun h => absurd h (by decide +kernel)))
    exact xs_cons (xs_retV xv_bl hΦ)
  | neg a =>
    refine xs_cons (xs_asgV 2 (xv_ix ix_tup (v_ixT rfl) (xv_var 0) xv_int) ?_ sc_fits.nd)
    refine xs_cons (xs_if (xb_cmp op_eq v_eqS (xv_var 2) xv_str) (fun h => absurd h (by decide +kernel)) (fun _ => xs_nil ?_))
    refine xs_cons (xs_if (xb_cmp op_eq v_eqS (xv_var 2) xv_str) (fun h => absurd h (by decide +kernel)) (fun _ => xs_nil ?_))
    refine xs_cons (xs_asgV 3 (xv_call G hr (xl_cons (xv_ix ix_tup (v_ixT rfl) (xv_var 0) xv_int) (xl_cons (xv_var 1) xa_nil)) ⟨a, p, rfl, by simp [Sy.dep] at hn; omega, hb, rfl⟩) ?_ sc_fits.nd)
    refine xs_cons (xs_if (xb_cmp op_eq v_eqS (xv_var 2) xv_str) (fun _ => ?_) (fun h => absurd h (by decide +kernel)))
    exact xs_cons (xs_retV (xv_not (xv_var 3)) hΦ)
  | and a b =>
    refine xs_cons (xs_asgV 2 (xv_ix ix_tup (v_ixT rfl) (xv_var 0) xv_int) ?_ sc_fits.nd)
    refine xs_cons (xs_if (xb_cmp op_eq v_eqS (xv_var 2) xv_str) (fun h => absurd h (by decide +kernel)) (fun _ => xs_nil ?_))
    refine xs_cons (xs_if (xb_cmp op_eq v_eqS (xv_var 2) xv_str) (fun h => absurd h (by decide +kernel)) (fun _ => xs_nil ?_))
    refine xs_cons (xs_asgV 3 (xv_call G hr (xl_cons (xv_ix ix_tup (v_ixT rfl) (xv_var 0) xv_int) (xl_cons (xv_var 1) xa_nil)) ⟨a, p, rfl, by simp [Sy.dep] at hn; omega, hb.1, rfl⟩) ?_ sc_fits.nd)
    refine xs_cons (xs_if (xb_cmp op_eq v_eqS (xv_var 2) xv_str) (fun h => absurd h (by decide +kernel)) (fun _ => xs_nil ?_))
    refine xs_cons (xs_if (xb_cmp op_eq v_eqS (xv_var 2) xv_str) (fun _ => ?_) (fun h => absurd h (by decide +kernel)))
    exact xs_cons (xs_retV (xv_and (xv_var 3) (fun _ => xv_one (xv_call G hr (xl_cons (xv_ix ix_tup (v_ixT rfl) (xv_var 0) xv_int) (xl_cons (xv_var 1) xa_nil)) ⟨b, p, rfl, by simp [Sy.dep] at hn; omega, hb.2, rfl⟩))) hΦ)
  | or a b =>
    refine xs_cons (xs_asgV 2 (xv_ix ix_tup (v_ixT rfl) (xv_var 0) xv_int) ?_ sc_fits.nd)
    refine xs_cons (xs_if (xb_cmp op_eq v_eqS (xv_var 2) xv_str) (fun h => absurd h (by decide +kernel)) (fun _ => xs_nil ?_))
    refine xs_cons (xs_if (xb_cmp op_eq v_eqS (xv_var 2) xv_str) (fun h => absurd h (by decide +kernel)) (fun _ => xs_nil ?_))
    refine xs_cons (xs_asgV 3 (xv_call G hr (xl_cons (xv_ix ix_tup (v_ixT rfl) (xv_var 0) xv_int) (xl_cons (xv_var 1) xa_nil)) ⟨a, p, rfl, by simp [Sy.dep] at hn; omega, hb.1, rfl⟩) ?_ sc_fits.nd)
    refine xs_cons (xs_if (xb_cmp op_eq v_eqS (xv_var 2) xv_str) (fun h => absurd h (by decide +kernel)) (fun _ => xs_nil ?_))
    refine xs_cons (xs_if (xb_cmp op_eq v_eqS (xv_var 2) xv_str) (fun h => absurd h (by decide +kernel)) (fun _ => xs_nil ?_))
    refine xs_cons (xs_if (xb_cmp op_eq v_eqS (xv_var 2) xv_str) (fun _ => ?_) (fun h => absurd h (by decide +kernel)))
    exact xs_cons (xs_retV (xv_or (xv_var 3) (fun _ => xv_one (xv_call G hr (xl_cons (xv_ix ix_tup (v_ixT rfl) (xv_var 0) xv_int) (xl_cons (xv_var 1) xa_nil)) ⟨b, p, rfl, by simp [Sy.dep] at hn; omega, hb.2, rfl⟩))) hΦ)
  | imp a b =>
    refine xs_cons (xs_asgV 2 (xv_ix ix_tup (v_ixT rfl) (xv_var 0) xv_int) ?_ sc_fits.nd)
    refine xs_cons (xs_if (xb_cmp op_eq v_eqS (xv_var 2) xv_str) (fun h => absurd h (by decide +kernel)) (fun _ => xs_nil ?_))
    refine xs_cons (xs_if (xb_cmp op_eq v_eqS (xv_var 2) xv_str) (fun h => absurd h (by decide +kernel)) (fun _ => xs_nil ?_))
    refine xs_cons (xs_asgV 3 (xv_call G hr (xl_cons (xv_ix ix_tup (v_ixT rfl) (xv_var 0) xv_int) (xl_cons (xv_var 1) xa_nil)) ⟨a, p, rfl, by simp [Sy.dep] at hn; omega, hb.1, rfl⟩) ?_ sc_fits.nd)
    refine xs_cons (xs_if (xb_cmp op_eq v_eqS (xv_var 2) xv_str) (fun h => absurd h (by decide +kernel)) (fun _ => xs_nil ?_))
    refine xs_cons (xs_if (xb_cmp op_eq v_eqS (xv_var 2) xv_str) (fun h => absurd h (by decide +kernel)) (fun _ => xs_nil ?_))
    refine xs_cons (xs_if (xb_cmp op_eq v_eqS (xv_var 2) xv_str) (fun h => absurd h (by decide +kernel)) (fun _ => xs_nil ?_))
    exact xs_cons (xs_retV (xv_or (xv_not (xv_var 3)) (fun _ => xv_one (xv_call G hr (xl_cons (xv_ix ix_tup (v_ixT rfl) (xv_var 0) xv_int) (xl_cons (xv_var 1) xa_nil)) ⟨b, p, rfl, by simp [Sy.dep] at hn; omega, hb.2, rfl⟩))) hΦ)
abbrev s_least_points : Stmt := topS 12
abbrev n_least_points : List Str := ["ranks", "saying", "many", "rows", "some", "k", "least"]
theorem sc_least_points : FnScope n_least_points ["ranks", "saying", "many"] (defScope s_least_points) := ⟨rfl, rfl, rfl, by decide +kernel, rfl, by decide +kernel, by decide +kernel⟩
theorem ok_least_points {f : Addr} {fd : FuncData} (F : Fun K "least_points" "least_points" s_least_points f fd) (c_fits : Cal P w K mg base 8 "fits" ["saying", "point"] (spP K (cFits 8))) (c_points_of : Cal P w K mg base 2 "points_of" ["many"] (spP K cPoints)) (m_len : mg "len" = none) (m_range : mg "range" = none) (m_min : mg "min" = none) : FnOk P w K mg base CX0 (9 + 1) f fd ["ranks", "saying", "many"] (spP K cLeast) := by
  refine fn_pure F sc_least_points (fun ds Φ ⟨ranks, s, many, hd, ⟨hm, hl, hsd, hsl⟩, hΦ⟩ => by rw [hd]; rfl) fun cdv A outer s0 H E hr ds Φ ⟨ranks, s, many, hd, ⟨hm, hl, hsd, hsl⟩, hΦ⟩ => ?_
  subst hd
  have h8 := points_len8 hm
  have m_some : ∀ {k : Int}, k ∈ someK s (points many) → 0 ≤ k ∧ k < (points many).length := fun h => ⟨(someK_mem h).1, (someK_mem h).2.1⟩
  have hsm := someK_len (s := s) (rows := points many)
  have hu65 := hu_65 hr
  refine xs_cons (xs_asgV 3 (xv_call c_points_of (hr.mono (by decide)) (xl_cons (xv_var 2) xa_nil) ⟨many, rfl, hm, rfl⟩) ?_ sc_least_points.nd)
  refine xs_cons (xs_asgLc (f := D.int) (xs := (rng 0 ((points many).length : Int))) 4 [5] (fun k => [D.int k]) (fun k => (fits s ((points many).getD (k).toNat []))) D.int (fun k => k) [("k", 5)] (xw_range1 (xl_cons (xv_lenLT (f := (tT D.int)) (xv_var 3) m_len) xa_nil) (by omega) m_range (by omega)) (fun _ _ _ _ _ => pg_name (i := 5) sc_least_points.nd rfl (by first | exact Or.inl rfl | exact Or.inr rfl)) (fun _ _ => gt_name) .one (fun k hk => jt_wb fun _ _ _ _ _ => (xb_val (xv_call c_fits (hr.mono (by decide)) (xl_cons (xv_var 1) (xl_cons (xv_ix ix_list (v_ixLT (f := (tT D.int)) (atI_getD (by have mk := mem_rng.mp hk; omega) (by have mk := mem_rng.mp hk; omega))) (xv_var 3) (xv_var 5)) xa_nil)) ⟨s, ((points many).getD (k).toNat []), rfl, hsd, (by rw [points_mem hm (rows_mem (mem_rng.mp hk).1 (mem_rng.mp hk).2)]; exact hsl), rfl⟩))) (fun k hk pk _ _ _ _ _ => (xv_var 5)) (by rw [rng_len]; omega) ?_ (blkOk_by (N := n_least_points) (sc := defScope s_least_points) (by decide +kernel)) sc_least_points.nd (sw_true rfl rfl rfl (by decide +kernel)))
  refine xs_freeze 4 ?_
  refine xs_cons (xs_asgV 6 (xv_minD (xo_map (f := D.int) (xs := (someK s (points many))) [5] (fun k => [D.int k]) D.int (fun k => (ranks.getD (k).toNat 0)) [("k", 5)] (xw_listT (f := D.int) (xv_var 4)) (fun _ _ _ _ _ => pg_name (i := 5) sc_least_points.nd rfl (by first | exact Or.inl rfl | exact Or.inr rfl)) (fun _ _ => gt_name) (fun k hk _ _ _ _ _ => (xv_ix ix_tup (v_ixTT (f := D.int) (atI_getD (by have mk := m_some hk; omega) (by have mk := m_some hk; omega))) (xv_var 0) (xv_var 5))) (by omega) (blkOk_by (N := n_least_points) (sc := defScope s_least_points) (by decide +kernel)) sc_least_points.nd).frz xv_int m_min hu65 (pk_cons pe_wp pk_nil)) ?_ sc_least_points.nd)
  exact xs_cons (xs_retV (xo_lc (f := D.int) (xs := (someK s (points many))) [5] (fun k => [D.int k]) (fun k => (decide ((ranks.getD (k).toNat 0) = (leastR ranks s (points many))))) (tT D.int) (fun k => ((points many).getD (k).toNat [])) [("k", 5)] (xw_listT (f := D.int) (xv_var 4)) (fun _ _ _ _ _ => pg_name (i := 5) sc_least_points.nd rfl (by first | exact Or.inl rfl | exact Or.inr rfl)) (fun _ _ => gt_name) .one (fun k hk => jt_wb fun _ _ _ _ _ => (xb_cmp op_eq v_eqI (xv_ix ix_tup (v_ixTT (f := D.int) (atI_getD (by have mk := m_some hk; omega) (by have mk := m_some hk; omega))) (xv_var 0) (xv_var 5)) (xv_var 6))) (fun k hk pk _ _ _ _ _ => (xv_ix ix_list (v_ixLT (f := (tT D.int)) (atI_getD (by have mk := m_some hk; omega) (by have mk := m_some hk; omega))) (xv_var 3) (xv_var 5))) (by omega) (blkOk_by (N := n_least_points) (sc := defScope s_least_points) (by decide +kernel)) sc_least_points.nd).frz hΦ)
abbrev s_holds : Stmt := topS 13
abbrev n_holds : List Str := ["ranks", "rule", "many", "point"]
theorem sc_holds : FnScope n_holds ["ranks", "rule", "many"] (defScope s_holds) := ⟨rfl, rfl, rfl, by decide +kernel, rfl, by decide +kernel, by decide +kernel⟩
theorem ok_holds {f : Addr} {fd : FuncData} (F : Fun K "holds" "holds" s_holds f fd) (c_fits : Cal P w K mg base 8 "fits" ["saying", "point"] (spP K (cFits 8))) (c_least_points : Cal P w K mg base 10 "least_points" ["ranks", "saying", "many"] (spP K cLeast)) (m_all : mg "all" = none) : FnOk P w K mg base CX0 (10 + 1) f fd ["ranks", "rule", "many"] (spP K cHolds) := by
  refine fn_pure F sc_holds (fun ds Φ ⟨ranks, r, many, hd, ⟨hm, hl, ha, hb⟩, hΦ⟩ => by rw [hd]; rfl) fun cdv A outer s0 H E hr ds Φ ⟨ranks, r, many, hd, ⟨hm, hl, ha, hb⟩, hΦ⟩ => ?_
  subst hd
  have h8 := points_len8 hm
  have hpl := leastP_len (ranks := ranks) (s := r.1) (many := many)
  have hpm : ∀ p ∈ leastP ranks r.1 many, p ∈ points many := leastP_mem
  exact xs_cons (xs_retV (xv_all (xo_map (f := (tT D.int)) (xs := (leastP ranks r.1 many)) [3] (fun point => [(tT D.int) point]) D.bl (fun point => (fits r.2 point)) [("point", 3)] (xw_listT (f := (tT D.int)) (xv_call c_least_points (hr.mono (by decide)) (xl_cons (xv_var 0) (xl_cons (xv_ix ix_tup (v_ixT (f := eS r.1) rfl) (xv_var 1) xv_int) (xl_cons (xv_var 2) xa_nil))) ⟨ranks, r.1, many, rfl, ⟨hm, hl, ha⟩, rfl⟩)) (fun _ _ _ _ _ => pg_name (i := 3) sc_holds.nd rfl (by first | exact Or.inl rfl | exact Or.inr rfl)) (fun _ _ => gt_name) (fun point hpoint _ _ _ _ _ => (xv_call c_fits (hr.mono (by decide)) (xl_cons (xv_ix ix_tup (v_ixT (f := eS r.2) rfl) (xv_var 1) xv_int) (xl_cons (xv_var 3) xa_nil)) ⟨r.2, point, rfl, hb.1, (by rw [points_mem hm (hpm _ hpoint)]; exact hb.2), rfl⟩)) (by omega) (blkOk_by (N := n_holds) (sc := defScope s_holds) (by decide +kernel)) sc_holds.nd).frz m_all) hΦ)
abbrev s_law_points : Stmt := topS 23
abbrev n_law_points : List Str := ["many", "found", "k", "one"]
theorem sc_law_points : FnScope n_law_points ["many"] (defScope s_law_points) := ⟨rfl, rfl, rfl, by decide +kernel, rfl, by decide +kernel, by decide +kernel⟩
theorem ok_law_points {f : Addr} {fd : FuncData} (F : Fun K "_law_points" "_law_points" s_law_points f fd) (m_range : mg "range" = none) (m_sorted : mg "sorted" = none) : FnOk P w K mg base CX0 (1 + 1) f fd ["many"] (spP K cPoints) := by
  refine fn_pure F sc_law_points (fun ds Φ ⟨many, hd, hm, hΦ⟩ => by rw [hd]; rfl) fun cdv A outer s0 H E hr ds Φ ⟨many, hd, hm, hΦ⟩ => ?_
  subst hd
  refine xs_cons (xs_asgV 1 (xv_lst (xl_cons (xv_tup xa_nil) xa_nil) (by simp)) ?_ sc_law_points.nd)
  refine xs_loop (f := D.int) (xs := (rng 0 many)) (js := [2]) (fun k => [D.int k]) (fun n : Nat => [.pd (.int many), .pd (lT (tT D.int) (lpN n)), .un, .un]) (fun pre => pre.length) (xw_range1 (xl_cons (xv_var 0) xa_nil) (by omega) m_range (by omega)) (pg_name (i := 2) sc_law_points.nd rfl (by first | exact Or.inl rfl | exact Or.inr rfl)) (fun _ _ => gt_name) le_refl (fun pre k post hx => ?_) ?_ PassesOwn.never
  ·
    have hlen : pre.length < 3 := by
      have := congrArg List.length hx
      rw [rng_len, List.length_append, List.length_cons] at this
      omega
    have h8 := pow8 (n := pre.length) (by omega)
    have hl := lpN_len pre.length
    have hl1 := lpN_len (pre.length + 1)
    have h9 := pow8 (n := pre.length + 1) (by omega)
    refine xs_cons (xs_asgV 1 (xo_catL (f := (tT D.int)) (xo_map (f := (tT D.int)) (xs := lpN pre.length) [3] (fun one => [(tT D.int) one]) (tT D.int) (fun one => (one ++ [0])) [("one", 3)] (xw_listT (f := (tT D.int)) (xv_var 1)) (fun _ _ _ _ _ => pg_name (i := 3) sc_law_points.nd rfl (by first | exact Or.inl rfl | exact Or.inr rfl)) (fun _ _ => gt_name) (fun one hone _ _ _ _ _ => (xv_catT (f := D.int) (xv_var 3) (xv_tup (xl_cons xv_int xa_nil)) (by have := lpN_mem hone; simp; omega))) (by omega) (blkOk_by (N := n_law_points) (sc := defScope s_law_points) (by decide +kernel)) sc_law_points.nd).frz (xo_map (f := (tT D.int)) (xs := lpN pre.length) [3] (fun one => [(tT D.int) one]) (tT D.int) (fun one => (one ++ [1])) [("one", 3)] (xw_listT (f := (tT D.int)) (xv_var 1)) (fun _ _ _ _ _ => pg_name (i := 3) sc_law_points.nd rfl (by first | exact Or.inl rfl | exact Or.inr rfl)) (fun _ _ => gt_name) (fun one hone _ _ _ _ _ => (xv_catT (f := D.int) (xv_var 3) (xv_tup (xl_cons xv_int xa_nil)) (by have := lpN_mem hone; simp; omega))) (by omega) (blkOk_by (N := n_law_points) (sc := defScope s_law_points) (by decide +kernel)) sc_law_points.nd).frz (by simp; omega)).frz ?_ sc_law_points.nd)
    refine xs_nil ?_
    rw [List.length_append]
    exact le_eq (le_eq (le_un (le_un le_nil)))
  ·
    rw [rng_len, Int.sub_zero]
    have hu65 := hu_65 hr
    exact xs_cons (xs_retV (xo_sorted (f := (tT D.int)) (xv_var 1) (so_tup fun x hx => by have := lpN_mem hx; intro e; rw [e] at this; simp at this; omega) hu65 m_sorted).frz (by rw [lp_sorted (by omega) (by omega)]; exact hΦ))
abbrev s_law_fits : Stmt := topS 24
theorem sc_law_fits : FnScope ["saying", "point", "kind", "first", "second"] ["saying", "point"] (defScope s_law_fits) := ⟨rfl, rfl, rfl, by decide +kernel, rfl, by decide +kernel, by decide +kernel⟩
theorem ok_law_fits {f : Addr} {fd : FuncData} {n : Nat} (F : Fun K "_law_fits" "_law_fits" s_law_fits f fd) (G : Cal P w K mg base n "_law_fits" ["saying", "point"] (spP K (cFits n))) : FnOk P w K mg base CX0 (n + 1) f fd ["saying", "point"] (spP K (cFits (n + 1))) := by
  refine fn_pure F sc_law_fits (fun ds Φ ⟨s, p, h, _⟩ => by rw [h]; rfl) fun cdv A outer s0 H E hr ds Φ ⟨s, p, hd, hn, hb, hΦ⟩ => ?_
  subst hd
  cases s with
  | letter i =>
    refine xs_cons (xs_asgV 2 (xv_ix ix_tup (v_ixT rfl) (xv_var 0) xv_int) ?_ sc_law_fits.nd)
    refine xs_cons (xs_if (xb_cmp op_eq v_eqS (xv_var 2) xv_str) (fun _ => ?_) (fun h => absurd h (by decide +kernel)))
    exact xs_cons (xs_retV (xv_cmp op_eq v_eqI (xv_ix ix_tup (v_ixTT (atI_getD hb.1 hb.2)) (xv_var 1) (xv_ix ix_tup (v_ixT rfl) (xv_var 0) xv_int)) xv_int) hΦ)
  | fls  =>
    refine xs_cons (xs_asgV 2 (xv_ix ix_tup (v_ixT rfl) (xv_var 0) xv_int) ?_ sc_law_fits.nd)
    refine xs_cons (xs_if (xb_cmp op_eq v_eqS (xv_var 2) xv_str) (fun h => absurd h (by decide +kernel)) (fun _ => xs_nil ?_))
    refine xs_cons (xs_if (xb_cmp op_eq v_eqS (xv_var 2) xv_str) (fun _ => ?_) (fun h => absurd h (by decide +kernel)))
    exact xs_cons (xs_retV xv_bl hΦ)
  | neg a =>
    refine xs_cons (xs_asgV 2 (xv_ix ix_tup (v_ixT rfl) (xv_var 0) xv_int) ?_ sc_law_fits.nd)
    refine xs_cons (xs_if (xb_cmp op_eq v_eqS (xv_var 2) xv_str) (fun h => absurd h (by decide +kernel)) (fun _ => xs_nil ?_))
    refine xs_cons (xs_if (xb_cmp op_eq v_eqS (xv_var 2) xv_str) (fun h => absurd h (by decide +kernel)) (fun _ => xs_nil ?_))
    refine xs_cons (xs_asgV 3 (xv_call G hr (xl_cons (xv_ix ix_tup (v_ixT rfl) (xv_var 0) xv_int) (xl_cons (xv_var 1) xa_nil)) ⟨a, p, rfl, by simp [Sy.dep] at hn; omega, hb, rfl⟩) ?_ sc_law_fits.nd)
    refine xs_cons (xs_if (xb_cmp op_eq v_eqS (xv_var 2) xv_str) (fun _ => ?_) (fun h => absurd h (by decide +kernel)))
    exact xs_cons (xs_retV (xv_not (xv_var 3)) hΦ)
  | and a b =>
    refine xs_cons (xs_asgV 2 (xv_ix ix_tup (v_ixT rfl) (xv_var 0) xv_int) ?_ sc_law_fits.nd)
    refine xs_cons (xs_if (xb_cmp op_eq v_eqS (xv_var 2) xv_str) (fun h => absurd h (by decide +kernel)) (fun _ => xs_nil ?_))
    refine xs_cons (xs_if (xb_cmp op_eq v_eqS (xv_var 2) xv_str) (fun h => absurd h (by decide +kernel)) (fun _ => xs_nil ?_))
    refine xs_cons (xs_asgV 3 (xv_call G hr (xl_cons (xv_ix ix_tup (v_ixT rfl) (xv_var 0) xv_int) (xl_cons (xv_var 1) xa_nil)) ⟨a, p, rfl, by simp [Sy.dep] at hn; omega, hb.1, rfl⟩) ?_ sc_law_fits.nd)
    refine xs_cons (xs_if (xb_cmp op_eq v_eqS (xv_var 2) xv_str) (fun h => absurd h (by decide +kernel)) (fun _ => xs_nil ?_))
    refine xs_cons (xs_asgV 4 (xv_call G hr (xl_cons (xv_ix ix_tup (v_ixT rfl) (xv_var 0) xv_int) (xl_cons (xv_var 1) xa_nil)) ⟨b, p, rfl, by simp [Sy.dep] at hn; omega, hb.2, rfl⟩) ?_ sc_law_fits.nd)
    refine xs_cons (xs_if (xb_cmp op_eq v_eqS (xv_var 2) xv_str) (fun _ => ?_) (fun h => absurd h (by decide +kernel)))
    exact xs_cons (xs_retV (xv_and (xv_var 3) (fun _ => xv_one (xv_var 4))) hΦ)
  | or a b =>
    refine xs_cons (xs_asgV 2 (xv_ix ix_tup (v_ixT rfl) (xv_var 0) xv_int) ?_ sc_law_fits.nd)
    refine xs_cons (xs_if (xb_cmp op_eq v_eqS (xv_var 2) xv_str) (fun h => absurd h (by decide +kernel)) (fun _ => xs_nil ?_))
    refine xs_cons (xs_if (xb_cmp op_eq v_eqS (xv_var 2) xv_str) (fun h => absurd h (by decide +kernel)) (fun _ => xs_nil ?_))
    refine xs_cons (xs_asgV 3 (xv_call G hr (xl_cons (xv_ix ix_tup (v_ixT rfl) (xv_var 0) xv_int) (xl_cons (xv_var 1) xa_nil)) ⟨a, p, rfl, by simp [Sy.dep] at hn; omega, hb.1, rfl⟩) ?_ sc_law_fits.nd)
    refine xs_cons (xs_if (xb_cmp op_eq v_eqS (xv_var 2) xv_str) (fun h => absurd h (by decide +kernel)) (fun _ => xs_nil ?_))
    refine xs_cons (xs_asgV 4 (xv_call G hr (xl_cons (xv_ix ix_tup (v_ixT rfl) (xv_var 0) xv_int) (xl_cons (xv_var 1) xa_nil)) ⟨b, p, rfl, by simp [Sy.dep] at hn; omega, hb.2, rfl⟩) ?_ sc_law_fits.nd)
    refine xs_cons (xs_if (xb_cmp op_eq v_eqS (xv_var 2) xv_str) (fun h => absurd h (by decide +kernel)) (fun _ => xs_nil ?_))
    refine xs_cons (xs_if (xb_cmp op_eq v_eqS (xv_var 2) xv_str) (fun _ => ?_) (fun h => absurd h (by decide +kernel)))
    exact xs_cons (xs_retV (xv_or (xv_var 3) (fun _ => xv_one (xv_var 4))) hΦ)
  | imp a b =>
    refine xs_cons (xs_asgV 2 (xv_ix ix_tup (v_ixT rfl) (xv_var 0) xv_int) ?_ sc_law_fits.nd)
    refine xs_cons (xs_if (xb_cmp op_eq v_eqS (xv_var 2) xv_str) (fun h => absurd h (by decide +kernel)) (fun _ => xs_nil ?_))
    refine xs_cons (xs_if (xb_cmp op_eq v_eqS (xv_var 2) xv_str) (fun h => absurd h (by decide +kernel)) (fun _ => xs_nil ?_))
    refine xs_cons (xs_asgV 3 (xv_call G hr (xl_cons (xv_ix ix_tup (v_ixT rfl) (xv_var 0) xv_int) (xl_cons (xv_var 1) xa_nil)) ⟨a, p, rfl, by simp [Sy.dep] at hn; omega, hb.1, rfl⟩) ?_ sc_law_fits.nd)
    refine xs_cons (xs_if (xb_cmp op_eq v_eqS (xv_var 2) xv_str) (fun h => absurd h (by decide +kernel)) (fun _ => xs_nil ?_))
    refine xs_cons (xs_asgV 4 (xv_call G hr (xl_cons (xv_ix ix_tup (v_ixT rfl) (xv_var 0) xv_int) (xl_cons (xv_var 1) xa_nil)) ⟨b, p, rfl, by simp [Sy.dep] at hn; omega, hb.2, rfl⟩) ?_ sc_law_fits.nd)
    refine xs_cons (xs_if (xb_cmp op_eq v_eqS (xv_var 2) xv_str) (fun h => absurd h (by decide +kernel)) (fun _ => xs_nil ?_))
    refine xs_cons (xs_if (xb_cmp op_eq v_eqS (xv_var 2) xv_str) (fun h => absurd h (by decide +kernel)) (fun _ => xs_nil ?_))
    exact xs_cons (xs_retV (xv_or (xv_var 4) (fun _ => xv_one (xv_not (xv_var 3)))) (by show Φ (.bl (fits b p || !fits a p)); rw [Bool.or_comm]; exact hΦ))
abbrev s_law_holds : Stmt := topS 26
abbrev n_law_holds : List Str := ["ranks", "rule", "many", "rows", "some", "k", "least"]
theorem sc_law_holds : FnScope n_law_holds ["ranks", "rule", "many"] (defScope s_law_holds) := ⟨rfl, rfl, rfl, by decide +kernel, rfl, by decide +kernel, by decide +kernel⟩
theorem ok_law_holds {f : Addr} {fd : FuncData} (F : Fun K "_law_holds" "_law_holds" s_law_holds f fd) (c_law_fits : Cal P w K mg base 8 "_law_fits" ["saying", "point"] (spP K (cFits 8))) (c_law_points : Cal P w K mg base 2 "_law_points" ["many"] (spP K cPoints)) (m_len : mg "len" = none) (m_range : mg "range" = none) (m_min : mg "min" = none) : FnOk P w K mg base CX0 (9 + 1) f fd ["ranks", "rule", "many"] (spP K cLHolds) := by
  refine fn_pure F sc_law_holds (fun ds Φ ⟨ranks, r, many, hd, ⟨hm, hl, ha, hb⟩, hΦ⟩ => by rw [hd]; rfl) fun cdv A outer s0 H E hr ds Φ ⟨ranks, r, many, hd, ⟨hm, hl, ha, hb⟩, hΦ⟩ => ?_
  subst hd
  have h8 := points_len8 hm
  have m_some : ∀ {k : Int}, k ∈ someK r.1 (points many) → 0 ≤ k ∧ k < (points many).length := fun h => ⟨(someK_mem h).1, (someK_mem h).2.1⟩
  have hsm := someK_len (s := r.1) (rows := points many)
  have hu65 := hu_65 hr
  have hu64 := hu_64 hr
  refine xs_cons (xs_asgV 3 (xv_call c_law_points (hr.mono (by decide)) (xl_cons (xv_var 2) xa_nil) ⟨many, rfl, hm, rfl⟩) ?_ sc_law_holds.nd)
  refine xs_cons (xs_asgLc (f := D.int) (xs := (rng 0 ((points many).length : Int))) 4 [5] (fun k => [D.int k]) (fun k => (fits r.1 ((points many).getD (k).toNat []))) D.int (fun k => k) [("k", 5)] (xw_range1 (xl_cons (xv_lenLT (f := (tT D.int)) (xv_var 3) m_len) xa_nil) (by omega) m_range (by omega)) (fun _ _ _ _ _ => pg_name (i := 5) sc_law_holds.nd rfl (by first | exact Or.inl rfl | exact Or.inr rfl)) (fun _ _ => gt_name) .one (fun k hk => jt_wb fun _ _ _ _ _ => (xb_val (xv_call c_law_fits (hr.mono (by decide)) (xl_cons (xv_ix ix_tup (v_ixT (f := eS r.1) rfl) (xv_var 1) xv_int) (xl_cons (xv_ix ix_list (v_ixLT (f := (tT D.int)) (atI_getD (by have mk := mem_rng.mp hk; omega) (by have mk := mem_rng.mp hk; omega))) (xv_var 3) (xv_var 5)) xa_nil)) ⟨r.1, ((points many).getD (k).toNat []), rfl, ha.1, (by rw [points_mem hm (rows_mem (mem_rng.mp hk).1 (mem_rng.mp hk).2)]; exact ha.2), rfl⟩))) (fun k hk pk _ _ _ _ _ => (xv_var 5)) (by rw [rng_len]; omega) ?_ (blkOk_by (N := n_law_holds) (sc := defScope s_law_holds) (by decide +kernel)) sc_law_holds.nd (sw_true rfl rfl rfl (by decide +kernel)))
  refine xs_freeze 4 ?_
  refine xs_cons (xs_if (xb_cmp (op_eqD hu64) (v_eq (f := (lT D.int))) (xv_var 4) xv_nilL) (fun h1 => ?_) (fun h1 => ?_))
  ·
    exact xs_cons (xs_retV xv_bl (by have hc : someK r.1 (points many) = [] := of_decide_eq_true h1.symm; rw [lholds, if_pos hc] at hΦ; exact hΦ))
  ·
    refine xs_nil ?_
    refine xs_cons (xs_asgV 6 (xv_min (xo_map (f := D.int) (xs := (someK r.1 (points many))) [5] (fun k => [D.int k]) D.int (fun k => (ranks.getD (k).toNat 0)) [("k", 5)] (xw_listT (f := D.int) (xv_var 4)) (fun _ _ _ _ _ => pg_name (i := 5) sc_law_holds.nd rfl (by first | exact Or.inl rfl | exact Or.inr rfl)) (fun _ _ => gt_name) (fun k hk _ _ _ _ _ => (xv_ix ix_tup (v_ixTT (f := D.int) (atI_getD (by have mk := m_some hk; omega) (by have mk := m_some hk; omega))) (xv_var 0) (xv_var 5))) (by omega) (blkOk_by (N := n_law_holds) (sc := defScope s_law_holds) (by decide +kernel)) sc_law_holds.nd).frz (by intro e; exact of_decide_eq_false h1.symm (List.map_eq_nil_iff.mp e)) m_min) ?_ sc_law_holds.nd)
    exact xs_cons (xs_retV (xv_cmp (op_eqD hu64) (v_eq (f := (lT D.int))) (xo_lc (f := D.int) (xs := (someK r.1 (points many))) [5] (fun k => [D.int k]) (fun k => ((decide ((ranks.getD (k).toNat 0) = (lmin ((someK r.1 (points many)).map fun k => ranks.getD k.toNat 0)))) && (!(fits r.2 ((points many).getD (k).toNat []))))) D.int (fun k => 1) [("k", 5)] (xw_listT (f := D.int) (xv_var 4)) (fun _ _ _ _ _ => pg_name (i := 5) sc_law_holds.nd rfl (by first | exact Or.inl rfl | exact Or.inr rfl)) (fun _ _ => gt_name) .one (fun k hk => jt_wb fun _ _ _ _ _ => (xt_w (xb_and (xb_cmp op_eq v_eqI (xv_ix ix_tup (v_ixTT (f := D.int) (atI_getD (by have mk := m_some hk; omega) (by have mk := m_some hk; omega))) (xv_var 0) (xv_var 5)) (xv_var 6)) (fun _ => (xw_and1 (xb_not (xb_val (xv_call c_law_fits (hr.mono (by decide)) (xl_cons (xv_ix ix_tup (v_ixT (f := eS r.2) rfl) (xv_var 1) xv_int) (xl_cons (xv_ix ix_list (v_ixLT (f := (tT D.int)) (atI_getD (by have mk := m_some hk; omega) (by have mk := m_some hk; omega))) (xv_var 3) (xv_var 5)) xa_nil)) ⟨r.2, ((points many).getD (k).toNat []), rfl, hb.1, (by rw [points_mem hm (rows_mem (m_some hk).1 (m_some hk).2)]; exact hb.2), rfl⟩)))))))) (fun k hk pk _ _ _ _ _ => xv_int) (by omega) (blkOk_by (N := n_law_holds) (sc := defScope s_law_holds) (by decide +kernel)) sc_law_holds.nd).frz xv_nilL) (by have hc : ¬ someK r.1 (points many) = [] := of_decide_eq_false h1.symm; rw [lholds, if_neg hc] at hΦ; exact hΦ))
end
end K77

namespace K77
open PySem PySem.Spec PyProof.Rows L2 Evl DL WB
section
variable {P : Program} {w : World} {K : PySem.W.Frag} {mg : Str → Option Value} {base : Heap}
abbrev s_points_where : Stmt := topS 3
abbrev n_points_where : List Str := ["saying", "many", "point"]
theorem sc_points_where : FnScope n_points_where ["saying", "many"] (defScope s_points_where) := ⟨rfl, rfl, rfl, by decide +kernel, rfl, by decide +kernel, by decide +kernel⟩
theorem ok_points_where {f : Addr} {fd : FuncData} (F : Fun K "points_where" "points_where" s_points_where f fd) (c_fits : Cal P w K mg base 8 "fits" ["saying", "point"] (spP K (cFits 8))) (c_points_of : Cal P w K mg base 2 "points_of" ["many"] (spP K cPoints)) : FnOk P w K mg base CX0 (9 + 1) f fd ["saying", "many"] (spP K cPw) := by
  refine fn_pure F sc_points_where (fun ds Φ ⟨s, many, hd, ⟨hm, hsd, hsl⟩, hΦ⟩ => by rw [hd]; rfl) fun cdv A outer s0 H E hr ds Φ ⟨s, many, hd, ⟨hm, hsd, hsl⟩, hΦ⟩ => ?_
  subst hd
  have h8 := points_len8 hm
  exact xs_cons (xs_retV (xo_lc (f := (tT D.int)) (xs := (points many)) [2] (fun point => [(tT D.int) point]) (fun point => (fits s point)) (tT D.int) (fun point => point) [("point", 2)] (xw_listT (f := (tT D.int)) (xv_call c_points_of (hr.mono (by decide)) (xl_cons (xv_var 1) xa_nil) ⟨many, rfl, hm, rfl⟩)) (fun _ _ _ _ _ => pg_name (i := 2) sc_points_where.nd rfl (by first | exact Or.inl rfl | exact Or.inr rfl)) (fun _ _ => gt_name) .one (fun point hpoint => jt_wb fun _ _ _ _ _ => (xb_val (xv_call c_fits (hr.mono (by decide)) (xl_cons (xv_var 0) (xl_cons (xv_var 2) xa_nil)) ⟨s, point, rfl, hsd, (by rw [points_mem hm hpoint]; exact hsl), rfl⟩))) (fun point hpoint ppoint _ _ _ _ _ => (xv_var 2)) (by omega) (blkOk_by (N := n_points_where) (sc := defScope s_points_where) (by decide +kernel)) sc_points_where.nd).frz (by rw [List.map_id']; exact hΦ))
abbrev s_breaks : Stmt := topS 4
abbrev n_breaks : List Str := ["rule", "point"]
theorem sc_breaks : FnScope n_breaks ["rule", "point"] (defScope s_breaks) := ⟨rfl, rfl, rfl, by decide +kernel, rfl, by decide +kernel, by decide +kernel⟩
theorem ok_breaks {f : Addr} {fd : FuncData} (F : Fun K "breaks" "breaks" s_breaks f fd) (c_fits : Cal P w K mg base 8 "fits" ["saying", "point"] (spP K (cFits 8))) : FnOk P w K mg base CX0 (8 + 1) f fd ["rule", "point"] (spP K cBreaks) := by
  refine fn_pure F sc_breaks (fun ds Φ ⟨r, p, hd, ⟨ha, hb⟩, hΦ⟩ => by rw [hd]; rfl) fun cdv A outer s0 H E hr ds Φ ⟨r, p, hd, ⟨ha, hb⟩, hΦ⟩ => ?_
  subst hd
  exact xs_cons (xs_retV (xv_and (xv_call c_fits (hr.mono (by decide)) (xl_cons (xv_ix ix_tup (v_ixT (f := eS r.1) rfl) (xv_var 0) xv_int) (xl_cons (xv_var 1) xa_nil)) ⟨r.1, p, rfl, ha.1, ha.2, rfl⟩) (fun _ => (xv_one (xv_not (xv_call c_fits (hr.mono (by decide)) (xl_cons (xv_ix ix_tup (v_ixT (f := eS r.2) rfl) (xv_var 0) xv_int) (xl_cons (xv_var 1) xa_nil)) ⟨r.2, p, rfl, hb.1, hb.2, rfl⟩))))) hΦ)
abbrev s_law_breaks : Stmt := topS 25
abbrev n_law_breaks : List Str := ["rule", "point"]
theorem sc_law_breaks : FnScope n_law_breaks ["rule", "point"] (defScope s_law_breaks) := ⟨rfl, rfl, rfl, by decide +kernel, rfl, by decide +kernel, by decide +kernel⟩
theorem ok_law_breaks {f : Addr} {fd : FuncData} (F : Fun K "_law_breaks" "_law_breaks" s_law_breaks f fd) (c_law_fits : Cal P w K mg base 8 "_law_fits" ["saying", "point"] (spP K (cFits 8))) : FnOk P w K mg base CX0 (8 + 1) f fd ["rule", "point"] (spP K cBreaks) := by
  refine fn_pure F sc_law_breaks (fun ds Φ ⟨r, p, hd, ⟨ha, hb⟩, hΦ⟩ => by rw [hd]; rfl) fun cdv A outer s0 H E hr ds Φ ⟨r, p, hd, ⟨ha, hb⟩, hΦ⟩ => ?_
  subst hd
  exact xs_cons (xs_retV (xv_and (xv_call c_law_fits (hr.mono (by decide)) (xl_cons (xv_ix ix_tup (v_ixT (f := eS r.1) rfl) (xv_var 0) xv_int) (xl_cons (xv_var 1) xa_nil)) ⟨r.1, p, rfl, ha.1, ha.2, rfl⟩) (fun _ => (xv_one (xv_not (xv_call c_law_fits (hr.mono (by decide)) (xl_cons (xv_ix ix_tup (v_ixT (f := eS r.2) rfl) (xv_var 0) xv_int) (xl_cons (xv_var 1) xa_nil)) ⟨r.2, p, rfl, hb.1, hb.2, rfl⟩))))) hΦ)
abbrev s_tolerating : Stmt := topS 5
abbrev n_tolerating : List Str := ["rule", "rules", "many", "point", "one"]
theorem sc_tolerating : FnScope n_tolerating ["rule", "rules", "many"] (defScope s_tolerating) := ⟨rfl, rfl, rfl, by decide +kernel, rfl, by decide +kernel, by decide +kernel⟩
theorem ok_tolerating {f : Addr} {fd : FuncData} (F : Fun K "tolerating" "tolerating" s_tolerating f fd) (c_fits : Cal P w K mg base 8 "fits" ["saying", "point"] (spP K (cFits 8))) (c_points_of : Cal P w K mg base 2 "points_of" ["many"] (spP K cPoints)) (c_breaks : Cal P w K mg base 9 "breaks" ["rule", "point"] (spP K cBreaks)) (m_any : mg "any" = none) : FnOk P w K mg base CX0 (9 + 1) f fd ["rule", "rules", "many"] (spP K cTol) := by
  refine fn_pure F sc_tolerating (fun ds Φ ⟨r, rules, many, hd, ⟨hm, hr1, hrs⟩, hΦ⟩ => by rw [hd]; rfl) fun cdv A outer s0 H E hr ds Φ ⟨r, rules, many, hd, ⟨hm, hr1, hrs⟩, hΦ⟩ => ?_
  subst hd
  have h8 := points_len8 hm
  have hrl := hrs.1
  refine xs_loopP (f := (tT D.int)) (xs := (points many)) (js := [3]) (fun point => [(tT D.int) point]) (fun n : Nat => stG n_tolerating [.pd (pT eS eS r), .pd (lT (pT eS eS) rules), .pd (.int many)]) (fun pre => pre.length) (fun pre => ∀ p ∈ pre, tolB r rules p = false) (xw_listT (f := (tT D.int)) (xv_call c_points_of (hr.mono (by decide)) (xl_cons (xv_var 2) xa_nil) ⟨many, rfl, hm, rfl⟩)) (pg_name (i := 3) sc_tolerating.nd rfl (by first | exact Or.inl rfl | exact Or.inr rfl)) (fun _ _ => gt_name) le_refl (fun p hp => nomatch hp) (fun pre point post hx hiv => ?_) (fun hiv => ?_) PassesOwn.never
  ·
    have hpm : point ∈ points many := by rw [hx]; simp
    have hpl := points_mem hm hpm
    refine xs_cons (xs_if (xt_w (xb_and (xb_val (xv_call c_fits (hr.mono (by decide)) (xl_cons (xv_ix ix_tup (v_ixT (f := eS r.1) rfl) (xv_var 0) xv_int) (xl_cons (xv_var 3) xa_nil)) ⟨r.1, point, rfl, hr1.1.1, (by rw [hpl]; exact hr1.1.2), rfl⟩)) (fun _ => (xb_and (xb_val (xv_call c_fits (hr.mono (by decide)) (xl_cons (xv_ix ix_tup (v_ixT (f := eS r.2) rfl) (xv_var 0) xv_int) (xl_cons (xv_var 3) xa_nil)) ⟨r.2, point, rfl, hr1.2.1, (by rw [hpl]; exact hr1.2.2), rfl⟩)) (fun _ => (xw_and1 (xb_not (xb_val (xv_any (xo_map (f := (pT eS eS)) (xs := rules) [4] (fun one => [(pT eS eS) one]) D.bl (fun one => (breaks one point)) [("one", 4)] (xw_listT (f := (pT eS eS)) (xv_var 1)) (fun _ _ _ _ _ => pg_name (i := 4) sc_tolerating.nd rfl (by first | exact Or.inl rfl | exact Or.inr rfl)) (fun _ _ => gt_name) (fun one hone _ _ _ _ _ => (xv_call c_breaks (hr.mono (by decide)) (xl_cons (xv_var 4) (xl_cons (xv_var 3) xa_nil)) ⟨one, point, rfl, (by rw [hpl]; exact hrs.2 one hone), rfl⟩)) (by omega) (blkOk_by (N := n_tolerating) (sc := defScope s_tolerating) (by decide +kernel)) sc_tolerating.nd).frz m_any))))))))) (fun h1 => ?_) (fun h1 => ?_))
    ·
      exact xs_cons (xs_retV (xv_var 3) (by
          have e : tol r rules many = some point := by
            unfold tol
            rw [hx, List.find?_append, List.find?_eq_none.mpr (fun p hp => by rw [hiv p hp]; exact Bool.noConfusion), Option.none_or, List.find?_cons_of_pos (show tolB r rules point = true from h1.symm)]
          rw [e] at hΦ
          exact hΦ))
    ·
      refine xs_nil ?_
      exact xs_nil ⟨(by repeat (first | exact le_nil | refine le_eq ?_ | refine le_un ?_)), fun p hp => by
        rcases List.mem_append.mp hp with hp | hp
        · exact hiv p hp
        · rw [List.mem_singleton.mp hp]; exact h1.symm⟩
  ·
    exact xs_cons (xs_retV xv_non (by
      have e : tol r rules many = none := List.find?_eq_none.mpr (fun p hp => by rw [hiv p hp]; exact Bool.noConfusion)
      rw [e] at hΦ
      exact hΦ))
abbrev s_is_free : Stmt := topS 6
abbrev n_is_free : List Str := ["rule", "rules", "many"]
theorem sc_is_free : FnScope n_is_free ["rule", "rules", "many"] (defScope s_is_free) := ⟨rfl, rfl, rfl, by decide +kernel, rfl, by decide +kernel, by decide +kernel⟩
theorem ok_is_free {f : Addr} {fd : FuncData} (F : Fun K "is_free" "is_free" s_is_free f fd) (c_points_where : Cal P w K mg base 10 "points_where" ["saying", "many"] (spP K cPw)) (c_tolerating : Cal P w K mg base 10 "tolerating" ["rule", "rules", "many"] (spP K cTol)) (m_len : mg "len" = none) : FnOk P w K mg base CX0 (10 + 1) f fd ["rule", "rules", "many"] (spP K cFree) := by
  refine fn_pure F sc_is_free (fun ds Φ ⟨r, rules, many, hd, ⟨hm, hr1, hrs⟩, hΦ⟩ => by rw [hd]; rfl) fun cdv A outer s0 H E hr ds Φ ⟨r, rules, many, hd, ⟨hm, hr1, hrs⟩, hΦ⟩ => ?_
  subst hd
  exact xs_cons (xs_retV (xv_or (xv_cmp op_eq v_eqI (xv_lenLT (f := (tT D.int)) (xv_call c_points_where (hr.mono (by decide)) (xl_cons (xv_ix ix_tup (v_ixT (f := eS r.1) rfl) (xv_var 0) xv_int) (xl_cons (xv_var 2) xa_nil)) ⟨r.1, many, rfl, ⟨hm, hr1.1⟩, rfl⟩) m_len) xv_int) (fun _ => (xv_one (xv_cmp op_notN v_notN (xv_call c_tolerating (hr.mono (by decide)) (xl_cons (xv_var 0) (xl_cons (xv_var 1) (xl_cons (xv_var 2) xa_nil))) ⟨r, rules, many, rfl, ⟨hm, hr1, hrs⟩, rfl⟩) xv_non)))) (by rw [isN_oT]; exact hΦ))
end
end K77

namespace K77
open PySem PySem.Spec PyProof.Rows L2 Evl DL WB
section
variable {P : Program} {w : World} {K : PySem.W.Frag} {mg : Str → Option Value} {base : Heap}

abbrev s_layers : Stmt := topS 7
abbrev n_layers : List Str := ["rules", "many", "left", "found", "some", "k", "level"]
theorem sc_layers : FnScope n_layers ["rules", "many"] (defScope s_layers) := ⟨rfl, rfl, rfl, by decide +kernel, rfl, by decide +kernel, by decide +kernel⟩
theorem ok_layers {f : Addr} {fd : FuncData} (F : Fun K "layers" "layers" s_layers f fd) (c_is_free : Cal P w K mg base 11 "is_free" ["rule", "rules", "many"] (spP K cFree)) (m_len : mg "len" = none) (m_list : mg "list" = none) (m_range : mg "range" = none) (m_tuple : mg "tuple" = none) : FnOk P w K mg base CX0 (11 + 1) f fd ["rules", "many"] (spP K cLayers) := by
  refine fn_pure F sc_layers (fun ds Φ ⟨rules, many, hd, ⟨hm, hrs⟩, hΦ⟩ => by rw [hd]; rfl) fun cdv A outer s0 H E hr ds Φ ⟨rules, many, hd, ⟨hm, hrs⟩, hΦ⟩ => ?_
  subst hd
  have hrl := hrs.1
  refine xs_cons (xs_asgV 2 (xv_listRg (xg_1 (xv_lenLT (f := (pT eS eS)) (xv_var 0) m_len) m_range) ⟨(by omega), (by omega)⟩ ⟨(by omega), (by omega)⟩ m_list) ?_ sc_layers.nd)
  refine xs_cons (xs_asgO 3 (xo_lst (ds := []) xa_nil) ?_ sc_layers.nd)
  refine xs_whl (fun s : List Int × List (List Int) => stG n_layers [.pd (lT (pT eS eS) rules), .pd (.int many), .pd (lT D.int s.1), .ow (.ml (s.2.map (tT D.int)))]) (fun s => s.1.length) (fun s => layI rules many s.1 s.2) (rng 0 (rules.length : Int), []) (by repeat (first | exact le_nil | refine le_eq ?_ | refine le_un ?_)) layI_start (fun ⟨left', found'⟩ hI => ⟨_, (xb_cmp op_gt v_gt (xv_lenLT (f := D.int) (xv_var 2) m_len) xv_int), fun hW => ?_, fun hW => ?_⟩) PassesOwn.never
  ·
    have hl := fun {k : Int} (h : k ∈ left') => hI.2.1 k h
    have hll : found'.length + left'.length ≤ rules.length := hI.2.2
    have hll' : left'.length ≤ 100 := by omega
    have hne : left' ≠ [] := fun e => by subst e; simp at hW
    refine xs_cons (xs_asgV 4 (xo_map (f := D.int) (xs := left') [5] (fun k => [D.int k]) (pT eS eS) (fun k => (rules.getD (k).toNat (.fls, .fls))) [("k", 5)] (xw_listT (f := D.int) (xv_var 2)) (fun _ _ _ _ _ => pg_name (i := 5) sc_layers.nd rfl (by first | exact Or.inl rfl | exact Or.inr rfl)) (fun _ _ => gt_name) (fun k hk _ _ _ _ _ => (xv_ix ix_list (v_ixLT (f := (pT eS eS)) (atI_getD (by have mk := hl hk; omega) (by have mk := hl hk; omega))) (xv_var 0) (xv_var 5))) (by omega) (blkOk_by (N := n_layers) (sc := defScope s_layers) (by decide +kernel)) sc_layers.nd).frz ?_ sc_layers.nd)
    refine xs_cons (xs_asgV 6 (xv_tupleL (f := D.int) (xo_lc (f := D.int) (xs := left') [5] (fun k => [D.int k]) (fun k => (isfree (rules.getD (k).toNat (.fls, .fls)) (left'.map (getR rules)) many)) D.int (fun k => k) [("k", 5)] (xw_listT (f := D.int) (xv_var 2)) (fun _ _ _ _ _ => pg_name (i := 5) sc_layers.nd rfl (by first | exact Or.inl rfl | exact Or.inr rfl)) (fun _ _ => gt_name) .one (fun k hk => jt_wb fun _ _ _ _ _ => (xb_val (xv_call c_is_free (hr.mono (by decide)) (xl_cons (xv_ix ix_list (v_ixLT (f := (pT eS eS)) (atI_getD (by have mk := hl hk; omega) (by have mk := hl hk; omega))) (xv_var 0) (xv_var 5)) (xl_cons (xv_var 4) (xl_cons (xv_var 1) xa_nil))) ⟨(rules.getD (k).toNat (.fls, .fls)), (left'.map (getR rules)), many, rfl, ⟨hm, getR_ok hrs (hl hk).1 (hl hk).2, getRs_ok hrs (fun _ h => hl h) hll'⟩, rfl⟩))) (fun k hk pk _ _ _ _ _ => (xv_var 5)) (by omega) (blkOk_by (N := n_layers) (sc := defScope s_layers) (by decide +kernel)) sc_layers.nd).frz m_tuple) ?_ sc_layers.nd)
    refine xs_cons (xs_if (xb_cmp op_eq v_eqI (xv_lenTT (f := D.int) (xv_var 6) m_len) xv_int) (fun h1 => ?_) (fun h1 => ?_))
    ·
      have hlv : level rules many left' = [] := List.eq_nil_of_length_eq_zero (by have e : ((level rules many left').length : Int) = 0 := of_decide_eq_true h1.symm; omega)
      exact xs_cons (xs_retV (xv_tup (hl := by simp) (xl_cons xv_str (xl_cons (xv_tupleL (f := D.int) (xv_var 2) m_tuple) xa_nil))) (by rw [layI_no hI hne hlv] at hΦ; exact hΦ))
    ·
      refine xs_nil ?_
      have hlv : level rules many left' ≠ [] := fun e => by
        have z : ¬ ((level rules many left').length : Int) = 0 := of_decide_eq_false h1.symm
        rw [e] at z
        exact z rfl
      have hsz : (found'.map (tT D.int)).length < 100000 := by rw [List.length_map]; omega
      refine xs_cons (xs_app 3 (xv_var 6) (fun d hd => ?_) hsz)
      subst hd
      refine xs_cons (xs_asgLc (f := D.int) (xs := left') 2 [5] (fun k => [D.int k]) (fun k => (!decide (k ∈ (level rules many left')))) D.int (fun k => k) [("k", 5)] (xw_listT (f := D.int) (xv_var 2)) (fun _ _ _ _ _ => pg_name (i := 5) sc_layers.nd rfl (by first | exact Or.inl rfl | exact Or.inr rfl)) (fun _ _ => gt_name) .one (fun k hk => jt_wb fun _ _ _ _ _ => (xb_cmp op_notIn_seq v_niT (xv_var 5) (xv_var 6))) (fun k hk pk _ _ _ _ _ => (xv_var 5)) (by omega) ?_ (blkOk_by (N := n_layers) (sc := defScope s_layers) (by decide +kernel)) sc_layers.nd (sw_true rfl rfl rfl (by decide +kernel)))
      refine xs_freeze 2 ?_
      refine xs_nil ⟨(_, found' ++ [level rules many left']), left_less hlv, layI_step hI hne hlv, ?_⟩
      show Le _ (stG n_layers [.pd (lT (pT eS eS) rules), .pd (.int many), .pd (lT D.int (lessL rules many left')), .ow (.ml ((found' ++ [level rules many left']).map (tT D.int)))])
      rw [List.map_append]
      repeat (first | exact le_nil | refine le_eq ?_ | refine le_un ?_)
  ·
    have hl0 : left' = [] := List.eq_nil_of_length_eq_zero (by have := of_decide_eq_false hW; simp only at this; omega)
    subst hl0
    refine xs_freeze 3 ?_
    exact xs_cons (xs_retV (xv_tup (hl := by simp) (xl_cons xv_str (xl_cons (xv_tupleL (f := (tT D.int)) (xv_var 3) m_tuple) xa_nil))) (by rw [layI_end hI] at hΦ; exact hΦ))
end
end K77

namespace K77
open PySem PySem.Spec PyProof.Rows L2 Evl DL WB
section
variable {P : Program} {w : World} {K : PySem.W.Frag} {mg : Str → Option Value} {base : Heap}

abbrev s_are_stuck : Stmt := topS 8
abbrev n_are_stuck : List Str := ["rules", "many", "value", "k", "j", "some", "rule"]
theorem sc_are_stuck : FnScope n_are_stuck ["rules", "many", "value"] (defScope s_are_stuck) := ⟨rfl, rfl, rfl, by decide +kernel, rfl, by decide +kernel, by decide +kernel⟩
theorem ok_are_stuck {f : Addr} {fd : FuncData} (F : Fun K "are_stuck" "are_stuck" s_are_stuck f fd) (c_is_free : Cal P w K mg base 11 "is_free" ["rule", "rules", "many"] (spP K cFree)) (m_isinstance : mg "isinstance" = none) (m_tuple : mg "tuple" = none) (m_int : mg "int" = none) (m_bool : mg "bool" = none) (m_len : mg "len" = none) (m_all : mg "all" = none) (m_any : mg "any" = none) (m_range : mg "range" = none) : FnOk P w K mg base CX0 (12 + 1) f fd ["rules", "many", "value"] (spP K cStuck) := by
  refine fn_pure F sc_are_stuck (fun ds Φ ⟨rules, many, v, hd, ⟨hm, hrs, hv⟩, hΦ⟩ => by rw [hd]; rfl) fun cdv A outer s0 H E hr ds Φ ⟨rules, many, v, hd, ⟨hm, hrs, hv⟩, hΦ⟩ => ?_
  subst hd
  have hrl := hrs.1
  cases v with
  | nums l =>
    have hll : l.length ≤ 100 := hv
    refine xs_cons (xs_if (xt_w (xb_or (xb_not (xb_val (xv_isi "tuple" (xv_var 2) m_isinstance m_tuple (t := "tuple") (b := true)))) (fun _ => (xw_or1 (xb_cmp op_eq v_eqI (xv_lenTT (f := D.int) (xv_var 2) m_len) xv_int))))) (fun h1 => ?_) (fun h1 => ?_))
    ·
      exact xs_cons (xs_retV xv_bl (by rw [stuckV, stuckB, if_pos h1.symm] at hΦ; exact hΦ))
    ·
      refine xs_nil ?_
      refine xs_cons (xs_if (xb_not (xb_val (xv_all (xo_map (f := D.int) (xs := l) [3] (fun k => [D.int k]) D.bl (fun k => (true && ((!false) && ((decide (0 ≤ k)) && (decide (k < (rules.length : Int))))))) [("k", 3)] (xw_tupT (f := D.int) (xv_var 2)) (fun _ _ _ _ _ => pg_name (i := 3) sc_are_stuck.nd rfl (by first | exact Or.inl rfl | exact Or.inr rfl)) (fun _ _ => gt_name) (fun k hk _ _ _ _ _ => (xv_and (xv_isi "int" (xv_var 3) m_isinstance m_int (t := "int") (b := true)) (fun _ => (xv_and (xv_not (xv_isi "bool" (xv_var 3) m_isinstance m_bool (t := "int") (b := false))) (fun _ => (xv_one (xv_chain op_le v_le op_lt (fun _ => v_lt) xv_int (xv_var 3) (xv_lenLT (f := (pT eS eS)) (xv_var 0) m_len)))))))) (by omega) (blkOk_by (N := n_are_stuck) (sc := defScope s_are_stuck) (by decide +kernel)) sc_are_stuck.nd).frz m_all))) (fun h2 => ?_) (fun h2 => ?_))
      ·
        exact xs_cons (xs_retV xv_bl (by rw [stuckV, stuckB, if_neg (ifn h1), if_pos h2.symm] at hΦ; exact hΦ))
      ·
        refine xs_nil ?_
        refine xs_cons (xs_if (xb_val (xv_any (xo_map (f := D.int) (xs := (rng 0 ((l.length : Int) - 1))) [4] (fun j => [D.int j]) D.bl (fun j => (decide ((l.getD ((j + 1)).toNat 0) ≤ (l.getD (j).toNat 0)))) [("j", 4)] (xw_range1 (xl_cons (xv_bin op_sub v_sub (xv_lenTT (f := D.int) (xv_var 2) m_len) xv_int) xa_nil) (by omega) m_range (by omega)) (fun _ _ _ _ _ => pg_name (i := 4) sc_are_stuck.nd rfl (by first | exact Or.inl rfl | exact Or.inr rfl)) (fun _ _ => gt_name) (fun j hj _ _ _ _ _ => (xv_cmp op_ge v_ge (xv_ix ix_tup (v_ixTT (f := D.int) (atI_getD (by have mj := mem_rng.mp hj; omega) (by have mj := mem_rng.mp hj; omega))) (xv_var 2) (xv_var 4)) (xv_ix ix_tup (v_ixTT (f := D.int) (atI_getD (by have mj := mem_rng.mp hj; omega) (by have mj := mem_rng.mp hj; omega))) (xv_var 2) (xv_bin op_add v_add (xv_var 4) xv_int)))) (by rw [rng_len]; omega) (blkOk_by (N := n_are_stuck) (sc := defScope s_are_stuck) (by decide +kernel)) sc_are_stuck.nd).frz m_any)) (fun h3 => ?_) (fun h3 => ?_))
        ·
          exact xs_cons (xs_retV xv_bl (by rw [stuckV, stuckB, if_neg (ifn h1), if_neg (ifn h2), if_pos h3.symm] at hΦ; exact hΦ))
        ·
          refine xs_nil ?_
          have hl : ∀ {k : Int}, k ∈ l → 0 ≤ k ∧ k < (rules.length : Int) := fun {k} hk => by
            have e : (l.map fun k => (true && ((!false) && ((decide (0 ≤ k)) && (decide (k < (rules.length : Int))))))).all id = true := by
              cases y : (l.map fun k => (true && ((!false) && ((decide (0 ≤ k)) && (decide (k < (rules.length : Int))))))).all id with
              | true => rfl
              | false => rw [y] at h2; cases h2
            have z := List.all_eq_true.mp e _ (List.mem_map.mpr ⟨k, hk, rfl⟩)
            simpa using z
          refine xs_cons (xs_asgV 5 (xo_map (f := D.int) (xs := l) [3] (fun k => [D.int k]) (pT eS eS) (fun k => (rules.getD (k).toNat (.fls, .fls))) [("k", 3)] (xw_tupT (f := D.int) (xv_var 2)) (fun _ _ _ _ _ => pg_name (i := 3) sc_are_stuck.nd rfl (by first | exact Or.inl rfl | exact Or.inr rfl)) (fun _ _ => gt_name) (fun k hk _ _ _ _ _ => (xv_ix ix_list (v_ixLT (f := (pT eS eS)) (atI_getD (hl hk).1 (hl hk).2)) (xv_var 0) (xv_var 3))) (by omega) (blkOk_by (N := n_are_stuck) (sc := defScope s_are_stuck) (by decide +kernel)) sc_are_stuck.nd).frz ?_ sc_are_stuck.nd)
          exact xs_cons (xs_retV (xv_not (xv_any (xo_map (f := (pT eS eS)) (xs := (l.map (getR rules))) [6] (fun rule => [(pT eS eS) rule]) D.bl (fun rule => (isfree rule (l.map (getR rules)) many)) [("rule", 6)] (xw_listT (f := (pT eS eS)) (xv_var 5)) (fun _ _ _ _ _ => pg_name (i := 6) sc_are_stuck.nd rfl (by first | exact Or.inl rfl | exact Or.inr rfl)) (fun _ _ => gt_name) (fun rule hrule _ _ _ _ _ => (xv_call c_is_free (hr.mono (by decide)) (xl_cons (xv_var 6) (xl_cons (xv_var 5) (xl_cons (xv_var 1) xa_nil))) ⟨rule, (l.map (getR rules)), many, rfl, ⟨hm, (getRs_ok hrs (fun _ h => hl h) hll).2 rule hrule, getRs_ok hrs (fun _ h => hl h) hll⟩, rfl⟩)) (by rw [List.length_map]; omega) (blkOk_by (N := n_are_stuck) (sc := defScope s_are_stuck) (by decide +kernel)) sc_are_stuck.nd).frz m_any)) (by rw [stuckV, stuckB, if_neg (ifn h1), if_neg (ifn h2), if_neg (ifn h3)] at hΦ; exact hΦ))
  | mix ll b =>
    refine xs_no (XB.is (xt_w (xb_or (xb_not (xb_val (xv_isi "tuple" (xv_var 2) m_isinstance m_tuple (t := "tuple") (b := true)))) (fun _ => (xw_or1 (xb_cmp op_eq v_eqI (xv_lenT (xv_var 2) m_len) xv_int))))) (@mix_len ll b)) ?_
    have hll : ll.length ≤ 100 := hv
    exact xs_cons (xs_if (XB.is (xb_not (xb_val (xv_all (xo_map (f := fun d : D => d) (xs := ll.map D.int ++ [.bl b]) [3] (fun k => [k]) D.bl (elemB (rules.length : Int)) [("k", 3)] (xw_tupT (f := fun d : D => d) ((xv_var 2).is (by rw [tT, List.map_id']; rfl)) ) (fun _ _ _ _ _ => pg_name (i := 3) sc_are_stuck.nd rfl (by first | exact Or.inl rfl | exact Or.inr rfl)) (fun _ _ => gt_name) (fun k hk _ _ _ _ _ => by
      rcases List.mem_append.mp hk with h | h
      · obtain ⟨i, _, rfl⟩ := List.mem_map.mp h
        exact XV.is (xv_and (xv_isi "int" (xv_var 3) m_isinstance m_int (d := .int i) (t := "int") (b := true)) (fun _ => (xv_and (xv_not (xv_isi "bool" (xv_var 3) m_isinstance m_bool (d := .int i) (t := "int") (b := false))) (fun _ => (xv_one (xv_chain op_le v_le op_lt (fun _ => v_lt) xv_int (xv_var 3) (xv_lenLT (f := (pT eS eS)) (xv_var 0) m_len))))))) rfl
      · have e := List.mem_singleton.mp h
        subst e
        exact XV.is (xv_and (l := false) (xv_isi "int" (xv_var 3) m_isinstance m_int (d := .bl b) (t := "bool") (b := true)) (fun _ => (xv_and (l := false) (xv_not (xv_isi "bool" (xv_var 3) m_isinstance m_bool (d := .bl b) (t := "bool") (b := true))) (fun h => nomatch h)))) rfl) (by rw [List.length_append, List.length_map]; simp only [List.length_cons, List.length_nil]; omega) (blkOk_by (N := n_are_stuck) (sc := defScope s_are_stuck) (by decide +kernel)) sc_are_stuck.nd).frz m_all))) (show _ = true by rw [mix_all rfl]; rfl)) (fun _ => xs_cons (xs_retV xv_bl hΦ)) (fun h => nomatch h))
  | tex s =>
    refine xs_no (XB.is (xt_w (xb_or (xb_not (xb_val (xv_isi "tuple" (xv_var 2) m_isinstance m_tuple (t := "tuple") (b := true)))) (fun _ => (xw_or1 (xb_cmp op_eq v_eqI (xv_lenT (xv_var 2) m_len) xv_int))))) (by simp)) ?_
    exact xs_cons (xs_if (xb_not (xb_val (xv_all (xo_map (f := fun d : D => d) (xs := [.str s]) [3] (fun k => [k]) D.bl (fun _ => false) [("k", 3)] (xw_tupT (f := fun d : D => d) (xv_var 2)) (fun _ _ _ _ _ => pg_name (i := 3) sc_are_stuck.nd rfl (by first | exact Or.inl rfl | exact Or.inr rfl)) (fun _ _ => gt_name) (fun k hk _ _ _ _ _ => by
      have e := List.mem_singleton.mp hk
      subst e
      exact (xv_and (l := false) (xv_isi "int" (xv_var 3) m_isinstance m_int (t := "str") (b := false)) (fun h => nomatch h))) (by simp) (blkOk_by (N := n_are_stuck) (sc := defScope s_are_stuck) (by decide +kernel)) sc_are_stuck.nd).frz m_all))) (fun _ => xs_cons (xs_retV xv_bl hΦ)) (fun h => nomatch h))
  | lis l =>
    exact xs_cons (xs_if (xt_w (xb_or (l := false) (xb_not (xb_val (xv_isi "tuple" (xv_var 2) m_isinstance m_tuple (t := "list") (b := false)))) (fun h => nomatch h))) (fun _ => xs_cons (xs_retV xv_bl hΦ)) (fun h => by cases h))
  | nun =>
    exact xs_cons (xs_if (xt_w (xb_or (l := false) (xb_not (xb_val (xv_isi "tuple" (xv_var 2) m_isinstance m_tuple (t := "NoneType") (b := false)))) (fun h => nomatch h))) (fun _ => xs_cons (xs_retV xv_bl hΦ)) (fun h => by cases h))
  | txt s =>
    exact xs_cons (xs_if (xt_w (xb_or (l := false) (xb_not (xb_val (xv_isi "tuple" (xv_var 2) m_isinstance m_tuple (t := "str") (b := false)))) (fun h => nomatch h))) (fun _ => xs_cons (xs_retV xv_bl hΦ)) (fun h => by cases h))
abbrev s_rank_of_point : Stmt := topS 9
abbrev n_rank_of_point : List Str := ["rules", "told", "point", "k", "j"]
theorem sc_rank_of_point : FnScope n_rank_of_point ["rules", "told", "point"] (defScope s_rank_of_point) := ⟨rfl, rfl, rfl, by decide +kernel, rfl, by decide +kernel, by decide +kernel⟩
theorem ok_rank_of_point {f : Addr} {fd : FuncData} (F : Fun K "rank_of_point" "rank_of_point" s_rank_of_point f fd) (c_breaks : Cal P w K mg base 9 "breaks" ["rule", "point"] (spP K cBreaks)) (m_len : mg "len" = none) (m_range : mg "range" = none) (m_max : mg "max" = none) (m_any : mg "any" = none) : FnOk P w K mg base CX0 (9 + 1) f fd ["rules", "told", "point"] (spP K cRopT) := by
  refine fn_pure F sc_rank_of_point (fun ds Φ ⟨rules, told, p, hd, ⟨⟨mm, hrs, hpl⟩, htl, ht⟩, hΦ⟩ => by rw [hd]; rfl) fun cdv A outer s0 H E hr ds Φ ⟨rules, told, p, hd, ⟨⟨mm, hrs, hpl⟩, htl, ht⟩, hΦ⟩ => ?_
  subst hd
  have hrl := hrs.1
  have hin : ∀ {k : Int}, k ∈ rng 0 (told.length : Int) → told.getD k.toNat [] ∈ told := fun {k} hk => by
    have := mem_rng.mp hk
    rw [List.getD_eq_getElem?_getD, List.getElem?_eq_getElem (by omega)]
    exact List.getElem_mem _
  exact xs_cons (xs_retV (xv_max (xo_catL (f := D.int) (xv_lst (xl_cons xv_int xa_nil)) (xo_lc (f := D.int) (xs := (rng 0 (told.length : Int))) [3] (fun k => [D.int k]) (fun k => (((told.getD (k).toNat []).map fun j1 => (breaks (rules.getD (j1).toNat (.fls, .fls)) p)).any id)) D.int (fun k => (k + 1)) [("k", 3)] (xw_range1 (xl_cons (xv_lenTT (f := (tT D.int)) (xv_var 1) m_len) xa_nil) (by omega) m_range (by omega)) (fun _ _ _ _ _ => pg_name (i := 3) sc_rank_of_point.nd rfl (by first | exact Or.inl rfl | exact Or.inr rfl)) (fun _ _ => gt_name) .one (fun k hk => jt_wb fun _ _ _ _ _ => (xb_val (xv_any (xo_map (f := D.int) (xs := (told.getD (k).toNat [])) [4] (fun j1 => [D.int j1]) D.bl (fun j1 => (breaks (rules.getD (j1).toNat (.fls, .fls)) p)) [("j", 4)] (xw_tupT (f := D.int) (xv_ix ix_tup (v_ixTT (f := (tT D.int)) (atI_getD (by have mk := mem_rng.mp hk; omega) (by have mk := mem_rng.mp hk; omega))) (xv_var 1) (xv_var 3))) (fun _ _ _ _ _ => pg_name (i := 4) sc_rank_of_point.nd rfl (by first | exact Or.inl rfl | exact Or.inr rfl)) (fun _ _ => gt_name) (fun j1 hj1 _ _ _ _ _ => (xv_call c_breaks (hr.mono (by decide)) (xl_cons (xv_ix ix_list (v_ixLT (f := (pT eS eS)) (atI_getD ((ht _ (hin hk)).2 _ hj1).1 ((ht _ (hin hk)).2 _ hj1).2)) (xv_var 0) (xv_var 4)) (xl_cons (xv_var 2) xa_nil)) ⟨(rules.getD (j1).toNat (.fls, .fls)), p, rfl, (by rw [hpl]; exact getR_ok hrs ((ht _ (hin hk)).2 _ hj1).1 ((ht _ (hin hk)).2 _ hj1).2), rfl⟩)) (by have := (ht _ (hin hk)).1; omega) (blkOk_by (N := n_rank_of_point) (sc := (relS _ (defScope s_rank_of_point))) (by decide +kernel)) sc_rank_of_point.nd).frz m_any))) (fun k hk pk _ _ _ _ _ => (xv_bin op_add v_add (xv_var 3) xv_int)) (by rw [rng_len]; omega) (blkOk_by (N := n_rank_of_point) (sc := defScope s_rank_of_point) (by decide +kernel)) sc_rank_of_point.nd).frz (by
      rw [List.length_map]
      have z := List.length_filter_le (fun k : Int => ((told.getD k.toNat []).map fun j1 => (breaks (rules.getD j1.toNat (.fls, .fls)) p)).any id) (rng 0 (told.length : Int))
      rw [rng_len] at z
      simp only [List.length_cons, List.length_nil]
      omega)).frz (by simp) m_max) hΦ)
abbrev s_is_ranks : Stmt := topS 11
abbrev n_is_ranks : List Str := ["value", "many", "one"]
theorem sc_is_ranks : FnScope n_is_ranks ["value", "many"] (defScope s_is_ranks) := ⟨rfl, rfl, rfl, by decide +kernel, rfl, by decide +kernel, by decide +kernel⟩
theorem ok_is_ranks {f : Addr} {fd : FuncData} (F : Fun K "is_ranks" "is_ranks" s_is_ranks f fd) (m_isinstance : mg "isinstance" = none) (m_tuple : mg "tuple" = none) (m_int : mg "int" = none) (m_bool : mg "bool" = none) (m_len : mg "len" = none) (m_all : mg "all" = none) : FnOk P w K mg base CX0 (0 + 1) f fd ["value", "many"] (spP K cIsRanks) := by
  refine fn_pure F sc_is_ranks (fun ds Φ ⟨v, many, hd, ⟨hm, hv⟩, hΦ⟩ => by rw [hd]; rfl) fun cdv A outer s0 H E hr ds Φ ⟨v, many, hd, ⟨hm, hv⟩, hΦ⟩ => ?_
  subst hd
  cases v with
  | nums l =>
    have hll : l.length ≤ 100 := hv
    refine xs_cons (xs_if (xt_w (xb_or (xb_not (xb_val (xv_isi "tuple" (xv_var 0) m_isinstance m_tuple (t := "tuple") (b := true)))) (fun _ => (xw_or1 (xb_cmp op_ne v_neI (xv_lenTT (f := D.int) (xv_var 0) m_len) (xv_bin op_shl (v_shl (i := 1) (j := many) ⟨by omega, by omega, by decide⟩) xv_int (xv_var 1))))))) (fun h1 => ?_) (fun h1 => ?_))
    ·
      exact xs_cons (xs_retV xv_bl (by rw [isRanksV, if_pos h1.symm] at hΦ; exact hΦ))
    ·
      refine xs_nil ?_
      exact xs_cons (xs_retV (xv_all (xo_map (f := D.int) (xs := l) [2] (fun one => [D.int one]) D.bl (fun one => (true && ((!false) && (decide (0 ≤ one))))) [("one", 2)] (xw_tupT (f := D.int) (xv_var 0)) (fun _ _ _ _ _ => pg_name (i := 2) sc_is_ranks.nd rfl (by first | exact Or.inl rfl | exact Or.inr rfl)) (fun _ _ => gt_name) (fun one hone _ _ _ _ _ => (xv_and (xv_isi "int" (xv_var 2) m_isinstance m_int (t := "int") (b := true)) (fun _ => (xv_and (xv_not (xv_isi "bool" (xv_var 2) m_isinstance m_bool (t := "int") (b := false))) (fun _ => (xv_one (xv_cmp op_ge v_ge (xv_var 2) xv_int))))))) (by omega) (blkOk_by (N := n_is_ranks) (sc := defScope s_is_ranks) (by decide +kernel)) sc_is_ranks.nd).frz m_all) (by rw [isRanksV, if_neg (ifn h1)] at hΦ; exact hΦ))
  | mix ll b =>
    have hll : ll.length ≤ 100 := hv
    refine xs_cons (xs_if (xt_w (xb_or (xb_not (xb_val (xv_isi "tuple" (xv_var 0) m_isinstance m_tuple (t := "tuple") (b := true)))) (fun _ => (xw_or1 (xb_cmp op_ne v_neI (xv_lenT (xv_var 0) m_len) (xv_bin op_shl (v_shl (i := 1) (j := many) ⟨by omega, by omega, by decide⟩) xv_int (xv_var 1))))))) (fun _ => xs_cons (xs_retV xv_bl hΦ)) (fun _ => xs_nil ?_))
    exact xs_cons (xs_retV (XV.is (xv_all (xo_map (f := fun d : D => d) (xs := ll.map D.int ++ [.bl b]) [2] (fun k => [k]) D.bl elemR [("one", 2)] (xw_tupT (f := fun d : D => d) ((xv_var 0).is (by rw [tT, List.map_id']; rfl))) (fun _ _ _ _ _ => pg_name (i := 2) sc_is_ranks.nd rfl (by first | exact Or.inl rfl | exact Or.inr rfl)) (fun _ _ => gt_name) (fun k hk _ _ _ _ _ => by
      rcases List.mem_append.mp hk with h | h
      · obtain ⟨i, _, rfl⟩ := List.mem_map.mp h
        exact XV.is (xv_and (xv_isi "int" (xv_var 2) m_isinstance m_int (d := .int i) (t := "int") (b := true)) (fun _ => (xv_and (xv_not (xv_isi "bool" (xv_var 2) m_isinstance m_bool (d := .int i) (t := "int") (b := false))) (fun _ => (xv_one (xv_cmp op_ge v_ge (xv_var 2) xv_int)))))) rfl
      · have e := List.mem_singleton.mp h
        subst e
        exact XV.is (xv_and (l := false) (xv_isi "int" (xv_var 2) m_isinstance m_int (d := .bl b) (t := "bool") (b := true)) (fun _ => (xv_and (l := false) (xv_not (xv_isi "bool" (xv_var 2) m_isinstance m_bool (d := .bl b) (t := "bool") (b := true))) (fun h => nomatch h)))) rfl) (by rw [List.length_append, List.length_map]; simp only [List.length_cons, List.length_nil]; omega) (blkOk_by (N := n_is_ranks) (sc := defScope s_is_ranks) (by decide +kernel)) sc_is_ranks.nd).frz m_all) (by rw [mix_all rfl]; rfl)) hΦ)
  | tex s =>
    refine xs_cons (xs_if (xt_w (xb_or (xb_not (xb_val (xv_isi "tuple" (xv_var 0) m_isinstance m_tuple (t := "tuple") (b := true)))) (fun _ => (xw_or1 (xb_cmp op_ne v_neI (xv_lenT (xv_var 0) m_len) (xv_bin op_shl (v_shl (i := 1) (j := many) ⟨by omega, by omega, by decide⟩) xv_int (xv_var 1))))))) (fun _ => xs_cons (xs_retV xv_bl hΦ)) (fun _ => xs_nil ?_))
    exact xs_cons (xs_retV (XV.is (xv_all (xo_map (f := fun d : D => d) (xs := [.str s]) [2] (fun k => [k]) D.bl (fun _ => false) [("one", 2)] (xw_tupT (f := fun d : D => d) ((xv_var 0).is (by rw [tT, List.map_id']; rfl))) (fun _ _ _ _ _ => pg_name (i := 2) sc_is_ranks.nd rfl (by first | exact Or.inl rfl | exact Or.inr rfl)) (fun _ _ => gt_name) (fun k hk _ _ _ _ _ => by
      have e := List.mem_singleton.mp hk
      subst e
      exact (xv_and (l := false) (xv_isi "int" (xv_var 2) m_isinstance m_int (t := "str") (b := false)) (fun h => nomatch h))) (by simp) (blkOk_by (N := n_is_ranks) (sc := defScope s_is_ranks) (by decide +kernel)) sc_is_ranks.nd).frz m_all) rfl) hΦ)
  | lis l =>
    exact xs_cons (xs_if (xt_w (xb_or (l := false) (xb_not (xb_val (xv_isi "tuple" (xv_var 0) m_isinstance m_tuple (t := "list") (b := false)))) (fun h => nomatch h))) (fun _ => xs_cons (xs_retV xv_bl hΦ)) (fun h => by cases h))
  | nun =>
    exact xs_cons (xs_if (xt_w (xb_or (l := false) (xb_not (xb_val (xv_isi "tuple" (xv_var 0) m_isinstance m_tuple (t := "NoneType") (b := false)))) (fun h => nomatch h))) (fun _ => xs_cons (xs_retV xv_bl hΦ)) (fun h => by cases h))
  | txt s =>
    exact xs_cons (xs_if (xt_w (xb_or (l := false) (xb_not (xb_val (xv_isi "tuple" (xv_var 0) m_isinstance m_tuple (t := "str") (b := false)))) (fun h => nomatch h))) (fun _ => xs_cons (xs_retV xv_bl hΦ)) (fun h => by cases h))
abbrev s_ranks_of : Stmt := topS 10
abbrev n_ranks_of : List Str := ["rules", "many", "told", "point"]
theorem sc_ranks_of : FnScope n_ranks_of ["rules", "many"] (defScope s_ranks_of) := ⟨rfl, rfl, rfl, by decide +kernel, rfl, by decide +kernel, by decide +kernel⟩
theorem ok_ranks_of {f : Addr} {fd : FuncData} (F : Fun K "ranks_of" "ranks_of" s_ranks_of f fd) (c_layers : Cal P w K mg base 12 "layers" ["rules", "many"] (spP K cLayers)) (c_rank_of_point : Cal P w K mg base 10 "rank_of_point" ["rules", "told", "point"] (spP K cRopT)) (c_points_of : Cal P w K mg base 2 "points_of" ["many"] (spP K cPoints)) (m_tuple : mg "tuple" = none) : FnOk P w K mg base CX0 (12 + 1) f fd ["rules", "many"] (spP K cRanksOf) := by
  refine fn_pure F sc_ranks_of (fun ds Φ ⟨rules, many, hd, ⟨hm, hrs⟩, hΦ⟩ => by rw [hd]; rfl) fun cdv A outer s0 H E hr ds Φ ⟨rules, many, hd, ⟨hm, hrs⟩, hΦ⟩ => ?_
  subst hd
  have h8 := points_len8 hm
  refine xs_cons (xs_asgV 2 (xv_call c_layers (hr.mono (by decide)) (xl_cons (xv_var 0) (xl_cons (xv_var 1) xa_nil)) ⟨rules, many, rfl, ⟨hm, hrs⟩, rfl⟩) ?_ sc_ranks_of.nd)
  cases e : layers rules many with
  | no ls =>
    refine xs_cons (xs_if (xb_cmp op_eq v_eqS (xv_ix ix_tup (v_ixT (f := .str "no") rfl) (xv_var 2) xv_int) xv_str) (fun _ => ?_) (fun h => absurd h (by decide +kernel)))
    exact xs_cons (xs_retV xv_non (by rw [ranksOf, e] at hΦ; exact hΦ))
  | yes ls =>
    have hlv := layers_ok hrs e
    refine xs_cons (xs_if (xb_cmp op_eq v_eqS (xv_ix ix_tup (v_ixT (f := .str "yes") rfl) (xv_var 2) xv_int) xv_str) (fun h => absurd h (by decide +kernel)) (fun _ => xs_nil ?_))
    exact xs_cons (xs_retV (xv_tupleL (f := D.int) (xo_map (f := (tT D.int)) (xs := (points many)) [3] (fun point => [(tT D.int) point]) D.int (fun point => (rop rules ls point)) [("point", 3)] (xw_listT (f := (tT D.int)) (xv_call c_points_of (hr.mono (by decide)) (xl_cons (xv_var 1) xa_nil) ⟨many, rfl, hm, rfl⟩)) (fun _ _ _ _ _ => pg_name (i := 3) sc_ranks_of.nd rfl (by first | exact Or.inl rfl | exact Or.inr rfl)) (fun _ _ => gt_name) (fun point hpoint _ _ _ _ _ => (xv_call c_rank_of_point (hr.mono (by decide)) (xl_cons (xv_var 0) (xl_cons (xv_ix ix_tup (v_ixT rfl) (xv_var 2) xv_int) (xl_cons (xv_var 3) xa_nil))) ⟨rules, ls, point, rfl, ⟨⟨many, hrs, points_mem hm hpoint⟩, hlv⟩, rfl⟩)) (by omega) (blkOk_by (N := n_ranks_of) (sc := defScope s_ranks_of) (by decide +kernel)) sc_ranks_of.nd).frz m_tuple) (by rw [ranksOf, e] at hΦ; exact hΦ))
abbrev s_law_free : Stmt := topS 28
abbrev n_law_free : List Str := ["rule", "rules", "many", "some", "point", "one"]
theorem sc_law_free : FnScope n_law_free ["rule", "rules", "many"] (defScope s_law_free) := ⟨rfl, rfl, rfl, by decide +kernel, rfl, by decide +kernel, by decide +kernel⟩
theorem ok_law_free {f : Addr} {fd : FuncData} (F : Fun K "_law_free" "_law_free" s_law_free f fd) (c_law_fits : Cal P w K mg base 8 "_law_fits" ["saying", "point"] (spP K (cFits 8))) (c_law_points : Cal P w K mg base 2 "_law_points" ["many"] (spP K cPoints)) (c_law_breaks : Cal P w K mg base 9 "_law_breaks" ["rule", "point"] (spP K cBreaks)) : FnOk P w K mg base CX0 (9 + 1) f fd ["rule", "rules", "many"] (spP K cFree) := by
  refine fn_pure F sc_law_free (fun ds Φ ⟨r, rules, many, hd, ⟨hm, hr1, hrs⟩, hΦ⟩ => by rw [hd]; rfl) fun cdv A outer s0 H E hr ds Φ ⟨r, rules, many, hd, ⟨hm, hr1, hrs⟩, hΦ⟩ => ?_
  subst hd
  have h8 := points_len8 hm
  have hrl := hrs.1
  have hu64 := hu_64 hr
  rw [← lfree_eq] at hΦ
  have hfl := List.length_filter_le (fun point => fits r.1 point) (points many)
  refine xs_cons (xs_asgLc (f := (tT D.int)) (xs := (points many)) 3 [4] (fun point => [(tT D.int) point]) (fun point => (fits r.1 point)) (tT D.int) (fun point => point) [("point", 4)] (xw_listT (f := (tT D.int)) (xv_call c_law_points (hr.mono (by decide)) (xl_cons (xv_var 2) xa_nil) ⟨many, rfl, hm, rfl⟩)) (fun _ _ _ _ _ => pg_name (i := 4) sc_law_free.nd rfl (by first | exact Or.inl rfl | exact Or.inr rfl)) (fun _ _ => gt_name) .one (fun point hpoint => jt_wb fun _ _ _ _ _ => (xb_val (xv_call c_law_fits (hr.mono (by decide)) (xl_cons (xv_ix ix_tup (v_ixT (f := eS r.1) rfl) (xv_var 0) xv_int) (xl_cons (xv_var 4) xa_nil)) ⟨r.1, point, rfl, hr1.1.1, (by rw [points_mem hm hpoint]; exact hr1.1.2), rfl⟩))) (fun point hpoint ppoint _ _ _ _ _ => (xv_var 4)) (by omega) ?_ (blkOk_by (N := n_law_free) (sc := defScope s_law_free) (by decide +kernel)) sc_law_free.nd (sw_true rfl rfl rfl (by decide +kernel)))
  refine xs_freeze 3 ?_
  refine xs_cons (xs_if (xb_cmp (op_eqD hu64) (v_eq (f := (lT (tT D.int)))) (xv_var 3) xv_nilL) (fun h1 => ?_) (fun h1 => ?_))
  ·
    exact xs_cons (xs_retV xv_bl (by rw [lfree, if_pos h1.symm] at hΦ; exact hΦ))
  ·
    refine xs_nil ?_
    exact xs_cons (xs_retV (xv_cmp (op_neD hu64) (v_ne (f := (lT D.int))) (xo_lc (f := (tT D.int)) (xs := (((points many).filter fun point => (fits r.1 point)).map fun point => point)) [4] (fun point => [(tT D.int) point]) (fun point => ((fits r.2 point) && (decide (((rules.filter fun one1 => (breaks one1 point)).map fun one1 => 1) = [])))) D.int (fun point => 1) [("point", 4)] (xw_listT (f := (tT D.int)) (xv_var 3)) (fun _ _ _ _ _ => pg_name (i := 4) sc_law_free.nd rfl (by first | exact Or.inl rfl | exact Or.inr rfl)) (fun _ _ => gt_name) .one (fun point hpoint => jt_wb fun _ _ _ _ _ => (xt_w (xb_and (xb_val (xv_call c_law_fits (hr.mono (by decide)) (xl_cons (xv_ix ix_tup (v_ixT (f := eS r.2) rfl) (xv_var 0) xv_int) (xl_cons (xv_var 4) xa_nil)) ⟨r.2, point, rfl, hr1.2.1, (by rw [points_mem hm (filt_mem hpoint)]; exact hr1.2.2), rfl⟩)) (fun _ => (xw_and1 (xb_cmp (op_eqD hu64) (v_eq (f := (lT D.int))) (xo_lc (f := (pT eS eS)) (xs := rules) [5] (fun one1 => [(pT eS eS) one1]) (fun one1 => (breaks one1 point)) D.int (fun one1 => 1) [("one", 5)] (xw_listT (f := (pT eS eS)) (xv_var 1)) (fun _ _ _ _ _ => pg_name (i := 5) sc_law_free.nd rfl (by first | exact Or.inl rfl | exact Or.inr rfl)) (fun _ _ => gt_name) .one (fun one1 hone1 => jt_wb fun _ _ _ _ _ => (xb_val (xv_call c_law_breaks (hr.mono (by decide)) (xl_cons (xv_var 5) (xl_cons (xv_var 4) xa_nil)) ⟨one1, point, rfl, (by rw [points_mem hm (filt_mem hpoint)]; exact hrs.2 one1 hone1), rfl⟩))) (fun one1 hone1 pone1 _ _ _ _ _ => xv_int) (by omega) (blkOk_by (N := n_law_free) (sc := (relS _ (defScope s_law_free))) (by decide +kernel)) sc_law_free.nd).frz xv_nilL)))))) (fun point hpoint ppoint _ _ _ _ _ => xv_int) (by rw [List.length_map]; omega) (blkOk_by (N := n_law_free) (sc := defScope s_law_free) (by decide +kernel)) sc_law_free.nd).frz xv_nilL) (by rw [lfree, if_neg (ifn h1)] at hΦ; exact hΦ))
end
end K77

namespace K77
open PySem PySem.Spec PyProof.Rows L2 Evl DL WB
abbrev s_start : Stmt := topS 17
abbrev s_pick : Stmt := topS 18
abbrev s_same : Stmt := topS 19
theorem sc_start : FnScope ["script"] ["script"] (defScope s_start) := ⟨rfl, rfl, rfl, by decide +kernel, rfl, by decide +kernel, by decide +kernel⟩
abbrev n_pick : List Str := ["state", "limit", "cell", "drawn"]
theorem sc_pick : FnScope n_pick ["state", "limit"] (defScope s_pick) := ⟨rfl, rfl, rfl, by decide +kernel, rfl, by decide +kernel, by decide +kernel⟩
section
variable {P : Program} {w : World} {K : PySem.W.Frag} {mg : Str → Option Value} {base : Heap}
theorem ok_start {f : Addr} {fd : FuncData} (F : Fun K "_law_start" "_law_start" s_start f fd) : FnOk P w K mg base CX0 (0 + 1) f fd ["script"] (spN K cStart) :=
  fn_newRet F sc_start (fun ds Φ ⟨ns, h, _⟩ => by rw [h]; rfl) rfl fun cdv A outer s0 H E hr ds Φ ⟨ns, h, hΦ⟩ => by
    subst h
    exact (XN.cast (xo_lst (xl_cons (xv_var 0) (xl_cons xv_int (xl_cons xv_int (xl_cons xv_int xa_nil)))) (by simp)).up fun o ho => ⟨stO, hΦ, fun Hb u r => by
      subst ho
      exact st_in ⟨ns, 0, 0, 7, ⟨by omega, by omega, by omega, by omega⟩, rfl⟩ r⟩)
theorem ok_pick {f : Addr} {fd : FuncData} (F : Fun K "_law_pick" "_law_pick" s_pick f fd) (m_len : mg "len" = none) (m_abs : mg "abs" = none) (m_int : mg "int" = none) : FnOk P w K mg base CX0 (0 + 1) f fd ["state", "limit"] (spE K stO cPick) := by
  refine fn_eff (o := stO) stR (fun Hb u o' h r => st_in h r) F sc_pick (fun ds Φ ⟨l, h, _⟩ => by rw [h]; rfl) fun cdv A outer s0 H E hr ds Φ ⟨limit, hd, ⟨hl, hl2⟩, hΦ⟩ => ?_
  subst hd
  have tail : ∀ ns i r z, stB i r z → XSs (cxF P w K mg base n_pick "_law_pick" s_pick f cdv A outer s0 H E) 1 ((defBody s_pick).drop 1) [.ow (stM ns i r z), .pd (.int limit), .un, .un] { nx := fun Γ' => Φ .non ∧ ∃ o', stR o' ∧ Γ'[0]? = some (.ow o'), rt := fun d Γ' => Φ d ∧ ∃ o', stR o' ∧ Γ'[0]? = some (.ow o') } := fun ns i r z ⟨h1, h2, h3, h4⟩ => by
    refine xs_cons (xs_if (xt_borrow 0 (xb_cmp op_gt v_gt (xv_ix ix_list (v_ixL rfl) (xv_var 0) xv_int) xv_int)) (fun c => ?_) (fun c => ?_))
    · refine xs_cons (xs_asgV 3 (xv_borrow 0 (xv_bin op_mod (v_mod (j := limit) (by omega)) (xv_intI (xv_ix ix_list (v_ixL rfl) (xv_var 0) xv_int) m_int) (xv_var 1))) ?_ sc_pick.nd)
      refine xs_cons (xs_setO 0 2 (xv_borrow 0 (xv_bin op_fdiv (v_fdiv (j := limit) ⟨by omega, by omega⟩) (xv_ix ix_list (v_ixL rfl) (xv_var 0) xv_int) (xv_var 1))) xv_int rfl fun d hd => ?_)
      subst hd
      exact xs_cons (xs_retV (xv_var 3) ⟨hΦ _ (Int.emod_nonneg _ (by omega)) (Int.emod_lt_of_pos _ (by omega)), stM ns i (r / limit) z, ⟨ns, i, r / limit, z, ⟨h1, Int.ediv_nonneg h2 (by omega), h3, h4⟩, rfl⟩, rfl⟩)
    · refine xs_nil ?_
      have b0 := Int.emod_nonneg (z * 48271) (b := 2147483647) (by omega)
      have b1 := Int.emod_lt_of_pos (z * 48271) (b := 2147483647) (by omega)
      refine xs_cons (xs_setO 0 3 (xv_borrow 0 (xv_bin op_mod (v_mod (by omega)) (xv_intI (xv_bin op_mul (v_mul (.inr (by omega))) (xv_ix ix_list (v_ixL rfl) (xv_var 0) xv_int) xv_int) m_int) xv_int)) xv_int rfl fun d hd => ?_)
      subst hd
      exact xs_cons (xs_retV (xv_borrow 0 (xv_bin op_mod (v_mod (j := limit) (by omega)) (xv_intI (xv_bin op_add v_add (xv_bin op_fdiv (v_fdiv ⟨by omega, by omega⟩) (xv_ix ix_list (v_ixL rfl) (xv_var 0) xv_int) xv_int) (xv_bin op_mod (v_mod (by omega)) (xv_intI (xv_bin op_mul (v_mul (i := z * 48271 % 2147483647) (j := z * 48271 % 2147483647) (.inr ⟨by omega, by omega⟩)) (xv_ix ix_list (v_ixL rfl) (xv_var 0) xv_int) (xv_ix ix_list (v_ixL rfl) (xv_var 0) xv_int)) m_int) xv_int)) m_int) (xv_var 1)))
        ⟨hΦ _ (Int.emod_nonneg _ (by omega)) (Int.emod_lt_of_pos _ (by omega)), stM ns i r (z * 48271 % 2147483647), ⟨ns, i, r, _, ⟨h1, h2, b0, by omega⟩, rfl⟩, rfl⟩)
  refine xs_case 0 (P := stR) (fun Hb u r => st_out r) fun o' ⟨ns, i, r, z, hb, ho⟩ => ?_
  subst ho
  obtain ⟨h1, h2, h3, h4⟩ := hb
  refine xs_cons (xs_if (xt_borrow 0 (xt_w (xb_and (xb_cmp op_eq v_eqI (xv_ix ix_list (v_ixL rfl) (xv_var 0) xv_int) xv_int) (fun _ => xw_and1 (xb_cmp op_lt v_lt (xv_ix ix_list (v_ixL rfl) (xv_var 0) xv_int) (xv_lenSc (xv_ix ix_list (v_ixL rfl) (xv_var 0) xv_int) m_len)))))) (fun c => ?_) (fun c => ?_))
  · have c2 : i < ns.length := of_decide_eq_true (Bool.and_eq_true_iff.mp c.symm).2
    refine xs_cons (xs_asgV 2 (d := .int (if ns.getD i.toNat 0 < 0 then -ns.getD i.toNat 0 else ns.getD i.toNat 0)) (xv_borrow 0 (xv_abs (xv_ix ix_list (v_ixSc (atI_getD h1 c2)) (xv_ix ix_list (v_ixL rfl) (xv_var 0) xv_int) (xv_ix ix_list (v_ixL rfl) (xv_var 0) xv_int)) m_abs)) ?_ sc_pick.nd)
    refine xs_cons (xs_setO 0 1 (xv_borrow 0 (xv_bin op_add v_add (xv_ix ix_list (v_ixL rfl) (xv_var 0) xv_int) xv_int)) xv_int rfl fun d hd => ?_)
    subst hd
    refine xs_cons (xs_if (xb_cmp op_ge v_ge (xv_var 2) (xv_bin op_pow (v_pow ⟨by omega, by omega, by decide⟩) xv_int xv_int)) (fun c => ?_) (fun c => ?_))
    · refine xs_cons (xs_setO 0 2 (xv_var 2) xv_int rfl fun d hd => ?_)
      subst hd
      refine xs_nil (xs_nil ((tail ns (i + 1) _ z ⟨by omega, ?_, h3, h4⟩).le (le_eq (le_eq (le_un (le_un le_nil))))))
      split <;> omega
    · refine xs_cons (xs_setO 0 3 (xv_borrow 0 (xv_bin op_add v_add (xv_bin op_mod (v_mod (by omega)) (xv_intI (xv_bin op_add v_add (xv_bin op_mul (v_mul (.inr (by omega))) (xv_ix ix_list (v_ixL rfl) (xv_var 0) xv_int) xv_int) (xv_var 2)) m_int) xv_int) xv_int)) xv_int rfl fun d hd => ?_)
      subst hd
      have b0 := Int.emod_nonneg (z * 48271 + (if ns.getD i.toNat 0 < 0 then -ns.getD i.toNat 0 else ns.getD i.toNat 0)) (b := 2147483646) (by omega)
      have b1 := Int.emod_lt_of_pos (z * 48271 + (if ns.getD i.toNat 0 < 0 then -ns.getD i.toNat 0 else ns.getD i.toNat 0)) (b := 2147483646) (by omega)
      exact xs_nil (xs_nil ((tail ns (i + 1) r _ ⟨by omega, h2, by omega, by omega⟩).le (le_eq (le_eq (le_un (le_un le_nil))))))
  · exact xs_nil ((tail ns i r z ⟨h1, h2, h3, h4⟩).le (le_eq (le_eq (le_un (le_un le_nil)))))

abbrev n_same : List Str := ["told", "due", "k"]
theorem sc_same : FnScope n_same ["told", "due"] (defScope s_same) := ⟨rfl, rfl, rfl, by decide +kernel, rfl, by decide +kernel, by decide +kernel⟩
theorem nil_same {l : List D} (f : Int → Int) : (((rng 0 (l.length : Int)).filter fun _ => !true).map f) = [] := by simp
theorem ok_same {f : Addr} {fd : FuncData} {n : Nat} (F : Fun K "_law_same" "_law_same" s_same f fd) (G : Cal P w K mg base n "_law_same" ["told", "due"] (spP K (cSame n))) (m_len : mg "len" = none) (m_range : mg "range" = none) (m_isinstance : mg "isinstance" = none) (m_bool : mg "bool" = none) (m_int : mg "int" = none) (m_str : mg "str" = none) (m_list : mg "list" = none) (m_tuple : mg "tuple" = none) : FnOk P w K mg base CX0 (n + 1) f fd ["told", "due"] (spP K (cSame (n + 1))) := by
  refine fn_pure F sc_same (fun ds Φ ⟨d, h, _⟩ => by rw [h]; rfl) fun cdv A outer s0 H E hr ds Φ ⟨d, hd, ⟨m, hm, hs⟩, hΦ⟩ => ?_
  subst hd
  have hu64 := hu_64 hr
  cases d with
  | non =>
    refine xs_cons (xs_if (xb_cmp op_isN (v_isN (d := .non)) (xv_var 1) xv_non) (fun _ => ?_) (fun h => nomatch h))
    exact xs_cons (xs_retV (xv_cmp op_isN (v_isN (d := .non)) (xv_var 0) xv_non) hΦ)
  | bl b =>
    refine xs_cons (xs_if (xb_cmp op_isN (v_isN (d := .bl b)) (xv_var 1) xv_non) (fun h => nomatch h) (fun _ => xs_nil ?_))
    refine xs_cons (xs_if (xb_val (xv_isi "bool" (xv_var 1) m_isinstance m_bool (b := true))) (fun _ => ?_) (fun h => nomatch h))
    exact xs_cons (xs_retV (xv_and (xv_isi "bool" (xv_var 0) m_isinstance m_bool (b := true)) (fun _ => xv_one (xv_cmp op_eq v_eqB (xv_var 0) (xv_var 1)))) (by simpa using hΦ))
  | int i =>
    refine xs_cons (xs_if (xb_cmp op_isN (v_isN (d := .int i)) (xv_var 1) xv_non) (fun h => nomatch h) (fun _ => xs_nil ?_))
    refine xs_cons (xs_if (xb_val (xv_isi "bool" (xv_var 1) m_isinstance m_bool (b := false))) (fun h => nomatch h) (fun _ => xs_nil ?_))
    refine xs_cons (xs_if (xb_val (xv_isi "int" (xv_var 1) m_isinstance m_int (b := true))) (fun _ => ?_) (fun h => nomatch h))
    exact xs_cons (xs_retV (xv_and (xv_isi "int" (xv_var 0) m_isinstance m_int (b := true)) (fun _ => xv_and (xv_not (xv_isi "bool" (xv_var 0) m_isinstance m_bool (b := false))) (fun _ => xv_one (xv_cmp op_eq v_eqI (xv_var 0) (xv_var 1))))) (by simpa using hΦ))
  | str i =>
    refine xs_cons (xs_if (xb_cmp op_isN (v_isN (d := .str i)) (xv_var 1) xv_non) (fun h => nomatch h) (fun _ => xs_nil ?_))
    refine xs_cons (xs_if (xb_val (xv_isi "bool" (xv_var 1) m_isinstance m_bool (b := false))) (fun h => nomatch h) (fun _ => xs_nil ?_))
    refine xs_cons (xs_if (xb_val (xv_isi "int" (xv_var 1) m_isinstance m_int (b := false))) (fun h => nomatch h) (fun _ => xs_nil ?_))
    refine xs_cons (xs_if (xb_val (xv_isi "str" (xv_var 1) m_isinstance m_str (b := true))) (fun _ => ?_) (fun h => nomatch h))
    exact xs_cons (xs_retV (xv_and (xv_isi "str" (xv_var 0) m_isinstance m_str (b := true)) (fun _ => xv_one (xv_cmp op_eq v_eqS (xv_var 0) (xv_var 1)))) (by simpa using hΦ))
  | lst l =>
    cases m with
    | zero => cases hs
    | succ m =>
      cases hm
      have hl := hs.1
      refine xs_cons (xs_if (xb_cmp op_isN (v_isN (d := .lst l)) (xv_var 1) xv_non) (fun h => nomatch h) (fun _ => xs_nil ?_))
      refine xs_cons (xs_if (xb_val (xv_isi "bool" (xv_var 1) m_isinstance m_bool (b := false))) (fun h => nomatch h) (fun _ => xs_nil ?_))
      refine xs_cons (xs_if (xb_val (xv_isi "int" (xv_var 1) m_isinstance m_int (b := false))) (fun h => nomatch h) (fun _ => xs_nil ?_))
      refine xs_cons (xs_if (xb_val (xv_isi "str" (xv_var 1) m_isinstance m_str (b := false))) (fun h => nomatch h) (fun _ => xs_nil ?_))
      refine xs_cons (xs_if (xt_w (xb_or (xt_w (xb_and (xb_val (xv_isi "list" (xv_var 1) m_isinstance m_list (b := true))) (fun _ => xw_and1 (xb_not (xb_val (xv_isi "list" (xv_var 0) m_isinstance m_list (b := true))))))) (fun _ => xw_or1 (xt_w (xb_and (l := false) (xb_val (xv_isi "tuple" (xv_var 1) m_isinstance m_tuple (b := false))) (fun h => nomatch h)))))) (fun h => nomatch h) (fun _ => xs_nil ?_))
      exact xs_cons (xs_retV (xv_and (xv_cmp op_eq v_eqI (xv_lenL (xv_var 0) m_len) (xv_lenL (xv_var 1) m_len)) (fun _ => xv_one (xv_cmp (op_eqD hu64) (v_eq (f := lT D.int)) (xo_lc (f := D.int) (xs := rng 0 (l.length : Int)) [2] (fun k => [D.int k]) (fun _ => !true) D.int (fun _ => 1) [("k", 2)] (xw_range1 (xl_cons (xv_lenL (xv_var 1) m_len) xa_nil) (by omega) m_range (by omega)) (fun _ _ _ _ _ => pg_name (i := 2) sc_same.nd rfl (by first | exact Or.inl rfl | exact Or.inr rfl)) (fun _ _ => gt_name) .one (fun k hk => jt_wb fun _ _ _ _ _ => (xb_not (xb_val (xv_call G hr (xl_cons (xv_ix ix_list (v_ixL (atI_get (mem_rng.mp hk).1 (mem_rng.mp hk).2)) (xv_var 0) (xv_var 2)) (xl_cons (xv_ix ix_list (v_ixL (atI_get (mem_rng.mp hk).1 (mem_rng.mp hk).2)) (xv_var 1) (xv_var 2)) xa_nil)) ⟨_, rfl, ⟨m, rfl, hs.2 _ (get_in (mem_rng.mp hk).1 (mem_rng.mp hk).2)⟩, rfl⟩)))) (fun k hk pk _ _ _ _ _ => xv_int) (by rw [rng_len]; omega) (blkOk_by (N := n_same) (sc := defScope s_same) (by decide +kernel)) sc_same.nd).frz xv_nilL))) (by rw [nil_same]; simpa using hΦ))
  | tup l =>
    cases m with
    | zero => cases hs
    | succ m =>
      cases hm
      have hl := hs.1
      refine xs_cons (xs_if (xb_cmp op_isN (v_isN (d := .tup l)) (xv_var 1) xv_non) (fun h => nomatch h) (fun _ => xs_nil ?_))
      refine xs_cons (xs_if (xb_val (xv_isi "bool" (xv_var 1) m_isinstance m_bool (b := false))) (fun h => nomatch h) (fun _ => xs_nil ?_))
      refine xs_cons (xs_if (xb_val (xv_isi "int" (xv_var 1) m_isinstance m_int (b := false))) (fun h => nomatch h) (fun _ => xs_nil ?_))
      refine xs_cons (xs_if (xb_val (xv_isi "str" (xv_var 1) m_isinstance m_str (b := false))) (fun h => nomatch h) (fun _ => xs_nil ?_))
      refine xs_cons (xs_if (xt_w (xb_or (xt_w (xb_and (l := false) (xb_val (xv_isi "list" (xv_var 1) m_isinstance m_list (b := false))) (fun h => nomatch h))) (fun _ => xw_or1 (xt_w (xb_and (xb_val (xv_isi "tuple" (xv_var 1) m_isinstance m_tuple (b := true))) (fun _ => xw_and1 (xb_not (xb_val (xv_isi "tuple" (xv_var 0) m_isinstance m_tuple (b := true)))))))))) (fun h => nomatch h) (fun _ => xs_nil ?_))
      exact xs_cons (xs_retV (xv_and (xv_cmp op_eq v_eqI (xv_lenT (xv_var 0) m_len) (xv_lenT (xv_var 1) m_len)) (fun _ => xv_one (xv_cmp (op_eqD hu64) (v_eq (f := lT D.int)) (xo_lc (f := D.int) (xs := rng 0 (l.length : Int)) [2] (fun k => [D.int k]) (fun _ => !true) D.int (fun _ => 1) [("k", 2)] (xw_range1 (xl_cons (xv_lenT (xv_var 1) m_len) xa_nil) (by omega) m_range (by omega)) (fun _ _ _ _ _ => pg_name (i := 2) sc_same.nd rfl (by first | exact Or.inl rfl | exact Or.inr rfl)) (fun _ _ => gt_name) .one (fun k hk => jt_wb fun _ _ _ _ _ => (xb_not (xb_val (xv_call G hr (xl_cons (xv_ix ix_tup (v_ixT (atI_get (mem_rng.mp hk).1 (mem_rng.mp hk).2)) (xv_var 0) (xv_var 2)) (xl_cons (xv_ix ix_tup (v_ixT (atI_get (mem_rng.mp hk).1 (mem_rng.mp hk).2)) (xv_var 1) (xv_var 2)) xa_nil)) ⟨_, rfl, ⟨m, rfl, hs.2 _ (get_in (mem_rng.mp hk).1 (mem_rng.mp hk).2)⟩, rfl⟩)))) (fun k hk pk _ _ _ _ _ => xv_int) (by rw [rng_len]; omega) (blkOk_by (N := n_same) (sc := defScope s_same) (by decide +kernel)) sc_same.nd).frz xv_nilL))) (by rw [nil_same]; simpa using hΦ))
  | ins C ns l => cases m <;> cases hs
  | dic ks l => cases m <;> cases hs
  | sc ns => cases m <;> cases hs

end
abbrev s_saying : Stmt := topS 22
abbrev n_saying : List Str := ["state", "letters", "depth", "boxes", "kind", "first"]
theorem sc_saying : FnScope n_saying ["state", "letters", "depth", "boxes"] (defScope s_saying) := ⟨rfl, rfl, rfl, by decide +kernel, rfl, by decide +kernel, by decide +kernel⟩
section
variable {P : Program} {w : World} {K : PySem.W.Frag} {mg : Str → Option Value} {base : Heap}
theorem ok_saying {f : Addr} {fd : FuncData} {n : Nat} (F : Fun K "_law_saying" "_law_saying" s_saying f fd) (G : Cal P w K mg base (n + 1) "_law_saying" ["state", "letters", "depth", "boxes"] (spE K stO (cSay n))) (c_pick : Cal P w K mg base 1 "_law_pick" ["state", "limit"] (spE K stO cPick)) (m_int : mg "int" = none) : FnOk P w K mg base CX0 (n + 2) f fd ["state", "letters", "depth", "boxes"] (spE K stO (cSay (n + 1))) := by
  refine fn_eff (o := stO) (fun o => o = stO) (fun Hb u o' h r => h ▸ r) F sc_saying (fun ds Φ ⟨_, _, h, _⟩ => by rw [h]; rfl) fun cdv A outer s0 H E hr ds Φ ⟨letters, depth, hd, ⟨hl, hl2, hd0, hd1⟩, hΦ⟩ => ?_
  subst hd
  have hr1 := hr.mono (by omega : 1 ≤ n + 1)
  refine xs_cons (xs_asg 4 (xe_pick 0 c_pick hr1 xv_int ⟨by omega, by omega⟩) (fun d ⟨kind, hd, k0, k8⟩ => ?_) sc_saying.nd)
  subst hd
  refine xs_cons (xs_if (xt_w (xb_or (xb_cmp op_eq v_eqI (xv_var 2) xv_int) (fun _ => xw_or1 (xb_cmp op_eq v_eqI (xv_var 4) xv_int)))) (fun _ => ?_) (fun c0 => xs_nil ?_))
  · refine xs_cons (xs_if (Φ := fun _ => True) (xt_eqI (xe_pick 0 c_pick hr1 xv_int ⟨by omega, by omega⟩) xv_int (fun _ _ _ => trivial)) (fun _ => ?_) (fun _ => xs_nil ?_))
    · exact xs_cons (xs_retV (xv_tup (xl_cons xv_str xa_nil)) ⟨hΦ .fls (by simpa [Sy.dep] using hd0) trivial, stO, rfl, rfl⟩)
    · exact xs_cons (xs_ret (xe_tup (Φ := fun ds => ∃ v, ds = [.str "letter", .int v] ∧ 0 ≤ v ∧ v < letters) (Ψ := fun d => ∃ v, d = .tup [.str "letter", .int v] ∧ 0 ≤ v ∧ v < letters) (xa_then xv_str (xa_one (Ψ := fun ds => ∃ v, ds = [.int v] ∧ 0 ≤ v ∧ v < letters) (xe_pick 0 c_pick hr1 (xv_var 1) ⟨by omega, by omega⟩) (fun d ⟨v, h, h0⟩ => ⟨v, by rw [h], h0⟩)) (fun ds ⟨v, h, h0⟩ => ⟨v, by rw [h], h0⟩)) (fun ds ⟨v, h, h0⟩ => ⟨v, by rw [h], h0⟩) (by decide) (fun ds ⟨v, h, _⟩ => by rw [h]; simp)) (fun d ⟨v, h, h0⟩ => by
        refine ⟨?_, stO, rfl, rfl⟩
        subst h
        exact hΦ (.letter v) (by simpa [Sy.dep] using hd0) h0))
  have c1 : ¬ depth = 0 := fun z => by
    have := (Bool.or_eq_false_iff.mp c0.symm).1
    exact of_decide_eq_false this z
  have sub : ∀ {p pn p1 p2 : Pos} {e3 : Expr} {Γ : List Sl}, True := fun {_ _ _ _ _ _} => trivial
  refine xs_cons (xs_if (xb_cmp op_eq v_eqI (xv_var 4) xv_int) (fun _ => ?_) (fun _ => xs_nil ?_))
  · exact xs_cons (xs_ret (xe_tup (Φ := fun ds => ∃ a : Sy, ds = [.str "not", eS a] ∧ (a.dep : Int) ≤ depth - 1 ∧ a.lt letters) (Ψ := fun d => ∃ a : Sy, d = .tup [.str "not", eS a] ∧ (a.dep : Int) ≤ depth - 1 ∧ a.lt letters) (xa_then xv_str (xa_one (Ψ := fun ds => ∃ a : Sy, ds = [eS a] ∧ (a.dep : Int) ≤ depth - 1 ∧ a.lt letters) (xe_callE 0 (Φ := fun d => ∃ a : Sy, d = eS a ∧ (a.dep : Int) ≤ depth - 1 ∧ a.lt letters) G hr (xl_cons (xv_var 1) (xl_cons (xv_bin op_sub v_sub (xv_var 2) xv_int) (xl_cons (xv_var 3) xa_nil))).up (fun ds h => ⟨letters, depth - 1, h, ⟨hl, hl2, by omega, by omega⟩, fun s h1 h2 => ⟨s, rfl, h1, h2⟩⟩)) (fun d ⟨a, h, h0⟩ => ⟨a, by rw [h], h0⟩)) (fun ds ⟨a, h, h0⟩ => ⟨a, by rw [h], h0⟩)) (fun ds ⟨v, h, h0⟩ => ⟨v, by rw [h], h0⟩) (by decide) (fun ds ⟨v, h, _⟩ => by rw [h]; simp)) (fun d ⟨a, h, h0, h1⟩ => by
        refine ⟨?_, stO, rfl, rfl⟩
        subst h
        exact hΦ (.neg a) (by simp only [Sy.dep]; omega) h1))
  refine xs_cons (xs_if (xt_w (xb_and (xb_cmp op_lt v_lt (xv_var 4) xv_int) (fun _ => xw_and1 (xb_val (xv_var 3))))) (fun h => ?_) (fun _ => xs_nil ?_))
  · simp at h
  refine xs_cons (xs_asg 5 (xe_callE 0 (Φ := fun d => ∃ a : Sy, d = eS a ∧ (a.dep : Int) ≤ depth - 1 ∧ a.lt letters) G hr (xl_cons (xv_var 1) (xl_cons (xv_bin op_sub v_sub (xv_var 2) xv_int) (xl_cons (xv_var 3) xa_nil))).up (fun ds h => ⟨letters, depth - 1, h, ⟨hl, hl2, by omega, by omega⟩, fun s h1 h2 => ⟨s, rfl, h1, h2⟩⟩)) (fun d ⟨a, hd, a1, a2⟩ => ?_) sc_saying.nd)
  subst hd
  have ops : ∃ opn : Str, atI [D.str "and", D.str "or", D.str "if"] (kind % 3) = some (.str opn) ∧ ∀ b : Sy, (b.dep : Int) ≤ depth - 1 → b.lt letters → Φ (.tup [.str opn, eS a, eS b]) := by
    have e : kind % 3 = 0 ∨ kind % 3 = 1 ∨ kind % 3 = 2 := by omega
    rcases e with e | e | e <;> rw [e]
    · exact ⟨"and", rfl, fun b b1 b2 => hΦ (.and a b) (by simp only [Sy.dep]; omega) ⟨a2, b2⟩⟩
    · exact ⟨"or", rfl, fun b b1 b2 => hΦ (.or a b) (by simp only [Sy.dep]; omega) ⟨a2, b2⟩⟩
    · exact ⟨"if", rfl, fun b b1 b2 => hΦ (.imp a b) (by simp only [Sy.dep]; omega) ⟨a2, b2⟩⟩
  obtain ⟨opn, ho, hop⟩ := ops
  exact xs_cons (xs_ret (xe_tup (Φ := fun ds => ∃ b : Sy, ds = [.str opn, eS a, eS b] ∧ (b.dep : Int) ≤ depth - 1 ∧ b.lt letters) (Ψ := fun d => ∃ b : Sy, d = .tup [.str opn, eS a, eS b] ∧ (b.dep : Int) ≤ depth - 1 ∧ b.lt letters) (xa_then (xv_ix ix_list (v_ixL ho) (xv_lst (xl_cons xv_str (xl_cons xv_str (xl_cons xv_str xa_nil)))) (xv_bin op_mod (v_mod (by omega)) (xv_intI (xv_var 4) m_int) xv_int)) (xa_then (Ψ := fun ds => ∃ b : Sy, ds = [eS a, eS b] ∧ (b.dep : Int) ≤ depth - 1 ∧ b.lt letters) (xv_var 5) (xa_one (Ψ := fun ds => ∃ a : Sy, ds = [eS a] ∧ (a.dep : Int) ≤ depth - 1 ∧ a.lt letters) (xe_callE 0 (Φ := fun d => ∃ a : Sy, d = eS a ∧ (a.dep : Int) ≤ depth - 1 ∧ a.lt letters) G hr (xl_cons (xv_var 1) (xl_cons (xv_bin op_sub v_sub (xv_var 2) xv_int) (xl_cons (xv_var 3) xa_nil))).up (fun ds h => ⟨letters, depth - 1, h, ⟨hl, hl2, by omega, by omega⟩, fun s h1 h2 => ⟨s, rfl, h1, h2⟩⟩)) (fun d ⟨a, h, h0⟩ => ⟨a, by rw [h], h0⟩)) (fun ds ⟨b, h, h0⟩ => ⟨b, by rw [h], h0⟩)) (fun ds ⟨b, h, h0⟩ => ⟨b, by rw [h], h0⟩)) (fun ds ⟨v, h, h0⟩ => ⟨v, by rw [h], h0⟩) (by decide) (fun ds ⟨v, h, _⟩ => by rw [h]; simp)) (fun d ⟨b, h, h0, h1⟩ => by
    refine ⟨?_, stO, rfl, rfl⟩
    subst h
    exact hop b h0 h1))
end
section
variable {P : Program} {w : World} {K : PySem.W.Frag} {mg : Str → Option Value} {base : Heap}
theorem cal_saying (D : Dd K mg "_law_saying" s_saying ["state", "letters", "depth", "boxes"]) (c_pick : Cal P w K mg base 1 "_law_pick" ["state", "limit"] (spE K stO cPick)) (m_int : mg "int" = none) : ∀ n, Cal P w K mg base (n + 1) "_law_saying" ["state", "letters", "depth", "boxes"] (spE K stO (cSay n))
  | 0 => Cal.of D fun _ => fn_absurd fun vs H Q E ⟨a, ws, ds, Φ, Hb, u, _, ⟨_, _, _, ⟨_, _, h0, h1⟩, _⟩, _⟩ => by omega
  | n + 1 => Cal.of D fun F => ok_saying F (cal_saying D c_pick m_int n) c_pick m_int
end
end K77

namespace K77
open PySem PySem.Spec PyProof.Rows L2 Evl DL WB
section
variable {P : Program} {w : World} {K : PySem.W.Frag} {mg : Str → Option Value} {base : Heap}
abbrev s_rules : Stmt := topS 27
abbrev n_rules : List Str := ["state", "many", "most", "found", "k", "rule", "side", "one"]
theorem sc_rules : FnScope n_rules ["state", "many", "most"] (defScope s_rules) := ⟨rfl, rfl, rfl, by decide +kernel, rfl, by decide +kernel, by decide +kernel⟩
theorem ok_rules {f : Addr} {fd : FuncData} (F : Fun K "_law_rules" "_law_rules" s_rules f fd) (c_pick : Cal P w K mg base 1 "_law_pick" ["state", "limit"] (spE K stO cPick)) (c_saying : Cal P w K mg base 4 "_law_saying" ["state", "letters", "depth", "boxes"] (spE K stO (cSay 3))) (m_range : mg "range" = none) : FnOk P w K mg base CX0 (4 + 1) f fd ["state", "many", "most"] (spE K stO cRules) := by
  refine fn_eff (o := stO) (fun o => o = stO) (fun Hb u o' h r => h ▸ r) F sc_rules (fun ds Φ ⟨_, _, h, _⟩ => by rw [h]; rfl) fun cdv A outer s0 H E hr ds Φ ⟨many, most, hd, ⟨hm, hm0, hm1⟩, hΦ⟩ => ?_
  subst hd
  have hr1 := hr.mono (by decide : 1 ≤ 4)
  refine xs_cons (xs_asgO 3 (xo_lst (ds := []) xa_nil) ?_ sc_rules.nd)
  refine xs_loopD (js := [4]) (fun rules : List Rule => [.ow stO, .pd (.int many), .pd (.int most), .ow (.ml (rules.map (pT eS eS))), .un, .un, .un, .un]) (fun n rules => rules.length = n ∧ smallRs many rules) [] (xi_range1D (xe_pick 0 c_pick hr1 (xv_bin op_add v_add (xv_var 2) xv_int) ⟨by omega, by omega⟩) (by omega) m_range) (pg_name (i := 4) sc_rules.nd rfl (by first | exact Or.inl rfl | exact Or.inr rfl)) (fun _ => gt_name) (by repeat (first | exact le_nil | refine le_eq ?_ | refine le_un ?_)) ⟨rfl, fun r h => nomatch h⟩ (fun i rules hi ⟨hlen, hok⟩ => ?_) (fun n rules hn ⟨hlen, hok⟩ => ?_) PassesOwn.never
  · have hsz : (rules.map (pT eS eS)).length < 100000 := by rw [List.length_map]; omega
    refine xs_cons (xs_if (Φ := fun _ => True) (xt_eqI (xe_pick 0 c_pick hr1 xv_int ⟨by omega, by omega⟩) xv_int (fun _ _ _ => trivial)) (fun _ => ?_) (fun _ => ?_))
    · refine xs_cons (xs_asgO 5 (xo_lst (ds := []) xa_nil) ?_ sc_rules.nd)
      refine xs_loopI (f := D.int) (xs := rng 0 2) (js := [6]) (fun side => [D.int side]) (fun l : List Sy => [.ow stO, .pd (.int many), .pd (.int most), .ow (.ml (rules.map (pT eS eS))), .un, .ow (.ml (l.map eS)), .un, .un]) (fun n l => l.length = n ∧ ∀ s ∈ l, small many s) [] (xw_range1 (xl_cons xv_int xa_nil) (by omega) m_range (by omega)) (pg_name (i := 6) sc_rules.nd rfl (by first | exact Or.inl rfl | exact Or.inr rfl)) (fun _ _ => gt_name) (by repeat (first | exact le_nil | refine le_eq ?_ | refine le_un ?_)) ⟨rfl, fun r h => nomatch h⟩ (fun j side l hj ⟨ll, lok⟩ => ?_) (fun l ⟨ll, lok⟩ => ?_) PassesOwn.never
      · have hj2 : j < 2 := by
          have := (List.getElem?_eq_some_iff.mp hj).1
          rwa [rng_len] at this
        have hsz2 : (l.map eS).length < 100000 := by rw [List.length_map]; omega
        refine xs_cons (xs_asg 7 (xe_tup (Φ := fun ds => ∃ v, ds = [.str "letter", .int v] ∧ 0 ≤ v ∧ v < many) (Ψ := fun d => ∃ v, d = eS (.letter v) ∧ 0 ≤ v ∧ v < many) (xa_then xv_str (xa_one (Ψ := fun ds => ∃ v, ds = [.int v] ∧ 0 ≤ v ∧ v < many) (xe_pick 0 c_pick hr1 (xv_var 1) ⟨by omega, by omega⟩) (fun d ⟨v, h, h0⟩ => ⟨v, by rw [h], h0⟩)) (fun ds ⟨v, h, h0⟩ => ⟨v, by rw [h], h0⟩)) (fun ds ⟨v, h, h0⟩ => ⟨v, by rw [h]; rfl, h0⟩) (by decide) (fun ds ⟨v, h, _⟩ => by rw [h]; simp)) (fun d ⟨v, hd, hv⟩ => ?_) sc_rules.nd)
        subst hd
        refine xs_cons (xs_app 5 (xe_ixD (f := eS) (l := [.letter v, .neg (.letter v)]) (Ψ := fun d => ∃ s, d = eS s ∧ small many s) (xv_lst (xl_cons (xv_var 7) (xl_cons (xv_tup (hl := by simp) (xl_cons xv_str (xl_cons (xv_var 7) xa_nil))) xa_nil)) (by simp)) (xe_pick 0 c_pick hr1 xv_int ⟨by omega, by omega⟩) (by simp) (fun s hs => by
          simp only [List.mem_cons, List.not_mem_nil, or_false] at hs
          rcases hs with rfl | rfl
          · exact ⟨_, rfl, by simp [Sy.dep], hv⟩
          · exact ⟨_, rfl, by simp [Sy.dep], hv⟩)) (fun d ⟨s, hd, hs⟩ => ?_) hsz2)
        subst hd
        refine xs_nil ⟨l ++ [s], ⟨by rw [List.length_append, ll]; rfl, fun x hx => ?_⟩, ?_⟩
        · rcases List.mem_append.mp hx with hx | hx
          · exact lok x hx
          · rw [List.mem_singleton.mp hx]; exact hs
        · rw [List.map_append]
          repeat (first | exact le_nil | refine le_eq ?_ | refine le_un ?_)
      · refine xs_freeze 5 ?_
        have n2 : l.length = 2 := by rw [ll, rng_len]; rfl
        have h0 : small many (l.getD 0 .fls) := lok _ (by rw [List.getD_eq_getElem?_getD, List.getElem?_eq_getElem (by omega)]; exact List.getElem_mem _)
        have h1 : small many (l.getD 1 .fls) := lok _ (by rw [List.getD_eq_getElem?_getD, List.getElem?_eq_getElem (by omega)]; exact List.getElem_mem _)
        refine xs_cons (xs_app 3 (xv_tup (hl := by simp) (xl_cons (xv_ix ix_list (v_ixLT (f := eS) (l := l) (i := 0) (atI_getD (d := Sy.fls) (by omega) (by omega))) (xv_var 5) xv_int) (xl_cons (xv_ix ix_list (v_ixLT (f := eS) (l := l) (i := 1) (atI_getD (d := Sy.fls) (by omega) (by omega))) (xv_var 5) xv_int) xa_nil))) (fun d hd => ?_) hsz)
        subst hd
        refine xs_nil (xs_nil ⟨rules ++ [(l.getD 0 .fls, l.getD 1 .fls)], ⟨by rw [List.length_append, hlen]; rfl, fun r hr' => ?_⟩, ?_⟩)
        · rcases List.mem_append.mp hr' with hx | hx
          · exact hok r hx
          · rw [List.mem_singleton.mp hx]; exact ⟨h0, h1⟩
        · rw [List.map_append]
          repeat (first | exact le_nil | refine le_eq ?_ | refine le_un ?_)
    · refine xs_cons (xs_app 3 (xe_tup (Φ := fun ds => ∃ r : Rule, ds = [eS r.1, eS r.2] ∧ smallR many r) (Ψ := fun d => ∃ r : Rule, d = pT eS eS r ∧ smallR many r) (xa_cons (Φ := fun ds => ∃ r : Rule, ds = [eS r.1, eS r.2] ∧ smallR many r) (xe_callE 0 (Φ := fun d => ∃ a : Sy, d = eS a ∧ small many a) c_saying hr (xl_cons (xv_var 1) (xl_cons xv_int (xl_cons xv_bl xa_nil))).up (fun ds h => ⟨many, 2, h, ⟨by omega, by omega, by omega, by omega⟩, fun s h1 h2 => ⟨s, rfl, by omega, h2⟩⟩)) (fun _ _ => xa_one (Ψ := fun ds => ∃ a : Sy, ds = [eS a] ∧ small many a) (xe_callE 0 (Φ := fun d => ∃ a : Sy, d = eS a ∧ small many a) c_saying hr (xl_cons (xv_var 1) (xl_cons xv_int (xl_cons xv_bl xa_nil))).up (fun ds h => ⟨many, 2, h, ⟨by omega, by omega, by omega, by omega⟩, fun s h1 h2 => ⟨s, rfl, by omega, h2⟩⟩)) (fun d ⟨a, h, h0⟩ => ⟨a, by rw [h], h0⟩)) (fun d ds ⟨a, h1, h2⟩ ⟨b, k1, k2⟩ => ⟨(a, b), by rw [h1, k1], h2, k2⟩)) (fun ds ⟨r, h, h0⟩ => ⟨r, by rw [h]; rfl, h0⟩) (by decide) (fun ds ⟨v, h, _⟩ => by rw [h]; simp)) (fun d ⟨r, hd, hr'⟩ => ?_) hsz)
      subst hd
      refine xs_nil (xs_nil ⟨rules ++ [r], ⟨by rw [List.length_append, hlen]; rfl, fun x hx => ?_⟩, ?_⟩)
      · rcases List.mem_append.mp hx with hx | hx
        · exact hok x hx
        · rw [List.mem_singleton.mp hx]; exact hr'
      · rw [List.map_append]
        repeat (first | exact le_nil | refine le_eq ?_ | refine le_un ?_)
  · refine xs_freeze 3 ?_
    exact xs_cons (xs_retV (xv_var 3) ⟨hΦ rules (by omega) hok, stO, rfl, rfl⟩)

end
end K77

namespace K77
open PySem PySem.Spec PyProof.Rows L2 Evl DL WB
section
variable {P : Program} {w : World} {K : PySem.W.Frag} {mg : Str → Option Value} {base : Heap}
abbrev s_law_ranks : Stmt := topS 29
abbrev n_law_ranks : List Str := ["many", "most", "found", "point", "longer", "one", "rank"]
theorem sc_law_ranks : FnScope n_law_ranks ["many", "most"] (defScope s_law_ranks) := ⟨rfl, rfl, rfl, by decide +kernel, rfl, by decide +kernel, by decide +kernel⟩
theorem ok_law_ranks {f : Addr} {fd : FuncData} (F : Fun K "_law_ranks" "_law_ranks" s_law_ranks f fd) (c_law_points : Cal P w K mg base 2 "_law_points" ["many"] (spP K cPoints)) (m_range : mg "range" = none) : FnOk P w K mg base CX0 (2 + 1) f fd ["many", "most"] (spP K cLRanks) := by
  refine fn_pure F sc_law_ranks (fun ds Φ ⟨many, most, hd, ⟨hm, hm1, hm2⟩, hΦ⟩ => by rw [hd]; rfl) fun cdv A outer s0 H E hr ds Φ ⟨many, most, hd, ⟨hm, hm1, hm2⟩, hΦ⟩ => ?_
  subst hd
  have h4 := four hm
  have hm3 : 1 ≤ many ∧ many ≤ 3 := ⟨hm.1, by omega⟩
  refine xs_cons (xs_asgV 2 (xv_lst (xl_cons (xv_tup xa_nil) xa_nil) (by simp)) ?_ sc_law_ranks.nd)
  refine xs_loop (f := (tT D.int)) (xs := (points many)) (js := [3]) (fun point => [(tT D.int) point]) (fun n : Nat => [.pd (.int many), .pd (.int most), .pd (lT (tT D.int) (lrN most n)), .un, .un, .un, .un]) (fun pre => pre.length) (xw_listT (f := (tT D.int)) (xv_call c_law_points (hr.mono (by decide)) (xl_cons (xv_var 0) xa_nil) ⟨many, rfl, hm3, rfl⟩)) (pg_name (i := 3) sc_law_ranks.nd rfl (by first | exact Or.inl rfl | exact Or.inr rfl)) (fun _ _ => gt_name) le_refl (fun pre point post hx => ?_) ?_ PassesOwn.never
  ·
    have hn : pre.length < 4 := by
      have := congrArg List.length hx
      rw [List.length_append, List.length_cons] at this
      omega
    have hl4 := lrN_len hm2 pre.length
    have hl5 := lrN_len hm2 (pre.length + 1)
    have h44 : 4 ^ pre.length ≤ 4 ^ 3 := Nat.pow_le_pow_right (by decide) (by omega)
    have h45 : 4 ^ (pre.length + 1) ≤ 4 ^ 4 := Nat.pow_le_pow_right (by decide) (by omega)
    refine xs_cons (xs_asgV 4 (xv_nilL (f := tT D.int)) ?_ sc_law_ranks.nd)
    refine xs_loop (f := (tT D.int)) (xs := (lrN most pre.length)) (js := [5]) (fun one => [(tT D.int) one]) (fun l : List (List Int) => [.pd (.int many), .pd (.int most), .pd (lT (tT D.int) (lrN most pre.length)), .un, .pd (lT (tT D.int) l), .un, .un]) (fun pre2 => pre2.flatMap (fun one : List Int => (rng 0 most).map fun rank => one ++ [rank])) (xw_listT (f := (tT D.int)) (xv_var 2)) (pg_name (i := 5) sc_law_ranks.nd rfl (by first | exact Or.inl rfl | exact Or.inr rfl)) (fun _ _ => gt_name) (by repeat (first | exact le_nil | refine le_eq ?_ | refine le_un ?_)) (fun pre2 one post2 hx2 => ?_) ?_ PassesOwn.never
    ·
      have hone : one ∈ lrN most pre.length := by rw [hx2]; simp
      have h1l := (lrN_mem.mp hone).1
      have hsz : (pre2.flatMap (fun one : List Int => (rng 0 most).map fun rank => one ++ [rank])).length + ((rng 0 most).map fun rank => one ++ [rank]).length ≤ 100000 := by
        have e : (lrN most (pre.length + 1)).length = (pre2.flatMap (fun one : List Int => (rng 0 most).map fun rank => one ++ [rank])).length + ((rng 0 most).map fun rank => one ++ [rank]).length + (post2.flatMap (fun one : List Int => (rng 0 most).map fun rank => one ++ [rank])).length := by
          show ((lrN most pre.length).flatMap (fun one : List Int => (rng 0 most).map fun rank => one ++ [rank])).length = _
          rw [hx2, List.flatMap_append, List.flatMap_cons, List.length_append, List.length_append]
          omega
        omega
      refine xs_cons (xs_asgV 4 (xo_catL (f := (tT D.int)) (l := pre2.flatMap (fun one : List Int => (rng 0 most).map fun rank => one ++ [rank])) (xv_var 4) (xo_map (f := D.int) (xs := (rng 0 most)) [6] (fun rank => [D.int rank]) (tT D.int) (fun rank => (one ++ [rank])) [("rank", 6)] (xw_range1 (xl_cons (xv_var 1) xa_nil) (by omega) m_range (by omega)) (fun _ _ _ _ _ => pg_name (i := 6) sc_law_ranks.nd rfl (by first | exact Or.inl rfl | exact Or.inr rfl)) (fun _ _ => gt_name) (fun rank hrank _ _ _ _ _ => (xv_catT (f := D.int) (xv_var 5) (xv_tup (hl := by simp) (xl_cons (xv_var 6) xa_nil)) (by simp only [List.length_cons, List.length_nil]; omega))) (by rw [rng_len]; omega) (blkOk_by (N := n_law_ranks) (sc := defScope s_law_ranks) (by decide +kernel)) sc_law_ranks.nd).frz hsz).frz ?_ sc_law_ranks.nd)
      rw [List.flatMap_append, List.flatMap_cons, List.flatMap_nil, List.append_nil]
      exact xs_nil (by repeat (first | exact le_nil | refine le_eq ?_ | refine le_un ?_))
    ·
      refine xs_cons (xs_asgV 2 (xv_var 4) ?_ sc_law_ranks.nd)
      rw [List.length_append]
      exact xs_nil (by repeat (first | exact le_nil | refine le_eq ?_ | refine le_un ?_))
  ·
    exact xs_cons (xs_retV (xv_var 2) hΦ)
end
end K77

namespace K77
open PySem PySem.Spec PyProof.Rows L2 Evl DL WB
section
variable {P : Program} {w : World} {K : PySem.W.Frag} {mg : Str → Option Value} {base : Heap}
abbrev s_all_ranks : Stmt := topS 14
abbrev n_all_ranks : List Str := ["many", "most", "found", "k", "one", "rank"]
theorem sc_all_ranks : FnScope n_all_ranks ["many", "most"] (defScope s_all_ranks) := ⟨rfl, rfl, rfl, by decide +kernel, rfl, by decide +kernel, by decide +kernel⟩
theorem ok_all_ranks {f : Addr} {fd : FuncData} (F : Fun K "all_ranks" "all_ranks" s_all_ranks f fd) (m_range : mg "range" = none) : FnOk P w K mg base CX0 (2 + 1) f fd ["many", "most"] (spP K cARanks) := by
  refine fn_pure F sc_all_ranks (fun ds Φ ⟨many, most, hd, ⟨hm, hm1, hm2⟩, hΦ⟩ => by rw [hd]; rfl) fun cdv A outer s0 H E hr ds Φ ⟨many, most, hd, ⟨hm, hm1, hm2⟩, hΦ⟩ => ?_
  subst hd
  have h4 := four hm
  have hp2 : (1 * 2 ^ many.toNat : Int) = ((points many).length : Int) := by
    rw [points_len]
    have e2 : ((2 ^ many.toNat : Nat) : Int) = 2 ^ many.toNat := by rw [Int.natCast_pow]; rfl
    omega
  refine xs_cons (xs_asgV 2 (xv_lst (xl_cons (xv_tup xa_nil) xa_nil)) ?_ sc_all_ranks.nd)
  refine xs_loop (f := D.int) (xs := (rng 0 (1 * 2 ^ (many).toNat))) (js := [3]) (fun k => [D.int k]) (fun n : Nat => [.pd (.int many), .pd (.int most), .pd (lT (tT D.int) (lrN most n)), .un, .un, .un]) (fun pre => pre.length) (xw_range1 (xl_cons (xv_bin op_shl (v_shl (i := 1) (j := many) ⟨by omega, by omega, by decide⟩) xv_int (xv_var 0)) xa_nil) (by omega) m_range (by omega)) (pg_name (i := 3) sc_all_ranks.nd rfl (by first | exact Or.inl rfl | exact Or.inr rfl)) (fun _ _ => gt_name) le_refl (fun pre k post hx => ?_) ?_ PassesOwn.never
  ·
    have hlen : pre.length < 4 := by
      have := congrArg List.length hx
      rw [rng_len, List.length_append, List.length_cons] at this
      omega
    have hl := lrN_len hm2 pre.length
    have hl1 := lrN_len hm2 (pre.length + 1)
    have h44 : 4 ^ pre.length ≤ 4 ^ 3 := Nat.pow_le_pow_right (by decide) (by omega)
    have h45 : 4 ^ (pre.length + 1) ≤ 4 ^ 4 := Nat.pow_le_pow_right (by decide) (by omega)
    refine xs_cons (xs_asgMap2 (f := (tT D.int)) (xs := (lrN most pre.length)) 2 [4] [5] (fun one => [(tT D.int) one]) (fun rank => [D.int rank]) D.int (fun one => (rng 0 most)) (tT D.int) (fun one rank => (one ++ [rank])) [("one", 4), ("rank", 5)] [5] (xw_listT (f := (tT D.int)) (xv_var 2)) (fun _ _ _ _ _ => pg_name (i := 4) sc_all_ranks.nd rfl (by first | exact Or.inl rfl | exact Or.inr rfl)) (fun _ _ => gt_name) (fun one hone _ _ _ _ _ => (xw_range1 (xl_cons (xv_var 1) xa_nil) (by omega) m_range (by omega))) (fun _ _ _ _ _ => pg_name (i := 5) sc_all_ranks.nd rfl (by first | exact Or.inl rfl | exact Or.inr rfl)) (fun _ _ => (fun _ _ => gt_name)) (fun one hone rank hrank _ _ _ _ _ => (xv_catT (f := D.int) (xv_var 4) (xv_tup (hl := by simp) (xl_cons (xv_var 5) xa_nil)) (by have := (lrN_mem.mp hone).1; simp only [List.length_cons, List.length_nil]; omega))) (by show (lrN most (pre.length + 1)).length < 100000; omega) ?_ (blkOk_by (N := n_all_ranks) (sc := defScope s_all_ranks) (by decide +kernel)) sc_all_ranks.nd (sw_true rfl rfl rfl (by decide +kernel)))
    refine xs_freeze 2 ?_
    refine xs_nil ?_
    rw [List.length_append]
    exact (by repeat (first | exact le_nil | refine le_eq ?_ | refine le_un ?_))
  ·
    refine xs_cons (xs_retV (xv_var 2) ?_)
    rw [rng_len, Int.sub_zero, hp2]
    exact hΦ
abbrev s_exceptional : Stmt := topS 15
abbrev n_exceptional : List Str := ["rules", "many", "found", "k", "some", "rule", "point"]
theorem sc_exceptional : FnScope n_exceptional ["rules", "many"] (defScope s_exceptional) := ⟨rfl, rfl, rfl, by decide +kernel, rfl, by decide +kernel, by decide +kernel⟩
theorem ok_exceptional {f : Addr} {fd : FuncData} (F : Fun K "exceptional" "exceptional" s_exceptional f fd) (c_points_where : Cal P w K mg base 10 "points_where" ["saying", "many"] (spP K cPw)) (c_breaks : Cal P w K mg base 9 "breaks" ["rule", "point"] (spP K cBreaks)) (m_len : mg "len" = none) (m_range : mg "range" = none) (m_all : mg "all" = none) (m_any : mg "any" = none) (m_tuple : mg "tuple" = none) : FnOk P w K mg base CX0 (10 + 1) f fd ["rules", "many"] (spP K cExc) := by
  refine fn_pure F sc_exceptional (fun ds Φ ⟨rules, many, hd, ⟨hm, hrs⟩, hΦ⟩ => by rw [hd]; rfl) fun cdv A outer s0 H E hr ds Φ ⟨rules, many, hd, ⟨hm, hrs⟩, hΦ⟩ => ?_
  subst hd
  have hrl := hrs.1
  have h8 := points_len8 hm
  refine xs_cons (xs_asgO 2 (xo_lst xa_nil) ?_ sc_exceptional.nd)
  refine xs_loop (f := D.int) (xs := (rng 0 (rules.length : Int))) (js := [3]) (fun k => [D.int k]) (fun l : List Int => [.pd (lT (pT eS eS) rules), .pd (.int many), .ow (.ml (l.map D.int)), .un, .un, .un, .un]) (fun pre => pre.filter (excB rules many)) (xw_range1 (xl_cons (xv_lenLT (f := (pT eS eS)) (xv_var 0) m_len) xa_nil) (by omega) m_range (by omega)) (pg_name (i := 3) sc_exceptional.nd rfl (by first | exact Or.inl rfl | exact Or.inr rfl)) (fun _ _ => gt_name) (by repeat (first | exact le_nil | refine le_eq ?_ | refine le_un ?_)) (fun pre k post hx => ?_) ?_ PassesOwn.never
  ·
    have hk : 0 ≤ k ∧ k < (rules.length : Int) := mem_rng.mp (by rw [hx]; simp)
    have hok := getR_ok hrs hk.1 hk.2
    have hpwl : (pw (getR rules k).1 many).length ≤ (points many).length := List.length_filter_le _ _
    have hsz : ((pre.filter (excB rules many)).map D.int).length < 100000 := by
      have e := congrArg List.length hx
      rw [rng_len, List.length_append, List.length_cons] at e
      have := List.length_filter_le (excB rules many) pre
      rw [List.length_map]
      omega
    refine xs_cons (xs_asgV 4 (xv_call c_points_where (hr.mono (by decide)) (xl_cons (xv_ix ix_tup (v_ixT (f := eS (rules.getD (k).toNat (.fls, .fls)).1) rfl) (xv_ix ix_list (v_ixLT (f := (pT eS eS)) (atI_getD hk.1 hk.2)) (xv_var 0) (xv_var 3)) xv_int) (xl_cons (xv_var 1) xa_nil)) ⟨(rules.getD (k).toNat (.fls, .fls)).1, many, rfl, ⟨hm, hok.1⟩, rfl⟩) ?_ sc_exceptional.nd)
    refine xs_cons (xs_if (xb_val (xv_all (xo_map (f := (tT D.int)) (xs := (pw (rules.getD (k).toNat (.fls, .fls)).1 many)) [6] (fun point => [(tT D.int) point]) D.bl (fun point => ((rules.map fun rule1 => (breaks rule1 point)).any id)) [("point", 6)] (xw_listT (f := (tT D.int)) (xv_var 4)) (fun _ _ _ _ _ => pg_name (i := 6) sc_exceptional.nd rfl (by first | exact Or.inl rfl | exact Or.inr rfl)) (fun _ _ => gt_name) (fun point hpoint _ _ _ _ _ => (xv_any (xo_map (f := (pT eS eS)) (xs := rules) [5] (fun rule1 => [(pT eS eS) rule1]) D.bl (fun rule1 => (breaks rule1 point)) [("rule", 5)] (xw_listT (f := (pT eS eS)) (xv_var 0)) (fun _ _ _ _ _ => pg_name (i := 5) sc_exceptional.nd rfl (by first | exact Or.inl rfl | exact Or.inr rfl)) (fun _ _ => gt_name) (fun rule1 hrule1 _ _ _ _ _ => (xv_call c_breaks (hr.mono (by decide)) (xl_cons (xv_var 5) (xl_cons (xv_var 6) xa_nil)) ⟨rule1, point, rfl, (by rw [points_mem hm (List.mem_filter.mp hpoint).1]; exact hrs.2 rule1 hrule1), rfl⟩)) (by omega) (blkOk_by (N := n_exceptional) (sc := (relS _ (defScope s_exceptional))) (by decide +kernel)) sc_exceptional.nd).frz m_any)) (by have : (pw (rules.getD (k).toNat (.fls, .fls)).1 many).length ≤ (points many).length := hpwl; omega) (blkOk_by (N := n_exceptional) (sc := defScope s_exceptional) (by decide +kernel)) sc_exceptional.nd).frz m_all)) (fun h1 => ?_) (fun h1 => ?_))
    ·
      refine xs_cons (xs_app 2 (xv_var 3) (fun d hd => ?_) hsz)
      subst hd
      refine xs_nil ?_
      have ha : excB rules many k = true := h1.symm
      rw [List.filter_append, List.filter_cons_of_pos ha, List.filter_nil, List.map_append]
      exact xs_nil (by repeat (first | exact le_nil | refine le_eq ?_ | refine le_un ?_))
    ·
      refine xs_nil ?_
      have ha : ¬ excB rules many k = true := fun z => Bool.noConfusion (h1.trans z)
      rw [List.filter_append, List.filter_cons_of_neg ha, List.filter_nil, List.append_nil]
      exact xs_nil (by repeat (first | exact le_nil | refine le_eq ?_ | refine le_un ?_))
  ·
    refine xs_freeze 2 ?_
    exact xs_cons (xs_retV (xv_tupleL (f := D.int) (xv_var 2) m_tuple) hΦ)
abbrev s_law_levels : Stmt := topS 30
abbrev n_law_levels : List Str := ["rules", "many", "left", "levels", "stuck", "some", "k", "level"]
theorem sc_law_levels : FnScope n_law_levels ["rules", "many"] (defScope s_law_levels) := ⟨rfl, rfl, rfl, by decide +kernel, rfl, by decide +kernel, by decide +kernel⟩
theorem ok_law_levels {f : Addr} {fd : FuncData} (F : Fun K "_law_levels" "_law_levels" s_law_levels f fd) (c_law_free : Cal P w K mg base 10 "_law_free" ["rule", "rules", "many"] (spP K cFree)) (m_len : mg "len" = none) (m_list : mg "list" = none) (m_range : mg "range" = none) (m_tuple : mg "tuple" = none) : FnOk P w K mg base CX0 (10 + 1) f fd ["rules", "many"] (spP K cLevels) := by
  refine fn_pure F sc_law_levels (fun ds Φ ⟨rules, many, hd, ⟨hm, hrs⟩, hΦ⟩ => by rw [hd]; rfl) fun cdv A outer s0 H E hr ds Φ ⟨rules, many, hd, ⟨hm, hrs⟩, hΦ⟩ => ?_
  subst hd
  have hrl := hrs.1
  have hu64 := hu_64 hr
  refine xs_cons (xs_asgV 2 (xv_listRg (xg_1 (xv_lenLT (f := (pT eS eS)) (xv_var 0) m_len) m_range) ⟨(by omega), (by omega)⟩ ⟨(by omega), (by omega)⟩ m_list) ?_ sc_law_levels.nd)
  refine xs_cons (xs_asgO 3 (xo_lst (ds := []) xa_nil) ?_ sc_law_levels.nd)
  refine xs_cons (xs_asgV 4 xv_non ?_ sc_law_levels.nd)
  refine xs_whl (fun s : LvS => [.pd (lT (pT eS eS) rules), .pd (.int many), .pd (lT D.int s.left), .ow (.ml (s.found.map (tT D.int))), .pd (oT (tT D.int) s.stuck), .un, .un, .un]) (fun s => 2 * s.left.length + if s.stuck = none then 1 else 0) (lvI rules many) ⟨rng 0 (rules.length : Int), [], none⟩ (by repeat (first | exact le_nil | refine le_eq ?_ | refine le_un ?_)) layI_start (fun ⟨left', found', stuck'⟩ hI => ⟨_, (xt_w (xb_and (xb_cmp (op_neD hu64) (v_ne (f := (lT D.int))) (xv_var 2) xv_nilL) (fun _ => (xw_and1 (xb_cmp op_isN (v_isN (d := oT (tT D.int) stuck')) (xv_var 4) xv_non))))), fun hW => ?_, fun hW => ?_⟩) PassesOwn.never
  ·
    have hW1 : left' ≠ [] := by
      have := (Bool.and_eq_true_iff.mp hW).1
      simpa using this
    have hst : stuck' = none := by
      have := (Bool.and_eq_true_iff.mp hW).2
      rw [isN_oT] at this
      exact Option.isNone_iff_eq_none.mp this
    subst hst
    have hI' : layI rules many left' found' := hI
    have hl := fun {k : Int} (h : k ∈ left') => hI'.2.1 k h
    have hll : found'.length + left'.length ≤ rules.length := hI'.2.2
    have hsz : (found'.map (tT D.int)).length < 100000 := by rw [List.length_map]; omega
    have hls : (lessL rules many left').length ≤ left'.length := by rw [lessL_eq]; exact List.length_filter_le _ _
    refine xs_cons (xs_asgV 5 (xo_map (f := D.int) (xs := left') [6] (fun k => [D.int k]) (pT eS eS) (fun k => (rules.getD (k).toNat (.fls, .fls))) [("k", 6)] (xw_listT (f := D.int) (xv_var 2)) (fun _ _ _ _ _ => pg_name (i := 6) sc_law_levels.nd rfl (by first | exact Or.inl rfl | exact Or.inr rfl)) (fun _ _ => gt_name) (fun k hk _ _ _ _ _ => (xv_ix ix_list (v_ixLT (f := (pT eS eS)) (atI_getD (hl hk).1 (hl hk).2)) (xv_var 0) (xv_var 6))) (by omega) (blkOk_by (N := n_law_levels) (sc := defScope s_law_levels) (by decide +kernel)) sc_law_levels.nd).frz ?_ sc_law_levels.nd)
    refine xs_cons (xs_asgV 7 (xo_lc (f := D.int) (xs := left') [6] (fun k => [D.int k]) (fun k => (isfree (rules.getD (k).toNat (.fls, .fls)) (left'.map (getR rules)) many)) D.int (fun k => k) [("k", 6)] (xw_listT (f := D.int) (xv_var 2)) (fun _ _ _ _ _ => pg_name (i := 6) sc_law_levels.nd rfl (by first | exact Or.inl rfl | exact Or.inr rfl)) (fun _ _ => gt_name) .one (fun k hk => jt_wb fun _ _ _ _ _ => (xb_val (xv_call c_law_free (hr.mono (by decide)) (xl_cons (xv_ix ix_list (v_ixLT (f := (pT eS eS)) (atI_getD (hl hk).1 (hl hk).2)) (xv_var 0) (xv_var 6)) (xl_cons (xv_var 5) (xl_cons (xv_var 1) xa_nil))) ⟨(rules.getD (k).toNat (.fls, .fls)), (left'.map (getR rules)), many, rfl, ⟨hm, getR_ok hrs (hl hk).1 (hl hk).2, getRs_ok hrs (fun _ h => hl h) (by omega)⟩, rfl⟩))) (fun k hk pk _ _ _ _ _ => (xv_var 6)) (by omega) (blkOk_by (N := n_law_levels) (sc := defScope s_law_levels) (by decide +kernel)) sc_law_levels.nd).frz ?_ sc_law_levels.nd)
    refine xs_cons (xs_if (xb_cmp (op_eqD hu64) (v_eq (f := (lT D.int))) (xv_var 7) xv_nilL) (fun h1 => ?_) (fun h1 => ?_))
    ·
      have hlv : level rules many left' = [] := of_decide_eq_true h1.symm
      refine xs_cons (xs_asgV 4 (xv_tupleL (f := D.int) (xv_var 2) m_tuple) ?_ sc_law_levels.nd)
      refine xs_nil ?_
      refine xs_cons (xs_app 3 (xv_tupleL (f := D.int) (xv_var 7) m_tuple) (fun d hd => ?_) hsz)
      subst hd
      refine xs_cons (xs_asgLc (f := D.int) (xs := left') 2 [6] (fun k => [D.int k]) (fun k => (!decide (k ∈ (level rules many left')))) D.int (fun k => k) [("k", 6)] (xw_listT (f := D.int) (xv_var 2)) (fun _ _ _ _ _ => pg_name (i := 6) sc_law_levels.nd rfl (by first | exact Or.inl rfl | exact Or.inr rfl)) (fun _ _ => gt_name) .one (fun k hk => jt_wb fun _ _ _ _ _ => (xb_cmp op_notIn_seq v_niLI (xv_var 6) (xv_var 7))) (fun k hk pk _ _ _ _ _ => (xv_var 6)) (by omega) ?_ (blkOk_by (N := n_law_levels) (sc := defScope s_law_levels) (by decide +kernel)) sc_law_levels.nd (sw_true rfl rfl rfl (by decide +kernel)))
      refine xs_freeze 2 ?_
      refine xs_nil ⟨⟨lessL rules many left', found' ++ [level rules many left'], some left'⟩, ?_, ⟨layI_no hI' hW1 hlv, fun k hk => hl (by rw [lessL_eq] at hk; exact (List.mem_filter.mp hk).1), (show (lessL rules many left').length ≤ rules.length by omega), (show (found' ++ [level rules many left']).length ≤ rules.length + 1 by rw [List.length_append]; simp only [List.length_cons, List.length_nil]; omega)⟩, ?_⟩
      · show 2 * (lessL rules many left').length + (if some left' = none then 1 else 0) < 2 * left'.length + (if (none : Option (List Int)) = none then 1 else 0)
        rw [if_neg (by simp), if_pos rfl]
        omega
      show Le _ [.pd (lT (pT eS eS) rules), .pd (.int many), .pd (lT D.int (lessL rules many left')), .ow (.ml ((found' ++ [level rules many left']).map (tT D.int))), .pd (tT D.int left'), .un, .un, .un]
      rw [List.map_append]
      repeat (first | exact le_nil | refine le_eq ?_ | refine le_un ?_)
    ·
      have hlv : level rules many left' ≠ [] := of_decide_eq_false h1.symm
      have hlt := left_less hlv
      refine xs_nil ?_
      refine xs_cons (xs_app 3 (xv_tupleL (f := D.int) (xv_var 7) m_tuple) (fun d hd => ?_) hsz)
      subst hd
      refine xs_cons (xs_asgLc (f := D.int) (xs := left') 2 [6] (fun k => [D.int k]) (fun k => (!decide (k ∈ (level rules many left')))) D.int (fun k => k) [("k", 6)] (xw_listT (f := D.int) (xv_var 2)) (fun _ _ _ _ _ => pg_name (i := 6) sc_law_levels.nd rfl (by first | exact Or.inl rfl | exact Or.inr rfl)) (fun _ _ => gt_name) .one (fun k hk => jt_wb fun _ _ _ _ _ => (xb_cmp op_notIn_seq v_niLI (xv_var 6) (xv_var 7))) (fun k hk pk _ _ _ _ _ => (xv_var 6)) (by omega) ?_ (blkOk_by (N := n_law_levels) (sc := defScope s_law_levels) (by decide +kernel)) sc_law_levels.nd (sw_true rfl rfl rfl (by decide +kernel)))
      refine xs_freeze 2 ?_
      refine xs_nil ⟨⟨lessL rules many left', found' ++ [level rules many left'], none⟩, ?_, layI_step hI' hW1 hlv, ?_⟩
      · show 2 * (lessL rules many left').length + (if (none : Option (List Int)) = none then 1 else 0) < 2 * left'.length + (if (none : Option (List Int)) = none then 1 else 0)
        rw [if_pos rfl]
        omega
      show Le _ [.pd (lT (pT eS eS) rules), .pd (.int many), .pd (lT D.int (lessL rules many left')), .ow (.ml ((found' ++ [level rules many left']).map (tT D.int))), .pd (oT (tT D.int) none), .un, .un, .un]
      rw [List.map_append]
      repeat (first | exact le_nil | refine le_eq ?_ | refine le_un ?_)
  ·
    refine xs_freeze 3 ?_
    exact xs_cons (xs_retV (xv_tup (hl := by simp) (xl_cons (xv_var 3) (xl_cons (xv_var 4) xa_nil))) (hΦ found' stuck' (by
      cases stuck' with
      | none =>
        have e : left' = [] := by
          apply Classical.byContradiction
          intro z
          have y : (!decide (left' = []) && (oT (tT D.int) (none : Option (List Int))).isN) = true := by rw [isN_oT]; simp [z]
          exact Bool.noConfusion (hW.symm.trans y)
        subst e
        unfold lvIs
        rw [layI_end hI]
        exact ⟨rfl, rfl⟩
      | some l =>
        unfold lvIs
        rw [hI.1])))
theorem ok_rank_of_pointL {f : Addr} {fd : FuncData} (F : Fun K "rank_of_point" "rank_of_point" s_rank_of_point f fd) (c_breaks : Cal P w K mg base 9 "breaks" ["rule", "point"] (spP K cBreaks)) (m_len : mg "len" = none) (m_range : mg "range" = none) (m_max : mg "max" = none) (m_any : mg "any" = none) : FnOk P w K mg base CX0 (9 + 1) f fd ["rules", "told", "point"] (spP K cRopL) := by
  refine fn_pure F sc_rank_of_point (fun ds Φ ⟨rules, told, p, hd, ⟨⟨mm, hrs, hpl⟩, htl, ht⟩, hΦ⟩ => by rw [hd]; rfl) fun cdv A outer s0 H E hr ds Φ ⟨rules, told, p, hd, ⟨⟨mm, hrs, hpl⟩, htl, ht⟩, hΦ⟩ => ?_
  subst hd
  have hrl := hrs.1
  have hin : ∀ {k : Int}, k ∈ rng 0 (told.length : Int) → told.getD k.toNat [] ∈ told := fun {k} hk => by
    have := mem_rng.mp hk
    rw [List.getD_eq_getElem?_getD, List.getElem?_eq_getElem (by omega)]
    exact List.getElem_mem _
  exact xs_cons (xs_retV (xv_max (xo_catL (f := D.int) (xv_lst (xl_cons xv_int xa_nil)) (xo_lc (f := D.int) (xs := (rng 0 (told.length : Int))) [3] (fun k => [D.int k]) (fun k => (((told.getD (k).toNat []).map fun j1 => (breaks (rules.getD (j1).toNat (.fls, .fls)) p)).any id)) D.int (fun k => (k + 1)) [("k", 3)] (xw_range1 (xl_cons (xv_lenLT (f := (tT D.int)) (xv_var 1) m_len) xa_nil) (by omega) m_range (by omega)) (fun _ _ _ _ _ => pg_name (i := 3) sc_rank_of_point.nd rfl (by first | exact Or.inl rfl | exact Or.inr rfl)) (fun _ _ => gt_name) .one (fun k hk => jt_wb fun _ _ _ _ _ => (xb_val (xv_any (xo_map (f := D.int) (xs := (told.getD (k).toNat [])) [4] (fun j1 => [D.int j1]) D.bl (fun j1 => (breaks (rules.getD (j1).toNat (.fls, .fls)) p)) [("j", 4)] (xw_tupT (f := D.int) (xv_ix ix_list (v_ixLT (f := (tT D.int)) (atI_getD (by have mk := mem_rng.mp hk; omega) (by have mk := mem_rng.mp hk; omega))) (xv_var 1) (xv_var 3))) (fun _ _ _ _ _ => pg_name (i := 4) sc_rank_of_point.nd rfl (by first | exact Or.inl rfl | exact Or.inr rfl)) (fun _ _ => gt_name) (fun j1 hj1 _ _ _ _ _ => (xv_call c_breaks (hr.mono (by decide)) (xl_cons (xv_ix ix_list (v_ixLT (f := (pT eS eS)) (atI_getD ((ht _ (hin hk)).2 _ hj1).1 ((ht _ (hin hk)).2 _ hj1).2)) (xv_var 0) (xv_var 4)) (xl_cons (xv_var 2) xa_nil)) ⟨(rules.getD (j1).toNat (.fls, .fls)), p, rfl, (by rw [hpl]; exact getR_ok hrs ((ht _ (hin hk)).2 _ hj1).1 ((ht _ (hin hk)).2 _ hj1).2), rfl⟩)) (by have := (ht _ (hin hk)).1; omega) (blkOk_by (N := n_rank_of_point) (sc := (relS _ (defScope s_rank_of_point))) (by decide +kernel)) sc_rank_of_point.nd).frz m_any))) (fun k hk pk _ _ _ _ _ => (xv_bin op_add v_add (xv_var 3) xv_int)) (by rw [rng_len]; omega) (blkOk_by (N := n_rank_of_point) (sc := defScope s_rank_of_point) (by decide +kernel)) sc_rank_of_point.nd).frz (by
      rw [List.length_map]
      have z := List.length_filter_le (fun k : Int => ((told.getD k.toNat []).map fun j1 => (breaks (rules.getD j1.toNat (.fls, .fls)) p)).any id) (rng 0 (told.length : Int))
      rw [rng_len] at z
      simp only [List.length_cons, List.length_nil]
      omega)).frz (by simp) m_max) hΦ)
end
end K77

namespace K77
open PySem PySem.Spec PyProof.Rows L2 Evl DL WB
section
variable {P : Program} {w : World} {K : PySem.W.Frag} {mg : Str → Option Value} {base : Heap}
abbrev s_law_judged : Stmt := topS 31
abbrev n_law_judged : List Str := ["state", "rules", "many", "turn", "value", "k", "right", "some", "rule", "one"]
theorem sc_law_judged : FnScope n_law_judged ["state", "rules", "many"] (defScope s_law_judged) := ⟨rfl, rfl, rfl, by decide +kernel, rfl, by decide +kernel, by decide +kernel⟩
theorem ok_law_judged {f : Addr} {fd : FuncData} (F : Fun K "_law_judged" "_law_judged" s_law_judged f fd) (c_law_free : Cal P w K mg base 10 "_law_free" ["rule", "rules", "many"] (spP K cFree)) (c_are_stuck : Cal P w K mg base 13 "are_stuck" ["rules", "many", "value"] (spP K cStuck)) (c_law_pick : Cal P w K mg base 1 "_law_pick" ["state", "limit"] (spE K stO cPick)) (c_law_same : Cal P w K mg base 8 "_law_same" ["told", "due"] (spP K (cSame 8))) (m_len : mg "len" = none) (m_range : mg "range" = none) (m_sorted : mg "sorted" = none) (m_set : mg "set" = none) (m_tuple : mg "tuple" = none) (m_max : mg "max" = none) : FnOk P w K mg base CX0 (13 + 1) f fd ["state", "rules", "many"] (spE K stO cJudged) := by
  refine fn_eff (o := stO) (fun o => o = stO) (fun Hb u o' h r => h ▸ r) F sc_law_judged (fun ds Φ ⟨_, _, h, _⟩ => by rw [h]; rfl) fun cdv A outer s0 H E hr ds Φ ⟨rules, many, hd, ⟨hm, hrs⟩, hΦ⟩ => ?_
  subst hd
  have hrl := hrs.1
  have hu64 := hu_64 hr
  have hu65 := hu_65 hr
  have hr1 := hr.mono (by decide : 1 ≤ 13)
  refine xs_loop (f := D.int) (xs := rng 0 3) (js := [3]) (fun turn => [D.int turn]) (fun _ : Unit => [.ow stO, .pd (lT (pT eS eS) rules), .pd (.int many), .un, .un, .un, .un, .un, .un, .un]) (fun _ => ()) (xw_range1 (xl_cons xv_int xa_nil) (by omega) m_range (by omega)) (pg_name (i := 3) sc_law_judged.nd rfl (by first | exact Or.inl rfl | exact Or.inr rfl)) (fun _ _ => gt_name) (by repeat (first | exact le_nil | refine le_eq ?_ | refine le_un ?_)) (fun pre turn post hx => ?_) ?_ PassesOwn.never
  · refine xs_cons (xs_asg 4 (xe_tupN (Φ := fun ys : List Int => ys.Pairwise (· ≤ ·) ∧ ys.length ≤ 3 ∧ ∀ y ∈ ys, 0 ≤ y) ((xn_sortedN (f := D.int) (Φ := fun l : List Int => (l.length : Int) < 4 ∧ ∀ v ∈ l, 0 ≤ v ∧ v < (rules.length : Int) + 1) (xn_lcDD (L := 4) [5] D.int [("k", 5)] (xi_range1D (xe_pick 0 c_law_pick hr1 xv_int ⟨by omega, by omega⟩) (by omega) m_range) (by omega) (fun _ _ _ _ _ => pg_name (i := 5) sc_law_judged.nd rfl (by first | exact Or.inl rfl | exact Or.inr rfl)) (fun _ => gt_name) (fun _ _ _ _ _ _ => xe_pick 0 c_law_pick hr1 (xv_bin op_add v_add (xv_lenLT (f := pT eS eS) (xv_var 1) m_len) xv_int) ⟨by omega, by omega⟩) (blkOk_by (N := n_law_judged) (sc := defScope s_law_judged) (by decide +kernel)) sc_law_judged.nd) (fun _ _ => so_int) hu65 m_sorted).imp fun o ⟨l, h1, h2, h3⟩ => ⟨sortD D.int l, h1, sortI_asc, by have := (sortI_perm (l := l)).length_eq; omega, fun y hy => (h3 y (sortI_perm.mem_iff.mp hy)).1⟩) m_tuple) (fun d ⟨ys, hd, hys, hyl, hy0⟩ => ?_) sc_law_judged.nd)
    subst hd
    refine xs_cons (xs_asgV 6 (d := .bl (rightB rules ys)) (xv_and (xv_cmp (op_neD hu64) (v_ne (f := tT D.int) (x := ys) (y := [])) (xv_var 4) (xv_tup xa_nil)) (fun _ => xv_and (xv_cmp op_eq v_eqI (xv_lenSetT (xv_var 4) (by omega) m_len m_set) (xv_lenTT (f := D.int) (xv_var 4) m_len)) (fun _ => xv_one (xv_cmp op_lt v_lt (xv_maxT (xv_catT (f := D.int) (l := [0]) (xv_tup (xl_cons xv_int xa_nil)) (xv_var 4) (by simp only [List.length_cons, List.length_nil]; omega)) (by simp) m_max hu65) (xv_lenLT (f := pT eS eS) (xv_var 1) m_len))))) ?_ sc_law_judged.nd)
    refine xs_cons (xs_if (xb_val (xv_var 6)) (fun h1 => ?_) (fun h1 => ?_))
    · have hin := ((right_iff hy0).mp h1.symm).2.2
      have hsome := getRs_ok hrs hin (by omega)
      refine xs_cons (xs_asgV 7 (xo_map (f := D.int) (xs := ys) [5] (fun k => [D.int k]) (pT eS eS) (getR rules) [("k", 5)] (xw_tupT (f := D.int) (xv_var 4)) (fun _ _ _ _ _ => pg_name (i := 5) sc_law_judged.nd rfl (by first | exact Or.inl rfl | exact Or.inr rfl)) (fun _ _ => gt_name) (fun k hk _ _ _ _ _ => (xv_ix ix_list (v_ixLT (f := (pT eS eS)) (atI_getD (hin k hk).1 (hin k hk).2)) (xv_var 1) (xv_var 5))) (by omega) (blkOk_by (N := n_law_judged) (sc := defScope s_law_judged) (by decide +kernel)) sc_law_judged.nd).frz ?_ sc_law_judged.nd)
      refine xs_cons (xs_asgV 6 (d := .bl (freeN rules many ys)) (xv_cmp (op_eqD hu64) (v_eq (f := lT D.int)) (xo_lc (f := (pT eS eS)) (xs := ys.map (getR rules)) [8] (fun one => [(pT eS eS) one]) (fun one => isfree one (ys.map (getR rules)) many) D.int (fun _ => 1) [("rule", 8)] (xw_listT (f := (pT eS eS)) (xv_var 7)) (fun _ _ _ _ _ => pg_name (i := 8) sc_law_judged.nd rfl (by first | exact Or.inl rfl | exact Or.inr rfl)) (fun _ _ => gt_name) .one (fun one hone => jt_wb fun _ _ _ _ _ => (xb_val (xv_call c_law_free (hr.mono (by decide)) (xl_cons (xv_var 8) (xl_cons (xv_var 7) (xl_cons (xv_var 2) xa_nil))) ⟨one, ys.map (getR rules), many, rfl, ⟨hm, hsome.2 one hone, hsome⟩, rfl⟩))) (fun one hone pone _ _ _ _ _ => xv_int) (by rw [List.length_map]; omega) (blkOk_by (N := n_law_judged) (sc := defScope s_law_judged) (by decide +kernel)) sc_law_judged.nd).frz xv_nilL) ?_ sc_law_judged.nd)
      refine xs_nil ?_
      exact xs_no (XB.is (xb_not (xb_val (xv_call c_law_same (hr.mono (by decide)) (xl_cons (xv_call c_are_stuck (hr.mono (by decide)) (xl_cons (xv_var 1) (xl_cons (xv_var 2) (xl_cons (xv_var 4) xa_nil))) ⟨rules, many, .nums ys, rfl, ⟨hm, hrs, (show ys.length ≤ 100 by omega)⟩, rfl⟩) (xl_cons (XV.is (xv_var 6) (by rw [show stuckV rules many (.nums ys) = stuckB rules many ys from rfl, judged_eq hys hy0, ← h1]; rfl)) xa_nil)) ⟨_, rfl, ⟨7, rfl, sm_bl⟩, rfl⟩))) rfl) (xs_nil (by repeat (first | exact le_nil | refine le_eq ?_ | refine le_un ?_)))
    · refine xs_nil ?_
      exact xs_no (XB.is (xb_not (xb_val (xv_call c_law_same (hr.mono (by decide)) (xl_cons (xv_call c_are_stuck (hr.mono (by decide)) (xl_cons (xv_var 1) (xl_cons (xv_var 2) (xl_cons (xv_var 4) xa_nil))) ⟨rules, many, .nums ys, rfl, ⟨hm, hrs, (show ys.length ≤ 100 by omega)⟩, rfl⟩) (xl_cons (XV.is (xv_var 6) (by rw [show stuckV rules many (.nums ys) = stuckB rules many ys from rfl, judged_eq hys hy0, ← h1]; rfl)) xa_nil)) ⟨_, rfl, ⟨7, rfl, sm_bl⟩, rfl⟩))) rfl) (xs_nil (by repeat (first | exact le_nil | refine le_eq ?_ | refine le_un ?_)))
  · obtain ⟨vals, hvals⟩ : ∃ vals : List Val, vals = [.nun, .lis [0], .mix [] true, .nums [-1], .tex "0"] := ⟨_, rfl⟩
    have hval : D.lst [.non, .lst [.int 0], .tup [.bl true], .tup [.int (-1)], .tup [.str "0"]] = lT eV vals := by rw [hvals]; rfl
    have hvl : vals.length ≤ 100000 := by rw [hvals]; decide
    have hvs : ∀ v ∈ vals, v.sm := by rw [hvals]; exact jud_sm
    obtain ⟨g, hg⟩ : ∃ g : Val → Bool, g = stuckV rules many := ⟨_, rfl⟩
    have hok : decide (vals.map g = (List.replicate (5 : Int).toNat [false]).flatten) = true := by rw [hvals, hg]; exact jud_ok
    clear hvals
    exact xs_cons (xs_retV (xv_cmp (op_eqD hu64) (v_eq (f := lT D.bl)) (xo_map (f := eV) (xs := vals) [9] (fun v => [eV v]) D.bl g [("one", 9)] (xw_listT (f := eV) (XV.is (xv_lst (xl_cons xv_non (xl_cons (xv_lst (xl_cons xv_int xa_nil) (by simp)) (xl_cons (xv_tup (hl := by simp) (xl_cons xv_bl xa_nil)) (xl_cons (xv_tup (hl := by simp) (xl_cons (xv_neg xv_int) xa_nil)) (xl_cons (xv_tup (hl := by simp) (xl_cons xv_str xa_nil)) xa_nil))))) (by simp)) hval)) (fun _ _ _ _ _ => pg_name (i := 9) sc_law_judged.nd rfl (by first | exact Or.inl rfl | exact Or.inr rfl)) (fun _ _ => gt_name) (fun v hv _ _ _ _ _ => (XV.is (xv_call c_are_stuck (hr.mono (by decide)) (xl_cons (xv_var 1) (xl_cons (xv_var 2) (xl_cons (xv_var 9) xa_nil))) ⟨rules, many, v, rfl, ⟨hm, hrs, hvs v hv⟩, rfl⟩) (by rw [hg]))) hvl (blkOk_by (N := n_law_judged) (sc := defScope s_law_judged) (by decide +kernel)) sc_law_judged.nd).frz (xv_repL (f := D.bl) (l := [false]) (xv_lst (xl_cons xv_bl xa_nil)) xv_int (by omega) (by decide))) ⟨by rw [hok]; exact hΦ, stO, rfl, rfl⟩)
end
end K77

namespace K77
open PySem PySem.Spec PyProof.Rows L2 Evl DL WB
section
variable {P : Program} {w : World} {K : PySem.W.Frag} {mg : Str → Option Value} {base : Heap}
abbrev s_law_points_of_rules : Stmt := topS 32
abbrev n_law_points_of_rules : List Str := ["state", "rules", "many", "rows", "due", "k", "some", "point", "rule", "here"]
theorem sc_law_points_of_rules : FnScope n_law_points_of_rules ["state", "rules", "many"] (defScope s_law_points_of_rules) := ⟨rfl, rfl, rfl, by decide +kernel, rfl, by decide +kernel, by decide +kernel⟩
theorem ok_law_points_of_rules {f : Addr} {fd : FuncData} (F : Fun K "_law_points_of_rules" "_law_points_of_rules" s_law_points_of_rules f fd) (c_law_points : Cal P w K mg base 2 "_law_points" ["many"] (spP K cPoints)) (c_law_fits : Cal P w K mg base 8 "_law_fits" ["saying", "point"] (spP K (cFits 8))) (c_fits : Cal P w K mg base 8 "fits" ["saying", "point"] (spP K (cFits 8))) (c_law_breaks : Cal P w K mg base 9 "_law_breaks" ["rule", "point"] (spP K cBreaks)) (c_breaks : Cal P w K mg base 9 "breaks" ["rule", "point"] (spP K cBreaks)) (c_points_where : Cal P w K mg base 10 "points_where" ["saying", "many"] (spP K cPw)) (c_tolerating : Cal P w K mg base 10 "tolerating" ["rule", "rules", "many"] (spP K cTol)) (c_is_free : Cal P w K mg base 11 "is_free" ["rule", "rules", "many"] (spP K cFree)) (c_exceptional : Cal P w K mg base 11 "exceptional" ["rules", "many"] (spP K cExc)) (c_law_pick : Cal P w K mg base 1 "_law_pick" ["state", "limit"] (spE K stO cPick)) (c_law_same : Cal P w K mg base 8 "_law_same" ["told", "due"] (spP K (cSame 8))) (m_len : mg "len" = none) (m_range : mg "range" = none) (m_tuple : mg "tuple" = none) : FnOk P w K mg base CX0 (12 + 1) f fd ["state", "rules", "many"] (spE K stO cJudged) := by
  refine fn_eff (o := stO) (fun o => o = stO) (fun Hb u o' h r => h ▸ r) F sc_law_points_of_rules (fun ds Φ ⟨_, _, h, _⟩ => by rw [h]; rfl) fun cdv A outer s0 H E hr ds Φ ⟨rules, many, hd, ⟨hm, hrs⟩, hΦ⟩ => ?_
  subst hd
  have hrl := hrs.1
  have hu64 := hu_64 hr
  have h8 := points_len8 hm
  have hp1 : 1 ≤ (points many).length := by rw [points_len]; exact Nat.one_le_two_pow
  refine xs_cons (xs_asgV 3 (xv_call c_law_points (hr.mono (by decide)) (xl_cons (xv_var 2) xa_nil) ⟨many, rfl, hm, rfl⟩) ?_ sc_law_points_of_rules.nd)
  refine xs_cons (xs_asgO 4 (xo_lst (ds := []) xa_nil) ?_ sc_law_points_of_rules.nd)
  refine xs_loop (f := D.int) (xs := (rng 0 (rules.length : Int))) (js := [5]) (fun k => [D.int k]) (fun l : List Int => [.ow stO, .pd (lT (pT eS eS) rules), .pd (.int many), .pd (lT (tT D.int) (points many)), .ow (.ml (l.map D.int)), .un, .un, .un, .un, .un]) (fun pre => pre.filter (excB rules many)) (xw_range1 (xl_cons (xv_lenLT (f := (pT eS eS)) (xv_var 1) m_len) xa_nil) (by omega) m_range (by omega)) (pg_name (i := 5) sc_law_points_of_rules.nd rfl (by first | exact Or.inl rfl | exact Or.inr rfl)) (fun _ _ => gt_name) (by repeat (first | exact le_nil | refine le_eq ?_ | refine le_un ?_)) (fun pre k post hx => ?_) ?_ PassesOwn.never
  ·
    have hk : 0 ≤ k ∧ k < (rules.length : Int) := mem_rng.mp (by rw [hx]; simp)
    have hok : okR many (rules.getD (k).toNat (.fls, .fls)) := getR_ok hrs hk.1 hk.2
    have hpl := fun {p : List Int} (h : p ∈ points many) => points_mem hm h
    have hsz : ((pre.filter (excB rules many)).map D.int).length < 100000 := by
      have e := congrArg List.length hx
      rw [rng_len, List.length_append, List.length_cons] at e
      have := List.length_filter_le (excB rules many) pre
      rw [List.length_map]
      omega
    have hsl := ptsP_len (s := (rules.getD (k).toNat (.fls, .fls)).1) (many := many)
    have hhl := here_len (r := (rules.getD (k).toNat (.fls, .fls))) (rules := rules) (many := many)
    have hso : ∀ p ∈ ptsP (rules.getD (k).toNat (.fls, .fls)).1 many, p ∈ points many := fun p hp => filt_mem hp
    refine xs_cons (xs_asgLc (f := (tT D.int)) (xs := (points many)) 6 [7] (fun point => [(tT D.int) point]) (fun point => (fits (rules.getD (k).toNat (.fls, .fls)).1 point)) (tT D.int) (fun point => point) [("point", 7)] (xw_listT (f := (tT D.int)) (xv_var 3)) (fun _ _ _ _ _ => pg_name (i := 7) sc_law_points_of_rules.nd rfl (by first | exact Or.inl rfl | exact Or.inr rfl)) (fun _ _ => gt_name) .one (fun point hpoint => jt_wb fun _ _ _ _ _ => (xb_val (xv_call c_law_fits (hr.mono (by decide)) (xl_cons (xv_ix ix_tup (v_ixT (f := eS (rules.getD (k).toNat (.fls, .fls)).1) rfl) (xv_ix ix_list (v_ixLT (f := (pT eS eS)) (atI_getD hk.1 hk.2)) (xv_var 1) (xv_var 5)) xv_int) (xl_cons (xv_var 7) xa_nil)) ⟨(rules.getD (k).toNat (.fls, .fls)).1, point, rfl, hok.1.1, (by rw [hpl hpoint]; exact hok.1.2), rfl⟩))) (fun point hpoint ppoint _ _ _ _ _ => (xv_var 7)) (by omega) ?_ (blkOk_by (N := n_law_points_of_rules) (sc := defScope s_law_points_of_rules) (by decide +kernel)) sc_law_points_of_rules.nd (sw_true rfl rfl rfl (by decide +kernel)))
    refine xs_freeze 6 ?_
    refine xs_cons (xs_if (xb_cmp (op_eqD hu64) (v_eq (f := (lT D.int))) (xo_lc (f := (tT D.int)) (xs := (ptsP (rules.getD (k).toNat (.fls, .fls)).1 many)) [7] (fun point => [(tT D.int) point]) (fun point => (decide (((rules.filter fun rule1 => (breaks rule1 point)).map fun rule1 => 1) = []))) D.int (fun point => 1) [("point", 7)] (xw_listT (f := (tT D.int)) (xv_var 6)) (fun _ _ _ _ _ => pg_name (i := 7) sc_law_points_of_rules.nd rfl (by first | exact Or.inl rfl | exact Or.inr rfl)) (fun _ _ => gt_name) .one (fun point hpoint => jt_wb fun _ _ _ _ _ => (xb_cmp (op_eqD hu64) (v_eq (f := (lT D.int))) (xo_lc (f := (pT eS eS)) (xs := rules) [8] (fun rule1 => [(pT eS eS) rule1]) (fun rule1 => (breaks rule1 point)) D.int (fun rule1 => 1) [("rule", 8)] (xw_listT (f := (pT eS eS)) (xv_var 1)) (fun _ _ _ _ _ => pg_name (i := 8) sc_law_points_of_rules.nd rfl (by first | exact Or.inl rfl | exact Or.inr rfl)) (fun _ _ => gt_name) .one (fun rule1 hrule1 => jt_wb fun _ _ _ _ _ => (xb_val (xv_call c_law_breaks (hr.mono (by decide)) (xl_cons (xv_var 8) (xl_cons (xv_var 7) xa_nil)) ⟨rule1, point, rfl, (by rw [hpl (hso _ hpoint)]; exact hrs.2 _ hrule1), rfl⟩))) (fun rule1 hrule1 prule1 _ _ _ _ _ => xv_int) (by omega) (blkOk_by (N := n_law_points_of_rules) (sc := (relS _ (defScope s_law_points_of_rules))) (by decide +kernel)) sc_law_points_of_rules.nd).frz xv_nilL)) (fun point hpoint ppoint _ _ _ _ _ => xv_int) (by omega) (blkOk_by (N := n_law_points_of_rules) (sc := defScope s_law_points_of_rules) (by decide +kernel)) sc_law_points_of_rules.nd).frz xv_nilL) (fun h1 => ?_) (fun h1 => ?_))
    ·
      have hex : excB rules many k = true := due_eq.symm.trans h1.symm
      refine xs_cons (xs_app 4 (xv_var 5) (fun d hd => ?_) hsz)
      subst hd
      refine xs_nil ?_
      refine xs_cons (xs_asgLc (f := (tT D.int)) (xs := (ptsP (rules.getD (k).toNat (.fls, .fls)).1 many)) 9 [7] (fun point => [(tT D.int) point]) (fun point => ((fits (rules.getD (k).toNat (.fls, .fls)).2 point) && (decide (((rules.filter fun rule1 => (breaks rule1 point)).map fun rule1 => 1) = [])))) (tT D.int) (fun point => point) [("point", 7)] (xw_listT (f := (tT D.int)) (xv_var 6)) (fun _ _ _ _ _ => pg_name (i := 7) sc_law_points_of_rules.nd rfl (by first | exact Or.inl rfl | exact Or.inr rfl)) (fun _ _ => gt_name) .one (fun point hpoint => jt_wb fun _ _ _ _ _ => (xt_w (xb_and (xb_val (xv_call c_law_fits (hr.mono (by decide)) (xl_cons (xv_ix ix_tup (v_ixT (f := eS (rules.getD (k).toNat (.fls, .fls)).2) rfl) (xv_ix ix_list (v_ixLT (f := (pT eS eS)) (atI_getD hk.1 hk.2)) (xv_var 1) (xv_var 5)) xv_int) (xl_cons (xv_var 7) xa_nil)) ⟨(rules.getD (k).toNat (.fls, .fls)).2, point, rfl, hok.2.1, (by rw [hpl (hso _ hpoint)]; exact hok.2.2), rfl⟩)) (fun _ => (xw_and1 (xb_cmp (op_eqD hu64) (v_eq (f := (lT D.int))) (xo_lc (f := (pT eS eS)) (xs := rules) [8] (fun rule1 => [(pT eS eS) rule1]) (fun rule1 => (breaks rule1 point)) D.int (fun rule1 => 1) [("rule", 8)] (xw_listT (f := (pT eS eS)) (xv_var 1)) (fun _ _ _ _ _ => pg_name (i := 8) sc_law_points_of_rules.nd rfl (by first | exact Or.inl rfl | exact Or.inr rfl)) (fun _ _ => gt_name) .one (fun rule1 hrule1 => jt_wb fun _ _ _ _ _ => (xb_val (xv_call c_law_breaks (hr.mono (by decide)) (xl_cons (xv_var 8) (xl_cons (xv_var 7) xa_nil)) ⟨rule1, point, rfl, (by rw [hpl (hso _ hpoint)]; exact hrs.2 _ hrule1), rfl⟩))) (fun rule1 hrule1 prule1 _ _ _ _ _ => xv_int) (by omega) (blkOk_by (N := n_law_points_of_rules) (sc := (relS _ (defScope s_law_points_of_rules))) (by decide +kernel)) sc_law_points_of_rules.nd).frz xv_nilL)))))) (fun point hpoint ppoint _ _ _ _ _ => (xv_var 7)) (by omega) ?_ (blkOk_by (N := n_law_points_of_rules) (sc := defScope s_law_points_of_rules) (by decide +kernel)) sc_law_points_of_rules.nd (sw_true rfl rfl rfl (by decide +kernel)))
      refine xs_freeze 9 ?_
      refine xs_no (XB.is (xt_w (xb_or (xb_not (xb_val (xv_call c_law_same (hr.mono (by decide)) (xl_cons (xv_call c_tolerating (hr.mono (by decide)) (xl_cons (xv_ix ix_list (v_ixLT (f := (pT eS eS)) (atI_getD hk.1 hk.2)) (xv_var 1) (xv_var 5)) (xl_cons (xv_var 1) (xl_cons (xv_var 2) xa_nil))) ⟨(rules.getD (k).toNat (.fls, .fls)), rules, many, rfl, ⟨hm, hok, hrs⟩, rfl⟩) (xl_cons (xv_ix ix_list (v_ixLT (f := oT (tT D.int)) (here_first (r := (rules.getD (k).toNat (.fls, .fls))) (rules := rules) (many := many))) (xo_catL (f := oT (tT D.int)) (l := (hereL (rules.getD (k).toNat (.fls, .fls)) rules many).map some) (l' := [none]) (XV.is (xv_var 9) here_data) (xv_lst (xl_cons xv_non xa_nil)) (by rw [List.length_map]; simp only [List.length_cons, List.length_nil]; omega)).frz xv_int) xa_nil)) ⟨_, rfl, ⟨7, rfl, sm_tol hm⟩, rfl⟩))) (fun _ => (xw_or1 (xb_not (xb_val (xv_call c_law_same (hr.mono (by decide)) (xl_cons (xv_call c_is_free (hr.mono (by decide)) (xl_cons (xv_ix ix_list (v_ixLT (f := (pT eS eS)) (atI_getD hk.1 hk.2)) (xv_var 1) (xv_var 5)) (xl_cons (xv_var 1) (xl_cons (xv_var 2) xa_nil))) ⟨(rules.getD (k).toNat (.fls, .fls)), rules, many, rfl, ⟨hm, hok, hrs⟩, rfl⟩) (xl_cons (XV.is (xv_or (xv_cmp (op_eqD hu64) (v_eq (f := (lT (tT D.int)))) (xv_var 6) xv_nilL) (fun _ => (xv_one (xv_cmp (op_neD hu64) (v_ne (f := (lT (tT D.int)))) (xv_var 9) xv_nilL)))) (congrArg D.bl here_free)) xa_nil)) ⟨_, rfl, ⟨7, rfl, sm_bl⟩, rfl⟩))))))) rfl) ?_
      refine xs_no (XB.is (xb_cmp (op_neD hu64) (v_ne (f := (lT (tT D.int)))) (xv_call c_points_where (hr.mono (by decide)) (xl_cons (xv_ix ix_tup (v_ixT (f := eS (rules.getD (k).toNat (.fls, .fls)).1) rfl) (xv_ix ix_list (v_ixLT (f := (pT eS eS)) (atI_getD hk.1 hk.2)) (xv_var 1) (xv_var 5)) xv_int) (xl_cons (xv_var 2) xa_nil)) ⟨(rules.getD (k).toNat (.fls, .fls)).1, many, rfl, ⟨hm, hok.1⟩, rfl⟩) (xv_var 6)) pw_pts) ?_
      refine xs_cons (xs_asg 7 (xe_ixD (f := (tT D.int)) (l := (points many)) (Ψ := fun d => ∃ x, d = (tT D.int) x ∧ x ∈ (points many)) (xv_var 3) (xe_pick 0 c_law_pick (hr.mono (by decide)) (xv_lenLT (f := (tT D.int)) (xv_var 3) m_len) ⟨by omega, by omega⟩) (by omega) (fun x hx => ⟨x, rfl, hx⟩)) (fun d ⟨point, hd, hpoint⟩ => ?_) sc_law_points_of_rules.nd)
      subst hd
      refine xs_no (XB.is (xt_w (xb_or (xb_not (xb_val (xv_call c_law_same (hr.mono (by decide)) (xl_cons (xv_call c_breaks (hr.mono (by decide)) (xl_cons (xv_ix ix_list (v_ixLT (f := (pT eS eS)) (atI_getD hk.1 hk.2)) (xv_var 1) (xv_var 5)) (xl_cons (xv_var 7) xa_nil)) ⟨(rules.getD (k).toNat (.fls, .fls)), point, rfl, (by rw [hpl hpoint]; exact hok), rfl⟩) (xl_cons (XV.is (xv_call c_law_breaks (hr.mono (by decide)) (xl_cons (xv_ix ix_list (v_ixLT (f := (pT eS eS)) (atI_getD hk.1 hk.2)) (xv_var 1) (xv_var 5)) (xl_cons (xv_var 7) xa_nil)) ⟨(rules.getD (k).toNat (.fls, .fls)), point, rfl, (by rw [hpl hpoint]; exact hok), rfl⟩) rfl) xa_nil)) ⟨_, rfl, ⟨7, rfl, sm_bl⟩, rfl⟩))) (fun _ => (xw_or1 (xb_not (xb_val (xv_call c_law_same (hr.mono (by decide)) (xl_cons (xv_call c_fits (hr.mono (by decide)) (xl_cons (xv_ix ix_tup (v_ixT (f := eS (rules.getD (k).toNat (.fls, .fls)).1) rfl) (xv_ix ix_list (v_ixLT (f := (pT eS eS)) (atI_getD hk.1 hk.2)) (xv_var 1) (xv_var 5)) xv_int) (xl_cons (xv_var 7) xa_nil)) ⟨(rules.getD (k).toNat (.fls, .fls)).1, point, rfl, hok.1.1, (by rw [hpl hpoint]; exact hok.1.2), rfl⟩) (xl_cons (XV.is (xv_call c_law_fits (hr.mono (by decide)) (xl_cons (xv_ix ix_tup (v_ixT (f := eS (rules.getD (k).toNat (.fls, .fls)).1) rfl) (xv_ix ix_list (v_ixLT (f := (pT eS eS)) (atI_getD hk.1 hk.2)) (xv_var 1) (xv_var 5)) xv_int) (xl_cons (xv_var 7) xa_nil)) ⟨(rules.getD (k).toNat (.fls, .fls)).1, point, rfl, hok.1.1, (by rw [hpl hpoint]; exact hok.1.2), rfl⟩) rfl) xa_nil)) ⟨_, rfl, ⟨7, rfl, sm_bl⟩, rfl⟩))))))) rfl) ?_
      rw [List.filter_append, List.filter_cons_of_pos hex, List.filter_nil, List.map_append]
      exact xs_nil (by repeat (first | exact le_nil | refine le_eq ?_ | refine le_un ?_))
    ·
      have hex : ¬ excB rules many k = true := fun z => Bool.noConfusion ((h1.trans due_eq).trans z)
      refine xs_nil ?_
      refine xs_cons (xs_asgLc (f := (tT D.int)) (xs := (ptsP (rules.getD (k).toNat (.fls, .fls)).1 many)) 9 [7] (fun point => [(tT D.int) point]) (fun point => ((fits (rules.getD (k).toNat (.fls, .fls)).2 point) && (decide (((rules.filter fun rule1 => (breaks rule1 point)).map fun rule1 => 1) = [])))) (tT D.int) (fun point => point) [("point", 7)] (xw_listT (f := (tT D.int)) (xv_var 6)) (fun _ _ _ _ _ => pg_name (i := 7) sc_law_points_of_rules.nd rfl (by first | exact Or.inl rfl | exact Or.inr rfl)) (fun _ _ => gt_name) .one (fun point hpoint => jt_wb fun _ _ _ _ _ => (xt_w (xb_and (xb_val (xv_call c_law_fits (hr.mono (by decide)) (xl_cons (xv_ix ix_tup (v_ixT (f := eS (rules.getD (k).toNat (.fls, .fls)).2) rfl) (xv_ix ix_list (v_ixLT (f := (pT eS eS)) (atI_getD hk.1 hk.2)) (xv_var 1) (xv_var 5)) xv_int) (xl_cons (xv_var 7) xa_nil)) ⟨(rules.getD (k).toNat (.fls, .fls)).2, point, rfl, hok.2.1, (by rw [hpl (hso _ hpoint)]; exact hok.2.2), rfl⟩)) (fun _ => (xw_and1 (xb_cmp (op_eqD hu64) (v_eq (f := (lT D.int))) (xo_lc (f := (pT eS eS)) (xs := rules) [8] (fun rule1 => [(pT eS eS) rule1]) (fun rule1 => (breaks rule1 point)) D.int (fun rule1 => 1) [("rule", 8)] (xw_listT (f := (pT eS eS)) (xv_var 1)) (fun _ _ _ _ _ => pg_name (i := 8) sc_law_points_of_rules.nd rfl (by first | exact Or.inl rfl | exact Or.inr rfl)) (fun _ _ => gt_name) .one (fun rule1 hrule1 => jt_wb fun _ _ _ _ _ => (xb_val (xv_call c_law_breaks (hr.mono (by decide)) (xl_cons (xv_var 8) (xl_cons (xv_var 7) xa_nil)) ⟨rule1, point, rfl, (by rw [hpl (hso _ hpoint)]; exact hrs.2 _ hrule1), rfl⟩))) (fun rule1 hrule1 prule1 _ _ _ _ _ => xv_int) (by omega) (blkOk_by (N := n_law_points_of_rules) (sc := (relS _ (defScope s_law_points_of_rules))) (by decide +kernel)) sc_law_points_of_rules.nd).frz xv_nilL)))))) (fun point hpoint ppoint _ _ _ _ _ => (xv_var 7)) (by omega) ?_ (blkOk_by (N := n_law_points_of_rules) (sc := defScope s_law_points_of_rules) (by decide +kernel)) sc_law_points_of_rules.nd (sw_true rfl rfl rfl (by decide +kernel)))
      refine xs_freeze 9 ?_
      refine xs_no (XB.is (xt_w (xb_or (xb_not (xb_val (xv_call c_law_same (hr.mono (by decide)) (xl_cons (xv_call c_tolerating (hr.mono (by decide)) (xl_cons (xv_ix ix_list (v_ixLT (f := (pT eS eS)) (atI_getD hk.1 hk.2)) (xv_var 1) (xv_var 5)) (xl_cons (xv_var 1) (xl_cons (xv_var 2) xa_nil))) ⟨(rules.getD (k).toNat (.fls, .fls)), rules, many, rfl, ⟨hm, hok, hrs⟩, rfl⟩) (xl_cons (xv_ix ix_list (v_ixLT (f := oT (tT D.int)) (here_first (r := (rules.getD (k).toNat (.fls, .fls))) (rules := rules) (many := many))) (xo_catL (f := oT (tT D.int)) (l := (hereL (rules.getD (k).toNat (.fls, .fls)) rules many).map some) (l' := [none]) (XV.is (xv_var 9) here_data) (xv_lst (xl_cons xv_non xa_nil)) (by rw [List.length_map]; simp only [List.length_cons, List.length_nil]; omega)).frz xv_int) xa_nil)) ⟨_, rfl, ⟨7, rfl, sm_tol hm⟩, rfl⟩))) (fun _ => (xw_or1 (xb_not (xb_val (xv_call c_law_same (hr.mono (by decide)) (xl_cons (xv_call c_is_free (hr.mono (by decide)) (xl_cons (xv_ix ix_list (v_ixLT (f := (pT eS eS)) (atI_getD hk.1 hk.2)) (xv_var 1) (xv_var 5)) (xl_cons (xv_var 1) (xl_cons (xv_var 2) xa_nil))) ⟨(rules.getD (k).toNat (.fls, .fls)), rules, many, rfl, ⟨hm, hok, hrs⟩, rfl⟩) (xl_cons (XV.is (xv_or (xv_cmp (op_eqD hu64) (v_eq (f := (lT (tT D.int)))) (xv_var 6) xv_nilL) (fun _ => (xv_one (xv_cmp (op_neD hu64) (v_ne (f := (lT (tT D.int)))) (xv_var 9) xv_nilL)))) (congrArg D.bl here_free)) xa_nil)) ⟨_, rfl, ⟨7, rfl, sm_bl⟩, rfl⟩))))))) rfl) ?_
      refine xs_no (XB.is (xb_cmp (op_neD hu64) (v_ne (f := (lT (tT D.int)))) (xv_call c_points_where (hr.mono (by decide)) (xl_cons (xv_ix ix_tup (v_ixT (f := eS (rules.getD (k).toNat (.fls, .fls)).1) rfl) (xv_ix ix_list (v_ixLT (f := (pT eS eS)) (atI_getD hk.1 hk.2)) (xv_var 1) (xv_var 5)) xv_int) (xl_cons (xv_var 2) xa_nil)) ⟨(rules.getD (k).toNat (.fls, .fls)).1, many, rfl, ⟨hm, hok.1⟩, rfl⟩) (xv_var 6)) pw_pts) ?_
      refine xs_cons (xs_asg 7 (xe_ixD (f := (tT D.int)) (l := (points many)) (Ψ := fun d => ∃ x, d = (tT D.int) x ∧ x ∈ (points many)) (xv_var 3) (xe_pick 0 c_law_pick (hr.mono (by decide)) (xv_lenLT (f := (tT D.int)) (xv_var 3) m_len) ⟨by omega, by omega⟩) (by omega) (fun x hx => ⟨x, rfl, hx⟩)) (fun d ⟨point, hd, hpoint⟩ => ?_) sc_law_points_of_rules.nd)
      subst hd
      refine xs_no (XB.is (xt_w (xb_or (xb_not (xb_val (xv_call c_law_same (hr.mono (by decide)) (xl_cons (xv_call c_breaks (hr.mono (by decide)) (xl_cons (xv_ix ix_list (v_ixLT (f := (pT eS eS)) (atI_getD hk.1 hk.2)) (xv_var 1) (xv_var 5)) (xl_cons (xv_var 7) xa_nil)) ⟨(rules.getD (k).toNat (.fls, .fls)), point, rfl, (by rw [hpl hpoint]; exact hok), rfl⟩) (xl_cons (XV.is (xv_call c_law_breaks (hr.mono (by decide)) (xl_cons (xv_ix ix_list (v_ixLT (f := (pT eS eS)) (atI_getD hk.1 hk.2)) (xv_var 1) (xv_var 5)) (xl_cons (xv_var 7) xa_nil)) ⟨(rules.getD (k).toNat (.fls, .fls)), point, rfl, (by rw [hpl hpoint]; exact hok), rfl⟩) rfl) xa_nil)) ⟨_, rfl, ⟨7, rfl, sm_bl⟩, rfl⟩))) (fun _ => (xw_or1 (xb_not (xb_val (xv_call c_law_same (hr.mono (by decide)) (xl_cons (xv_call c_fits (hr.mono (by decide)) (xl_cons (xv_ix ix_tup (v_ixT (f := eS (rules.getD (k).toNat (.fls, .fls)).1) rfl) (xv_ix ix_list (v_ixLT (f := (pT eS eS)) (atI_getD hk.1 hk.2)) (xv_var 1) (xv_var 5)) xv_int) (xl_cons (xv_var 7) xa_nil)) ⟨(rules.getD (k).toNat (.fls, .fls)).1, point, rfl, hok.1.1, (by rw [hpl hpoint]; exact hok.1.2), rfl⟩) (xl_cons (XV.is (xv_call c_law_fits (hr.mono (by decide)) (xl_cons (xv_ix ix_tup (v_ixT (f := eS (rules.getD (k).toNat (.fls, .fls)).1) rfl) (xv_ix ix_list (v_ixLT (f := (pT eS eS)) (atI_getD hk.1 hk.2)) (xv_var 1) (xv_var 5)) xv_int) (xl_cons (xv_var 7) xa_nil)) ⟨(rules.getD (k).toNat (.fls, .fls)).1, point, rfl, hok.1.1, (by rw [hpl hpoint]; exact hok.1.2), rfl⟩) rfl) xa_nil)) ⟨_, rfl, ⟨7, rfl, sm_bl⟩, rfl⟩))))))) rfl) ?_
      rw [List.filter_append, List.filter_cons_of_neg hex, List.filter_nil, List.append_nil]
      exact xs_nil (by repeat (first | exact le_nil | refine le_eq ?_ | refine le_un ?_))
  ·
    refine xs_freeze 4 ?_
    exact xs_cons (xs_retV (xv_call c_law_same (hr.mono (by decide)) (xl_cons (xv_call c_exceptional (hr.mono (by decide)) (xl_cons (xv_var 1) (xl_cons (xv_var 2) xa_nil)) ⟨rules, many, rfl, ⟨hm, hrs⟩, rfl⟩) (xl_cons (XV.is (xv_tupleL (f := D.int) (xv_var 4) m_tuple) rfl) xa_nil)) ⟨_, rfl, ⟨7, rfl, sm_tT (by have := exc_len (rules := rules) (many := many); omega) (fun _ _ => sm_int)⟩, rfl⟩) ⟨hΦ, stO, rfl, rfl⟩)
end
end K77

namespace K77
open PySem PySem.Spec PyProof.Rows L2 Evl DL WB
section
variable {P : Program} {w : World} {K : PySem.W.Frag} {mg : Str → Option Value} {base : Heap}
abbrev s_law_ranked : Stmt := topS 33
abbrev n_law_ranked : List Str := ["state", "many", "rows", "ranks", "point", "saying", "some", "k", "least", "j", "odd"]
theorem sc_law_ranked : FnScope n_law_ranked ["state", "many"] (defScope s_law_ranked) := ⟨rfl, rfl, rfl, by decide +kernel, rfl, by decide +kernel, by decide +kernel⟩
theorem ok_law_ranked {f : Addr} {fd : FuncData} (F : Fun K "_law_ranked" "_law_ranked" s_law_ranked f fd) (c_law_points : Cal P w K mg base 2 "_law_points" ["many"] (spP K cPoints)) (c_law_fits : Cal P w K mg base 8 "_law_fits" ["saying", "point"] (spP K (cFits 8))) (c_least_points : Cal P w K mg base 10 "least_points" ["ranks", "saying", "many"] (spP K cLeast)) (c_is_ranks : Cal P w K mg base 1 "is_ranks" ["value", "many"] (spP K cIsRanks)) (c_law_pick : Cal P w K mg base 1 "_law_pick" ["state", "limit"] (spE K stO cPick)) (c_law_saying : Cal P w K mg base 4 "_law_saying" ["state", "letters", "depth", "boxes"] (spE K stO (cSay 3))) (c_law_same : Cal P w K mg base 8 "_law_same" ["told", "due"] (spP K (cSame 8))) (m_len : mg "len" = none) (m_range : mg "range" = none) (m_tuple : mg "tuple" = none) (m_list : mg "list" = none) (m_min : mg "min" = none) : FnOk P w K mg base CX0 (10 + 1) f fd ["state", "many"] (spE K stO cRanked) := by
  refine fn_eff (o := stO) (fun o => o = stO) (fun Hb u o' h r => h ▸ r) F sc_law_ranked (fun ds Φ ⟨_, h, _⟩ => by rw [h]; rfl) fun cdv A outer s0 H E hr ds Φ ⟨many, hd, hm, hΦ⟩ => ?_
  subst hd
  have hu64 := hu_64 hr
  have hu65 := hu_65 hr
  have h8 := points_len8 hm
  refine xs_cons (xs_asgV 2 (xv_call c_law_points (hr.mono (by decide)) (xl_cons (xv_var 1) xa_nil) ⟨many, rfl, hm, rfl⟩) ?_ sc_law_ranked.nd)
  refine xs_cons (xs_asg 3 (xe_tupN (xn_lcD (f := (tT D.int)) (xs := (points many)) (Ψ := fun v : Int => 0 ≤ v ∧ v < 3) [4] (fun point => [(tT D.int) point]) D.int [("point", 4)] (xw_listT (f := (tT D.int)) (xv_var 2)) (fun _ _ _ _ _ => pg_name (i := 4) sc_law_ranked.nd rfl (by first | exact Or.inl rfl | exact Or.inr rfl)) (fun _ _ => gt_name) (fun point hpoint _ _ _ _ _ => (xe_pick 0 c_law_pick (hr.mono (by decide)) xv_int ⟨by omega, by omega⟩)) (by omega) (blkOk_by (N := n_law_ranked) (sc := defScope s_law_ranked) (by decide +kernel)) sc_law_ranked.nd) m_tuple) (fun d ⟨ranks, hd, ranks_len, ranks_mem⟩ => ?_) sc_law_ranked.nd)
  subst hd
  refine xs_cons (xs_asg 5 (xe_callE 0 (Φ := fun d => ∃ s : Sy, d = eS s ∧ (s.dep : Int) ≤ 2 ∧ s.lt many) c_law_saying (hr.mono (by decide)) (xl_cons (xv_var 1) (xl_cons xv_int (xl_cons xv_bl xa_nil))).up (fun ds h => ⟨many, 2, h, ⟨by omega, by omega, by omega, by omega⟩, fun s h1 h2 => ⟨s, rfl, h1, h2⟩⟩)) (fun d ⟨saying, hd, saying_d, saying_l⟩ => ?_) sc_law_ranked.nd)
  subst hd
  refine xs_cons (xs_asgV 6 (xo_lc (f := D.int) (xs := (rng 0 ((points many).length : Int))) [7] (fun k => [D.int k]) (fun k => (fits saying ((points many).getD (k).toNat []))) D.int (fun k => k) [("k", 7)] (xw_range1 (xl_cons (xv_lenLT (f := (tT D.int)) (xv_var 2) m_len) xa_nil) (by omega) m_range (by omega)) (fun _ _ _ _ _ => pg_name (i := 7) sc_law_ranked.nd rfl (by first | exact Or.inl rfl | exact Or.inr rfl)) (fun _ _ => gt_name) .one (fun k hk => jt_wb fun _ _ _ _ _ => (xb_val (xv_call c_law_fits (hr.mono (by decide)) (xl_cons (xv_var 5) (xl_cons (xv_ix ix_list (v_ixLT (f := (tT D.int)) (atI_getD (by have mk := mem_rng.mp hk; omega) (by have mk := mem_rng.mp hk; omega))) (xv_var 2) (xv_var 7)) xa_nil)) ⟨saying, ((points many).getD (k).toNat []), rfl, (show saying.dep < 8 by omega), (by rw [points_mem hm (rows_mem (mem_rng.mp hk).1 (mem_rng.mp hk).2)]; exact saying_l), rfl⟩))) (fun k hk pk _ _ _ _ _ => (xv_var 7)) (by rw [rng_len]; omega) (blkOk_by (N := n_law_ranked) (sc := defScope s_law_ranked) (by decide +kernel)) sc_law_ranked.nd).frz ?_ sc_law_ranked.nd)
  have hsm := someK_len (s := saying) (rows := points many)
  have m_some : ∀ {k : Int}, k ∈ (someK saying (points many)) → 0 ≤ k ∧ k < (points many).length := fun h => ⟨(someK_mem h).1, (someK_mem h).2.1⟩
  refine xs_cons (xs_asgLc (f := D.int) (xs := (someK saying (points many))) 8 [7] (fun k => [D.int k]) (fun k => (decide ((ranks.getD (k).toNat 0) = (lmin ((someK saying (points many)).map fun j1 => (ranks.getD (j1).toNat 0)))))) (tT D.int) (fun k => ((points many).getD (k).toNat [])) [("k", 7)] (xw_listT (f := D.int) (xv_var 6)) (fun _ _ _ _ _ => pg_name (i := 7) sc_law_ranked.nd rfl (by first | exact Or.inl rfl | exact Or.inr rfl)) (fun _ _ => gt_name) .one (fun k hk => jt_wb fun _ _ _ _ _ => (xb_cmp op_eq v_eqI (xv_ix ix_tup (v_ixTT (f := D.int) (atI_getD (m_some hk).1 (by have := (m_some hk).2; omega))) (xv_var 3) (xv_var 7)) (xv_min (xo_map (f := D.int) (xs := (someK saying (points many))) [9] (fun j1 => [D.int j1]) D.int (fun j1 => (ranks.getD (j1).toNat 0)) [("j", 9)] (xw_listT (f := D.int) (xv_var 6)) (fun _ _ _ _ _ => pg_name (i := 9) sc_law_ranked.nd rfl (by first | exact Or.inl rfl | exact Or.inr rfl)) (fun _ _ => gt_name) (fun j1 hj1 _ _ _ _ _ => (xv_ix ix_tup (v_ixTT (f := D.int) (atI_getD (m_some hj1).1 (by have := (m_some hj1).2; omega))) (xv_var 3) (xv_var 9))) (by omega) (blkOk_by (N := n_law_ranked) (sc := (relS _ (defScope s_law_ranked))) (by decide +kernel)) sc_law_ranked.nd).frz (fun e => by rw [List.map_eq_nil_iff.mp e] at hk; exact (nomatch hk)) m_min))) (fun k hk pk _ _ _ _ _ => (xv_ix ix_list (v_ixLT (f := (tT D.int)) (atI_getD (m_some hk).1 (m_some hk).2)) (xv_var 2) (xv_var 7))) (by omega) ?_ (blkOk_by (N := n_law_ranked) (sc := defScope s_law_ranked) (by decide +kernel)) sc_law_ranked.nd (sw_true rfl rfl rfl (by decide +kernel)))
  refine xs_freeze 8 ?_
  refine xs_no (XB.is (xb_not (xb_val (xv_call c_law_same (hr.mono (by decide)) (xl_cons (xv_call c_least_points (hr.mono (by decide)) (xl_cons (xv_var 3) (xl_cons (xv_var 5) (xl_cons (xv_var 1) xa_nil))) ⟨ranks, saying, many, rfl, ⟨hm, ranks_len, (show saying.dep < 8 by omega), saying_l⟩, rfl⟩) (xl_cons (XV.is (xv_var 8) (congrArg (lT (tT D.int)) (lleast_eq ranks_len))) xa_nil)) ⟨_, rfl, ⟨7, rfl, sm_lT (by have := leastP_len (ranks := ranks) (s := saying) (many := many); omega) (fun p hp => sm_tT (by have := points_mem hm (leastP_mem p hp); omega) (fun _ _ => sm_int))⟩, rfl⟩))) rfl) ?_
  have hcut : (DL.cutD ranks none (some (-1))).length ≤ ranks.length := by
    unfold DL.cutD
    rw [List.length_take, List.length_drop]
    omega
  obtain ⟨vals, hvals⟩ : ∃ vals : List Val, vals = [.nun, .lis ranks, .nums (DL.cutD ranks (some 1) none), .nums (DL.cutD ranks none (some (-1)) ++ [-1]), .mix (DL.cutD ranks none (some (-1))) true] := ⟨_, rfl⟩
  have hval : D.lst [.non, lT D.int ranks, tT D.int (DL.cutD ranks (some 1) none), tT D.int (DL.cutD ranks none (some (-1)) ++ [-1]), .tup ((DL.cutD ranks none (some (-1))).map D.int ++ [.bl true])] = lT eV vals := by rw [hvals]; rfl
  have hvl : vals.length = 5 := by rw [hvals]; rfl
  have hvo := odd_ranks hm ranks_len
  rw [← hvals] at hvo
  clear hvals
  refine xs_cons (xs_asg 10 (xe_ixD (f := eV) (l := vals) (Ψ := fun d => ∃ v, d = eV v ∧ v.sm ∧ isRanksV many v = false) (XV.is (xv_lst (xl_cons xv_non (xl_cons (xo_listT (f := D.int) (xv_var 3) m_list).frz (xl_cons (xv_slT (f := D.int) (xv_var 3) (xp_some xv_int) xp_none) (xl_cons (xv_catT (f := D.int) (l' := [-1]) (xv_slT (f := D.int) (xv_var 3) xp_none (xp_some (xv_neg xv_int))) (xv_tup (hl := by simp) (xl_cons (xv_neg xv_int) xa_nil)) (by simp only [List.length_cons, List.length_nil]; omega)) (xl_cons (xv_bin op_catA (v_catT (ds := (DL.cutD ranks none (some (-1))).map D.int) (es := [.bl true]) (by rw [List.length_map]; simp only [List.length_cons, List.length_nil]; omega)) (xv_slT (f := D.int) (xv_var 3) xp_none (xp_some (xv_neg xv_int))) (xv_tup (hl := by simp) (xl_cons xv_bl xa_nil))) xa_nil))))) (by simp)) hval) (xe_pick 0 c_law_pick (hr.mono (by decide)) xv_int ⟨by omega, by omega⟩) (by omega) hvo) (fun d ⟨v, hd, hvs, hvf⟩ => ?_) sc_law_ranked.nd)
  subst hd
  have hri : isRanksV many (.nums ranks) = true := (isRanks_iff hm).mpr ⟨ranks_len, fun x hx => (ranks_mem x hx).1⟩
  exact xs_cons (xs_retV (xv_and (xv_cmp op_is_bl v_isB (xv_call c_is_ranks (hr.mono (by decide)) (xl_cons (xv_var 3) (xl_cons (xv_var 1) xa_nil)) ⟨.nums ranks, many, rfl, ⟨hm, (show ranks.length ≤ 100 by omega)⟩, rfl⟩) xv_bl) (fun _ => xv_one (xv_cmp op_is_bl v_isB (xv_call c_is_ranks (hr.mono (by decide)) (xl_cons (xv_var 10) (xl_cons (xv_var 1) xa_nil)) ⟨v, many, rfl, ⟨hm, hvs⟩, rfl⟩) xv_bl))) ⟨by rw [hri, hvf]; exact hΦ, stO, rfl, rfl⟩)
end
end K77

namespace K77
open PySem PySem.Spec PyProof.Rows L2 Evl DL WB
theorem isN_oT' {o : Option (List Int)} : (oT (tT D.int) o).isN = o.isNone := isN_oT
section
variable {P : Program} {w : World} {K : PySem.W.Frag} {mg : Str → Option Value} {base : Heap}
abbrev s_law : Stmt := topS 34
abbrev n_law : List Str := ["script", "state", "many", "rules", "rows", "levels", "stuck", "told", "ranks", "due", "point", "high", "k", "j", "rule", "some"]
theorem sc_law : FnScope n_law ["script"] (defScope s_law) := ⟨rfl, rfl, rfl, by decide +kernel, rfl, by decide +kernel, by decide +kernel⟩
abbrev GL (Φ : D → Prop) : Dn := { nx := fun _ => Φ .non, rt := fun d _ => Φ d }
section
variable {f : Addr} {cdv : Value} {A : Around} {outer : List Env} {s0 : Shared} {H : Hp} {E : XK} (hr : Room 14 (A.deeper (envOfC "law" (defScope s_law) s0.heap.objs.size f cdv)))
variable (c_law_start : Cal P w K mg base 1 "_law_start" ["script"] (spN K cStart)) (c_law_pick : Cal P w K mg base 1 "_law_pick" ["state", "limit"] (spE K stO cPick)) (c_law_rules : Cal P w K mg base 5 "_law_rules" ["state", "many", "most"] (spE K stO cRules)) (c_law_same : Cal P w K mg base 8 "_law_same" ["told", "due"] (spP K (cSame 8))) (c_law_points : Cal P w K mg base 2 "_law_points" ["many"] (spP K cPoints)) (c_points_of : Cal P w K mg base 2 "points_of" ["many"] (spP K cPoints)) (c_law_holds : Cal P w K mg base 10 "_law_holds" ["ranks", "rule", "many"] (spP K cLHolds)) (c_law_breaks : Cal P w K mg base 9 "_law_breaks" ["rule", "point"] (spP K cBreaks)) (c_law_levels : Cal P w K mg base 11 "_law_levels" ["rules", "many"] (spP K cLevels)) (c_law_ranks : Cal P w K mg base 3 "_law_ranks" ["many", "most"] (spP K cLRanks)) (c_all_ranks : Cal P w K mg base 3 "all_ranks" ["many", "most"] (spP K cARanks)) (c_holds : Cal P w K mg base 11 "holds" ["ranks", "rule", "many"] (spP K cHolds)) (c_layers : Cal P w K mg base 12 "layers" ["rules", "many"] (spP K cLayers)) (c_are_stuck : Cal P w K mg base 13 "are_stuck" ["rules", "many", "value"] (spP K cStuck)) (c_ranks_of : Cal P w K mg base 13 "ranks_of" ["rules", "many"] (spP K cRanksOf)) (c_rank_of_point : Cal P w K mg base 10 "rank_of_point" ["rules", "told", "point"] (spP K cRopL)) (c_is_ranks : Cal P w K mg base 1 "is_ranks" ["value", "many"] (spP K cIsRanks)) (c_law_judged : Cal P w K mg base 14 "_law_judged" ["state", "rules", "many"] (spE K stO cJudged)) (c_law_points_of_rules : Cal P w K mg base 13 "_law_points_of_rules" ["state", "rules", "many"] (spE K stO cJudged)) (c_law_ranked : Cal P w K mg base 11 "_law_ranked" ["state", "many"] (spE K stO cRanked)) (m_len : mg "len" = none) (m_range : mg "range" = none) (m_tuple : mg "tuple" = none)
include hr c_law_start c_law_pick c_law_rules c_law_same c_law_points c_points_of c_law_holds c_law_breaks c_law_levels c_law_ranks c_all_ranks c_holds c_layers c_are_stuck c_ranks_of c_rank_of_point c_is_ranks c_law_judged c_law_points_of_rules c_law_ranked m_len m_range m_tuple
theorem law_c (ns : List Int) (many : Int) (rules : List Rule) (lv : List (List Int)) (st : Option (List Int)) (Φ : D → Prop) (hΦ : Φ (.bl true)) (hm : 1 ≤ many ∧ many ≤ 3) (hrs : okRs many rules) (hlv : lvIs rules many lv st) : XSs (cxF P w K mg base n_law "law" s_law f cdv A outer s0 H E) 0 ((defBody s_law).drop 8) [.pd (.sc ns), .ow stO, .pd (.int many), .pd (lT (pT eS eS) rules), .pd (lT (tT D.int) (points many)), .un, .pd (oT (tT D.int) st), .un, .un, .un, .un, .un, .un, .un, .un, .un] (GL Φ) := by
  have hu64 := hu_64 hr
  have hrl := hrs.1
  have h8 := points_len8 hm
  refine xs_ifJ (xb_cmp op_lt v_lt (xv_var 2) xv_int) (fun h => ?_) ?_
  · have hm2 : 1 ≤ many ∧ many ≤ 2 := ⟨hm.1, by have := of_decide_eq_true h; omega⟩
    have h4 := four hm2
    have hll := lrN_len (most := 4) (by omega) (points many).length
    have h44 : 4 ^ (points many).length ≤ 4 ^ 4 := Nat.pow_le_pow_right (by decide) h4
    refine xs_cons (xs_asgLc (f := (tT D.int)) (xs := lrN 4 (points many).length) 15 [8] (fun ranks => [(tT D.int) ranks]) (fun ranks => allB ranks rules many) D.int (fun _ => 1) [("ranks", 8)] (xw_listT (f := (tT D.int)) (xv_call c_law_ranks (hr.mono (by decide)) (xl_cons (xv_var 2) (xl_cons xv_int xa_nil)) ⟨many, 4, rfl, ⟨hm2, by omega, by omega⟩, rfl⟩)) (fun _ _ _ _ _ => pg_name (i := 8) sc_law.nd rfl (by first | exact Or.inl rfl | exact Or.inr rfl)) (fun _ _ => gt_name) .one (fun ranks hranks => jt_wb fun _ _ _ _ _ => (xb_cmp (op_eqD hu64) (v_eq (f := lT D.int)) (xo_lc (f := (pT eS eS)) (xs := rules) [14] (fun one => [(pT eS eS) one]) (fun one => !lholds ranks one many) D.int (fun _ => 1) [("rule", 14)] (xw_listT (f := (pT eS eS)) (xv_var 3)) (fun _ _ _ _ _ => pg_name (i := 14) sc_law.nd rfl (by first | exact Or.inl rfl | exact Or.inr rfl)) (fun _ _ => gt_name) .one (fun one hone => jt_wb fun _ _ _ _ _ => (xb_not (xb_val (xv_call c_law_holds (hr.mono (by decide)) (xl_cons (xv_var 8) (xl_cons (xv_var 14) (xl_cons (xv_var 2) xa_nil))) ⟨ranks, one, many, rfl, ⟨hm, (lrN_mem.mp hranks).1, hrs.2 one hone⟩, rfl⟩)))) (fun one hone pone _ _ _ _ _ => xv_int) (by omega) (blkOk_by (N := n_law) (sc := relS _ (defScope s_law)) (by decide +kernel)) sc_law.nd).frz xv_nilL)) (fun ranks hranks pranks _ _ _ _ _ => xv_int) (by omega) ?_ (blkOk_by (N := n_law) (sc := defScope s_law) (by decide +kernel)) sc_law.nd (sw_true rfl rfl rfl (by decide +kernel)))
    refine xs_freeze 15 ?_
    refine xs_no (XB.is (xb_cmp op_ne v_neB (xv_cmp (op_neD hu64) (v_ne (f := lT D.int)) (xv_var 15) xv_nilL) (xv_cmp op_isN (v_isN (d := oT (tT D.int) st)) (xv_var 6) xv_non)) (some_iff hm2 hlv)) ?_
    refine xs_no (XB.is (xb_cmp (op_neD hu64) (v_ne (f := lT (tT D.int)) (x := lrN 2 (points many).length) (y := lrN 2 (points many).length)) (xv_call c_all_ranks (hr.mono (by decide)) (xl_cons (xv_var 2) (xl_cons xv_int xa_nil)) ⟨many, 2, rfl, ⟨hm2, by omega, by omega⟩, rfl⟩) (xv_call c_law_ranks (hr.mono (by decide)) (xl_cons (xv_var 2) (xl_cons xv_int xa_nil)) ⟨many, 2, rfl, ⟨hm2, by omega, by omega⟩, rfl⟩)) (by rw [decide_eq_true rfl]; rfl)) ?_
    exact xs_nil (by repeat (first | exact le_nil | refine le_eq ?_ | refine le_un ?_))
  exact xs_cons (xs_ret (m := true) (Φ := fun z => z = D.bl true) (xe_andT (xe_callE 1 (Φ := fun z => z = D.bl true) c_law_judged (hr.mono (by decide)) (xl_cons (xv_var 3) (xl_cons (xv_var 2) xa_nil)).up (fun ds h => ⟨rules, many, h, ⟨hm, hrs⟩, rfl⟩)) (xe_andT (xe_callE 1 (Φ := fun z => z = D.bl true) c_law_points_of_rules (hr.mono (by decide)) (xl_cons (xv_var 3) (xl_cons (xv_var 2) xa_nil)).up (fun ds h => ⟨rules, many, h, ⟨hm, hrs⟩, rfl⟩)) (xe_one (xe_callE 1 (Φ := fun z => z = D.bl true) c_law_ranked (hr.mono (by decide)) (xl_cons (xv_var 2) xa_nil).up (fun ds h => ⟨many, h, hm, rfl⟩))))) (fun d hd => by rw [hd]; exact hΦ))
end
end
end K77

namespace K77
open PySem PySem.Spec PyProof.Rows L2 Evl DL WB
section
variable {P : Program} {w : World} {K : PySem.W.Frag} {mg : Str → Option Value} {base : Heap}
section
variable {f : Addr} {cdv : Value} {A : Around} {outer : List Env} {s0 : Shared} {H : Hp} {E : XK} (hr : Room 14 (A.deeper (envOfC "law" (defScope s_law) s0.heap.objs.size f cdv)))
variable (c_law_start : Cal P w K mg base 1 "_law_start" ["script"] (spN K cStart)) (c_law_pick : Cal P w K mg base 1 "_law_pick" ["state", "limit"] (spE K stO cPick)) (c_law_rules : Cal P w K mg base 5 "_law_rules" ["state", "many", "most"] (spE K stO cRules)) (c_law_same : Cal P w K mg base 8 "_law_same" ["told", "due"] (spP K (cSame 8))) (c_law_points : Cal P w K mg base 2 "_law_points" ["many"] (spP K cPoints)) (c_points_of : Cal P w K mg base 2 "points_of" ["many"] (spP K cPoints)) (c_law_holds : Cal P w K mg base 10 "_law_holds" ["ranks", "rule", "many"] (spP K cLHolds)) (c_law_breaks : Cal P w K mg base 9 "_law_breaks" ["rule", "point"] (spP K cBreaks)) (c_law_levels : Cal P w K mg base 11 "_law_levels" ["rules", "many"] (spP K cLevels)) (c_law_ranks : Cal P w K mg base 3 "_law_ranks" ["many", "most"] (spP K cLRanks)) (c_all_ranks : Cal P w K mg base 3 "all_ranks" ["many", "most"] (spP K cARanks)) (c_holds : Cal P w K mg base 11 "holds" ["ranks", "rule", "many"] (spP K cHolds)) (c_layers : Cal P w K mg base 12 "layers" ["rules", "many"] (spP K cLayers)) (c_are_stuck : Cal P w K mg base 13 "are_stuck" ["rules", "many", "value"] (spP K cStuck)) (c_ranks_of : Cal P w K mg base 13 "ranks_of" ["rules", "many"] (spP K cRanksOf)) (c_rank_of_point : Cal P w K mg base 10 "rank_of_point" ["rules", "told", "point"] (spP K cRopL)) (c_is_ranks : Cal P w K mg base 1 "is_ranks" ["value", "many"] (spP K cIsRanks)) (c_law_judged : Cal P w K mg base 14 "_law_judged" ["state", "rules", "many"] (spE K stO cJudged)) (c_law_points_of_rules : Cal P w K mg base 13 "_law_points_of_rules" ["state", "rules", "many"] (spE K stO cJudged)) (c_law_ranked : Cal P w K mg base 11 "_law_ranked" ["state", "many"] (spE K stO cRanked)) (m_len : mg "len" = none) (m_range : mg "range" = none) (m_tuple : mg "tuple" = none)
include hr c_law_start c_law_pick c_law_rules c_law_same c_law_points c_points_of c_law_holds c_law_breaks c_law_levels c_law_ranks c_all_ranks c_holds c_layers c_are_stuck c_ranks_of c_rank_of_point c_is_ranks c_law_judged c_law_points_of_rules c_law_ranked m_len m_range m_tuple
theorem law_b (ns : List Int) (many : Int) (rules : List Rule) (lv : List (List Int)) (st : Option (List Int)) (Φ : D → Prop) (hΦ : Φ (.bl true)) (hm : 1 ≤ many ∧ many ≤ 3) (hrs : okRs many rules) (hlv : lvIs rules many lv st) : XSs (cxF P w K mg base n_law "law" s_law f cdv A outer s0 H E) 0 ((defBody s_law).drop 6) [.pd (.sc ns), .ow stO, .pd (.int many), .pd (lT (pT eS eS) rules), .pd (lT (tT D.int) (points many)), .pd (lT (tT D.int) lv), .pd (oT (tT D.int) st), .un, .un, .un, .un, .un, .un, .un, .un, .un] (GL Φ) := by
  have hu64 := hu_64 hr
  have hrl := hrs.1
  have h8 := points_len8 hm
  have next := law_c (P := P) (w := w) (K := K) (mg := mg) (base := base) (outer := outer) (H := H) (E := E) hr c_law_start c_law_pick c_law_rules c_law_same c_law_points c_points_of c_law_holds c_law_breaks c_law_levels c_law_ranks c_all_ranks c_holds c_layers c_are_stuck c_ranks_of c_rank_of_point c_is_ranks c_law_judged c_law_points_of_rules c_law_ranked m_len m_range m_tuple ns many rules lv st Φ hΦ hm hrs hlv
  refine xs_cons (xs_asgV 7 (xv_call c_layers (hr.mono (by decide)) (xl_cons (xv_var 3) (xl_cons (xv_var 2) xa_nil)) ⟨rules, many, rfl, ⟨hm, hrs⟩, rfl⟩) ?_ sc_law.nd)
  cases st with
  | some l =>
    have e := lvIs_some hlv
    obtain ⟨_, _, _, hlk, hll⟩ := layers_no e
    rw [e]
    refine xs_cons (xs_if (xb_cmp op_notN (v_notN (d := tT D.int l)) (xv_var 6) xv_non) (fun _ => ?_) (fun h => nomatch h))
    refine xs_no (XB.is (xt_w (xb_or (xb_not (xb_val (xv_call c_law_same (hr.mono (by decide)) (xl_cons (XV.is (xv_var 7) rfl) (xl_cons (xv_tup (hl := by simp) (xl_cons xv_str (xl_cons (xv_var 6) xa_nil))) xa_nil)) ⟨.tup [.str "no", tT D.int l], rfl, ⟨7, rfl, ⟨(show (2 : Nat) ≤ 100000 by decide), fun d hd => by
      rcases List.mem_cons.mp hd with rfl | hd
      · exact sm_str
      · rw [List.mem_singleton.mp hd]; exact sm_tT (by omega) (fun _ _ => sm_int)⟩⟩, rfl⟩))) (fun _ => xb_or (xb_cmp op_isnot_bl v_isnotB (xv_call c_are_stuck (hr.mono (by decide)) (xl_cons (xv_var 3) (xl_cons (xv_var 2) (xl_cons (xv_var 6) xa_nil))) ⟨rules, many, .nums l, rfl, ⟨hm, hrs, (show l.length ≤ 100 by omega)⟩, rfl⟩) xv_bl) (fun _ => xw_or1 (xb_cmp op_notN v_notN (xv_call c_ranks_of (hr.mono (by decide)) (xl_cons (xv_var 3) (xl_cons (xv_var 2) xa_nil)) ⟨rules, many, rfl, ⟨hm, hrs⟩, rfl⟩) xv_non))))) (by rw [show stuckV rules many (.nums l) = stuckB rules many l from rfl, stuckB_of e, isN_oT', ranksOf_no e]; rfl)) ?_
    exact xs_nil (next.le (by repeat (first | exact le_nil | refine le_eq ?_ | refine le_un ?_)))
  | none =>
    have e := lvIs_none hlv
    have hlo := layers_ok hrs e
    rw [e]
    refine xs_cons (xs_if (xb_cmp op_notN (v_notN (d := .non)) (xv_var 6) xv_non) (fun h => nomatch h) (fun _ => ?_))
    refine xs_no (XB.is (xb_not (xb_val (xv_call c_law_same (hr.mono (by decide)) (xl_cons (XV.is (xv_var 7) rfl) (xl_cons (xv_tup (hl := by simp) (xl_cons xv_str (xl_cons (xv_tupleL (f := tT D.int) (xv_var 5) m_tuple) xa_nil))) xa_nil)) ⟨.tup [.str "yes", tT (tT D.int) lv], rfl, ⟨7, rfl, ⟨(show (2 : Nat) ≤ 100000 by decide), fun d hd => by
      rcases List.mem_cons.mp hd with rfl | hd
      · exact sm_str
      · rw [List.mem_singleton.mp hd]; exact sm_tT (by have := hlo.1; omega) (fun x hx => sm_tT (by have := (hlo.2 x hx).1; omega) (fun _ _ => sm_int))⟩⟩, rfl⟩))) rfl) ?_
    refine xs_cons (xs_asgV 8 (XV.is (xv_call c_ranks_of (hr.mono (by decide)) (xl_cons (xv_var 3) (xl_cons (xv_var 2) xa_nil)) ⟨rules, many, rfl, ⟨hm, hrs⟩, rfl⟩) (congrArg (oT (tT D.int)) (ranksOf_yes e))) ?_ sc_law.nd)
    refine xs_cons (xs_asgO 9 (xo_lst (ds := []) xa_nil) ?_ sc_law.nd)
    refine xs_loop (f := (tT D.int)) (xs := points many) (js := [10]) (fun point => [(tT D.int) point]) (fun l : List Int => [.pd (.sc ns), .ow stO, .pd (.int many), .pd (lT (pT eS eS) rules), .pd (lT (tT D.int) (points many)), .pd (lT (tT D.int) lv), .pd .non, .pd (eLay (.yes lv)), .pd (tT D.int (zr rules lv many)), .ow (.ml (l.map D.int)), .un, .un, .un, .un, .un, .un]) (fun pre => pre.map (rop rules lv)) (xw_listT (f := (tT D.int)) (xv_var 4)) (pg_name (i := 10) sc_law.nd rfl (by first | exact Or.inl rfl | exact Or.inr rfl)) (fun _ _ => gt_name) (by repeat (first | exact le_nil | refine le_eq ?_ | refine le_un ?_)) (fun pre point post hx => ?_) ?_ PassesOwn.never
    · have hpm : point ∈ points many := by rw [hx]; simp
      have hpl := points_mem hm hpm
      have hsz : ((pre.map (rop rules lv)).map D.int).length < 100000 := by
        have e := congrArg List.length hx
        rw [List.length_append, List.length_cons] at e
        rw [List.length_map, List.length_map]
        omega
      refine xs_cons (xs_asgV 11 xv_int ?_ sc_law.nd)
      refine xs_loop (f := D.int) (xs := rng 0 (lv.length : Int)) (js := [12]) (fun k => [D.int k]) (fun h : Int => [.pd (.sc ns), .ow stO, .pd (.int many), .pd (lT (pT eS eS) rules), .pd (lT (tT D.int) (points many)), .pd (lT (tT D.int) lv), .pd .non, .pd (eLay (.yes lv)), .pd (tT D.int (zr rules lv many)), .ow (.ml ((pre.map (rop rules lv)).map D.int)), .pd (tT D.int point), .pd (.int h), .un, .un, .un, .un]) (fun pre2 => hiF rules lv point pre2) (xw_range1 (xl_cons (xv_lenLT (f := (tT D.int)) (xv_var 5) m_len) xa_nil) (by have := hlo.1; omega) m_range (by omega)) (pg_name (i := 12) sc_law.nd rfl (by first | exact Or.inl rfl | exact Or.inr rfl)) (fun _ _ => gt_name) (by repeat (first | exact le_nil | refine le_eq ?_ | refine le_un ?_)) (fun pre2 k post2 hx2 => ?_) ?_ PassesOwn.never
      · have hk : 0 ≤ k ∧ k < (lv.length : Int) := mem_rng.mp (by rw [hx2]; simp)
        have hin : lv.getD k.toNat [] ∈ lv := by
          rw [List.getD_eq_getElem?_getD, List.getElem?_eq_getElem (by omega)]
          exact List.getElem_mem _
        rw [hiF_snoc, hiStep]
        refine xs_cons (xs_if (xb_cmp (op_neD hu64) (v_ne (f := lT D.int)) (xo_lc (f := D.int) (xs := lv.getD k.toNat []) [13] (fun j => [D.int j]) (fun j => breaks (getR rules j) point) D.int (fun _ => 1) [("j", 13)] (xw_tupT (f := D.int) (xv_ix ix_list (v_ixLT (f := (tT D.int)) (atI_getD hk.1 hk.2)) (xv_var 5) (xv_var 12))) (fun _ _ _ _ _ => pg_name (i := 13) sc_law.nd rfl (by first | exact Or.inl rfl | exact Or.inr rfl)) (fun _ _ => gt_name) .one (fun j hj => jt_wb fun _ _ _ _ _ => (xb_val (xv_call c_law_breaks (hr.mono (by decide)) (xl_cons (xv_ix ix_list (v_ixLT (f := (pT eS eS)) (atI_getD ((hlo.2 _ hin).2 _ hj).1 ((hlo.2 _ hin).2 _ hj).2)) (xv_var 3) (xv_var 13)) (xl_cons (xv_var 10) xa_nil)) ⟨getR rules j, point, rfl, (by rw [hpl]; exact getR_ok hrs ((hlo.2 _ hin).2 _ hj).1 ((hlo.2 _ hin).2 _ hj).2), rfl⟩))) (fun j hj pj _ _ _ _ _ => xv_int) (by have := (hlo.2 _ hin).1; omega) (blkOk_by (N := n_law) (sc := defScope s_law) (by decide +kernel)) sc_law.nd).frz xv_nilL) (fun h1 => ?_) (fun h1 => ?_))
        · rw [if_pos (show brk rules lv point k = true from h1.symm)]
          exact xs_cons (xs_asgV 11 (xv_bin op_add v_add (xv_var 12) xv_int) (xs_nil (xs_nil (by repeat (first | exact le_nil | refine le_eq ?_ | refine le_un ?_)))) sc_law.nd)
        · rw [if_neg (fun z => Bool.noConfusion (h1.trans (show brk rules lv point k = true from z)))]
          exact xs_nil (xs_nil (by repeat (first | exact le_nil | refine le_eq ?_ | refine le_un ?_)))
      rw [hi_rop]
      refine xs_cons (xs_app 9 (xv_var 11) (fun d hd => ?_) hsz)
      subst hd
      refine xs_no (XB.is (xb_not (xb_val (xv_call c_law_same (hr.mono (by decide)) (xl_cons (xv_call c_rank_of_point (hr.mono (by decide)) (xl_cons (xv_var 3) (xl_cons (xv_var 5) (xl_cons (xv_var 10) xa_nil))) ⟨rules, lv, point, rfl, ⟨⟨many, hrs, hpl⟩, hlo⟩, rfl⟩) (xl_cons (XV.is (xv_var 11) rfl) xa_nil)) ⟨_, rfl, ⟨7, rfl, sm_int⟩, rfl⟩))) rfl) ?_
      rw [List.map_append, List.map_append]
      exact xs_nil (by repeat (first | exact le_nil | refine le_eq ?_ | refine le_un ?_))
    refine xs_freeze 9 ?_
    refine xs_no (XB.is (xt_w (xb_or (xb_not (xb_val (xv_call c_law_same (hr.mono (by decide)) (xl_cons (xv_var 8) (xl_cons (XV.is (xv_tupleL (f := D.int) (xv_var 9) m_tuple) rfl) xa_nil)) ⟨_, rfl, ⟨7, rfl, sm_tT (by rw [List.length_map]; omega) (fun _ _ => sm_int)⟩, rfl⟩))) (fun _ => xw_or1 (xb_cmp op_isnot_bl v_isnotB (xv_call c_is_ranks (hr.mono (by decide)) (xl_cons (xv_var 8) (xl_cons (xv_var 2) xa_nil)) ⟨.nums (zr rules lv many), many, rfl, ⟨hm, (show (zr rules lv many).length ≤ 100 by rw [List.length_map]; omega)⟩, rfl⟩) xv_bl)))) (by rw [z_ok hm]; rfl)) ?_
    refine xs_no (XB.is (xb_cmp (op_neD hu64) (v_ne (f := lT D.int)) (xo_lc (f := (pT eS eS)) (xs := rules) [14] (fun one => [(pT eS eS) one]) (fun one => ((!lholds (zr rules lv many) one many) || (!decide (holds (zr rules lv many) one many = true)))) D.int (fun _ => 1) [("rule", 14)] (xw_listT (f := (pT eS eS)) (xv_var 3)) (fun _ _ _ _ _ => pg_name (i := 14) sc_law.nd rfl (by first | exact Or.inl rfl | exact Or.inr rfl)) (fun _ _ => gt_name) .one (fun one hone => jt_wb fun _ _ _ _ _ => (xt_w (xb_or (xb_not (xb_val (xv_call c_law_holds (hr.mono (by decide)) (xl_cons (xv_var 8) (xl_cons (xv_var 14) (xl_cons (xv_var 2) xa_nil))) ⟨zr rules lv many, one, many, rfl, ⟨hm, List.length_map _, hrs.2 one hone⟩, rfl⟩))) (fun _ => xw_or1 (xb_cmp op_isnot_bl v_isnotB (xv_call c_holds (hr.mono (by decide)) (xl_cons (xv_var 8) (xl_cons (xv_var 14) (xl_cons (xv_var 2) xa_nil))) ⟨zr rules lv many, one, many, rfl, ⟨hm, List.length_map _, hrs.2 one hone⟩, rfl⟩) xv_bl))))) (fun one hone pone _ _ _ _ _ => xv_int) (by omega) (blkOk_by (N := n_law) (sc := defScope s_law) (by decide +kernel)) sc_law.nd).frz xv_nilL) (z_bad e)) ?_
    exact xs_nil (next.le (by repeat (first | exact le_nil | refine le_eq ?_ | refine le_un ?_)))
end
end
end K77

namespace K77
open PySem PySem.Spec PyProof.Rows L2 Evl DL WB
section
variable {P : Program} {w : World} {K : PySem.W.Frag} {mg : Str → Option Value} {base : Heap}
section
variable {f : Addr} {cdv : Value} {A : Around} {outer : List Env} {s0 : Shared} {H : Hp} {E : XK} (hr : Room 14 (A.deeper (envOfC "law" (defScope s_law) s0.heap.objs.size f cdv)))
variable (c_law_start : Cal P w K mg base 1 "_law_start" ["script"] (spN K cStart)) (c_law_pick : Cal P w K mg base 1 "_law_pick" ["state", "limit"] (spE K stO cPick)) (c_law_rules : Cal P w K mg base 5 "_law_rules" ["state", "many", "most"] (spE K stO cRules)) (c_law_same : Cal P w K mg base 8 "_law_same" ["told", "due"] (spP K (cSame 8))) (c_law_points : Cal P w K mg base 2 "_law_points" ["many"] (spP K cPoints)) (c_points_of : Cal P w K mg base 2 "points_of" ["many"] (spP K cPoints)) (c_law_holds : Cal P w K mg base 10 "_law_holds" ["ranks", "rule", "many"] (spP K cLHolds)) (c_law_breaks : Cal P w K mg base 9 "_law_breaks" ["rule", "point"] (spP K cBreaks)) (c_law_levels : Cal P w K mg base 11 "_law_levels" ["rules", "many"] (spP K cLevels)) (c_law_ranks : Cal P w K mg base 3 "_law_ranks" ["many", "most"] (spP K cLRanks)) (c_all_ranks : Cal P w K mg base 3 "all_ranks" ["many", "most"] (spP K cARanks)) (c_holds : Cal P w K mg base 11 "holds" ["ranks", "rule", "many"] (spP K cHolds)) (c_layers : Cal P w K mg base 12 "layers" ["rules", "many"] (spP K cLayers)) (c_are_stuck : Cal P w K mg base 13 "are_stuck" ["rules", "many", "value"] (spP K cStuck)) (c_ranks_of : Cal P w K mg base 13 "ranks_of" ["rules", "many"] (spP K cRanksOf)) (c_rank_of_point : Cal P w K mg base 10 "rank_of_point" ["rules", "told", "point"] (spP K cRopL)) (c_is_ranks : Cal P w K mg base 1 "is_ranks" ["value", "many"] (spP K cIsRanks)) (c_law_judged : Cal P w K mg base 14 "_law_judged" ["state", "rules", "many"] (spE K stO cJudged)) (c_law_points_of_rules : Cal P w K mg base 13 "_law_points_of_rules" ["state", "rules", "many"] (spE K stO cJudged)) (c_law_ranked : Cal P w K mg base 11 "_law_ranked" ["state", "many"] (spE K stO cRanked)) (m_len : mg "len" = none) (m_range : mg "range" = none) (m_tuple : mg "tuple" = none)
include hr c_law_start c_law_pick c_law_rules c_law_same c_law_points c_points_of c_law_holds c_law_breaks c_law_levels c_law_ranks c_all_ranks c_holds c_layers c_are_stuck c_ranks_of c_rank_of_point c_is_ranks c_law_judged c_law_points_of_rules c_law_ranked m_len m_range m_tuple
theorem law_a (ns : List Int) (many : Int) (Φ : D → Prop) (hΦ : Φ (.bl true)) (hm : 1 ≤ many ∧ many ≤ 3) : XSs (cxF P w K mg base n_law "law" s_law f cdv A outer s0 H E) 0 ((defBody s_law).drop 2) [.pd (.sc ns), .ow stO, .pd (.int many), .un, .un, .un, .un, .un, .un, .un, .un, .un, .un, .un, .un, .un] (GL Φ) := by
  have h8 := points_len8 hm
  refine xs_cons (xs_asg 3 (xe_callE 1 (Φ := fun d => ∃ rules : List Rule, d = lT (pT eS eS) rules ∧ (rules.length : Int) ≤ 5 ∧ smallRs many rules) c_law_rules (hr.mono (by decide)) (xl_cons (xv_var 2) (xl_cons xv_int xa_nil)).up (fun ds h => ⟨many, 5, h, ⟨hm, by omega, by omega⟩, fun rules h1 h2 => ⟨rules, rfl, h1, h2⟩⟩)) (fun d ⟨rules, hd, hrl, hrs0⟩ => ?_) sc_law.nd)
  subst hd
  have hrs := okRs_small hrl hrs0
  refine xs_cons (xs_asgV 4 (xv_call c_law_points (hr.mono (by decide)) (xl_cons (xv_var 2) xa_nil) ⟨many, rfl, hm, rfl⟩) ?_ sc_law.nd)
  refine xs_no (XB.is (xb_not (xb_val (xv_call c_law_same (hr.mono (by decide)) (xl_cons (xv_call c_points_of (hr.mono (by decide)) (xl_cons (xv_var 2) xa_nil) ⟨many, rfl, hm, rfl⟩) (xl_cons (XV.is (xv_var 4) rfl) xa_nil)) ⟨_, rfl, ⟨7, rfl, sm_lT (by omega) (fun x hx => sm_tT (by have := points_mem hm hx; omega) (fun _ _ => sm_int))⟩, rfl⟩))) rfl) ?_
  refine xs_cons (xs_asgG (js := [5, 6]) (Φ := fun d => ∃ lv st, d = .tup [lT (tT D.int) lv, oT (tT D.int) st] ∧ lvIs rules many lv st) (fun d => match d with | .tup l => l | _ => []) (xe_call c_law_levels (hr.mono (by decide)) (xl_cons (xv_var 3) (xl_cons (xv_var 2) xa_nil)) (fun ds h => ⟨rules, many, h, ⟨hm, hrs⟩, fun lv st h2 => ⟨lv, st, rfl, h2⟩⟩)) (pg_tup rfl (pgs_cons (pg_name (i := 5) sc_law.nd rfl (by first | exact Or.inl rfl | exact Or.inr rfl)) (pgs_cons (pg_name (i := 6) sc_law.nd rfl (by first | exact Or.inl rfl | exact Or.inr rfl)) pgs_nil))) (fun d ⟨lv, st, hd, _⟩ => by subst hd; exact gt_pair) (fun d ⟨lv, st, hd, hlv⟩ => ?_))
  subst hd
  exact law_b (P := P) (w := w) (K := K) (mg := mg) (base := base) (outer := outer) (H := H) (E := E) hr c_law_start c_law_pick c_law_rules c_law_same c_law_points c_points_of c_law_holds c_law_breaks c_law_levels c_law_ranks c_all_ranks c_holds c_layers c_are_stuck c_ranks_of c_rank_of_point c_is_ranks c_law_judged c_law_points_of_rules c_law_ranked m_len m_range m_tuple ns many rules lv st Φ hΦ hm hrs hlv
end
end
end K77

namespace K77
open PySem PySem.Spec PyProof.Rows L2 Evl DL WB
section
variable {P : Program} {w : World} {K : PySem.W.Frag} {mg : Str → Option Value} {base : Heap}
theorem ok_law {f : Addr} {fd : FuncData} (F : Fun K "law" "law" s_law f fd) (c_law_start : Cal P w K mg base 1 "_law_start" ["script"] (spN K cStart)) (c_law_pick : Cal P w K mg base 1 "_law_pick" ["state", "limit"] (spE K stO cPick)) (c_law_rules : Cal P w K mg base 5 "_law_rules" ["state", "many", "most"] (spE K stO cRules)) (c_law_same : Cal P w K mg base 8 "_law_same" ["told", "due"] (spP K (cSame 8))) (c_law_points : Cal P w K mg base 2 "_law_points" ["many"] (spP K cPoints)) (c_points_of : Cal P w K mg base 2 "points_of" ["many"] (spP K cPoints)) (c_law_holds : Cal P w K mg base 10 "_law_holds" ["ranks", "rule", "many"] (spP K cLHolds)) (c_law_breaks : Cal P w K mg base 9 "_law_breaks" ["rule", "point"] (spP K cBreaks)) (c_law_levels : Cal P w K mg base 11 "_law_levels" ["rules", "many"] (spP K cLevels)) (c_law_ranks : Cal P w K mg base 3 "_law_ranks" ["many", "most"] (spP K cLRanks)) (c_all_ranks : Cal P w K mg base 3 "all_ranks" ["many", "most"] (spP K cARanks)) (c_holds : Cal P w K mg base 11 "holds" ["ranks", "rule", "many"] (spP K cHolds)) (c_layers : Cal P w K mg base 12 "layers" ["rules", "many"] (spP K cLayers)) (c_are_stuck : Cal P w K mg base 13 "are_stuck" ["rules", "many", "value"] (spP K cStuck)) (c_ranks_of : Cal P w K mg base 13 "ranks_of" ["rules", "many"] (spP K cRanksOf)) (c_rank_of_point : Cal P w K mg base 10 "rank_of_point" ["rules", "told", "point"] (spP K cRopL)) (c_is_ranks : Cal P w K mg base 1 "is_ranks" ["value", "many"] (spP K cIsRanks)) (c_law_judged : Cal P w K mg base 14 "_law_judged" ["state", "rules", "many"] (spE K stO cJudged)) (c_law_points_of_rules : Cal P w K mg base 13 "_law_points_of_rules" ["state", "rules", "many"] (spE K stO cJudged)) (c_law_ranked : Cal P w K mg base 11 "_law_ranked" ["state", "many"] (spE K stO cRanked)) (m_len : mg "len" = none) (m_range : mg "range" = none) (m_tuple : mg "tuple" = none) : FnOk P w K mg base CX0 (14 + 1) f fd ["script"] (spP K (cLaw 63)) := by
  refine fn_pure F sc_law (fun ds Φ ⟨_, h, _⟩ => by rw [h]; rfl) fun cdv A outer s0 H E hr ds Φ ⟨ns, hd, hns, hΦ⟩ => ?_
  subst hd
  refine xs_cons (xs_asgN 1 (xn_call (Φ := fun o => o = stO) c_law_start (hr.mono (by decide)) (xl_cons (xv_var 0) xa_nil) (fun ds h => ⟨ns, h, rfl⟩)) (fun o ho => ?_) sc_law.nd)
  subst ho
  refine xs_cons (xs_asg 2 (xe_addD xv_int (xe_pick 1 c_law_pick (hr.mono (by decide)) xv_int ⟨by omega, by omega⟩)) (fun d ⟨m1, hd, h0, h1⟩ => ?_) sc_law.nd)
  subst hd
  exact law_a (P := P) (w := w) (K := K) (mg := mg) (base := base) (outer := outer) (H := H) (E := E) hr c_law_start c_law_pick c_law_rules c_law_same c_law_points c_points_of c_law_holds c_law_breaks c_law_levels c_law_ranks c_all_ranks c_holds c_layers c_are_stuck c_ranks_of c_rank_of_point c_is_ranks c_law_judged c_law_points_of_rules c_law_ranked m_len m_range m_tuple ns (1 + m1) Φ hΦ ⟨by omega, by omega⟩
end
end K77

namespace K77
open PySem PySem.Spec PyProof.Rows L2 Evl DL WB
theorem b_points_of : Bnd "points_of" s_points_of ["many"] := fun _ _ _ _ _ _ us hl => match us, hl with | [_], _ => rfl
theorem b_fits : Bnd "fits" s_fits ["saying", "point"] := fun _ _ _ _ _ _ us hl => match us, hl with | [_, _], _ => rfl
theorem b_points_where : Bnd "points_where" s_points_where ["saying", "many"] := fun _ _ _ _ _ _ us hl => match us, hl with | [_, _], _ => rfl
theorem b_breaks : Bnd "breaks" s_breaks ["rule", "point"] := fun _ _ _ _ _ _ us hl => match us, hl with | [_, _], _ => rfl
theorem b_tolerating : Bnd "tolerating" s_tolerating ["rule", "rules", "many"] := fun _ _ _ _ _ _ us hl => match us, hl with | [_, _, _], _ => rfl
theorem b_is_free : Bnd "is_free" s_is_free ["rule", "rules", "many"] := fun _ _ _ _ _ _ us hl => match us, hl with | [_, _, _], _ => rfl
theorem b_layers : Bnd "layers" s_layers ["rules", "many"] := fun _ _ _ _ _ _ us hl => match us, hl with | [_, _], _ => rfl
theorem b_are_stuck : Bnd "are_stuck" s_are_stuck ["rules", "many", "value"] := fun _ _ _ _ _ _ us hl => match us, hl with | [_, _, _], _ => rfl
theorem b_rank_of_point : Bnd "rank_of_point" s_rank_of_point ["rules", "told", "point"] := fun _ _ _ _ _ _ us hl => match us, hl with | [_, _, _], _ => rfl
theorem b_ranks_of : Bnd "ranks_of" s_ranks_of ["rules", "many"] := fun _ _ _ _ _ _ us hl => match us, hl with | [_, _], _ => rfl
theorem b_is_ranks : Bnd "is_ranks" s_is_ranks ["value", "many"] := fun _ _ _ _ _ _ us hl => match us, hl with | [_, _], _ => rfl
theorem b_least_points : Bnd "least_points" s_least_points ["ranks", "saying", "many"] := fun _ _ _ _ _ _ us hl => match us, hl with | [_, _, _], _ => rfl
theorem b_holds : Bnd "holds" s_holds ["ranks", "rule", "many"] := fun _ _ _ _ _ _ us hl => match us, hl with | [_, _, _], _ => rfl
theorem b_all_ranks : Bnd "all_ranks" s_all_ranks ["many", "most"] := fun _ _ _ _ _ _ us hl => match us, hl with | [_, _], _ => rfl
theorem b_exceptional : Bnd "exceptional" s_exceptional ["rules", "many"] := fun _ _ _ _ _ _ us hl => match us, hl with | [_, _], _ => rfl
theorem b_law_start : Bnd "_law_start" s_start ["script"] := fun _ _ _ _ _ _ us hl => match us, hl with | [_], _ => rfl
theorem b_law_pick : Bnd "_law_pick" s_pick ["state", "limit"] := fun _ _ _ _ _ _ us hl => match us, hl with | [_, _], _ => rfl
theorem b_law_same : Bnd "_law_same" s_same ["told", "due"] := fun _ _ _ _ _ _ us hl => match us, hl with | [_, _], _ => rfl
theorem b_law_saying : Bnd "_law_saying" s_saying ["state", "letters", "depth", "boxes"] := fun _ _ _ _ _ _ us hl => match us, hl with | [_, _, _, _], _ => rfl
theorem b_law_rules : Bnd "_law_rules" s_rules ["state", "many", "most"] := fun _ _ _ _ _ _ us hl => match us, hl with | [_, _, _], _ => rfl
theorem b_law_points : Bnd "_law_points" s_law_points ["many"] := fun _ _ _ _ _ _ us hl => match us, hl with | [_], _ => rfl
theorem b_law_fits : Bnd "_law_fits" s_law_fits ["saying", "point"] := fun _ _ _ _ _ _ us hl => match us, hl with | [_, _], _ => rfl
theorem b_law_breaks : Bnd "_law_breaks" s_law_breaks ["rule", "point"] := fun _ _ _ _ _ _ us hl => match us, hl with | [_, _], _ => rfl
theorem b_law_holds : Bnd "_law_holds" s_law_holds ["ranks", "rule", "many"] := fun _ _ _ _ _ _ us hl => match us, hl with | [_, _, _], _ => rfl
theorem b_law_free : Bnd "_law_free" s_law_free ["rule", "rules", "many"] := fun _ _ _ _ _ _ us hl => match us, hl with | [_, _, _], _ => rfl
theorem b_law_ranks : Bnd "_law_ranks" s_law_ranks ["many", "most"] := fun _ _ _ _ _ _ us hl => match us, hl with | [_, _], _ => rfl
theorem b_law_levels : Bnd "_law_levels" s_law_levels ["rules", "many"] := fun _ _ _ _ _ _ us hl => match us, hl with | [_, _], _ => rfl
theorem b_law_judged : Bnd "_law_judged" s_law_judged ["state", "rules", "many"] := fun _ _ _ _ _ _ us hl => match us, hl with | [_, _, _], _ => rfl
theorem b_law_points_of_rules : Bnd "_law_points_of_rules" s_law_points_of_rules ["state", "rules", "many"] := fun _ _ _ _ _ _ us hl => match us, hl with | [_, _, _], _ => rfl
theorem b_law_ranked : Bnd "_law_ranked" s_law_ranked ["state", "many"] := fun _ _ _ _ _ _ us hl => match us, hl with | [_, _], _ => rfl
theorem b_law : Bnd "law" s_law ["script"] := fun _ _ _ _ _ _ us hl => match us, hl with | [_], _ => rfl
theorem law_of {P : Program} {w : World} {K : PySem.W.Frag} {mg : Str → Option Value} (d_points_of : Dd K mg "points_of" s_points_of ["many"]) (d_fits : Dd K mg "fits" s_fits ["saying", "point"]) (d_points_where : Dd K mg "points_where" s_points_where ["saying", "many"]) (d_breaks : Dd K mg "breaks" s_breaks ["rule", "point"]) (d_tolerating : Dd K mg "tolerating" s_tolerating ["rule", "rules", "many"]) (d_is_free : Dd K mg "is_free" s_is_free ["rule", "rules", "many"]) (d_layers : Dd K mg "layers" s_layers ["rules", "many"]) (d_are_stuck : Dd K mg "are_stuck" s_are_stuck ["rules", "many", "value"]) (d_rank_of_point : Dd K mg "rank_of_point" s_rank_of_point ["rules", "told", "point"]) (d_ranks_of : Dd K mg "ranks_of" s_ranks_of ["rules", "many"]) (d_is_ranks : Dd K mg "is_ranks" s_is_ranks ["value", "many"]) (d_least_points : Dd K mg "least_points" s_least_points ["ranks", "saying", "many"]) (d_holds : Dd K mg "holds" s_holds ["ranks", "rule", "many"]) (d_all_ranks : Dd K mg "all_ranks" s_all_ranks ["many", "most"]) (d_exceptional : Dd K mg "exceptional" s_exceptional ["rules", "many"]) (d_law_start : Dd K mg "_law_start" s_start ["script"]) (d_law_pick : Dd K mg "_law_pick" s_pick ["state", "limit"]) (d_law_same : Dd K mg "_law_same" s_same ["told", "due"]) (d_law_saying : Dd K mg "_law_saying" s_saying ["state", "letters", "depth", "boxes"]) (d_law_rules : Dd K mg "_law_rules" s_rules ["state", "many", "most"]) (d_law_points : Dd K mg "_law_points" s_law_points ["many"]) (d_law_fits : Dd K mg "_law_fits" s_law_fits ["saying", "point"]) (d_law_breaks : Dd K mg "_law_breaks" s_law_breaks ["rule", "point"]) (d_law_holds : Dd K mg "_law_holds" s_law_holds ["ranks", "rule", "many"]) (d_law_free : Dd K mg "_law_free" s_law_free ["rule", "rules", "many"]) (d_law_ranks : Dd K mg "_law_ranks" s_law_ranks ["many", "most"]) (d_law_levels : Dd K mg "_law_levels" s_law_levels ["rules", "many"]) (d_law_judged : Dd K mg "_law_judged" s_law_judged ["state", "rules", "many"]) (d_law_points_of_rules : Dd K mg "_law_points_of_rules" s_law_points_of_rules ["state", "rules", "many"]) (d_law_ranked : Dd K mg "_law_ranked" s_law_ranked ["state", "many"]) (m_len : mg "len" = none) (m_range : mg "range" = none) (m_min : mg "min" = none) (m_max : mg "max" = none) (m_all : mg "all" = none) (m_any : mg "any" = none) (m_sorted : mg "sorted" = none) (m_set : mg "set" = none) (m_tuple : mg "tuple" = none) (m_abs : mg "abs" = none) (m_int : mg "int" = none) (m_isinstance : mg "isinstance" = none) (m_bool : mg "bool" = none) (m_str : mg "str" = none) (m_list : mg "list" = none) (base : Heap) (f : Addr) (fd : FuncData) (F : Fun K "law" "law" s_law f fd) : FnOk P w K mg base CX0 15 f fd ["script"] (spP K (cLaw 63)) := by
  have c_pt := Cal.of (P := P) (w := w) (base := base) d_points_of fun F => (ok_points_of F m_range)
  have c_fits := cal_rec (P := P) (w := w) (base := base) d_fits (fun ds Φ ⟨_, _, _, h, _⟩ => by omega) (fun n c => fun F => ok_fits F c) 8
  have c_lfits := cal_rec (P := P) (w := w) (base := base) d_law_fits (fun ds Φ ⟨_, _, _, h, _⟩ => by omega) (fun n c => fun F => ok_law_fits F c) 8
  have c_least := Cal.of (P := P) (w := w) (base := base) d_least_points fun F => ok_least_points F c_fits c_pt m_len m_range m_min
  have c_holds := Cal.of (P := P) (w := w) (base := base) d_holds fun F => ok_holds F c_fits c_least m_all
  have c_lpt := Cal.of (P := P) (w := w) (base := base) d_law_points fun F => ok_law_points F m_range m_sorted
  have c_lholds := Cal.of (P := P) (w := w) (base := base) d_law_holds fun F => ok_law_holds F c_lfits c_lpt m_len m_range m_min
  have c_start := Cal.of (P := P) (w := w) (base := base) d_law_start fun F => ok_start F
  have c_pick := Cal.of (P := P) (w := w) (base := base) d_law_pick fun F => ok_pick F m_len m_abs m_int
  have c_same := cal_rec (P := P) (w := w) (base := base) d_law_same (C := cSame) (fun ds Φ ⟨_, _, ⟨m, h, _⟩, _⟩ => by omega) (fun n c => fun F => ok_same F c m_len m_range m_isinstance m_bool m_int m_str m_list m_tuple) 8
  have c_saying := cal_saying (P := P) (w := w) (base := base) d_law_saying c_pick m_int 3
  have c_rules := Cal.of (P := P) (w := w) (base := base) d_law_rules fun F => ok_rules F c_pick c_saying m_range
  have c_pw := Cal.of (P := P) (w := w) (base := base) d_points_where fun F => ok_points_where F c_fits c_pt
  have c_br := Cal.of (P := P) (w := w) (base := base) d_breaks fun F => ok_breaks F c_fits
  have c_lbr := Cal.of (P := P) (w := w) (base := base) d_law_breaks fun F => ok_law_breaks F c_lfits
  have c_tol := Cal.of (P := P) (w := w) (base := base) d_tolerating fun F => ok_tolerating F c_fits c_pt c_br m_any
  have c_free := Cal.of (P := P) (w := w) (base := base) d_is_free fun F => ok_is_free F c_pw c_tol m_len
  have c_lay := Cal.of (P := P) (w := w) (base := base) d_layers fun F => ok_layers F c_free m_len m_list m_range m_tuple
  have c_stuck := Cal.of (P := P) (w := w) (base := base) d_are_stuck fun F => ok_are_stuck F c_free m_isinstance m_tuple m_int m_bool m_len m_all m_any m_range
  have c_rop := Cal.of (P := P) (w := w) (base := base) d_rank_of_point fun F => ok_rank_of_point F c_br m_len m_range m_max m_any
  have c_ropL := Cal.of (P := P) (w := w) (base := base) d_rank_of_point fun F => ok_rank_of_pointL F c_br m_len m_range m_max m_any
  have c_isr := Cal.of (P := P) (w := w) (base := base) d_is_ranks fun F => ok_is_ranks F m_isinstance m_tuple m_int m_bool m_len m_all
  have c_rk := Cal.of (P := P) (w := w) (base := base) d_ranks_of fun F => ok_ranks_of F c_lay c_rop c_pt m_tuple
  have c_all := Cal.of (P := P) (w := w) (base := base) d_all_ranks fun F => ok_all_ranks F m_range
  have c_exc := Cal.of (P := P) (w := w) (base := base) d_exceptional fun F => ok_exceptional F c_pw c_br m_len m_range m_all m_any m_tuple
  have c_lfree := Cal.of (P := P) (w := w) (base := base) d_law_free fun F => ok_law_free F c_lfits c_lpt c_lbr
  have c_lrk := Cal.of (P := P) (w := w) (base := base) d_law_ranks fun F => ok_law_ranks F c_lpt m_range
  have c_lev := Cal.of (P := P) (w := w) (base := base) d_law_levels fun F => ok_law_levels F c_lfree m_len m_list m_range m_tuple
  have c_jud := Cal.of (P := P) (w := w) (base := base) d_law_judged fun F => ok_law_judged F c_lfree c_stuck c_pick c_same m_len m_range m_sorted m_set m_tuple m_max
  have c_por := Cal.of (P := P) (w := w) (base := base) d_law_points_of_rules fun F => ok_law_points_of_rules F c_lpt c_lfits c_fits c_lbr c_br c_pw c_tol c_free c_exc c_pick c_same m_len m_range m_tuple
  have c_rkd := Cal.of (P := P) (w := w) (base := base) d_law_ranked fun F => ok_law_ranked F c_lpt c_lfits c_least c_isr c_pick c_saying c_same m_len m_range m_tuple m_list m_min
  exact ok_law F c_start c_pick c_rules c_same c_lpt c_pt c_lholds c_lbr c_lev c_lrk c_all c_holds c_lay c_stuck c_rk c_ropL c_isr c_jud c_por c_rkd m_len m_range m_tuple
end K77
open PySem PySem.W PyProof.Rows
set_option maxRecDepth 100000 in
set_option maxHeartbeats 0 in
theorem PySem.Challenge.cw_worldwright_k77_whole_rules_that_hold_to_holds : PySem.Challenge.rw_worldwright_k77_whole_rules_that_hold_to.Holds := by
  w_on; o_law; k_head; (case hw => w_witness2)
  k_fill
  refine DL.law_walk (l := PySem.Challenge.rw_worldwright_k77_whole_rules_that_hold_to) (x := "script") (st := K77.s_law) 63 15 rfl (by decide) rfl ⟨rfl, by decide, by decide⟩ rfl (fun w h Y => PySem.W.kIn_of Y) ?F
  case F =>
    intro w mg h KX G
    refine' ⟨DL.dl_mk K77.b_law KX G ?a0 ?l0 ?c0 ?k0, K77.law_of (DL.dd_mk K77.b_points_of KX G ?a1 ?l1 ?c1 ?k1) (DL.dd_mk K77.b_fits KX G ?a2 ?l2 ?c2 ?k2) (DL.dd_mk K77.b_points_where KX G ?a3 ?l3 ?c3 ?k3) (DL.dd_mk K77.b_breaks KX G ?a4 ?l4 ?c4 ?k4) (DL.dd_mk K77.b_tolerating KX G ?a5 ?l5 ?c5 ?k5) (DL.dd_mk K77.b_is_free KX G ?a6 ?l6 ?c6 ?k6) (DL.dd_mk K77.b_layers KX G ?a7 ?l7 ?c7 ?k7) (DL.dd_mk K77.b_are_stuck KX G ?a8 ?l8 ?c8 ?k8) (DL.dd_mk K77.b_rank_of_point KX G ?a9 ?l9 ?c9 ?k9) (DL.dd_mk K77.b_ranks_of KX G ?a10 ?l10 ?c10 ?k10) (DL.dd_mk K77.b_is_ranks KX G ?a11 ?l11 ?c11 ?k11) (DL.dd_mk K77.b_least_points KX G ?a12 ?l12 ?c12 ?k12) (DL.dd_mk K77.b_holds KX G ?a13 ?l13 ?c13 ?k13) (DL.dd_mk K77.b_all_ranks KX G ?a14 ?l14 ?c14 ?k14) (DL.dd_mk K77.b_exceptional KX G ?a15 ?l15 ?c15 ?k15) (DL.dd_mk K77.b_law_start KX G ?a16 ?l16 ?c16 ?k16) (DL.dd_mk K77.b_law_pick KX G ?a17 ?l17 ?c17 ?k17) (DL.dd_mk K77.b_law_same KX G ?a18 ?l18 ?c18 ?k18) (DL.dd_mk K77.b_law_saying KX G ?a19 ?l19 ?c19 ?k19) (DL.dd_mk K77.b_law_rules KX G ?a20 ?l20 ?c20 ?k20) (DL.dd_mk K77.b_law_points KX G ?a21 ?l21 ?c21 ?k21) (DL.dd_mk K77.b_law_fits KX G ?a22 ?l22 ?c22 ?k22) (DL.dd_mk K77.b_law_breaks KX G ?a23 ?l23 ?c23 ?k23) (DL.dd_mk K77.b_law_holds KX G ?a24 ?l24 ?c24 ?k24) (DL.dd_mk K77.b_law_free KX G ?a25 ?l25 ?c25 ?k25) (DL.dd_mk K77.b_law_ranks KX G ?a26 ?l26 ?c26 ?k26) (DL.dd_mk K77.b_law_levels KX G ?a27 ?l27 ?c27 ?k27) (DL.dd_mk K77.b_law_judged KX G ?a28 ?l28 ?c28 ?k28) (DL.dd_mk K77.b_law_points_of_rules KX G ?a29 ?l29 ?c29 ?k29) (DL.dd_mk K77.b_law_ranked KX G ?a30 ?l30 ?c30 ?k30) (PySem.W.mg_none_of KX G ?z0) (PySem.W.mg_none_of KX G ?z1) (PySem.W.mg_none_of KX G ?z2) (PySem.W.mg_none_of KX G ?z3) (PySem.W.mg_none_of KX G ?z4) (PySem.W.mg_none_of KX G ?z5) (PySem.W.mg_none_of KX G ?z6) (PySem.W.mg_none_of KX G ?z7) (PySem.W.mg_none_of KX G ?z8) (PySem.W.mg_none_of KX G ?z9) (PySem.W.mg_none_of KX G ?z10) (PySem.W.mg_none_of KX G ?z11) (PySem.W.mg_none_of KX G ?z12) (PySem.W.mg_none_of KX G ?z13) (PySem.W.mg_none_of KX G ?z14)⟩
    (case a0 => k_is); (case l0 => k_is); (case c0 => k_is); (case k0 => k_is)
    (case a1 => k_is); (case l1 => k_is); (case c1 => k_is); (case k1 => k_is)
    (case a2 => k_is); (case l2 => k_is); (case c2 => k_is); (case k2 => k_is)
    (case a3 => k_is); (case l3 => k_is); (case c3 => k_is); (case k3 => k_is)
    (case a4 => k_is); (case l4 => k_is); (case c4 => k_is); (case k4 => k_is)
    (case a5 => k_is); (case l5 => k_is); (case c5 => k_is); (case k5 => k_is)
    (case a6 => k_is); (case l6 => k_is); (case c6 => k_is); (case k6 => k_is)
    (case a7 => k_is); (case l7 => k_is); (case c7 => k_is); (case k7 => k_is)
    (case a8 => k_is); (case l8 => k_is); (case c8 => k_is); (case k8 => k_is)
    (case a9 => k_is); (case l9 => k_is); (case c9 => k_is); (case k9 => k_is)
    (case a10 => k_is); (case l10 => k_is); (case c10 => k_is); (case k10 => k_is)
    (case a11 => k_is); (case l11 => k_is); (case c11 => k_is); (case k11 => k_is)
    (case a12 => k_is); (case l12 => k_is); (case c12 => k_is); (case k12 => k_is)
    (case a13 => k_is); (case l13 => k_is); (case c13 => k_is); (case k13 => k_is)
    (case a14 => k_is); (case l14 => k_is); (case c14 => k_is); (case k14 => k_is)
    (case a15 => k_is); (case l15 => k_is); (case c15 => k_is); (case k15 => k_is)
    (case a16 => k_is); (case l16 => k_is); (case c16 => k_is); (case k16 => k_is)
    (case a17 => k_is); (case l17 => k_is); (case c17 => k_is); (case k17 => k_is)
    (case a18 => k_is); (case l18 => k_is); (case c18 => k_is); (case k18 => k_is)
    (case a19 => k_is); (case l19 => k_is); (case c19 => k_is); (case k19 => k_is)
    (case a20 => k_is); (case l20 => k_is); (case c20 => k_is); (case k20 => k_is)
    (case a21 => k_is); (case l21 => k_is); (case c21 => k_is); (case k21 => k_is)
    (case a22 => k_is); (case l22 => k_is); (case c22 => k_is); (case k22 => k_is)
    (case a23 => k_is); (case l23 => k_is); (case c23 => k_is); (case k23 => k_is)
    (case a24 => k_is); (case l24 => k_is); (case c24 => k_is); (case k24 => k_is)
    (case a25 => k_is); (case l25 => k_is); (case c25 => k_is); (case k25 => k_is)
    (case a26 => k_is); (case l26 => k_is); (case c26 => k_is); (case k26 => k_is)
    (case a27 => k_is); (case l27 => k_is); (case c27 => k_is); (case k27 => k_is)
    (case a28 => k_is); (case l28 => k_is); (case c28 => k_is); (case k28 => k_is)
    (case a29 => k_is); (case l29 => k_is); (case c29 => k_is); (case k29 => k_is)
    (case a30 => k_is); (case l30 => k_is); (case c30 => k_is); (case k30 => k_is)
    (case z0 => k_is)
    (case z1 => k_is)
    (case z2 => k_is)
    (case z3 => k_is)
    (case z4 => k_is)
    (case z5 => k_is)
    (case z6 => k_is)
    (case z7 => k_is)
    (case z8 => k_is)
    (case z9 => k_is)
    (case z10 => k_is)
    (case z11 => k_is)
    (case z12 => k_is)
    (case z13 => k_is)
    (case z14 => k_is)

