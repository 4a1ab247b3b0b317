import PyProof.Rows.All
import Wide.All
import OpenK.AllK
import Wide.FinOn
import HandS.ForMost
import HandS.Deep
import HandS.Wide
import HandS.More
import HandS.TupSets
import HandS.SetKeys
import HandS.Zip
import HandS.Conv
import HandS.Style
import HandS.IsInst
import KE.SortData
import KE.KDictZip
import KE.KStateDown
import HandS.Head0
import HandS.Head1
import HandS.Head2
import HandS.HeadEnd
import HandS.HeadHook1
import HandS.HeadHook2
import PySem.Challenge.RW_twinwalk_k23_whole_entries_that_count
set_option Elab.async false
set_option linter.all false
set_option maxRecDepth 100000
set_option maxHeartbeats 4000000
/-! The data layer: values as data, judgements without the heap. -/
namespace TW
open PySem L2

/-- a value as data -/
inductive D where
  | non | bl (b : Bool) | int (i : Int) | str (x : Str)
  | lst (ds : List D) | tup (ds : List D)
  | dk (ks : List Key) (ds : List D)
  | dt (ks : List (List Key)) (ds : List D)
  | obj (fs : List Str) (ds : List D)
  | ro (ds : List D)

section
variable (K : PySem.W.Frag) (C : Addr)
mutual
inductive Dv (H : Hp) : V → D → Prop
  | non : Dv H .non .non
  | bl (b : Bool) : Dv H (.bl b) (.bl b)
  | int (i : Int) : Dv H (.int i) (.int i)
  | str (x : Str) : Dv H (.str x) (.str x)
  | lst {a : Addr} {vs : List V} {ds : List D} : H a = some (.lst vs) → Da H vs ds → Dv H (.ref a) (.lst ds)
  | tup {a : Addr} {vs : List V} {ds : List D} : H a = some (.tup vs) → Da H vs ds → Dv H (.ref a) (.tup ds)
  | dk {a : Addr} {ks : List Key} {vs : List V} {ds : List D} : H a = some (.dK (ks.zip vs)) → ks.length = vs.length → Da H vs ds → Dv H (.ref a) (.dk ks ds)
  | dt {a : Addr} {ks : List (List Key)} {vs : List V} {ds : List D} : H a = some (.dT (ks.zip vs)) → ks.length = vs.length → Da H vs ds → Dv H (.ref a) (.dt ks ds)
  | obj {a dx : Addr} {fs : List Str} {vs : List V} {ds : List D} : H a = some (.ins C dx (fs.zip vs)) → fs.length = vs.length → Da H vs ds → Dv H (.ref a) (.obj fs ds)
  | ro {a : Addr} {vs : List V} {ds : List D} : SqL K H a vs → Da H vs ds → Dv H (.ref a) (.ro ds)
inductive Da (H : Hp) : List V → List D → Prop
  | nil : Da H [] []
  | cons {v : V} {d : D} {vs : List V} {ds : List D} : Dv H v d → Da H vs ds → Da H (v :: vs) (d :: ds)
end
end

section
variable {K : PySem.W.Frag} {C : Addr} {H H' : Hp}
mutual
theorem Dv.mono (e : Same H H') : ∀ {v : V} {d : D}, Dv K C H v d → Dv K C H' v d
  | _, _, .non => .non
  | _, _, .bl b => .bl b
  | _, _, .int i => .int i
  | _, _, .str x => .str x
  | _, _, .lst h t => .lst (e _ _ h) (Da.mono e t)
  | _, _, .tup h t => .tup (e _ _ h) (Da.mono e t)
  | _, _, .dk h l t => .dk (e _ _ h) l (Da.mono e t)
  | _, _, .dt h l t => .dt (e _ _ h) l (Da.mono e t)
  | _, _, .obj h l t => .obj (e _ _ h) l (Da.mono e t)
  | _, _, .ro h t => .ro (e.seq h) (Da.mono e t)
theorem Da.mono (e : Same H H') : ∀ {vs : List V} {ds : List D}, Da K C H vs ds → Da K C H' vs ds
  | _, _, .nil => .nil
  | _, _, .cons h t => .cons (Dv.mono e h) (Da.mono e t)
end
theorem Da.length : ∀ {vs : List V} {ds : List D}, Da K C H vs ds → vs.length = ds.length
  | _, _, .nil => rfl
  | _, _, .cons _ t => congrArg (· + 1) (Da.length t)
theorem Da.get : ∀ {vs : List V} {ds : List D} {i : Nat} {d : D}, Da K C H vs ds → ds[i]? = some d → ∃ v, vs[i]? = some v ∧ Dv K C H v d
  | _, _, _, _, .nil, e => by simp at e
  | _, _, 0, _, .cons h _, e => by simp at e; subst e; exact ⟨_, rfl, h⟩
  | _, _, i + 1, _, .cons _ t, e => by
    obtain ⟨v, h1, h2⟩ := Da.get (i := i) t (by simpa using e)
    exact ⟨v, by simpa using h1, h2⟩
theorem Da.get' : ∀ {vs : List V} {ds : List D} {i : Nat} {v : V}, Da K C H vs ds → vs[i]? = some v → ∃ d, ds[i]? = some d ∧ Dv K C H v d
  | _, _, _, _, .nil, e => by simp at e
  | _, _, 0, _, .cons h _, e => by simp at e; subst e; exact ⟨_, rfl, h⟩
  | _, _, i + 1, _, .cons _ t, e => by
    obtain ⟨v, h1, h2⟩ := Da.get' (i := i) t (by simpa using e)
    exact ⟨v, by simpa using h1, h2⟩
theorem Da.append : ∀ {vs us : List V} {ds es : List D}, Da K C H vs ds → Da K C H us es → Da K C H (vs ++ us) (ds ++ es)
  | _, _, _, _, .nil, s => s
  | _, _, _, _, .cons h t, s => .cons h (Da.append t s)
theorem Da.take : ∀ {vs : List V} {ds : List D} (n : Nat), Da K C H vs ds → Da K C H (vs.take n) (ds.take n)
  | _, _, 0, _ => .nil
  | _, _, _ + 1, .nil => .nil
  | _, _, n + 1, .cons h t => .cons h (Da.take n t)
theorem Da.drop : ∀ {vs : List V} {ds : List D} (n : Nat), Da K C H vs ds → Da K C H (vs.drop n) (ds.drop n)
  | _, _, 0, t => t
  | _, _, _ + 1, .nil => .nil
  | _, _, n + 1, .cons _ t => Da.drop n t
theorem Da.reverse {vs : List V} {ds : List D} (h : Da K C H vs ds) : Da K C H vs.reverse ds.reverse := by
  induction vs generalizing ds with
  | nil => cases h; exact .nil
  | cons v vs ih =>
    cases h with
    | cons h t =>
      rw [List.reverse_cons, List.reverse_cons]
      exact Da.append (ih t) (.cons h .nil)
theorem Da.set {v : V} {d : D} (h : Dv K C H v d) : ∀ {vs : List V} {ds : List D} (i : Nat), Da K C H vs ds → Da K C H (vs.set i v) (ds.set i d)
  | _, _, _, .nil => .nil
  | _, _, 0, .cons _ t => .cons h t
  | _, _, i + 1, .cons q t => .cons q (Da.set h i t)
theorem Da.erase : ∀ {vs : List V} {ds : List D} (i : Nat), Da K C H vs ds → Da K C H (vs.eraseIdx i) (ds.eraseIdx i)
  | _, _, _, .nil => .nil
  | _, _, 0, .cons _ t => t
  | _, _, i + 1, .cons q t => .cons q (Da.erase i t)
theorem Da.ints : ∀ {vs : List V} {ns : List Int}, Da K C H vs (ns.map D.int) → vs = ns.map V.int
  | _, [], .nil => rfl
  | _, n :: ns, .cons h t => by cases h; rw [Da.ints t]; rfl
theorem Da.of_ints : ∀ (ns : List Int), Da K C H (ns.map V.int) (ns.map D.int)
  | [] => .nil
  | n :: ns => .cons (.int n) (Da.of_ints ns)
theorem Da.bls : ∀ {vs : List V} {bs : List Bool}, Da K C H vs (bs.map D.bl) → vs = bs.map V.bl
  | _, [], .nil => rfl
  | _, n :: ns, .cons h t => by cases h; rw [Da.bls t]; rfl
theorem Da.strs : ∀ {vs : List V} {bs : List Str}, Da K C H vs (bs.map D.str) → vs = bs.map V.str
  | _, [], .nil => rfl
  | _, n :: ns, .cons h t => by cases h; rw [Da.strs t]; rfl
end

/-! ### two heaps: Hb what never changes again, H all -/
/-- there is something there that might change: no tuple -/
def Mu (H : Hp) (a : Addr) : Prop := ∃ o, H a = some o ∧ ∀ vs, o ≠ .tup vs
theorem Mu.ne {H : Hp} {a : Addr} (h : Mu H a) : H a ≠ none := by
  obtain ⟨o, e, _⟩ := h
  rw [e]
  exact fun z => nomatch z
theorem Mu.mono {H H' : Hp} {a : Addr} (s : Same H H') (h : Mu H a) : Mu H' a := by
  obtain ⟨o, e, n⟩ := h
  exact ⟨o, s _ _ e, n⟩
structure Grow (Hb H Hb2 H2 : Hp) : Prop where
  b : Same Hb Hb2
  h : Same H H2
  old : ∀ a, Mu H a → Hb2 a = Hb a
theorem Grow.refl (Hb H : Hp) : Grow Hb H Hb H := ⟨Same.refl _, Same.refl _, fun _ _ => rfl⟩
theorem Grow.trans {Hb H Hb1 H1 Hb2 H2 : Hp} (x : Grow Hb H Hb1 H1) (y : Grow Hb1 H1 Hb2 H2) : Grow Hb H Hb2 H2 :=
  ⟨x.b.trans y.b, x.h.trans y.h, fun a ha => by
    rw [y.old a (ha.mono x.h), x.old a ha]⟩
/-- a new object, never to change -/
theorem Grow.new {Hb H : Hp} {p : Addr} {o : HO} (s : Same Hb H) (hp : H p = none) : Grow Hb H (upd Hb p o) (upd H p o) ∧ Same (upd Hb p o) (upd H p o) := by
  have hb : Hb p = none := s.free hp
  refine ⟨⟨fun a u e => ?_, fun a u e => ?_, fun a ha => ?_⟩, fun a u e => ?_⟩
  · rw [upd_ne (ne_of_none e hb)]; exact e
  · rw [upd_ne (ne_of_none e hp)]; exact e
  · by_cases h : a = p
    · subst h; exact absurd hp ha.ne
    · rw [upd_ne h]
  · by_cases h : a = p
    · subst h; rw [upd_same] at e ⊢; exact e
    · rw [upd_ne h] at e ⊢; exact s a u e
/-- a new object that may yet change -/
theorem Grow.own {Hb H : Hp} {p : Addr} {o : HO} (s : Same Hb H) (hp : H p = none) : Grow Hb H Hb (upd H p o) ∧ Same Hb (upd H p o) := by
  refine ⟨⟨Same.refl _, fun a u e => ?_, fun _ _ => rfl⟩, fun a u e => ?_⟩
  · rw [upd_ne (ne_of_none e hp)]; exact e
  · rw [upd_ne (ne_of_none (s a u e) hp)]; exact s a u e

/-! ### slots -/
inductive Sl where
  | no | im (d : D) | ow (d : D)
/-- the root object of a changing thing -/
def OwnAt (K : PySem.W.Frag) (C : Addr) (Hb H : Hp) (a : Addr) : D → Prop
  | .lst ds => ∃ vs, H a = some (.lst vs) ∧ Da K C Hb vs ds
  | .dk ks ds => ∃ vs, H a = some (.dK (ks.zip vs)) ∧ ks.length = vs.length ∧ Da K C Hb vs ds
  | .dt ks ds => ∃ vs, H a = some (.dT (ks.zip vs)) ∧ ks.length = vs.length ∧ Da K C Hb vs ds
  | _ => False
theorem OwnAt.mono {K : PySem.W.Frag} {C : Addr} {Hb H Hb2 H2 : Hp} {a : Addr} {d : D} (hb : Same Hb Hb2) (h : ∀ o, H a = some o → H2 a = some o) (x : OwnAt K C Hb H a d) : OwnAt K C Hb2 H2 a d := by
  cases d <;> first | exact x.elim | skip
  · obtain ⟨vs, e, t⟩ := x; exact ⟨vs, h _ e, t.mono hb⟩
  · obtain ⟨vs, e, l, t⟩ := x; exact ⟨vs, h _ e, l, t.mono hb⟩
  · obtain ⟨vs, e, l, t⟩ := x; exact ⟨vs, h _ e, l, t.mono hb⟩
theorem OwnAt.some {K : PySem.W.Frag} {C : Addr} {Hb H : Hp} {a : Addr} {d : D} (x : OwnAt K C Hb H a d) : ∃ o, H a = some o := by
  cases d <;> first | exact x.elim | skip
  · obtain ⟨vs, e, t⟩ := x; exact ⟨_, e⟩
  · obtain ⟨vs, e, l, t⟩ := x; exact ⟨_, e⟩
  · obtain ⟨vs, e, l, t⟩ := x; exact ⟨_, e⟩
theorem OwnAt.mu {K : PySem.W.Frag} {C : Addr} {Hb H : Hp} {a : Addr} {d : D} (x : OwnAt K C Hb H a d) : Mu H a := by
  cases d <;> first | exact x.elim | skip
  · obtain ⟨vs, e, t⟩ := x; exact ⟨_, e, fun _ z => nomatch z⟩
  · obtain ⟨vs, e, l, t⟩ := x; exact ⟨_, e, fun _ z => nomatch z⟩
  · obtain ⟨vs, e, l, t⟩ := x; exact ⟨_, e, fun _ z => nomatch z⟩
/-- it is never to change again -/
theorem OwnAt.frz {K : PySem.W.Frag} {C : Addr} {Hb H : Hp} {a : Addr} {d : D} (s : Same Hb H) (ha : Hb a = none) (x : OwnAt K C Hb H a d) : ∃ o, H a = Option.some o ∧ Dv K C (upd Hb a o) (.ref a) d := by
  have g : ∀ o, Same Hb (upd Hb a o) := fun o b u e => by rw [upd_ne (ne_of_none e ha)]; exact e
  cases d <;> first | exact x.elim | skip
  · obtain ⟨vs, e, t⟩ := x; exact ⟨_, e, .lst upd_same (t.mono (g _))⟩
  · obtain ⟨vs, e, l, t⟩ := x; exact ⟨_, e, .dk upd_same l (t.mono (g _))⟩
  · obtain ⟨vs, e, l, t⟩ := x; exact ⟨_, e, .dt upd_same l (t.mono (g _))⟩

def SlOk (K : PySem.W.Frag) (C : Addr) (Hb H H0 : Hp) (o : Option (Option V)) : Sl → Prop
  | .no => True
  | .im d => ∃ v, o = some (some v) ∧ Dv K C Hb v d
  | .ow d => ∃ a, o = some (some (.ref a)) ∧ H0 a = none ∧ Hb a = none ∧ OwnAt K C Hb H a d

structure SR (K : PySem.W.Frag) (C : Addr) (Hb0 H0 Hb H : Hp) (σ : L2.St) (ρ : List Sl) : Prop where
  sub : Same Hb H
  b0 : Same Hb0 Hb
  h0 : Same H0 H
  old : ∀ a, Mu H0 a → Hb a = Hb0 a
  len : σ.length = ρ.length
  slot : ∀ (i : Nat) (s : Sl), ρ[i]? = some s → SlOk K C Hb H H0 σ[i]? s
  sep : ∀ (i j : Nat) (d e : D) (a : Addr), i ≠ j → ρ[i]? = some (.ow d) → ρ[j]? = some (.ow e) → σ[i]? = some (some (.ref a)) → σ[j]? ≠ some (some (.ref a))

theorem SR.grow {K : PySem.W.Frag} {C : Addr} {Hb0 H0 Hb H Hb2 H2 : Hp} {σ : L2.St} {ρ : List Sl} (S : SR K C Hb0 H0 Hb H σ ρ) (g : Grow Hb H Hb2 H2) (s : Same Hb2 H2) : SR K C Hb0 H0 Hb2 H2 σ ρ where
  sub := s
  b0 := S.b0.trans g.b
  h0 := S.h0.trans g.h
  old := fun a ha => by
    rw [g.old a (ha.mono S.h0), S.old a ha]
  len := S.len
  slot := fun i s e => by
    have q := S.slot i s e
    cases s with
    | no => trivial
    | im d => obtain ⟨v, h1, h2⟩ := q; exact ⟨v, h1, h2.mono g.b⟩
    | ow d =>
      obtain ⟨a, h1, h2, h3, h4⟩ := q
      obtain ⟨o, ho⟩ := h4.some
      refine ⟨a, h1, h2, ?_, h4.mono g.b fun o' e' => g.h a o' e'⟩
      rw [g.old a h4.mu]
      exact h3
  sep := S.sep
/-- the same, from a later base -/
theorem SR.rebase {K : PySem.W.Frag} {C : Addr} {Hb0 H0 Hb1 H1 Hb H : Hp} {σ1 σ : L2.St} {ρ1 ρ : List Sl} (S1 : SR K C Hb0 H0 Hb1 H1 σ1 ρ1) (S : SR K C Hb1 H0 Hb H σ ρ) : SR K C Hb0 H0 Hb H σ ρ :=
  ⟨S.sub, S1.b0.trans S.b0, S.h0, fun a ha => (S.old a ha).trans (S1.old a ha), S.len, S.slot, S.sep⟩
theorem SR.selfbase {K : PySem.W.Frag} {C : Addr} {Hb0 H0 Hb H : Hp} {σ : L2.St} {ρ : List Sl} (S : SR K C Hb0 H0 Hb H σ ρ) : SR K C Hb H0 Hb H σ ρ :=
  ⟨S.sub, Same.refl _, S.h0, fun _ _ => rfl, S.len, S.slot, S.sep⟩
theorem SR.gr {K : PySem.W.Frag} {C : Addr} {Hb0 H0 Hb H : Hp} {σ : L2.St} {ρ : List Sl} (S : SR K C Hb0 H0 Hb H σ ρ) : Grow Hb0 H0 Hb H := ⟨S.b0, S.h0, S.old⟩
/-- a slot is stored, never to change -/
theorem SR.set {K : PySem.W.Frag} {C : Addr} {Hb0 H0 Hb H : Hp} {σ : L2.St} {ρ : List Sl} {i : Nat} {v : V} {d : D} (S : SR K C Hb0 H0 Hb H σ ρ) (h : Dv K C Hb v d) : SR K C Hb0 H0 Hb H (σ.set i (some v)) (ρ.set i (.im d)) := by
  refine ⟨S.sub, S.b0, S.h0, S.old, by rw [List.length_set, List.length_set]; exact S.len, fun j s e => ?_, fun j k d1 d2 a hjk h1 h2 h3 => ?_⟩
  · by_cases hj : i = j
    · subst hj
      by_cases hi : i < ρ.length
      · rw [List.getElem?_set_self hi] at e
        cases e
        exact ⟨v, List.getElem?_set_self (by rw [S.len]; exact hi), h⟩
      · rw [List.getElem?_eq_none (by rw [List.length_set]; omega)] at e
        cases e
    · rw [List.getElem?_set_ne hj] at e ⊢
      exact S.slot j s e
  · by_cases hj : i = j
    · subst hj
      by_cases hi : i < ρ.length
      · rw [List.getElem?_set_self hi] at h1; cases h1
      · rw [List.getElem?_eq_none (by rw [List.length_set]; omega)] at h1; cases h1
    · by_cases hk : i = k
      · subst hk
        by_cases hi : i < ρ.length
        · rw [List.getElem?_set_self hi] at h2; cases h2
        · rw [List.getElem?_eq_none (by rw [List.length_set]; omega)] at h2; cases h2
      · rw [List.getElem?_set_ne hj] at h1 h3
        rw [List.getElem?_set_ne hk] at h2 ⊢
        exact S.sep j k d1 d2 a hjk h1 h2 h3
/-- a slot is stored: a new thing that may change -/
theorem SR.setOwn {K : PySem.W.Frag} {C : Addr} {Hb0 H0 Hb H : Hp} {σ : L2.St} {ρ : List Sl} {i : Nat} {a : Addr} {d : D} (S : SR K C Hb0 H0 Hb H σ ρ) (ha : H0 a = none) (hb : Hb a = none) (h : OwnAt K C Hb H a d)
    (no : ∀ (j : Nat) (e : D), ρ[j]? = some (.ow e) → σ[j]? ≠ some (some (.ref a))) : SR K C Hb0 H0 Hb H (σ.set i (some (.ref a))) (ρ.set i (.ow d)) := by
  refine ⟨S.sub, S.b0, S.h0, S.old, by rw [List.length_set, List.length_set]; exact S.len, fun j s e => ?_, fun j k d1 d2 b hjk h1 h2 h3 => ?_⟩
  · by_cases hj : i = j
    · subst hj
      by_cases hi : i < ρ.length
      · rw [List.getElem?_set_self hi] at e
        cases e
        exact ⟨a, List.getElem?_set_self (by rw [S.len]; exact hi), ha, hb, h⟩
      · rw [List.getElem?_eq_none (by rw [List.length_set]; omega)] at e
        cases e
    · rw [List.getElem?_set_ne hj] at e ⊢
      exact S.slot j s e
  · by_cases hi : i < ρ.length
    · have hi' : i < σ.length := by rw [S.len]; exact hi
      by_cases hj : i = j
      · subst hj
        have hk : i ≠ k := hjk
        rw [List.getElem?_set_self hi'] at h3
        cases h3
        rw [List.getElem?_set_ne hk] at h2 ⊢
        exact no k _ h2
      · rw [List.getElem?_set_ne hj] at h1 h3
        by_cases hk : i = k
        · subst hk
          rw [List.getElem?_set_self hi']
          intro e
          cases e
          exact no j _ h1 h3
        · rw [List.getElem?_set_ne hk] at h2 ⊢
          exact S.sep j k d1 d2 b hjk h1 h2 h3
    · have e1 : ρ.set i (.ow d) = ρ := List.set_eq_of_length_le (by omega)
      have e2 : σ.set i (some (.ref a)) = σ := List.set_eq_of_length_le (by rw [S.len]; omega)
      rw [e1] at h1 h2
      rw [e2] at h3 ⊢
      exact S.sep j k d1 d2 b hjk h1 h2 h3
/-- a new address is in no slot's -/
theorem SR.fresh {K : PySem.W.Frag} {C : Addr} {Hb0 H0 Hb H : Hp} {σ : L2.St} {ρ : List Sl} {a : Addr} (S : SR K C Hb0 H0 Hb H σ ρ) (ha : H a = none) : ∀ (j : Nat) (e : D), ρ[j]? = some (.ow e) → σ[j]? ≠ some (some (.ref a)) := by
  intro j e h1 h2
  obtain ⟨b, h3, _, _, h4⟩ := S.slot j _ h1
  rw [h2] at h3
  cases h3
  obtain ⟨o, ho⟩ := h4.some
  rw [ha] at ho
  cases ho
/-- a changing thing is never to change again -/
theorem SR.freeze {K : PySem.W.Frag} {C : Addr} {Hb0 H0 Hb H : Hp} {σ : L2.St} {ρ : List Sl} {i : Nat} {d : D} (S : SR K C Hb0 H0 Hb H σ ρ) (hi : ρ[i]? = some (.ow d)) : ∃ Hb2, Grow Hb0 H0 Hb2 H ∧ Same Hb Hb2 ∧ SR K C Hb0 H0 Hb2 H σ (ρ.set i (.im d)) ∧ ∃ v, σ[i]? = some (some v) ∧ Dv K C Hb2 v d := by
  obtain ⟨a, h1, h2, h3, h4⟩ := S.slot i _ hi
  obtain ⟨o, ho, hv⟩ := h4.frz S.sub h3
  have g : Same Hb (upd Hb a o) := fun b u e => by rw [upd_ne (ne_of_none e h3)]; exact e
  have s : Same (upd Hb a o) H := fun b u e => by
    by_cases hb : b = a
    · subst hb; rw [upd_same] at e; cases e; exact ho
    · rw [upd_ne hb] at e; exact S.sub b u e
  have old : ∀ b, Mu H0 b → upd Hb a o b = Hb0 b := fun b hb => by
    rw [upd_ne (fun z => hb.ne (by rw [z]; exact h2))]
    exact S.old b hb
  have hl : i < ρ.length := (List.getElem?_eq_some_iff.mp hi).1
  refine ⟨upd Hb a o, ⟨S.b0.trans g, S.h0, old⟩, g, ⟨s, S.b0.trans g, S.h0, old, by rw [List.length_set]; exact S.len, fun j t e => ?_, fun j k d1 d2 b hjk e1 e2 e3 => ?_⟩, _, h1, hv⟩
  · by_cases hj : i = j
    · subst hj
      rw [List.getElem?_set_self hl] at e
      cases e
      exact ⟨_, h1, hv⟩
    · rw [List.getElem?_set_ne hj] at e
      have q := S.slot j t e
      cases t with
      | no => trivial
      | im d' => obtain ⟨v, q1, q2⟩ := q; exact ⟨v, q1, q2.mono g⟩
      | ow d' =>
        obtain ⟨b, q1, q2, q3, q4⟩ := q
        refine ⟨b, q1, q2, ?_, q4.mono g fun _ z => z⟩
        have hba : b ≠ a := fun z => by
          subst z
          exact S.sep i j _ _ _ hj hi e h1 q1
        rw [upd_ne hba]
        exact q3
  · have ne1 : i ≠ j := fun z => by subst z; rw [List.getElem?_set_self hl] at e1; cases e1
    have ne2 : i ≠ k := fun z => by subst z; rw [List.getElem?_set_self hl] at e2; cases e2
    rw [List.getElem?_set_ne ne1] at e1
    rw [List.getElem?_set_ne ne2] at e2
    exact S.sep j k d1 d2 b hjk e1 e2 e3
/-- the changing thing of a slot has changed -/
theorem SR.write {K : PySem.W.Frag} {C : Addr} {Hb0 H0 Hb H : Hp} {σ : L2.St} {ρ : List Sl} {i : Nat} {d d' : D} {a : Addr} {o : HO} (S : SR K C Hb0 H0 Hb H σ ρ) (hi : ρ[i]? = some (.ow d)) (ha : σ[i]? = some (some (.ref a)))
    (new : ∀ H', H' a = some o → OwnAt K C Hb H' a d') : SR K C Hb0 H0 Hb (upd H a o) σ (ρ.set i (.ow d')) := by
  obtain ⟨b, h1, h2, h3, h4⟩ := S.slot i _ hi
  rw [ha] at h1
  cases h1
  have hl : i < ρ.length := (List.getElem?_eq_some_iff.mp hi).1
  refine ⟨fun c u e => ?_, S.b0, fun c u e => ?_, S.old, by rw [List.length_set]; exact S.len, fun j t e => ?_, fun j k d1 d2 c hjk e1 e2 e3 => ?_⟩
  · rw [upd_ne (ne_of_none e h3)]; exact S.sub c u e
  · rw [upd_ne (ne_of_none e h2)]; exact S.h0 c u e
  · by_cases hj : i = j
    · subst hj
      rw [List.getElem?_set_self hl] at e
      cases e
      exact ⟨a, ha, h2, h3, new _ upd_same⟩
    · rw [List.getElem?_set_ne hj] at e
      have q := S.slot j t e
      cases t with
      | no => trivial
      | im d1 => exact q
      | ow d1 =>
        obtain ⟨c, q1, q2, q3, q4⟩ := q
        refine ⟨c, q1, q2, q3, q4.mono (Same.refl _) fun u z => ?_⟩
        have hca : c ≠ a := fun z => by
          subst z
          exact S.sep i j _ _ _ hj hi e ha q1
        rw [upd_ne hca]
        exact z
  · have red : ∀ (m : Nat) (x : D), (ρ.set i (.ow d'))[m]? = some (.ow x) → ∃ y, ρ[m]? = some (.ow y) := fun m x e => by
      by_cases hm : i = m
      · subst hm; exact ⟨d, hi⟩
      · rw [List.getElem?_set_ne hm] at e; exact ⟨x, e⟩
    obtain ⟨y1, f1⟩ := red j d1 e1
    obtain ⟨y2, f2⟩ := red k d2 e2
    exact S.sep j k y1 y2 c hjk f1 f2 e3
/-- forgetting a slot -/
theorem SR.drop {K : PySem.W.Frag} {C : Addr} {Hb0 H0 Hb H : Hp} {σ : L2.St} {ρ ρ' : List Sl} (S : SR K C Hb0 H0 Hb H σ ρ) (hl : ρ'.length = ρ.length) (h : ∀ (i : Nat) (s : Sl), ρ'[i]? = some s → s = .no ∨ ρ[i]? = some s) : SR K C Hb0 H0 Hb H σ ρ' :=
  ⟨S.sub, S.b0, S.h0, S.old, by rw [hl]; exact S.len, fun i s e => by
    rcases h i s e with z | z
    · subst z; trivial
    · exact S.slot i s z, fun i j d e a hij h1 h2 => by
    rcases h i _ h1 with z | z
    · cases z
    · rcases h j _ h2 with y | y
      · cases y
      · exact S.sep i j d e a hij z y⟩
end TW
set_option Elab.async false
set_option linter.all false
set_option maxRecDepth 100000
set_option maxHeartbeats 4000000
/-! The judgements: what an expression, a test, a statement comes to, told of data alone. -/
namespace TW
open PySem L2

def tW (K : PySem.W.Frag) (C : Addr) (ρ : List Sl) (P : D → Prop) : TE := fun σ H Q => ∃ Hb0 H0 Hb, SR K C Hb0 H0 Hb H σ ρ ∧ ∀ v Hb2 H2 d, Grow Hb H Hb2 H2 → Same Hb2 H2 → Dv K C Hb2 v d → P d → Q v H2
def tWN (K : PySem.W.Frag) (C : Addr) (ρ : List Sl) (P : D → Prop) : TE := fun σ H Q => ∃ Hb0 H0 Hb, SR K C Hb0 H0 Hb H σ ρ ∧ ∀ a Hb2 H2 d, Grow Hb H Hb2 H2 → Same Hb2 H2 → H a = none → Hb2 a = none → OwnAt K C Hb2 H2 a d → P d → Q (.ref a) H2
def tWT (K : PySem.W.Frag) (C : Addr) (ρ : List Sl) (P : Bool → Prop) : TT := fun σ H Q => ∃ Hb0 H0 Hb, SR K C Hb0 H0 Hb H σ ρ ∧ ∀ b Hb2 H2, Grow Hb H Hb2 H2 → Same Hb2 H2 → P b → Q b H2
def tWA (K : PySem.W.Frag) (C : Addr) (ρ : List Sl) (P : List D → Prop) : TA := fun σ H Q => ∃ Hb0 H0 Hb, SR K C Hb0 H0 Hb H σ ρ ∧ ∀ vs Hb2 H2 ds, Grow Hb H Hb2 H2 → Same Hb2 H2 → Da K C Hb2 vs ds → P ds → Q vs H2
/-- an expression -/
structure W (C : Addr) (X : Cx) (e : Expr) (ρ : List Sl) (P : D → Prop) : Prop where
  pe : PE X e (tW X.K C ρ P)
/-- an expression that makes a new thing, that may yet change -/
structure WN (C : Addr) (X : Cx) (e : Expr) (ρ : List Sl) (P : D → Prop) : Prop where
  pe : PE X e (tWN X.K C ρ P)
structure WT (C : Addr) (X : Cx) (e : Expr) (ρ : List Sl) (P : Bool → Prop) : Prop where
  pe : PT X e (tWT X.K C ρ P)
structure WA (C : Addr) (X : Cx) (es : List Expr) (ρ : List Sl) (P : List D → Prop) : Prop where
  pe : PA X es (tWA X.K C ρ P)

/-! the weakest reading of a piece of syntax -/
def bE (X : Cx) (e : Expr) : TE := fun σ H Q => ∃ t, PE X e t ∧ t σ H Q
def bT (X : Cx) (e : Expr) : TT := fun σ H Q => ∃ t, PT X e t ∧ t σ H Q
def bW (X : Cx) (e : Expr) : TT := fun σ H Q => ∃ t, PW X e t ∧ t σ H Q
def bA (X : Cx) (es : List Expr) : TA := fun σ H Q => ∃ t, PA X es t ∧ t σ H Q
theorem pe_b {X : Cx} (e : Expr) : PE X e (bE X e) := ⟨fun pins s σ H Q I ⟨_, ht, h⟩ => ht.run pins s σ H Q I h⟩
theorem pt_b {X : Cx} (e : Expr) : PT X e (bT X e) := ⟨fun pins s σ H Q I ⟨_, ht, h⟩ => ht.run pins s σ H Q I h⟩
theorem pw_b {X : Cx} (e : Expr) : PW X e (bW X e) := ⟨fun wh pins s σ H Q I ⟨_, ht, h⟩ => ht.run wh pins s σ H Q I h⟩
theorem pa_b {X : Cx} (es : List Expr) : PA X es (bA X es) := ⟨fun pos pins s σ H Q I ⟨_, ht, h⟩ => ht.run pos pins s σ H Q I h⟩
/-- another reading of the same -/
theorem toPE {X : Cx} {e : Expr} {t u : TE} (h : PE X e t) (k : ∀ σ H Q, u σ H Q → t σ H Q) : PE X e u := ⟨fun pins s σ H Q I q => h.run pins s σ H Q I (k σ H Q q)⟩
theorem toPT {X : Cx} {e : Expr} {t u : TT} (h : PT X e t) (k : ∀ σ H Q, u σ H Q → t σ H Q) : PT X e u := ⟨fun pins s σ H Q I q => h.run pins s σ H Q I (k σ H Q q)⟩
theorem toPW {X : Cx} {e : Expr} {t u : TT} (h : PW X e t) (k : ∀ σ H Q, u σ H Q → t σ H Q) : PW X e u := ⟨fun wh pins s σ H Q I q => h.run wh pins s σ H Q I (k σ H Q q)⟩
theorem toPA {X : Cx} {e : List Expr} {t u : TA} (h : PA X e t) (k : ∀ σ H Q, u σ H Q → t σ H Q) : PA X e u := ⟨fun pos pins s σ H Q I q => h.run pos pins s σ H Q I (k σ H Q q)⟩

section
variable {C : Addr} {X : Cx} {e a b : Expr} {es : List Expr} {ρ : List Sl} {P P' : D → Prop} {σ : L2.St} {Hb0 H0 Hb H : Hp}
theorem W.use (h : W C X e ρ P) (S : SR X.K C Hb0 H0 Hb H σ ρ) {Q : VK} (k : ∀ v Hb2 H2 d, Grow Hb H Hb2 H2 → Same Hb2 H2 → Dv X.K C Hb2 v d → P d → Q v H2) : bE X e σ H Q := ⟨_, h.pe, Hb0, H0, Hb, S, k⟩
theorem WN.use (h : WN C X e ρ P) (S : SR X.K C Hb0 H0 Hb H σ ρ) {Q : VK} (k : ∀ a Hb2 H2 d, Grow Hb H Hb2 H2 → Same Hb2 H2 → H a = none → Hb2 a = none → OwnAt X.K C Hb2 H2 a d → P d → Q (.ref a) H2) : bE X e σ H Q := ⟨_, h.pe, Hb0, H0, Hb, S, k⟩
theorem WT.use {P : Bool → Prop} (h : WT C X e ρ P) (S : SR X.K C Hb0 H0 Hb H σ ρ) {Q : Bool → Hp → Prop} (k : ∀ v Hb2 H2, Grow Hb H Hb2 H2 → Same Hb2 H2 → P v → Q v H2) : bT X e σ H Q := ⟨_, h.pe, Hb0, H0, Hb, S, k⟩
theorem WA.use {P : List D → Prop} (h : WA C X es ρ P) (S : SR X.K C Hb0 H0 Hb H σ ρ) {Q : List V → Hp → Prop} (k : ∀ vs Hb2 H2 ds, Grow Hb H Hb2 H2 → Same Hb2 H2 → Da X.K C Hb2 vs ds → P ds → Q vs H2) : bA X es σ H Q := ⟨_, h.pe, Hb0, H0, Hb, S, k⟩
theorem W.of {t : TE} (h : PE X e t) (k : ∀ {Hb0 H0 Hb H : Hp} {σ : L2.St} (S : SR X.K C Hb0 H0 Hb H σ ρ) (Q : VK), (∀ v Hb2 H2 d, Grow Hb H Hb2 H2 → Same Hb2 H2 → Dv X.K C Hb2 v d → P d → Q v H2) → t σ H Q) : W C X e ρ P :=
  ⟨toPE h fun σ H Q ⟨Hb0, H0, Hb, S, q⟩ => k S Q q⟩
theorem WN.of {t : TE} (h : PE X e t) (k : ∀ {Hb0 H0 Hb H : Hp} {σ : L2.St} (S : SR X.K C Hb0 H0 Hb H σ ρ) (Q : VK), (∀ a Hb2 H2 d, Grow Hb H Hb2 H2 → Same Hb2 H2 → H a = none → Hb2 a = none → OwnAt X.K C Hb2 H2 a d → P d → Q (.ref a) H2) → t σ H Q) : WN C X e ρ P :=
  ⟨toPE h fun σ H Q ⟨Hb0, H0, Hb, S, q⟩ => k S Q q⟩
theorem WT.of {P : Bool → Prop} {t : TT} (h : PT X e t) (k : ∀ {Hb0 H0 Hb H : Hp} {σ : L2.St} (S : SR X.K C Hb0 H0 Hb H σ ρ) (Q : Bool → Hp → Prop), (∀ b Hb2 H2, Grow Hb H Hb2 H2 → Same Hb2 H2 → P b → Q b H2) → t σ H Q) : WT C X e ρ P :=
  ⟨toPT h fun σ H Q ⟨Hb0, H0, Hb, S, q⟩ => k S Q q⟩
theorem WA.of {P : List D → Prop} {t : TA} (h : PA X es t) (k : ∀ {Hb0 H0 Hb H : Hp} {σ : L2.St} (S : SR X.K C Hb0 H0 Hb H σ ρ) (Q : List V → Hp → Prop), (∀ vs Hb2 H2 ds, Grow Hb H Hb2 H2 → Same Hb2 H2 → Da X.K C Hb2 vs ds → P ds → Q vs H2) → t σ H Q) : WA C X es ρ P :=
  ⟨toPA h fun σ H Q ⟨Hb0, H0, Hb, S, q⟩ => k S Q q⟩
theorem W.mono (h : W C X e ρ P) (k : ∀ d, P d → P' d) : W C X e ρ P' := .of h.pe fun S Q q => ⟨_, _, _, S, fun v Hb2 H2 d g s hv p => q v Hb2 H2 d g s hv (k d p)⟩
theorem WN.mono (h : WN C X e ρ P) (k : ∀ d, P d → P' d) : WN C X e ρ P' := .of h.pe fun S Q q => ⟨_, _, _, S, fun v Hb2 H2 d g s h1 h2 hv p => q v Hb2 H2 d g s h1 h2 hv (k d p)⟩
theorem WA.mono {P P' : List D → Prop} (h : WA C X es ρ P) (k : ∀ d, P d → P' d) : WA C X es ρ P' := .of h.pe fun S Q q => ⟨_, _, _, S, fun v Hb2 H2 d g s hv p => q v Hb2 H2 d g s hv (k d p)⟩
/-- a new thing is never to change -/
theorem WN.w (h : WN C X e ρ P) : W C X e ρ P := .of h.pe fun {Hb0 H0 Hb H σ} S Q q => ⟨_, _, _, S, fun a Hb2 H2 d g s h1 h2 hv p => by
  obtain ⟨o, ho, hd⟩ := hv.frz s h2
  refine q _ (upd Hb2 a o) H2 d ⟨fun b u e => ?_, g.h, fun b hb => ?_⟩ (fun b u e => ?_) hd p
  · have := g.b b u e
    rw [upd_ne (ne_of_none this h2)]; exact this
  · rw [upd_ne (fun z => hb.ne (by rw [z]; exact h1))]; exact g.old b hb
  · by_cases hb : b = a
    · subst hb; rw [upd_same] at e; cases e; exact ho
    · rw [upd_ne hb] at e; exact s b u e⟩

/-! ### what an operation on values comes to -/
def RD (K : PySem.W.Frag) (C : Addr) (r : R2) (x y : D) (P : D → Prop) : Prop := ∀ (Hb H : Hp) (v u : V) (Q : VK), Same Hb H → Dv K C Hb v x → Dv K C Hb u y → (∀ z Hb2 H2 d, Grow Hb H Hb2 H2 → Same Hb2 H2 → Dv K C Hb2 z d → P d → Q z H2) → r v u H Q
def RDN (K : PySem.W.Frag) (C : Addr) (r : R2) (x y : D) (P : D → Prop) : Prop := ∀ (Hb H : Hp) (v u : V) (Q : VK), Same Hb H → Dv K C Hb v x → Dv K C Hb u y → (∀ a Hb2 H2 d, Grow Hb H Hb2 H2 → Same Hb2 H2 → H a = none → Hb2 a = none → OwnAt K C Hb2 H2 a d → P d → Q (.ref a) H2) → r v u H Q
/-- the two operands in a row -/
theorem two {r : R2} (S : SR X.K C Hb0 H0 Hb H σ ρ) {Q : VK} (h : W C X a ρ fun x => W C X b ρ fun y => RD X.K C r x y P) (k : ∀ v Hb2 H2 d, Grow Hb H Hb2 H2 → Same Hb2 H2 → Dv X.K C Hb2 v d → P d → Q v H2) : tOp r (bE X a) (bE X b) σ H Q :=
  h.use S fun v Hb1 H1 d1 g1 s1 hv p1 => p1.use (S.grow g1 s1) fun u Hb2 H2 d2 g2 s2 hu p2 => p2 Hb2 H2 v u Q s2 (hv.mono g2.b) hu fun z Hb3 H3 d3 g3 s3 hz p3 => k z Hb3 H3 d3 ((g1.trans g2).trans g3) s3 hz p3
theorem twoN {r : R2} (S : SR X.K C Hb0 H0 Hb H σ ρ) {Q : VK} (h : W C X a ρ fun x => W C X b ρ fun y => RDN X.K C r x y P) (k : ∀ a Hb2 H2 d, Grow Hb H Hb2 H2 → Same Hb2 H2 → H a = none → Hb2 a = none → OwnAt X.K C Hb2 H2 a d → P d → Q (.ref a) H2) : tOp r (bE X a) (bE X b) σ H Q :=
  h.use S fun v Hb1 H1 d1 g1 s1 hv p1 => p1.use (S.grow g1 s1) fun u Hb2 H2 d2 g2 s2 hu p2 => p2 Hb2 H2 v u Q s2 (hv.mono g2.b) hu fun z Hb3 H3 d3 g3 s3 h1 h2 hz p3 => k z Hb3 H3 d3 ((g1.trans g2).trans g3) s3 ((g1.trans g2).h.free h1) h2 hz p3
variable {pos : Pos}
theorem w_op {op : Operator} {r : R2} (ho : OpR X (binaryOp op) r) (h : W C X a ρ fun x => W C X b ρ fun y => RD X.K C r x y P) : W C X (.BinOp a op b pos) ρ P :=
  .of (pe_op ho (pe_b a) (pe_b b)) fun S Q q => two S h q
theorem wn_op {op : Operator} {r : R2} (ho : OpR X (binaryOp op) r) (h : W C X a ρ fun x => W C X b ρ fun y => RDN X.K C r x y P) : WN C X (.BinOp a op b pos) ρ P :=
  .of (pe_op ho (pe_b a) (pe_b b)) fun S Q q => twoN S h q
theorem w_cmpR {op : CmpOp} {r : R2} (ho : OpR X (compareOp op) r) (hm : behindInMarks op b = false) (h : W C X a ρ fun x => W C X b ρ fun y => RD X.K C r x y P) : W C X (.Compare a [op] [b] pos) ρ P :=
  .of (pe_cmpR ho (pe_b a) (pe_b b) hm) fun S Q q => two S h q
theorem wt_cmpR {P : Bool → Prop} {op : CmpOp} {r : R2} (ho : OpR X (compareOp op) r) (hm : behindInMarks op b = false) (h : W C X a ρ fun x => W C X b ρ fun y => RD X.K C r x y fun d => ∃ k, d = .bl k ∧ P k) : WT C X (.Compare a [op] [b] pos) ρ P :=
  .of (pt_cmpR ho (pe_b a) (pe_b b) hm) fun {Hb0 H0 Hb H σ} S Q q => by
    show tOp r (bE X a) (bE X b) σ H (fun x H' => ∃ k, x = .bl k ∧ Q k H')
    refine two S h fun v Hb2 H2 d g s hv p => ?_
    obtain ⟨k, rfl, p⟩ := p
    cases hv
    exact ⟨k, rfl, q k Hb2 H2 g s p⟩
theorem w_ixR {r : R2} (hr : IxR X r) (h : W C X a ρ fun x => W C X b ρ fun y => RD X.K C r x y P) (hs : PlainIx b := by exact fun _ _ => rfl) : W C X (.Subscript a b pos) ρ P :=
  .of (pe_ix hr (pe_b a) (pe_b b) hs) fun S Q q => two S h q

/-! the operations -/
variable {K : PySem.W.Frag} {x y : D}
theorem rd_I0 {g : Int → Int → V} {G : Int → Int → D} (hg : ∀ H i j, Dv K C H (g i j) (G i j)) {i j : Int} (h : P (G i j)) : RD K C (rI0 g) (.int i) (.int j) P := by
  intro Hb H v u Q s hv hu k
  cases hv; cases hu
  exact ⟨i, j, rfl, rfl, k _ Hb H _ (Grow.refl _ _) s (hg _ _ _) h⟩
theorem rd_I {c : Int → Int → Prop} {g : Int → Int → V} {G : Int → Int → D} (hg : ∀ H i j, Dv K C H (g i j) (G i j)) {i j : Int} (hc : c i j) (h : P (G i j)) : RD K C (rI c g) (.int i) (.int j) P := by
  intro Hb H v u Q s hv hu k
  cases hv; cases hu
  exact ⟨i, j, rfl, rfl, hc, k _ Hb H _ (Grow.refl _ _) s (hg _ _ _) h⟩
abbrev IntsTo (C : Addr) (X : Cx) (b : Expr) (ρ : List Sl) (x : D) (k : Int → Int → Prop) : Prop := ∃ i, x = .int i ∧ W C X b ρ fun y => ∃ j, y = .int j ∧ k i j
theorem w_ints {op : Operator} {c : Int → Int → Prop} {g : Int → Int → V} {G : Int → Int → D} (ho : OpR X (binaryOp op) (rI c g)) (hg : ∀ H i j, Dv X.K C H (g i j) (G i j)) (h : W C X a ρ fun x => IntsTo C X b ρ x fun i j => c i j ∧ P (G i j)) : W C X (.BinOp a op b pos) ρ P :=
  w_op ho (h.mono fun x ⟨i, hx, hy⟩ => hy.mono fun y ⟨j, hj, hc, p⟩ => by subst hx hj; exact rd_I hg hc p)
theorem w_ints0 {op : Operator} {g : Int → Int → V} {G : Int → Int → D} (ho : OpR X (binaryOp op) (rI0 g)) (hg : ∀ H i j, Dv X.K C H (g i j) (G i j)) (h : W C X a ρ fun x => IntsTo C X b ρ x fun i j => P (G i j)) : W C X (.BinOp a op b pos) ρ P :=
  w_op ho (h.mono fun x ⟨i, hx, hy⟩ => hy.mono fun y ⟨j, hj, p⟩ => by subst hx hj; exact rd_I0 hg p)
theorem w_add (h : W C X a ρ fun x => IntsTo C X b ρ x fun i j => P (.int (i + j))) : W C X (.BinOp a .Add b pos) ρ P := w_ints0 op_add (fun _ _ _ => .int _) h
theorem w_sub (h : W C X a ρ fun x => IntsTo C X b ρ x fun i j => P (.int (i - j))) : W C X (.BinOp a .Sub b pos) ρ P := w_ints0 op_sub (fun _ _ _ => .int _) h
theorem w_mul (h : W C X a ρ fun x => IntsTo C X b ρ x fun i j => CMul i j ∧ P (.int (i * j))) : W C X (.BinOp a .Mult b pos) ρ P := w_ints op_mul (fun _ _ _ => .int _) h
theorem w_mulW (h : W C X a ρ fun x => IntsTo C X b ρ x fun i j => CMulW i j ∧ P (.int (i * j))) : W C X (.BinOp a .Mult b pos) ρ P := w_ints op_mulW (fun _ _ _ => .int _) h
theorem w_mod (h : W C X a ρ fun x => IntsTo C X b ρ x fun i j => 0 < j ∧ P (.int (i % j))) : W C X (.BinOp a .Mod b pos) ρ P := w_ints op_mod (fun _ _ _ => .int _) h
theorem w_fdiv (h : W C X a ρ fun x => IntsTo C X b ρ x fun i j => CDiv i j ∧ P (.int (i / j))) : W C X (.BinOp a .FloorDiv b pos) ρ P := w_ints op_fdiv (fun _ _ _ => .int _) h
theorem w_pow (h : W C X a ρ fun x => IntsTo C X b ρ x fun i j => CPow i j ∧ P (.int (i ^ j.toNat))) : W C X (.BinOp a .Pow b pos) ρ P := w_ints op_pow (fun _ _ _ => .int _) h
/-- list + list -/
theorem wn_cat (h : W C X a ρ fun x => ∃ ds, x = .lst ds ∧ W C X b ρ fun y => ∃ es, y = .lst es ∧ ds.length + es.length ≤ sizeLine ∧ P (.lst (ds ++ es))) : WN C X (.BinOp a .Add b pos) ρ P :=
  wn_op op_cat (h.mono fun x ⟨ds, hx, hy⟩ => hy.mono fun y ⟨es, he, hl, p0⟩ => by
    subst hx he
    intro Hb H v u Q s hv hu k
    cases hv with
    | lst h1 t1 =>
      cases hu with
      | lst h2 t2 =>
        refine ⟨_, _, _, _, rfl, rfl, s _ _ h1, s _ _ h2, by rw [t1.length, t2.length]; exact hl, fun p hp => ?_⟩
        obtain ⟨g, s2⟩ := Grow.own (o := .lst _) s hp
        exact k p Hb _ (.lst (ds ++ es)) g s2 hp (s.free hp) ⟨_, upd_same, t1.append t2⟩ p0)
theorem w_addS (h : W C X a ρ fun x => ∃ i, x = .str i ∧ W C X b ρ fun y => ∃ j, y = .str j ∧ i.length + j.length ≤ sizeLine ∧ P (.str (i ++ j))) : W C X (.BinOp a .Add b pos) ρ P :=
  w_op op_add_str (h.mono fun x ⟨i, hx, hy⟩ => hy.mono fun y ⟨j, hj, hl, p⟩ => by
    subst hx hj
    intro Hb H v u Q s hv hu k
    cases hv; cases hu
    exact ⟨i, j, rfl, rfl, hl, k _ Hb H _ (Grow.refl _ _) s (.str _) p⟩)
/-! comparisons -/
theorem rd_lt {i j : Int} (h : P (.bl (decide (i < j)))) : RD K C (rI0 fun i j => .bl (decide (i < j))) (.int i) (.int j) P := rd_I0 (G := fun i j => .bl (decide (i < j))) (fun _ _ _ => .bl _) h
theorem rd_ge {i j : Int} (h : P (.bl (decide (j ≤ i)))) : RD K C (rI0 fun i j => .bl (decide (j ≤ i))) (.int i) (.int j) P := rd_I0 (G := fun i j => .bl (decide (j ≤ i))) (fun _ _ _ => .bl _) h
theorem rd_gt {i j : Int} (h : P (.bl (decide (j < i)))) : RD K C (rI0 fun i j => .bl (decide (j < i))) (.int i) (.int j) P := rd_I0 (G := fun i j => .bl (decide (j < i))) (fun _ _ _ => .bl _) h
/-- what two plain things are alike by == -/
def sEq : D → D → Bool
  | .non, .non => true
  | .int i, .int j => decide (i = j)
  | .str i, .str j => decide (i = j)
  | _, _ => false
def sOk : D → D → Bool
  | .non, .non => true | .int _, .int _ => true | .str _, .str _ => true | .non, .int _ => true | .int _, .non => true
  | _, _ => false
theorem dec_eq {p q : Prop} [Decidable p] [Decidable q] (h : p ↔ q) : decide p = decide q := by
  by_cases x : p
  · rw [decide_eq_true x, decide_eq_true (h.mp x)]
  · rw [decide_eq_false x, decide_eq_false fun y => x (h.mpr y)]
theorem sEq_dec {H : Hp} {v u : V} (hv : Dv K C H v x) (hu : Dv K C H u y) (ok : sOk x y = true) : scal v u = true ∧ decide (v = u) = sEq x y := by
  cases hv <;> cases hu <;> first | (cases ok; done) | skip
  · exact ⟨rfl, rfl⟩
  · exact ⟨rfl, rfl⟩
  · exact ⟨rfl, rfl⟩
  · exact ⟨rfl, dec_eq ⟨fun e => V.int.inj e, fun e => by rw [e]⟩⟩
  · exact ⟨rfl, dec_eq ⟨fun e => V.str.inj e, fun e => by rw [e]⟩⟩
theorem rd_eq (ok : sOk x y = true) (h : P (.bl (sEq x y))) : RD K C rEq x y P := by
  intro Hb H v u Q s hv hu k
  obtain ⟨h1, h2⟩ := sEq_dec hv hu ok
  exact ⟨h1, by rw [h2]; exact k _ Hb H _ (Grow.refl _ _) s (.bl _) h⟩
theorem rd_ne (ok : sOk x y = true) (h : P (.bl (!sEq x y))) : RD K C rNe x y P := by
  intro Hb H v u Q s hv hu k
  obtain ⟨h1, h2⟩ := sEq_dec hv hu ok
  exact ⟨h1, by rw [h2]; exact k _ Hb H _ (Grow.refl _ _) s (.bl _) h⟩
theorem w_lt (h : W C X a ρ fun x => IntsTo C X b ρ x fun i j => P (.bl (decide (i < j)))) : W C X (.Compare a [.Lt] [b] pos) ρ P :=
  w_cmpR op_lt (nomark _) (h.mono fun x ⟨i, hx, hy⟩ => hy.mono fun y ⟨j, hj, p⟩ => by subst hx hj; exact rd_lt p)
theorem wt_lt {P : Bool → Prop} (h : W C X a ρ fun x => IntsTo C X b ρ x fun i j => P (decide (i < j))) : WT C X (.Compare a [.Lt] [b] pos) ρ P :=
  wt_cmpR op_lt (nomark _) (h.mono fun x ⟨i, hx, hy⟩ => hy.mono fun y ⟨j, hj, p⟩ => by subst hx hj; exact rd_lt ⟨_, rfl, p⟩)
theorem wt_ge {P : Bool → Prop} (h : W C X a ρ fun x => IntsTo C X b ρ x fun i j => P (decide (j ≤ i))) : WT C X (.Compare a [.GtE] [b] pos) ρ P :=
  wt_cmpR op_ge (nomark _) (h.mono fun x ⟨i, hx, hy⟩ => hy.mono fun y ⟨j, hj, p⟩ => by subst hx hj; exact rd_ge ⟨_, rfl, p⟩)
theorem w_gt (h : W C X a ρ fun x => IntsTo C X b ρ x fun i j => P (.bl (decide (j < i)))) : W C X (.Compare a [.Gt] [b] pos) ρ P :=
  w_cmpR op_gt (nomark _) (h.mono fun x ⟨i, hx, hy⟩ => hy.mono fun y ⟨j, hj, p⟩ => by subst hx hj; exact rd_gt p)
theorem w_eq (h : W C X a ρ fun x => W C X b ρ fun y => sOk x y = true ∧ P (.bl (sEq x y))) : W C X (.Compare a [.Eq] [b] pos) ρ P :=
  w_cmpR op_eq (nomark _) (h.mono fun x hy => hy.mono fun y ⟨ok, p⟩ => rd_eq ok p)
theorem wt_eq {P : Bool → Prop} (h : W C X a ρ fun x => W C X b ρ fun y => sOk x y = true ∧ P (sEq x y)) : WT C X (.Compare a [.Eq] [b] pos) ρ P :=
  wt_cmpR op_eq (nomark _) (h.mono fun x hy => hy.mono fun y ⟨ok, p⟩ => rd_eq ok ⟨_, rfl, p⟩)
theorem wt_ne {P : Bool → Prop} (h : W C X a ρ fun x => W C X b ρ fun y => sOk x y = true ∧ P (!sEq x y)) : WT C X (.Compare a [.NotEq] [b] pos) ρ P :=
  wt_cmpR op_ne (nomark _) (h.mono fun x hy => hy.mono fun y ⟨ok, p⟩ => rd_ne ok ⟨_, rfl, p⟩)
/-- is None -/
def isN : D → Bool
  | .non => true
  | _ => false
theorem isN_dec {H : Hp} {v : V} (hv : Dv K C H v x) : decide (v = .non) = isN x := by
  cases hv <;> rfl
theorem wt_isN {P : Bool → Prop} {j : Nat} {pos' : Pos} (h : W C X a ρ fun x => P (isN x)) : WT C X (.Compare a [.Is] [.Constant .none j pos'] pos) ρ P :=
  .of (pt_cmp (pc_isN (pe_b a))) fun {Hb0 H0 Hb H σ} S Q q => by
    show bE X a σ H _
    exact h.use S fun v Hb2 H2 d g s hv p => ⟨_, rfl, by rw [isN_dec hv]; exact q _ Hb2 H2 g s p⟩
theorem wt_notN {P : Bool → Prop} {j : Nat} {pos' : Pos} (h : W C X a ρ fun x => P (!isN x)) : WT C X (.Compare a [.IsNot] [.Constant .none j pos'] pos) ρ P :=
  .of (pt_cmp (pc_notN (pe_b a))) fun {Hb0 H0 Hb H σ} S Q q => by
    show bE X a σ H _
    exact h.use S fun v Hb2 H2 d g s hv p => ⟨_, rfl, by rw [isN_dec hv]; exact q _ Hb2 H2 g s p⟩

/-! names, constants -/
theorem w_var (i : Nat) {x : Str} {d : D} {pos : Pos} (hd : ρ[i]? = some (.im d)) (p : P d) (hN : X.N[i]? = some x := by rfl) (hv : Vis X.env.scope x := by first | exact Or.inl rfl | exact Or.inr (Or.inl rfl) | exact Or.inr (Or.inr rfl))
    (h1 : (x == ("__debug__" : Str)) = false := by decide) (h2 : (x == ("__classdict__" : Str)) = false := by decide) : W C X (.Name x pos) ρ P :=
  .of (pe_var hN hv h1 h2) fun S Q q => by
    obtain ⟨v, h3, h4⟩ := S.slot i _ hd
    exact ⟨v, h3, q v _ _ d (Grow.refl _ _) S.sub h4 p⟩
theorem w_int {i : Int} {j : Nat} (p : P (.int i)) : W C X (.Constant (.int i) j pos) ρ P := .of pe_int fun S Q q => q _ _ _ _ (Grow.refl _ _) S.sub (.int i) p
theorem w_str {i : Str} {j : Nat} (p : P (.str i)) : W C X (.Constant (.str i) j pos) ρ P := .of pe_str fun S Q q => q _ _ _ _ (Grow.refl _ _) S.sub (.str i) p
theorem w_bl {i : Bool} {j : Nat} (p : P (.bl i)) : W C X (.Constant (.bool i) j pos) ρ P := .of pe_bl fun S Q q => q _ _ _ _ (Grow.refl _ _) S.sub (.bl i) p
theorem w_non {j : Nat} (p : P .non) : W C X (.Constant .none j pos) ρ P := .of pe_non fun S Q q => q _ _ _ _ (Grow.refl _ _) S.sub .non p

/-! subscripts -/
def seqD : D → Option (List D)
  | .lst ds => some ds
  | .tup ds => some ds
  | .ro ds => some ds
  | _ => none
theorem atI_da {H : Hp} : ∀ {vs : List V} {ds : List D} {i : Int} {d : D}, Da K C H vs ds → atI ds i = some d → ∃ v, atI vs i = some v ∧ Dv K C H v d := fun {vs ds i d} t e => by
  unfold atI at e ⊢
  rw [t.length]
  cases q : ixN ds.length i with
  | none => rw [q] at e; cases e
  | some j =>
    rw [q] at e
    exact t.get (i := j) e
theorem w_ix (h : W C X a ρ fun x => ∃ ds, seqD x = some ds ∧ W C X b ρ fun y => ∃ i, y = .int i ∧ ∃ d, atI ds i = some d ∧ P d) (hs : PlainIx b := by exact fun _ _ => rfl) : W C X (.Subscript a b pos) ρ P :=
  w_ixR ix_seq (h.mono fun x ⟨ds, hx, hy⟩ => hy.mono fun y ⟨i, hi, d, hd, p⟩ => by
    subst hi
    intro Hb H v u Q s hv hu k
    cases hu
    cases hv with
    | lst e t =>
      cases hx
      obtain ⟨w, h1, h2⟩ := atI_da t hd
      exact .inl ⟨_, _, i, w, rfl, rfl, SqL.of (s _ _ e), h1, k w Hb H d (Grow.refl _ _) s h2 p⟩
    | tup e t =>
      cases hx
      obtain ⟨w, h1, h2⟩ := atI_da t hd
      exact .inr (.inl ⟨_, _, i, w, rfl, rfl, SqT.of (s _ _ e), h1, k w Hb H d (Grow.refl _ _) s h2 p⟩)
    | ro e t =>
      cases hx
      obtain ⟨w, h1, h2⟩ := atI_da t hd
      exact .inl ⟨_, _, i, w, rfl, rfl, s.seq e, h1, k w Hb H d (Grow.refl _ _) s h2 p⟩
    | _ => cases hx) hs

/-! tests -/
theorem wt_val {P : Bool → Prop} (h : W C X e ρ fun d => ∃ k, d = .bl k ∧ P k) (he : ∀ whole, isTrue e X.env whole = (do let v ← whole; standAt e.pos; holding [v] (truthy v)) := by intro _; rfl) : WT C X e ρ P :=
  .of (pt_val (pe_b e) he) fun {Hb0 H0 Hb H σ} S Q q => by
    show bE X e σ H _
    refine h.use S fun v Hb2 H2 d g s hv p => ?_
    obtain ⟨k, rfl, p⟩ := p
    cases hv
    exact ⟨k, rfl, q k Hb2 H2 g s p⟩
theorem WT.mono {P P' : Bool → Prop} (h : WT C X e ρ P) (k : ∀ b, P b → P' b) : WT C X e ρ P' := .of h.pe fun S Q q => ⟨_, _, _, S, fun v Hb2 H2 g s p => q v Hb2 H2 g s (k v p)⟩
theorem wt_not {P : Bool → Prop} (h : WT C X a ρ fun b => P (!b)) : WT C X (.UnaryOp .Not a pos) ρ P :=
  .of (pt_not (pt_b a)) fun {Hb0 H0 Hb H σ} S Q q => by
    show bT X a σ H _
    exact h.use S fun v Hb2 H2 g s p => q _ Hb2 H2 g s p
/-- and, or chains -/
structure WW (C : Addr) (X : Cx) (e : Expr) (ρ : List Sl) (P : Bool → Prop) : Prop where
  pe : PW X e (tWT X.K C ρ P)
theorem WW.use {P : Bool → Prop} (h : WW C X e ρ P) (S : SR X.K C Hb0 H0 Hb H σ ρ) {Q : Bool → Hp → Prop} (k : ∀ v Hb2 H2, Grow Hb H Hb2 H2 → Same Hb2 H2 → P v → Q v H2) : bW X e σ H Q := ⟨_, h.pe, Hb0, H0, Hb, S, k⟩
theorem WW.of {P : Bool → Prop} {t : TT} (h : PW X e t) (k : ∀ {Hb0 H0 Hb H : Hp} {σ : L2.St} (S : SR X.K C Hb0 H0 Hb H σ ρ) (Q : Bool → Hp → Prop), (∀ b Hb2 H2, Grow Hb H Hb2 H2 → Same Hb2 H2 → P b → Q b H2) → t σ H Q) : WW C X e ρ P :=
  ⟨toPW h fun σ H Q ⟨Hb0, H0, Hb, S, q⟩ => k S Q q⟩
theorem WW.wt {P : Bool → Prop} (h : WW C X e ρ P) : WT C X e ρ P := ⟨h.pe.pt⟩
theorem ww_and1 {P : Bool → Prop} (h : WT C X a ρ P) : WW C X (.BoolOp .And [a] pos) ρ P := ⟨pw_and1 h.pe⟩
theorem ww_or1 {P : Bool → Prop} (h : WT C X a ρ P) : WW C X (.BoolOp .Or [a] pos) ρ P := ⟨pw_or1 h.pe⟩
theorem ww_and {P : Bool → Prop} {rest : List Expr} (h : WT C X a ρ fun c => if c = true then WW C X (.BoolOp .And (b :: rest) pos) ρ P else P false) : WW C X (.BoolOp .And (a :: b :: rest) pos) ρ P :=
  .of (pw_and (pt_b a) (pw_b _)) fun {Hb0 H0 Hb H σ} S Q q => by
    show bT X a σ H _
    refine h.use S fun c Hb2 H2 g s p => ?_
    cases c with
    | true =>
      rw [if_pos rfl] at p ⊢
      exact p.use (S.grow g s) fun d Hb3 H3 g3 s3 p3 => q d Hb3 H3 (g.trans g3) s3 p3
    | false => exact q false Hb2 H2 g s p
theorem ww_or {P : Bool → Prop} {rest : List Expr} (h : WT C X a ρ fun c => if c = true then P true else WW C X (.BoolOp .Or (b :: rest) pos) ρ P) : WW C X (.BoolOp .Or (a :: b :: rest) pos) ρ P :=
  .of (pw_or (pt_b a) (pw_b _)) fun {Hb0 H0 Hb H σ} S Q q => by
    show bT X a σ H _
    refine h.use S fun c Hb2 H2 g s p => ?_
    cases c with
    | true => exact q true Hb2 H2 g s p
    | false =>
      rw [if_neg Bool.false_ne_true] at p ⊢
      exact p.use (S.grow g s) fun d Hb3 H3 g3 s3 p3 => q d Hb3 H3 (g.trans g3) s3 p3
/-- as values -/
theorem w_one {op : BoolOp} (h : W C X a ρ P) : W C X (.BoolOp op [a] pos) ρ P := ⟨pe_one h.pe⟩
theorem w_and {rest : List Expr} (h : W C X a ρ fun x => ∃ c, x = .bl c ∧ if c = true then W C X (.BoolOp .And (b :: rest) pos) ρ P else P (.bl false)) : W C X (.BoolOp .And (a :: b :: rest) pos) ρ P :=
  .of (pe_and (pe_b a) (pe_b _)) fun {Hb0 H0 Hb H σ} S Q q => by
    show bE X a σ H _
    refine h.use S fun v Hb2 H2 d g s hv p => ?_
    obtain ⟨c, rfl, p⟩ := p
    cases hv
    refine ⟨c, rfl, ?_⟩
    cases c with
    | true =>
      rw [if_pos rfl] at p ⊢
      exact p.use (S.grow g s) fun u Hb3 H3 d3 g3 s3 hu p3 => q u Hb3 H3 d3 (g.trans g3) s3 hu p3
    | false => exact q _ Hb2 H2 _ g s (.bl _) p
theorem w_or {rest : List Expr} (h : W C X a ρ fun x => ∃ c, x = .bl c ∧ if c = true then P (.bl true) else W C X (.BoolOp .Or (b :: rest) pos) ρ P) : W C X (.BoolOp .Or (a :: b :: rest) pos) ρ P :=
  .of (pe_or (pe_b a) (pe_b _)) fun {Hb0 H0 Hb H σ} S Q q => by
    show bE X a σ H _
    refine h.use S fun v Hb2 H2 d g s hv p => ?_
    obtain ⟨c, rfl, p⟩ := p
    cases hv
    refine ⟨c, rfl, ?_⟩
    cases c with
    | true => exact q _ Hb2 H2 _ g s (.bl _) p
    | false =>
      rw [if_neg Bool.false_ne_true] at p ⊢
      exact p.use (S.grow g s) fun u Hb3 H3 d3 g3 s3 hu p3 => q u Hb3 H3 d3 (g.trans g3) s3 hu p3
theorem w_not (h : W C X a ρ fun x => ∃ c, x = .bl c ∧ P (.bl (!c))) : W C X (.UnaryOp .Not a pos) ρ P :=
  .of (pe_not (pe_b a)) fun {Hb0 H0 Hb H σ} S Q q => by
    show bE X a σ H _
    refine h.use S fun v Hb2 H2 d g s hv p => ?_
    obtain ⟨c, rfl, p⟩ := p
    cases hv
    exact ⟨c, rfl, q _ Hb2 H2 _ g s (.bl _) p⟩
theorem w_ifExp {c : Expr} (h : WT C X c ρ fun t => if t = true then W C X a ρ P else W C X b ρ P) : W C X (.IfExp c a b pos) ρ P :=
  .of (pe_ifExp (pt_b c) (pe_b a) (pe_b b)) fun {Hb0 H0 Hb H σ} S Q q => by
    show bT X c σ H _
    refine h.use S fun t Hb2 H2 g s p => ?_
    cases t with
    | true =>
      rw [if_pos rfl] at p ⊢
      exact p.use (S.grow g s) fun u Hb3 H3 d3 g3 s3 hu p3 => q u Hb3 H3 d3 (g.trans g3) s3 hu p3
    | false =>
      rw [if_neg Bool.false_ne_true] at p ⊢
      exact p.use (S.grow g s) fun u Hb3 H3 d3 g3 s3 hu p3 => q u Hb3 H3 d3 (g.trans g3) s3 hu p3
/-- a chain of two comparisons of ints: 0 <= x < n -/
theorem wt_chain {P : Bool → Prop} {c : Expr} (h : W C X a ρ fun x => ∃ i, x = .int i ∧ W C X b ρ fun y => ∃ j, y = .int j ∧ if decide (i ≤ j) = true then W C X c ρ (fun z => ∃ k, z = .int k ∧ P (decide (j < k))) else P false) (hm : lastMarks [.LtE, .Lt] [b, c] = false := by with_unfolding_all rfl) : WT C X (.Compare a [.LtE, .Lt] [b, c] pos) ρ P :=
  .of (pt_chain op_le op_lt (pe_b a) (pe_b b) (pe_b c) hm) fun {Hb0 H0 Hb H σ} S Q q => by
    show bE X a σ H _
    refine h.use S fun v Hb1 H1 d g1 s1 hv p => ?_
    obtain ⟨i, rfl, p⟩ := p
    cases hv
    refine p.use (S.grow g1 s1) fun v Hb2 H2 d g2 s2 hv p => ?_
    obtain ⟨j, rfl, p⟩ := p
    cases hv
    refine ⟨i, j, rfl, rfl, ?_⟩
    refine ⟨_, rfl, ?_⟩
    by_cases hij : i ≤ j
    · rw [decide_eq_true hij, if_pos rfl] at p
      rw [decide_eq_true hij, if_pos rfl]
      refine p.use ((S.grow g1 s1).grow g2 s2) fun v Hb3 H3 d g3 s3 hv p => ?_
      obtain ⟨k, rfl, p⟩ := p
      cases hv
      exact ⟨j, k, rfl, rfl, _, rfl, q _ Hb3 H3 ((g1.trans g2).trans g3) s3 p⟩
    · rw [decide_eq_false hij, if_neg Bool.false_ne_true] at p
      rw [decide_eq_false hij, if_neg Bool.false_ne_true]
      exact ⟨_, rfl, q _ Hb2 H2 (g1.trans g2) s2 p⟩

/-! arguments, displays -/
theorem wa_nil {P : List D → Prop} (p : P []) : WA C X [] ρ P := .of pa_nil fun S Q q => q [] _ _ [] (Grow.refl _ _) S.sub .nil p
theorem wa_cons {P : List D → Prop} (h : W C X e ρ fun d => WA C X es ρ fun ds => P (d :: ds)) (hs : starEach (e :: es) X.env = (false, eval e X.env) :: starEach es X.env := by rfl) : WA C X (e :: es) ρ P :=
  .of (pa_cons (pe_b e) (pa_b es) hs) fun {Hb0 H0 Hb H σ} S Q q => by
    show bE X e σ H _
    exact h.use S fun v Hb1 H1 d g1 s1 hv p1 => p1.use (S.grow g1 s1) fun vs Hb2 H2 ds g2 s2 hvs p2 => q (v :: vs) Hb2 H2 (d :: ds) (g1.trans g2) s2 (.cons (hv.mono g2.b) hvs) p2
theorem w_tup {k : Nat} (h : WA C X es ρ fun ds => ds.length ≤ sizeLine ∧ P (.tup ds)) : W C X (.Tuple es k pos) ρ P :=
  .of (pe_tup (pa_b es)) fun {Hb0 H0 Hb H σ} S Q q => by
    show bA X es σ H _
    refine h.use S fun vs Hb1 H1 ds g1 s1 hvs p1 => ⟨by rw [hvs.length]; exact p1.1, fun p hp => ?_⟩
    obtain ⟨g2, s2⟩ := Grow.new (o := .tup vs) s1 hp
    exact q _ _ _ _ (g1.trans g2) s2 (.tup upd_same (hvs.mono g2.b)) p1.2
theorem wn_lst (h : WA C X es ρ fun ds => ds.length ≤ sizeLine ∧ P (.lst ds)) : WN C X (.List es pos) ρ P :=
  .of (pe_lst (pa_b es)) fun {Hb0 H0 Hb H σ} S Q q => by
    show bA X es σ H _
    refine h.use S fun vs Hb1 H1 ds g1 s1 hvs p1 => ⟨by rw [hvs.length]; exact p1.1, fun p hp => ?_⟩
    obtain ⟨g2, s2⟩ := Grow.own (o := .lst vs) s1 hp
    exact q p _ _ (.lst ds) (g1.trans g2) s2 (g1.h.free hp) (s1.free hp) ⟨vs, upd_same, hvs⟩ p1.2
end
end TW
set_option Elab.async false
set_option linter.all false
set_option maxRecDepth 100000
set_option maxHeartbeats 4000000
/-! Statements, targets, loops, comprehensions, calls of own defs. -/
namespace TW
open PySem L2

/-! ### targets -/
def Keep (σ σ' : L2.St) (ts : List Nat) : Prop := σ'.length = σ.length ∧ ∀ j, j ∉ ts → σ'[j]? = σ[j]?
def tG (K : PySem.W.Frag) (C : Addr) (ρ : List Sl) (ts : List Nat) (d : D) (P : List Sl → Prop) : TG := fun v σ H Q => ∃ Hb0 H0 Hb, SR K C Hb0 H0 Hb H σ ρ ∧ Dv K C Hb v d ∧ ∀ σ' ρ', SR K C Hb0 H0 Hb H σ' ρ' → Keep σ σ' ts → P ρ' → Q σ' H
def tGs (K : PySem.W.Frag) (C : Addr) (ρ : List Sl) (ts : List Nat) (ds : List D) (P : List Sl → Prop) : TGs := fun vs σ H Q => ∃ Hb0 H0 Hb, SR K C Hb0 H0 Hb H σ ρ ∧ Da K C Hb vs ds ∧ ∀ σ' ρ', SR K C Hb0 H0 Hb H σ' ρ' → Keep σ σ' ts → P ρ' → Q σ' H
structure WG (C : Addr) (X : Cx) (tg : Expr) (ts : List Nat) (d : D) (ρ : List Sl) (P : List Sl → Prop) : Prop where
  pg : PG X tg (tG X.K C ρ ts d P)
structure WGs (C : Addr) (X : Cx) (tg : List Expr) (ts : List Nat) (d : List D) (ρ : List Sl) (P : List Sl → Prop) : Prop where
  pg : PGs X tg (tGs X.K C ρ ts d P)
def bG (X : Cx) (tg : Expr) : TG := fun v σ H Q => ∃ t, PG X tg t ∧ t v σ H Q
def bGs (X : Cx) (tg : List Expr) : TGs := fun v σ H Q => ∃ t, PGs X tg t ∧ t v σ H Q
theorem pg_b {X : Cx} (e : Expr) : PG X e (bG X e) := ⟨fun pins s σ H v u Q I r ⟨_, ht, h⟩ => ht.run pins s σ H v u Q I r h⟩
theorem pgs_b {X : Cx} (e : List Expr) : PGs X e (bGs X e) := ⟨fun pins s σ H v u Q I r ⟨_, ht, h⟩ => ht.run pins s σ H v u Q I r h⟩
theorem toPG {X : Cx} {e : Expr} {t u : TG} (h : PG X e t) (k : ∀ v σ H Q, u v σ H Q → t v σ H Q) : PG X e u := ⟨fun pins s σ H v w Q I r q => h.run pins s σ H v w Q I r (k v σ H Q q)⟩
theorem toPGs {X : Cx} {e : List Expr} {t u : TGs} (h : PGs X e t) (k : ∀ v σ H Q, u v σ H Q → t v σ H Q) : PGs X e u := ⟨fun pins s σ H v w Q I r q => h.run pins s σ H v w Q I r (k v σ H Q q)⟩
theorem Keep.refl {σ : L2.St} {ts : List Nat} : Keep σ σ ts := ⟨rfl, fun _ _ => rfl⟩
theorem Keep.trans {σ σ1 σ2 : L2.St} {ts us : List Nat} (a : Keep σ σ1 ts) (b : Keep σ1 σ2 us) : Keep σ σ2 (ts ++ us) :=
  ⟨b.1.trans a.1, fun j hj => (b.2 j fun z => hj (List.mem_append_right _ z)).trans (a.2 j fun z => hj (List.mem_append_left _ z))⟩
section
variable {C : Addr} {X : Cx} {ρ : List Sl} {ts us : List Nat} {d : D} {ds : List D} {P : List Sl → Prop} {e : Expr} {es : List Expr} {σ : L2.St} {Hb0 H0 Hb H : Hp} {pos : Pos}
theorem WG.use (h : WG C X e ts d ρ P) (S : SR X.K C Hb0 H0 Hb H σ ρ) {v : V} (hv : Dv X.K C Hb v d) {Q : L2.St → Hp → Prop} (k : ∀ σ' ρ', SR X.K C Hb0 H0 Hb H σ' ρ' → Keep σ σ' ts → P ρ' → Q σ' H) : bG X e v σ H Q := ⟨_, h.pg, Hb0, H0, Hb, S, hv, k⟩
theorem WGs.use (h : WGs C X es ts ds ρ P) (S : SR X.K C Hb0 H0 Hb H σ ρ) {vs : List V} (hv : Da X.K C Hb vs ds) {Q : L2.St → Hp → Prop} (k : ∀ σ' ρ', SR X.K C Hb0 H0 Hb H σ' ρ' → Keep σ σ' ts → P ρ' → Q σ' H) : bGs X es vs σ H Q := ⟨_, h.pg, Hb0, H0, Hb, S, hv, k⟩
theorem wg_name (i : Nat) {x : Str} (hN : X.N.Nodup) (h : P (ρ.set i (.im d))) (hi : X.N[i]? = some x := by rfl) (hx : Loc X.env.scope x := by first | exact Or.inl rfl | exact Or.inr rfl) (hf : X.fn x = true ∨ X.env.scope.names.lookup x = some .local := by first | exact .inl rfl | exact .inr rfl | assumption) : WG C X (.Name x pos) [i] d ρ P :=
  ⟨toPG (pg_name hN hi hx hf) fun v σ H Q ⟨Hb0, H0, Hb, S, hv, k⟩ => k _ _ (S.set hv) ⟨List.length_set, fun j hj => List.getElem?_set_ne (fun z => hj (by simp [z]))⟩ h⟩
theorem wgs_nil (h : P ρ) : WGs C X [] [] [] ρ P := ⟨toPGs pgs_nil fun v σ H Q ⟨Hb0, H0, Hb, S, hv, k⟩ => by
  cases hv
  exact ⟨rfl, k _ _ S Keep.refl h⟩⟩
theorem wgs_cons (h : WG C X e ts d ρ fun ρ' => WGs C X es us ds ρ' P) (hs : (assignEach (e :: es) X.env).map (·.2) = assign e X.env :: (assignEach es X.env).map (·.2) := by rfl) : WGs C X (e :: es) (ts ++ us) (d :: ds) ρ P :=
  ⟨toPGs (pgs_cons (pg_b e) (pgs_b es) hs) fun v σ H Q ⟨Hb0, H0, Hb, S, hv, k⟩ => by
    cases hv with
    | cons h1 h2 =>
      exact ⟨_, _, rfl, h.use S h1 fun σ1 ρ1 S1 K1 p1 => p1.use S1 h2 fun σ2 ρ2 S2 K2 p2 => k σ2 ρ2 S2 (K1.trans K2) p2⟩⟩
theorem wg_tup {k : Nat} (hc : X.calm = true) (h : WGs C X es ts ds ρ P) (hl : ds.length = es.length) (hn : (assignEach es X.env).length = es.length := by rfl) (hst : (assignEach es X.env).findIdx? (·.1) = none := by rfl) : WG C X (.Tuple es k pos) ts (.tup ds) ρ P :=
  ⟨toPG (pg_tup hc (pgs_b es) hn hst) fun v σ H Q ⟨Hb0, H0, Hb, S, hv, k⟩ => by
    cases hv with
    | tup h1 h2 => exact ⟨_, _, rfl, SqT.of (S.sub _ _ h1), h2.length.trans hl, h.use S h2 k⟩⟩
end

/-! ### statements -/
structure EndD where
  nx : List Sl → Prop
  rt : D → Prop
  bk : List Sl → Prop := fun _ => False
  ct : List Sl → Prop := fun _ => False
structure Kt (K : PySem.W.Frag) (C : Addr) (Hb0 H0 : Hp) (O : EndD) (D : Ends) : Prop where
  nx : ∀ σ Hb H ρ, SR K C Hb0 H0 Hb H σ ρ → O.nx ρ → D.nx σ H
  rt : ∀ v Hb H d, Grow Hb0 H0 Hb H → Same Hb H → Dv K C Hb v d → O.rt d → D.rt v H
  bk : ∀ σ Hb H ρ, SR K C Hb0 H0 Hb H σ ρ → O.bk ρ → D.bk σ H
  ct : ∀ σ Hb H ρ, SR K C Hb0 H0 Hb H σ ρ → O.ct ρ → D.ct σ H
def tS (K : PySem.W.Frag) (C : Addr) (ρ : List Sl) (O : EndD) : TS := fun D σ H => ∃ Hb0 H0 Hb, SR K C Hb0 H0 Hb H σ ρ ∧ Kt K C Hb0 H0 O D
structure WS (C : Addr) (X : Cx) (st : Stmt) (ρ : List Sl) (O : EndD) : Prop where
  ps : PS X st (tS X.K C ρ O)
structure WSs (C : Addr) (X : Cx) (st : List Stmt) (ρ : List Sl) (O : EndD) : Prop where
  ps : PSs X st (tS X.K C ρ O)
def bS (X : Cx) (st : Stmt) : TS := fun D σ H => ∃ t, PS X st t ∧ t D σ H
def bSs (X : Cx) (st : List Stmt) : TS := fun D σ H => ∃ t, PSs X st t ∧ t D σ H
theorem ps_b {X : Cx} (st : Stmt) : PS X st (bS X st) := ⟨fun pins s σ H D I ⟨_, ht, h⟩ => ht.run pins s σ H D I h⟩
theorem pss_b {X : Cx} (st : List Stmt) : PSs X st (bSs X st) := ⟨fun pins s σ H D I ⟨_, ht, h⟩ => ht.run pins s σ H D I h⟩
theorem toPS {X : Cx} {e : Stmt} {t u : TS} (h : PS X e t) (k : ∀ D σ H, u D σ H → t D σ H) : PS X e u := ⟨fun pins s σ H D I q => h.run pins s σ H D I (k D σ H q)⟩
theorem toPSs {X : Cx} {e : List Stmt} {t u : TS} (h : PSs X e t) (k : ∀ D σ H, u D σ H → t D σ H) : PSs X e u := ⟨fun pins s σ H D I q => h.run pins s σ H D I (k D σ H q)⟩
/-- from a later base -/
theorem Kt.rebase {K : PySem.W.Frag} {C : Addr} {Hb0 H0 Hb H : Hp} {O : EndD} {E : Ends} {σ : L2.St} {ρ : List Sl} (S : SR K C Hb0 H0 Hb H σ ρ) (k : Kt K C Hb0 H0 O E) : Kt K C Hb H0 O E :=
  ⟨fun σ' Hb' H' ρ' S' => k.nx σ' Hb' H' ρ' (S.rebase S'), fun v Hb' H' d g => k.rt v Hb' H' d ⟨S.b0.trans g.b, g.h, fun a ha => (g.old a ha).trans (S.old a ha)⟩,
    fun σ' Hb' H' ρ' S' => k.bk σ' Hb' H' ρ' (S.rebase S'), fun σ' Hb' H' ρ' S' => k.ct σ' Hb' H' ρ' (S.rebase S')⟩
section
variable {C : Addr} {X : Cx} {ρ : List Sl} {O : EndD} {st : Stmt} {sts : List Stmt} {e : Expr} {es : List Expr} {σ : L2.St} {Hb0 H0 Hb H : Hp} {pos : Pos} {P : D → Prop}
theorem WS.use (h : WS C X st ρ O) (S : SR X.K C Hb0 H0 Hb H σ ρ) {D : Ends} (k : Kt X.K C Hb0 H0 O D) : bS X st D σ H := ⟨_, h.ps, Hb0, H0, Hb, S, k⟩
theorem WSs.use (h : WSs C X sts ρ O) (S : SR X.K C Hb0 H0 Hb H σ ρ) {D : Ends} (k : Kt X.K C Hb0 H0 O D) : bSs X sts D σ H := ⟨_, h.ps, Hb0, H0, Hb, S, k⟩
theorem WS.of {t : TS} (h : PS X st t) (k : ∀ {Hb0 H0 Hb H : Hp} {σ : L2.St} (S : SR X.K C Hb0 H0 Hb H σ ρ) (D : Ends), Kt X.K C Hb0 H0 O D → t D σ H) : WS C X st ρ O := ⟨toPS h fun D σ H ⟨Hb0, H0, Hb, S, q⟩ => k S D q⟩
theorem ws_nil (h : O.nx ρ) : WSs C X [] ρ O := ⟨toPSs pss_nil fun D σ H ⟨Hb0, H0, Hb, S, q⟩ => q.nx _ _ _ _ S h⟩
theorem ws_one (h : WS C X st ρ O) : WSs C X [st] ρ O := ⟨pss_one h.ps⟩
theorem ws_seq (h : WS C X st ρ { O with nx := fun ρ' => WSs C X sts ρ' O }) : WSs C X (st :: sts) ρ O :=
  ⟨toPSs (pss_cons (ps_b st) (pss_b sts)) fun D σ H ⟨Hb0, H0, Hb, S, q⟩ => by
    show bS X st { D with nx := bSs X sts D } σ H
    exact h.use S ⟨fun σ' Hb' H' ρ' S' p => p.use S' q, q.rt, q.bk, q.ct⟩⟩
theorem ws_pass (h : O.nx ρ) : WS C X (.Pass pos) ρ O := .of ps_pass fun S D q => q.nx _ _ _ _ S h
theorem ws_if {c : Expr} {a b : List Stmt} (h : WT C X c ρ fun t => if t = true then WSs C X a ρ O else WSs C X b ρ O) : WS C X (.If c a b pos) ρ O :=
  .of (ps_if (pt_b c) (pss_b a) (pss_b b)) fun {Hb0 H0 Hb H σ} S D q => by
    show bT X c σ H _
    refine h.use S fun t Hb2 H2 g s p => ?_
    cases t with
    | true =>
      rw [if_pos rfl] at p ⊢
      exact p.use (S.grow g s) q
    | false =>
      rw [if_neg Bool.false_ne_true] at p ⊢
      exact p.use (S.grow g s) q
theorem ws_ret (h : W C X e ρ O.rt) : WS C X (.Return (some e) pos) ρ O :=
  .of (ps_ret (pe_b e)) fun {Hb0 H0 Hb H σ} S D q => by
    show bE X e σ H _
    exact h.use S fun v Hb2 H2 d g s hv p => q.rt v Hb2 H2 d (S.gr.trans g) s hv p
theorem ws_never {h : False} : WSs C X sts ρ O := h.elim
/-- target = value -/
theorem ws_asg {tg : Expr} {ts : List Nat} (h : W C X e ρ fun d => WG C X tg ts d ρ O.nx) (hs : swapsWithSole [tg] e pos.line X.env = pure false := by rfl) (hw : swappedStores [tg] e X.env = pure none := by rfl)
    (h1 : (assignEach [tg] X.env).map (·.2) = [assign tg X.env] := by rfl) : WS C X (.Assign [tg] e pos) ρ O :=
  .of (ps_asg (pe_b e) (pg_b tg) hs hw h1) fun {Hb0 H0 Hb H σ} S D q => by
    show bE X e σ H _
    exact h.use S fun v Hb2 H2 d g s hv p => p.use (S.grow g s) hv fun σ' ρ' S' _ p' => q.nx σ' Hb2 H2 ρ' S' p'
theorem ws_set (i : Nat) {x : Str} {p : Pos} (hN : X.N.Nodup) (h : W C X e ρ fun d => O.nx (ρ.set i (.im d))) (hi : X.N[i]? = some x := by rfl) (hx : Loc X.env.scope x := by first | exact Or.inl rfl | exact Or.inr rfl)
    (hf : X.fn x = true ∨ X.env.scope.names.lookup x = some .local := by first | exact .inl rfl | exact .inr rfl | assumption) (hs : swapsWithSole [.Name x p] e pos.line X.env = pure false := by rfl) (hw : swappedStores [.Name x p] e X.env = pure none := by rfl) : WS C X (.Assign [.Name x p] e pos) ρ O :=
  ws_asg (h.mono fun d q => wg_name i hN q hi hx hf) hs hw rfl
/-- a new thing that may change -/
theorem ws_own (i : Nat) {x : Str} {p : Pos} (hN : X.N.Nodup) (h : WN C X e ρ fun d => O.nx (ρ.set i (.ow d))) (hi : X.N[i]? = some x := by rfl) (hx : Loc X.env.scope x := by first | exact Or.inl rfl | exact Or.inr rfl)
    (hf : X.fn x = true ∨ X.env.scope.names.lookup x = some .local := by first | exact .inl rfl | exact .inr rfl | assumption) (hs : swapsWithSole [.Name x p] e pos.line X.env = pure false := by rfl) (hw : swappedStores [.Name x p] e X.env = pure none := by rfl) : WS C X (.Assign [.Name x p] e pos) ρ O :=
  .of (ps_asg (pe_b e) (pg_name (i := i) hN hi hx hf) hs hw rfl) fun {Hb0 H0 Hb H σ} S D q => by
    show bE X e σ H _
    refine h.use S fun a Hb2 H2 d g s h1 h2 hv p => ?_
    exact q.nx _ Hb2 H2 _ ((S.grow g s).setOwn (S.h0.free h1) h2 hv (S.fresh h1)) p
theorem ws_expr (h : W C X e ρ fun _ => O.nx ρ) (hs : swapsWith e none pos.line X.env = pure false := by rfl) : WS C X (.Expr e pos) ρ O :=
  .of (ps_expr (pe_b e) hs) fun {Hb0 H0 Hb H σ} S D q => by
    show bE X e σ H _
    exact h.use S fun v Hb2 H2 d g s hv p => q.nx _ Hb2 H2 _ (S.grow g s) p
/-- a slot's thing is never to change again -/
theorem ws_frz (i : Nat) {d : D} (hi : ρ[i]? = some (.ow d)) (h : WS C X st (ρ.set i (.im d)) O) : WS C X st ρ O :=
  .of (ps_b st) fun S D q => by
    obtain ⟨Hb2, g, sb, S2, _⟩ := S.freeze hi
    exact h.use S2 q
theorem wss_frz (i : Nat) {d : D} (hi : ρ[i]? = some (.ow d)) (h : WSs C X sts (ρ.set i (.im d)) O) : WSs C X sts ρ O :=
  ⟨toPSs (pss_b sts) fun D σ H ⟨Hb0, H0, Hb, S, q⟩ => by
    obtain ⟨Hb2, g, sb, S2, _⟩ := S.freeze hi
    exact h.use S2 q⟩
theorem WSs.drop {ρ' : List Sl} (h : WSs C X sts ρ' O) (hl : ρ'.length = ρ.length) (hs : ∀ (i : Nat) (s : Sl), ρ'[i]? = some s → s = .no ∨ ρ[i]? = some s) : WSs C X sts ρ O :=
  ⟨toPSs (pss_b sts) fun D σ H ⟨Hb0, H0, Hb, S, q⟩ => h.use (S.drop hl hs) q⟩

/-! ### what is walked -/
def Yields (K : PySem.W.Frag) (C : Addr) (Hb : Hp) (J : It) (ds : List D) : Prop := ∀ Hb2 H2, Same Hb Hb2 → Same Hb2 H2 → J.stop ds.length H2 ∧ ∀ i d, ds[i]? = some d → J.go i H2 ∧ ∀ x H', J.yld i H2 x H' → ∃ Hb', Grow Hb2 H2 Hb' H' ∧ Same Hb' H' ∧ Dv K C Hb' x d
def tWI (K : PySem.W.Frag) (C : Addr) (ρ : List Sl) (P : List D → Prop) : TI := fun σ H R => ∃ Hb0 H0 Hb, SR K C Hb0 H0 Hb H σ ρ ∧ ∀ J Hb2 H2 ds, Grow Hb H Hb2 H2 → Same Hb2 H2 → Yields K C Hb2 J ds → P ds → R J H2
structure WI (C : Addr) (X : Cx) (tg iter : Expr) (ρ : List Sl) (P : List D → Prop) : Prop where
  pi : PI X tg iter (tWI X.K C ρ P)
def bI (X : Cx) (tg e : Expr) : TI := fun σ H Q => ∃ t, PI X tg e t ∧ t σ H Q
theorem pi_b {X : Cx} (tg e : Expr) : PI X tg e (bI X tg e) := ⟨fun pins s σ H Q I ⟨_, ht, h⟩ => ht.run pins s σ H Q I h⟩
theorem toPI {X : Cx} {tg e : Expr} {t u : TI} (h : PI X tg e t) (k : ∀ σ H Q, u σ H Q → t σ H Q) : PI X tg e u := ⟨fun pins s σ H Q I q => h.run pins s σ H Q I (k σ H Q q)⟩
theorem WI.use {tg : Expr} {P : List D → Prop} (h : WI C X tg e ρ P) (S : SR X.K C Hb0 H0 Hb H σ ρ) {R : It → Hp → Prop} (k : ∀ J Hb2 H2 ds, Grow Hb H Hb2 H2 → Same Hb2 H2 → Yields X.K C Hb2 J ds → P ds → R J H2) : bI X tg e σ H R := ⟨_, h.pi, Hb0, H0, Hb, S, k⟩
theorem WI.of {tg : Expr} {P : List D → Prop} {t : TI} (h : PI X tg e t) (k : ∀ {Hb0 H0 Hb H : Hp} {σ : L2.St} (S : SR X.K C Hb0 H0 Hb H σ ρ) (R : It → Hp → Prop), (∀ J Hb2 H2 ds, Grow Hb H Hb2 H2 → Same Hb2 H2 → Yields X.K C Hb2 J ds → P ds → R J H2) → t σ H R) : WI C X tg e ρ P :=
  ⟨toPI h fun σ H Q ⟨Hb0, H0, Hb, S, q⟩ => k S Q q⟩
theorem SqL.eq_of {K : PySem.W.Frag} {H : Hp} {a : Addr} {xs ys : List V} (nk : ∀ o, K.lookup a = some o → False) (h : SqL K H a xs) (h' : SqL K H a ys) : xs = ys := by
  rcases h with (h | ⟨o, h⟩) | ⟨o, _, _, hk, _⟩
  · rcases h' with (h' | ⟨o', h'⟩) | ⟨o', _, _, hk, _⟩
    · rw [h] at h'; cases h'; rfl
    · rw [h] at h'; cases h'
    · exact (nk _ hk).elim
  · rcases h' with (h' | ⟨o', h'⟩) | ⟨o', _, _, hk, _⟩
    · rw [h] at h'; cases h'
    · rw [h] at h'; cases h'; rfl
    · exact (nk _ hk).elim
  · exact (nk _ hk).elim
/-- for target in iter: body -/
theorem ws_for {tg : Expr} {body : List Stmt} {ts : List Nat} (hp : PassesOwn (model X.prog X.w) X.A X.env X.xe) (hc : X.calm = true)
    (h : WI C X tg e ρ fun ds => ∃ Iv : Nat → List Sl → Prop, Iv 0 ρ ∧ (∀ i d ρ', ds[i]? = some d → Iv i ρ' → WG C X tg ts d ρ' fun ρ'' => WSs C X body ρ'' { nx := Iv (i + 1), ct := Iv (i + 1), bk := O.nx, rt := O.rt }) ∧ ∀ ρ', Iv ds.length ρ' → O.nx ρ')
    (hs : ∀ x, foldedSetIterable e X.env x = pure x := by intro _; rfl) : WS C X (.For tg e body [] pos) ρ O :=
  .of (ps_for hp hc (pi_b tg e) (pg_b tg) (pss_b body) hs) fun {Hb0 H0 Hb H σ} S D q => by
    show bI X tg e σ H _
    refine h.use S fun J Hb1 H1 ds g1 s1 y p => ?_
    obtain ⟨Iv, i0, step, done⟩ := p
    have S1 := S.grow g1 s1
    refine ⟨fun i m σ' H' => m = ds.length - i ∧ i ≤ ds.length ∧ ∃ Hb' ρ', SR X.K C Hb1 H0 Hb' H' σ' ρ' ∧ Iv i ρ', ⟨ds.length, by simp, Nat.zero_le _, Hb1, ρ, S1.selfbase, i0⟩, ?_⟩
    rintro i m σ' H' ⟨rfl, hi, Hb', ρ', S', iv⟩
    obtain ⟨y1, y2⟩ := y Hb' H' S'.b0 S'.sub
    by_cases hlt : i < ds.length
    · obtain ⟨go, yl⟩ := y2 i _ (List.getElem?_eq_getElem hlt)
      refine .inr ⟨go, fun σ2 H2 => ∃ Hb2 ρ2, SR X.K C Hb1 H0 Hb2 H2 σ2 ρ2 ∧ Iv (i + 1) ρ2, fun σ2 H2 ⟨Hb2, ρ2, S2, iv2⟩ => ⟨ds.length - (i + 1), by omega, rfl, hlt, Hb2, ρ2, S2, iv2⟩, fun x H2 yy => ?_⟩
      obtain ⟨Hb2, g2, s2, hv⟩ := yl x H2 yy
      refine (step i _ ρ' (List.getElem?_eq_getElem hlt) iv).use (S'.grow g2 s2) hv fun σ3 ρ3 S3 _ p3 => ?_
      refine p3.use S3 ⟨fun σ4 Hb4 H4 ρ4 S4 p4 => ⟨Hb4, ρ4, S4, p4⟩, fun v Hb4 H4 d g4 s4 hv4 p4 => (q.rebase S1).rt v Hb4 H4 d g4 s4 hv4 p4, fun σ4 Hb4 H4 ρ4 S4 p4 => (q.rebase S1).nx σ4 Hb4 H4 ρ4 S4 p4, fun σ4 Hb4 H4 ρ4 S4 p4 => ⟨Hb4, ρ4, S4, p4⟩⟩
    · have ei : i = ds.length := by omega
      subst ei
      exact .inl ⟨y1, (q.rebase S1).nx σ' Hb' H' ρ' S' (done ρ' iv)⟩

/-! the sources -/
theorem yields_range {K : PySem.W.Frag} {lo : Int} {n : Nat} : Yields K C Hb (Itr lo n) ((List.range n).map fun (i : Nat) => .int (lo + (i : Int))) := fun Hb2 H2 sb s => by
  refine ⟨by simp [Itr], fun i d hd => ?_⟩
  rw [List.getElem?_map] at hd
  by_cases hi : i < n
  · rw [List.getElem?_eq_getElem (by simpa using hi)] at hd
    simp at hd
    subst hd
    refine ⟨hi, fun x H' y => ?_⟩
    obtain ⟨rfl, rfl⟩ := y
    exact ⟨Hb2, Grow.refl _ _, s, .int _⟩
  · rw [List.getElem?_eq_none (by simpa using hi)] at hd
    cases hd
theorem wi_range1 {tg a : Expr} {p pos : Pos} {P : List D → Prop} (hm : X.mg "range" = none) (h : W C X a ρ fun d => ∃ j, d = .int j ∧ -(2 ^ 62) ≤ j ∧ j < 2 ^ 62 ∧ P ((List.range j.toNat).map fun (i : Nat) => .int (i : Int))) (hg : Gl X "range" := by rfl) (hs : starEach [a] X.env = [(false, eval a X.env)] := by rfl) :
    WI C X tg (.Call (.Name "range" p) [a] [] pos) ρ P :=
  .of (pi_range1 hg hm (pa_cons (pe_b a) pa_nil (by rw [hs]; rfl)) hs) fun {Hb0 H0 Hb H σ} S R q => by
    show bE X a σ H _
    refine h.use S fun v Hb2 H2 d g s hv p => ?_
    obtain ⟨j, rfl, h1, h2, p⟩ := p
    cases hv
    refine ⟨j, rfl, h1, h2, q _ Hb2 H2 _ g s ?_ p⟩
    have := yields_range (K := X.K) (C := C) (Hb := Hb2) (lo := 0) (n := j.toNat)
    simpa using this
theorem wi_range2 {tg a b : Expr} {p pos : Pos} {P : List D → Prop} (hm : X.mg "range" = none) (h : W C X a ρ fun d => ∃ i, d = .int i ∧ W C X b ρ fun d => ∃ j, d = .int j ∧ (-(2 ^ 62) ≤ i ∧ i < 2 ^ 62 ∧ -(2 ^ 62) ≤ j ∧ j < 2 ^ 62) ∧ P ((List.range (j - i).toNat).map fun (k : Nat) => .int (i + (k : Int)))) (hg : Gl X "range" := by rfl)
    (hs : starEach [a, b] X.env = [(false, eval a X.env), (false, eval b X.env)] := by rfl) (hs2 : starEach [b] X.env = [(false, eval b X.env)] := by rfl) : WI C X tg (.Call (.Name "range" p) [a, b] [] pos) ρ P :=
  .of (pi_range2 hg hm (pa_cons (pe_b a) (pa_cons (pe_b b) pa_nil (by rw [hs2]; rfl)) (by rw [hs, hs2])) hs hs2) fun {Hb0 H0 Hb H σ} S R q => by
    show bE X a σ H _
    refine h.use S fun v Hb1 H1 d g1 s1 hv p => ?_
    obtain ⟨i, rfl, p⟩ := p
    cases hv
    show bE X b σ H1 _
    refine p.use (S.grow g1 s1) fun v Hb2 H2 d g s hv p => ?_
    obtain ⟨j, rfl, h1, p⟩ := p
    cases hv
    exact ⟨i, j, rfl, h1, q _ Hb2 H2 _ (g1.trans g) s yields_range p⟩
end
end TW
set_option Elab.async false
set_option linter.all false
set_option maxRecDepth 100000
set_option maxHeartbeats 4000000
namespace TW
open PySem L2 PyProof.Rows
section
variable {C : Addr} {X : Cx} {ρ : List Sl} {O : EndD} {st : Stmt} {sts : List Stmt} {e a b : Expr} {es : List Expr} {σ : L2.St} {Hb0 H0 Hb H : Hp} {pos : Pos} {P : D → Prop} {K : PySem.W.Frag}
/-! ### walked: lists, tuples, zip -/
theorem yields_list {p : Addr} {vs : List V} {ds : List D} (h : SqL K Hb p vs) (t : Da K C Hb vs ds) : Yields K C Hb (Itl K p) ds := fun Hb2 H2 sb s => by
  have h2 : SqL K H2 p vs := s.seq (sb.seq h)
  refine ⟨⟨vs, h2, by rw [t.length]; exact Nat.le_refl _⟩, fun i d hd => ?_⟩
  obtain ⟨v, hv, hd'⟩ := t.get hd
  refine ⟨⟨vs, v, h2, hv⟩, fun x H' y => ?_⟩
  obtain ⟨rfl, y⟩ := y
  have e := y vs h2
  rw [hv] at e
  cases e
  exact ⟨Hb2, Grow.refl _ _, s, hd'.mono sb⟩
theorem same_t {H H' : Hp} {p : Addr} {xs : List V} (e : Same H H') (h : SqT K H p xs) : SqT K H' p xs := by
  rcases h with (h | ⟨o, h⟩) | h
  · exact .inl (.inl (e _ _ h))
  · exact .inl (.inr ⟨o, e _ _ h⟩)
  · exact .inr h
theorem yields_tup {p : Addr} {vs : List V} {ds : List D} (h : SqT K Hb p vs) (t : Da K C Hb vs ds) : Yields K C Hb (Itt K p) ds := fun Hb2 H2 sb s => by
  have h2 : SqT K H2 p vs := same_t s (same_t sb h)
  refine ⟨⟨vs, h2, by rw [t.length]; exact Nat.le_refl _⟩, fun i d hd => ?_⟩
  obtain ⟨v, hv, hd'⟩ := t.get hd
  refine ⟨⟨vs, v, h2, hv⟩, fun x H' y => ?_⟩
  obtain ⟨rfl, y⟩ := y
  have e := y vs h2
  rw [hv] at e
  cases e
  exact ⟨Hb2, Grow.refl _ _, s, hd'.mono sb⟩
theorem wi_list {tg : Expr} {P : List D → Prop} (h : W C X e ρ fun d => ∃ ds, (d = .lst ds ∨ d = .ro ds) ∧ P ds) : WI C X tg e ρ P :=
  .of (pi_list (pe_b e)) fun {Hb0 H0 Hb H σ} S R q => by
    show bE X e σ H _
    refine h.use S fun v Hb2 H2 d g s hv p => ?_
    obtain ⟨ds, hd, p⟩ := p
    have z : ∃ pa vs, v = .ref pa ∧ SqL X.K Hb2 pa vs ∧ Da X.K C Hb2 vs ds := by
      rcases hd with rfl | rfl
      · cases hv with
        | lst h1 h2 => exact ⟨_, _, rfl, SqL.of h1, h2⟩
      · cases hv with
        | ro h1 h2 => exact ⟨_, _, rfl, h1, h2⟩
    obtain ⟨pa, vs, rfl, h1, h2⟩ := z
    exact ⟨pa, rfl, ⟨vs, s.seq h1⟩, q _ Hb2 H2 ds g s (yields_list h1 h2) p⟩
theorem wi_tup {tg : Expr} {P : List D → Prop} (h : W C X e ρ fun d => ∃ ds, d = .tup ds ∧ P ds) : WI C X tg e ρ P :=
  .of (pi_tup (pe_b e)) fun {Hb0 H0 Hb H σ} S R q => by
    show bE X e σ H _
    refine h.use S fun v Hb2 H2 d g s hv p => ?_
    obtain ⟨ds, rfl, p⟩ := p
    cases hv with
    | tup h1 h2 => exact ⟨_, rfl, ⟨_, SqT.of (s _ _ h1)⟩, q _ Hb2 H2 ds g s (yields_tup (SqT.of h1) h2) p⟩
/-- zip of two lists of one length -/
theorem yields_zip {p q : Addr} {vs us : List V} {ds es : List D} (h : SqL K Hb p vs) (t : Da K C Hb vs ds) (h' : SqL K Hb q us) (t' : Da K C Hb us es) (hl : ds.length = es.length) : Yields K C Hb (Itz K p q) (List.zipWith (fun d e => D.tup [d, e]) ds es) := fun Hb2 H2 sb s => by
  have h2 : SqL K H2 p vs := s.seq (sb.seq h)
  have h3 : SqL K H2 q us := s.seq (sb.seq h')
  refine ⟨⟨vs, us, h2, h3, .inl (by rw [t.length, List.length_zipWith]; omega)⟩, fun i d hd => ?_⟩
  rw [List.getElem?_zipWith] at hd
  cases e1 : ds[i]? with
  | none => rw [e1] at hd; simp at hd
  | some d1 =>
    cases e2 : es[i]? with
    | none => rw [e1, e2] at hd; simp at hd
    | some d2 =>
      rw [e1, e2] at hd
      simp at hd
      subst hd
      obtain ⟨v, hv, hd1⟩ := t.get e1
      obtain ⟨u, hu, hd2⟩ := t'.get e2
      refine ⟨⟨vs, us, v, u, h2, h3, hv, hu⟩, fun x H' y => ?_⟩
      obtain ⟨T, x', y', rfl, hT, rfl, yx, yy⟩ := y
      have q1 := yx vs h2
      have q2 := yy us h3
      rw [hv] at q1
      rw [hu] at q2
      cases q1
      cases q2
      obtain ⟨g, s2⟩ := Grow.new (o := .tup [v, u]) s hT
      exact ⟨_, g, s2, .tup upd_same (.cons ((hd1.mono sb).mono g.b) (.cons ((hd2.mono sb).mono g.b) .nil))⟩
def lsD : D → Option (List D)
  | .lst ds => some ds
  | .ro ds => some ds
  | _ => none
theorem lsD_sq {v : V} {d : D} {ds : List D} (hv : Dv K C Hb v d) (h : lsD d = some ds) : ∃ pa vs, v = .ref pa ∧ SqL K Hb pa vs ∧ Da K C Hb vs ds := by
  cases hv with
  | lst h1 h2 => cases h; exact ⟨_, _, rfl, SqL.of h1, h2⟩
  | ro h1 h2 => cases h; exact ⟨_, _, rfl, h1, h2⟩
  | _ => cases h
theorem wi_zip {elts : List Expr} {kk : Nat} {tpos : Pos} {p pos : Pos} {P : List D → Prop} (hm : X.mg "zip" = none)
    (h : W C X a ρ fun x => ∃ ds, lsD x = some ds ∧ W C X b ρ fun y => ∃ es, lsD y = some es ∧ ds.length = es.length ∧ P (List.zipWith (fun d e => D.tup [d, e]) ds es)) (hg : Gl X "zip" := by rfl)
    (hs : starEach [a, b] X.env = [(false, eval a X.env), (false, eval b X.env)] := by rfl) (hs2 : starEach [b] X.env = [(false, eval b X.env)] := by rfl) : WI C X (.Tuple elts kk tpos) (.Call (.Name "zip" p) [a, b] [] pos) ρ P :=
  .of (pi_zip hg hm (pa_cons (pe_b a) (pa_cons (pe_b b) pa_nil (by rw [hs2]; rfl)) (by rw [hs, hs2])) (by rw [hs, hs2]) (by rw [hs2]; rfl)) fun {Hb0 H0 Hb H σ} S R q => by
    show bE X a σ H _
    refine h.use S fun v Hb1 H1 d g1 s1 hv p => ?_
    obtain ⟨ds, hd, p⟩ := p
    show bE X b σ H1 _
    refine p.use (S.grow g1 s1) fun u Hb2 H2 d' g s hu p => ?_
    obtain ⟨es, he, hl, p⟩ := p
    obtain ⟨pa, vs, rfl, h1, h2⟩ := lsD_sq (hv.mono g.b) hd
    obtain ⟨pb, us, rfl, h3, h4⟩ := lsD_sq hu he
    exact ⟨pa, pb, vs, us, rfl, s.seq h1, s.seq h3, q _ Hb2 H2 _ (g1.trans g) s (yields_zip h1 h2 h3 h4 hl) p⟩

/-! ### comprehensions -/
def wipeS (ρ : List Sl) : List Nat → List Sl
  | [] => ρ
  | v :: vs => (wipeS ρ vs).set v .no
theorem wipeS_length (ρ : List Sl) : ∀ vs, (wipeS ρ vs).length = ρ.length
  | [] => rfl
  | v :: vs => by unfold wipeS; rw [List.length_set, wipeS_length ρ vs]
theorem SR.wipe1 (S : SR K C Hb0 H0 Hb H σ ρ) (v : Nat) : SR K C Hb0 H0 Hb H (σ.set v none) (ρ.set v .no) := by
  refine ⟨S.sub, S.b0, S.h0, S.old, by rw [List.length_set, List.length_set]; exact S.len, fun j s e => ?_, fun j k d1 d2 c hjk h1 h2 h3 => ?_⟩
  · by_cases hj : v = j
    · subst hj
      by_cases hi : v < ρ.length
      · rw [List.getElem?_set_self hi] at e
        cases e
        trivial
      · rw [List.getElem?_eq_none (by rw [List.length_set]; omega)] at e
        cases e
    · rw [List.getElem?_set_ne hj] at e ⊢
      exact S.slot j s e
  · have nv : ∀ (m : Nat) (x : D), (ρ.set v .no)[m]? = some (.ow x) → v ≠ m := fun m x e z => by
      subst z
      by_cases hi : v < ρ.length
      · rw [List.getElem?_set_self hi] at e; cases e
      · rw [List.getElem?_eq_none (by rw [List.length_set]; omega)] at e; cases e
    have n1 := nv _ _ h1
    have n2 := nv _ _ h2
    rw [List.getElem?_set_ne n1] at h1 h3
    rw [List.getElem?_set_ne n2] at h2 ⊢
    exact S.sep j k d1 d2 c hjk h1 h2 h3
theorem SR.wipe (S : SR K C Hb0 H0 Hb H σ ρ) : ∀ vs : List Nat, SR K C Hb0 H0 Hb H (L2.wipe σ vs) (wipeS ρ vs)
  | [] => S
  | v :: vs => (S.wipe vs).wipe1 v
theorem keep_set {σ σ' : L2.St} {ts : List Nat} (k : Keep σ σ' ts) : ∀ vs : List Nat, (∀ j ∈ ts, j ∈ vs) → L2.wipe σ' vs = L2.wipe σ vs := by
  intro vs hs
  apply List.ext_getElem?
  intro j
  by_cases hj : j ∈ vs
  · have z : ∀ τ : L2.St, (L2.wipe τ vs)[j]? = if j < τ.length then some none else none := by
      intro τ
      clear hs k
      induction vs with
      | nil => cases hj
      | cons v vs ih =>
        show ((L2.wipe τ vs).set v none)[j]? = _
        by_cases hv : v = j
        · subst hv
          by_cases hl : v < τ.length
          · rw [if_pos hl, List.getElem?_set_self (by rw [wipe_length]; exact hl)]
          · rw [if_neg hl, List.getElem?_eq_none (by rw [List.length_set, wipe_length]; omega)]
        · rw [List.getElem?_set_ne hv]
          exact ih (by simpa [Ne.symm hv] using hj)
    rw [z, z, k.1]
  · have z : ∀ τ : L2.St, (L2.wipe τ vs)[j]? = τ[j]? := by
      intro τ
      clear hs k
      induction vs with
      | nil => rfl
      | cons v vs ih =>
        show ((L2.wipe τ vs).set v none)[j]? = _
        rw [List.getElem?_set_ne (fun z => hj (by simp [z])), ih (fun z => hj (List.mem_cons_of_mem _ z))]
    rw [z, z]
    exact k.2 j fun h => hj (hs j h)
/-- a new list beside the slots is written -/
theorem SR.beside {p : Addr} {o : HO} (S : SR K C Hb0 H0 Hb H σ ρ) (h0 : H0 p = none) (hb : Hb p = none) (no : ∀ (j : Nat) (e : D), ρ[j]? = some (.ow e) → σ[j]? ≠ some (some (.ref p))) : SR K C Hb0 H0 Hb (upd H p o) σ ρ where
  sub := fun c u e => by rw [upd_ne (ne_of_none e hb)]; exact S.sub c u e
  b0 := S.b0
  h0 := fun c u e => by rw [upd_ne (ne_of_none e h0)]; exact S.h0 c u e
  old := S.old
  len := S.len
  slot := fun j t e => by
    have q := S.slot j t e
    cases t with
    | no => trivial
    | im d1 => exact q
    | ow d1 =>
      obtain ⟨c, q1, q2, q3, q4⟩ := q
      refine ⟨c, q1, q2, q3, q4.mono (Same.refl _) fun u z => ?_⟩
      rw [upd_ne (fun z => by subst z; exact no j d1 e q1)]
      exact z
  sep := S.sep
/-- the tests of a comprehension: none, or one -/
structure WTs (C : Addr) (X : Cx) (ifs : List Expr) (ρ : List Sl) (P : Bool → Prop) : Prop where
  pt : PTs X ifs (tWT X.K C ρ P)
def bTs (X : Cx) (ifs : List Expr) : TT := fun σ H Q => ∃ t, PTs X ifs t ∧ t σ H Q
theorem pts_b {X : Cx} (e : List Expr) : PTs X e (bTs X e) := ⟨fun pins s σ H Q I ⟨_, ht, h⟩ => ht.run pins s σ H Q I h⟩
theorem wts_nil {P : Bool → Prop} (h : P true) : WTs C X [] ρ P := ⟨⟨fun pins s σ H Q I ⟨_, _, _, S, q⟩ => pts_nil.run pins s σ H Q I (q true _ _ (Grow.refl _ _) S.sub h)⟩⟩
theorem wts_one {P : Bool → Prop} {c : Expr} (h : WT C X c ρ P) : WTs C X [c] ρ P := ⟨pts_one h.pe⟩
theorem WTs.use {P : Bool → Prop} {ifs : List Expr} (h : WTs C X ifs ρ P) (S : SR X.K C Hb0 H0 Hb H σ ρ) {Q : Bool → Hp → Prop} (k : ∀ v Hb2 H2, Grow Hb H Hb2 H2 → Same Hb2 H2 → P v → Q v H2) : bTs X ifs σ H Q := ⟨_, h.pt, Hb0, H0, Hb, S, k⟩


theorem wipe_keep (σ : L2.St) (vs : List Nat) : Keep σ (L2.wipe σ vs) vs := by
  refine ⟨wipe_length σ vs, fun j hj => ?_⟩
  induction vs with
  | nil => rfl
  | cons v vs ih =>
    show ((L2.wipe σ vs).set v none)[j]? = _
    rw [List.getElem?_set_ne (fun z => hj (by simp [z])), ih (fun z => hj (List.mem_cons_of_mem _ z))]
theorem wipe_idem (σ : L2.St) (vs : List Nat) : L2.wipe (L2.wipe σ vs) vs = L2.wipe σ vs := keep_set (wipe_keep σ vs) vs fun _ h => h
/-- in each block of a comprehension -/
def OnBlk (X : Cx) (scope : Scope) (p : Cx → Prop) : Prop := ∀ (s : Shared) (H : Hp) (A : Addr) (cl : List (Str × Addr)) (fp : List Addr), p (X.blk s H scope (compEnvC scope cl A X.env) fp)
def uG (X : Cx) (scope : Scope) (tg : Expr) : TG := fun v σ H Q => ∃ t, OnBlk X scope (fun Y => PG Y tg t) ∧ t v σ H Q
def uTs (X : Cx) (scope : Scope) (ifs : List Expr) : TT := fun σ H Q => ∃ t, OnBlk X scope (fun Y => PTs Y ifs t) ∧ t σ H Q
def uE (X : Cx) (scope : Scope) (e : Expr) : TE := fun σ H Q => ∃ t, OnBlk X scope (fun Y => PE Y e t) ∧ t σ H Q
theorem pg_u {scope : Scope} (tg : Expr) : OnBlk X scope fun Y => PG Y tg (uG X scope tg) := fun s H A cl fp => ⟨fun pins s' σ H' v u Q I r ⟨_, ht, h⟩ => (ht s H A cl fp).run pins s' σ H' v u Q I r h⟩
theorem pts_u {scope : Scope} (ifs : List Expr) : OnBlk X scope fun Y => PTs Y ifs (uTs X scope ifs) := fun s H A cl fp => ⟨fun pins s' σ H' Q I ⟨_, ht, h⟩ => (ht s H A cl fp).run pins s' σ H' Q I h⟩
theorem pe_u {scope : Scope} (e : Expr) : OnBlk X scope fun Y => PE Y e (uE X scope e) := fun s H A cl fp => ⟨fun pins s' σ H' Q I ⟨_, ht, h⟩ => (ht s H A cl fp).run pins s' σ H' Q I h⟩
/-- a turn of a comprehension -/
def LcTurn (C : Addr) (X : Cx) (scope : Scope) (elt tg : Expr) (ifs : List Expr) (ts : List Nat) (ρ : List Sl) (d : D) (no : Prop) (yes : D → Prop) : Prop :=
  OnBlk X scope fun Y => WG C Y tg ts d ρ fun ρ' => OnBlk X scope fun Y => WTs C Y ifs ρ' fun t => if t = true then OnBlk X scope (fun Y => W C Y elt ρ' yes) else no
def LcAll (C : Addr) (X : Cx) (scope : Scope) (elt tg : Expr) (ifs : List Expr) (vs ts : List Nat) (ρ : List Sl) (P : D → Prop) (ds : List D) : Prop :=
  ∃ Iv : Nat → List D → Prop, Iv 0 [] ∧ (∀ i d acc, ds[i]? = some d → Iv i acc → LcTurn C X scope elt tg ifs ts (wipeS ρ vs) d (Iv (i + 1) acc) fun y => acc.length < sizeLine ∧ Iv (i + 1) (acc ++ [y])) ∧ ∀ acc, Iv ds.length acc → P (.lst acc)
theorem lc_read {elt tg iter : Expr} {ifs : List Expr} {scope : Scope} {vs ts : List Nat} (hts : ∀ j ∈ ts, j ∈ vs) (h : WI C X tg iter ρ (LcAll C X scope elt tg ifs vs ts ρ P)) (S : SR X.K C Hb0 H0 Hb H σ ρ) {Q : VK}
    (k : ∀ a Hb2 H2 d, Grow Hb H Hb2 H2 → Same Hb2 H2 → H a = none → Hb2 a = none → OwnAt X.K C Hb2 H2 a d → P d → Q (.ref a) H2) : tLc (bI X tg iter) (uG X scope tg) (uTs X scope ifs) (uE X scope elt) vs σ H Q := by
  refine h.use S fun J Hb1 H1 ds g1 s1 y p => ?_
  obtain ⟨Iv, i0, step, done⟩ := p
  intro L hL
  have S1 := S.grow g1 s1
  refine ⟨fun i m H' => m = ds.length - i ∧ i ≤ ds.length ∧ ∃ Hb' us acc, Grow Hb1 H1 Hb' H' ∧ Same Hb' H' ∧ Hb' L = none ∧ H' L = some (.lst us) ∧ Da X.K C Hb' us acc ∧ Iv i acc, ⟨ds.length, by simp, Nat.zero_le _, Hb1, [], [], (Grow.own s1 hL).1, (Grow.own s1 hL).2, s1.free hL, upd_same, .nil, i0⟩, ?_⟩
  rintro i m H' ⟨rfl, hi, Hb', us, acc, g', s', hb', hl', t', iv⟩
  obtain ⟨y1, y2⟩ := y Hb' H' g'.b s'
  by_cases hlt : i < ds.length
  · obtain ⟨go, yl⟩ := y2 i _ (List.getElem?_eq_getElem hlt)
    refine .inr ⟨go, fun H5 => ∃ Hb' us acc, Grow Hb1 H1 Hb' H5 ∧ Same Hb' H5 ∧ Hb' L = none ∧ H5 L = some (.lst us) ∧ Da X.K C Hb' us acc ∧ Iv (i + 1) acc, fun H5 q => ⟨ds.length - (i + 1), by omega, rfl, hlt, q⟩, fun x H2 yy => ?_⟩
    obtain ⟨Hb2, g2, s2, hv⟩ := yl x H2 yy
    have S2 := ((S1.grow g' s').grow g2 s2).wipe vs
    have turn := step i _ acc (List.getElem?_eq_getElem hlt) iv
    refine ⟨tG X.K C (wipeS ρ vs) ts _ _, fun s H A cl fp => (turn s H A cl fp).pg, _, _, _, S2, hv, fun σ3 ρ3 S3 K3 p3 => ?_⟩
    refine ⟨(keep_set K3 vs hts).trans (wipe_idem σ vs), ?_⟩
    refine ⟨tWT X.K C ρ3 _, fun s H A cl fp => (p3 s H A cl fp).pt, _, _, _, S3, fun t Hb3 H3 g3 s3 p4 => ?_⟩
    have g23 := (g'.trans g2).trans g3
    have hL' : Mu H' L := ⟨_, hl', fun _ z => nomatch z⟩
    cases t with
    | true =>
      rw [if_pos rfl] at p4
      refine iteT ?_
      refine ⟨tW X.K C ρ3 _, fun s H A cl fp => (p4 s H A cl fp).pe, _, _, _, S3.grow g3 s3, fun v Hb4 H4 d g4 s4 hv4 p5 => ?_⟩
      have gg := g2.trans (g3.trans g4)
      have hb4 : Hb4 L = none := by rw [gg.old L hL']; exact hb'
      have sw : ∀ {o : HO} {Hx Hy : Hp}, Hx L = none → Same Hx Hy → Same Hx (upd Hy L o) := fun {o Hx Hy} hx s b u e => by rw [upd_ne (ne_of_none e hx)]; exact s b u e
      refine ⟨us, gg.h L _ hl', by rw [t'.length]; exact p5.1, Hb4, us ++ [v], acc ++ [d], ⟨(g23.trans g4).b, sw hL (g23.trans g4).h, (g23.trans g4).old⟩, sw hb4 s4, hb4, upd_same, (t'.mono gg.b).append (.cons hv4 .nil), p5.2⟩
    | false =>
      rw [if_neg Bool.false_ne_true] at p4
      refine iteF ?_
      have gg := g2.trans g3
      exact ⟨Hb3, us, acc, g23, s3, by rw [gg.old L hL']; exact hb', gg.h L _ hl', t'.mono gg.b, p4⟩
  · have ei : i = ds.length := by omega
    subst ei
    refine .inl ⟨y1, k L Hb' H' (.lst acc) (g1.trans g') s' (g1.h.free hL) hb' ⟨us, hl', t'⟩ (done acc iv)⟩
theorem wn_lc {elt tg iter : Expr} {ifs : List Expr} {scope : Scope} {own : List (Str × Nat)} {ts : List Nat} (hc : X.calm = true) (hN : X.N.Nodup) (ok : BlkOk X.N X.env.scope scope own) (hts : ∀ j ∈ ts, j ∈ own.map (·.2))
    (h : WI C X tg iter ρ (LcAll C X scope elt tg ifs (own.map (·.2)) ts ρ P)) (hs : ∀ x, foldedSetIterable iter X.env x = pure x := by intro _; rfl) : WN C X (.ListComp elt [⟨tg, iter, ifs, 0⟩] scope pos) ρ P :=
  .of (pe_lc hc hN (pi_b tg iter) ok (pg_u tg) (pts_u ifs) (pe_u elt) hs) fun S Q q => lc_read hts h S q
/-- name = [..] on one line -/
theorem ws_setLc (i : Nat) {y : Str} {py : Pos} {elt tg iter : Expr} {ifs : List Expr} {scope : Scope} {own : List (Str × Nat)} {ts : List Nat} {spos : Pos} (hc : X.calm = true) (hN : X.N.Nodup) (ok : BlkOk X.N X.env.scope scope own) (hts : ∀ j ∈ ts, j ∈ own.map (·.2))
    (h : WI C X tg iter ρ (LcAll C X scope elt tg ifs (own.map (·.2)) ts ρ fun d => O.nx (ρ.set i (.ow d))))
    (hsw : swapsWith (.ListComp elt [⟨tg, iter, ifs, 0⟩] scope pos) (some (.Name y py)) spos.line X.env = pure true := by exact sw_true rfl rfl rfl (by decide +kernel)) (hy : X.N[i]? = some y := by rfl) (hyl : X.env.scope.names.lookup y = some .local := by rfl) (hs : ∀ x, foldedSetIterable iter X.env x = pure x := by intro _; rfl) :
    WS C X (.Assign [.Name y py] (.ListComp elt [⟨tg, iter, ifs, 0⟩] scope pos) spos) ρ O :=
  .of (ps_setLc (i := i) hc hN hy hyl hsw (pi_b tg iter) ok (pg_u tg) (pts_u ifs) (pe_u elt) hs) fun {Hb0 H0 Hb H σ} S D q => by
    show tLc _ _ _ _ _ σ H _
    refine lc_read hts h S fun a Hb2 H2 d g s h1 h2 hv p => ?_
    exact q.nx _ Hb2 H2 _ ((S.grow g s).setOwn (S.h0.free h1) h2 hv (S.fresh h1)) p

/-! ### calls of own defs -/
/-- a def's promise, by data -/
def spD (K : PySem.W.Frag) (C : Addr) (Wf : List D → (D → Prop) → Prop) : Sp := fun vs H Q _ => ∃ Hb ds P, Same Hb H ∧ Da K C Hb vs ds ∧ Wf ds P ∧ ∀ v Hb2 H2 d, Grow Hb H Hb2 H2 → Same Hb2 H2 → Dv K C Hb2 v d → P d → Q v H2
structure Df (Pg : Program) (w : World) (K : PySem.W.Frag) (mg : Str → Option Value) (base : Heap) (C : Addr) (k : Nat) (x : Str) (ps : List Str) (Wf : List D → (D → Prop) → Prop) : Prop where
  ex : ∃ f fd, mg x = some (.ref f) ∧ PySem.W.keepIn K (.ref f) = true ∧ Binds K fd ps [] ∧ FnOk Pg w K mg base CX0 k f fd ps (spD K C Wf)
theorem w_call {k k' : Nat} {x : Str} {p : Pos} {ps : List Str} {Wf : List D → (D → Prop) → Prop} (G : Df X.prog X.w X.K X.mg X.base C k x ps Wf) (hr : Room k' X.A) (h : WA C X (e :: es) ρ fun ds => Wf ds P) (hk : k ≤ k' := by decide) (hg : Gl X x := by rfl)
    (he : starEach (e :: es) X.env = (false, eval e X.env) :: starEach es X.env := by rfl) (hpl : (backTo pos (starEach es X.env)).any (·.1) = false := by rfl) (hdb : (x == ("__debug__" : Str)) = false := by decide) : W C X (.Call (.Name x p) (e :: es) [] pos) ρ P := by
  obtain ⟨f, fd, hm, hkp, hb, F⟩ := G.ex
  refine .of (pe_call F (hr.mono hk) hg hm hkp hb .nil pass0 (pa_b (e :: es)) (hdb := hdb) (he := he) (hpl := hpl)) fun {Hb0 H0 Hb H σ} S Q q => ?_
  show bA X (e :: es) σ H _
  refine h.use S fun vs Hb1 H1 ds g1 s1 hvs p1 => ?_
  rw [List.append_nil]
  exact ⟨Hb1, ds, P, s1, hvs, p1, fun v Hb2 H2 d g2 s2 hv p2 => q v Hb2 H2 d (g1.trans g2) s2 hv p2⟩
end
/-- a def keeps its promise -/
theorem fn_ok {Pg : Program} {w : World} {K : PySem.W.Frag} {mg : Str → Option Value} {base : Heap} {C : Addr} {x qual : Str} {st : Stmt} {f : Addr} {fd : FuncData} {N ps : List Str} {k : Nat} {Wf : List D → (D → Prop) → Prop} (F : Fun K x qual st f fd) (S : FnScope N ps (defScope st)) (len : ∀ ds P, Wf ds P → ds.length = ps.length)
    (body : ∀ (cdv : Value) (A : Around) (outer : List Env) (s : Shared) (H : Hp) (E : XK), Room k (A.deeper (envOfC qual (defScope st) s.heap.objs.size f cdv)) → ∀ ds P, Wf ds P →
      WSs C (cxOf CX0 Pg w K mg base N qual (defScope st) f cdv A outer s H E).nox (defBody st) (ds.map Sl.im ++ List.replicate (N.length - ds.length) Sl.no) { nx := fun _ => P .non, rt := P }) : FnOk Pg w K mg base CX0 (k + 1) f fd ps (spD K C Wf) := by
  refine F.ok S (fun vs H Q E h => ?_) fun cdv A outer s H vs Q E hr h => ?_
  · obtain ⟨Hb, ds, P, _, t, wf, _⟩ := h
    rw [t.length]
    exact len ds P wf
  · obtain ⟨Hb, ds, P, sb, t, wf, q⟩ := h
    refine ⟨_, (body cdv A outer s H E hr ds P wf).ps, Hb, H, Hb, ⟨sb, Same.refl _, Same.refl _, fun _ _ => rfl, ?_, fun i sl e => ?_, fun i j d e a _ h1 _ _ => ?_⟩, ⟨fun σ' Hb' H' ρ' S' p => ?_, fun v Hb' H' d g s' hv p => q v Hb' H' d g s' hv p, fun σ' Hb' H' ρ' S' p => p, fun σ' Hb' H' ρ' S' p => p⟩⟩
    · show (vs.map some ++ List.replicate (N.length - vs.length) none).length = _
      simp [t.length]
    · show SlOk K C Hb H H (vs.map some ++ List.replicate (N.length - vs.length) none)[i]? sl
      by_cases hi : i < ds.length
      · rw [List.getElem?_append_left (by simpa using hi), List.getElem?_map] at e
        rw [List.getElem?_append_left (by simpa [t.length] using hi), List.getElem?_map]
        obtain ⟨v, hv, hd⟩ := t.get (List.getElem?_eq_getElem hi)
        rw [List.getElem?_eq_getElem hi] at e
        cases e
        rw [hv]
        exact ⟨v, rfl, hd⟩
      · rw [List.getElem?_append_right (by simpa using hi)] at e
        have : sl = .no := by
          have := List.mem_of_getElem? e
          exact (List.mem_replicate.mp this).2
        subst this
        trivial
    · have := List.mem_of_getElem? h1
      rcases List.mem_append.mp this with z | z
      · obtain ⟨_, _, z⟩ := List.mem_map.mp z
        cases z
      · cases (List.mem_replicate.mp z).2
    · exact q _ Hb' H' _ S'.gr S'.sub .non p
end TW
set_option Elab.async false
set_option linter.all false
set_option maxRecDepth 100000
set_option maxHeartbeats 4000000
/-! Built-ins, slices, ==, methods of lists and dicts. -/
namespace TW
open PySem L2 PyProof.Rows

/-! ### data as the library reads it -/
mutual
def toPy : D → PyData
  | .non => .none
  | .bl b => .bool b
  | .int i => .int i
  | .str x => .str x
  | .lst ds => .list (toPys ds)
  | .tup ds => .tuple (toPys ds)
  | .ro ds => .list (toPys ds)
  | .dk _ _ => .none
  | .dt _ _ => .none
  | .obj _ _ => .none
def toPys : List D → List PyData
  | [] => []
  | d :: ds => toPy d :: toPys ds
end
/-- of None, ints, texts, lists and tuples, that deep at most -/
def layN : Nat → D → Bool
  | _, .non => true
  | _, .int _ => true
  | _, .str x => PyData.strOk x
  | n + 1, .lst ds => ds.all (layN n)
  | n + 1, .tup ds => ds.all (layN n)
  | _, _ => false
theorem toPys_map (ds : List D) : toPys ds = ds.map toPy := by
  induction ds with
  | nil => rfl
  | cons d ds ih => rw [toPys, ih]; rfl
section
variable {K : PySem.W.Frag} {C : Addr} {H : Hp}
mutual
theorem lay_dp : ∀ (n : Nat) (d : D) (v : V), layN n d = true → Dv K C H v d → L2.Dp K H v (toPy d)
  | _, .non, _, _, h => by cases h; exact .non
  | _, .int i, _, _, h => by cases h; exact .int i
  | _, .str x, _, _, h => by cases h; exact .str x
  | n + 1, .lst ds, _, l, h => by
    cases h with
    | lst h1 h2 =>
      rw [toPy]
      exact .lst (SqL.of h1) (lay_dps n ds _ (by simpa [layN] using l) h2)
  | n + 1, .tup ds, _, l, h => by
    cases h with
    | tup h1 h2 =>
      rw [toPy]
      exact .tup (SqT.of h1) (lay_dps n ds _ (by simpa [layN] using l) h2)
  | 0, .lst _, _, l, _ => by simp [layN] at l
  | 0, .tup _, _, l, _ => by simp [layN] at l
  | _, .bl _, _, l, _ => by simp [layN] at l
  | _, .dk _ _, _, l, _ => by simp [layN] at l
  | _, .dt _ _, _, l, _ => by simp [layN] at l
  | _, .obj _ _, _, l, _ => by simp [layN] at l
  | _, .ro _, _, l, _ => by simp [layN] at l
theorem lay_dps : ∀ (n : Nat) (ds : List D) (vs : List V), (∀ d ∈ ds, layN n d = true) → Da K C H vs ds → L2.DpAll K H vs (toPys ds)
  | _, [], _, _, h => by cases h; exact .nil
  | n, d :: ds, _, l, h => by
    cases h with
    | cons h1 h2 => exact .cons (lay_dp n d _ (l d (by simp)) h1) (lay_dps n ds _ (fun x hx => l x (by simp [hx])) h2)
end
end
mutual
theorem lay_can : ∀ (n : Nat) (d : D), layN n d = true → (toPy d).canLay0 = true ∧ (toPy d).depth ≤ n
  | _, .non, _ => by simp [toPy, PyData.canLay0, PyData.depth]
  | _, .int i, _ => by simp [toPy, PyData.canLay0, PyData.depth]
  | _, .str x, h => by simpa [toPy, PyData.canLay0, PyData.depth, layN] using h
  | n + 1, .lst ds, l => by
    have q := lay_cans n ds (by simpa [layN] using l)
    simp only [toPy, PyData.canLay0, PyData.depth]
    exact ⟨q.1, Nat.succ_le_succ q.2⟩
  | n + 1, .tup ds, l => by
    have q := lay_cans n ds (by simpa [layN] using l)
    simp only [toPy, PyData.canLay0, PyData.depth]
    exact ⟨q.1, Nat.succ_le_succ q.2⟩
  | 0, .lst _, l => by simp [layN] at l
  | 0, .tup _, l => by simp [layN] at l
  | _, .bl _, l => by simp [layN] at l
  | _, .dk _ _, l => by simp [layN] at l
  | _, .dt _ _, l => by simp [layN] at l
  | _, .obj _ _, l => by simp [layN] at l
  | _, .ro _, l => by simp [layN] at l
theorem lay_cans : ∀ (n : Nat) (ds : List D), (∀ d ∈ ds, layN n d = true) → PyData.canLayAll0 (toPys ds) = true ∧ PyData.depthAll (toPys ds) ≤ n
  | _, [], _ => by simp [toPys, PyData.canLayAll0, PyData.depthAll]
  | n, d :: ds, l => by
    have q1 := lay_can n d (l d (by simp))
    have q2 := lay_cans n ds (fun x hx => l x (by simp [hx]))
    simp only [toPys, PyData.canLayAll0, PyData.depthAll]
    exact ⟨by rw [q1.1, q2.1]; rfl, Nat.max_le.mpr ⟨q1.2, q2.2⟩⟩
end
theorem lay_shaped {n : Nat} {d : D} (hn : n ≤ 64) (h : layN n d = true) : SeqAt.shaped (toPy d) = true := by
  have q := lay_can n d h
  unfold SeqAt.shaped
  rw [q.1, decide_eq_true (Nat.le_trans q.2 hn)]
  rfl
mutual
theorem eqv_iff : ∀ (n m : Nat) (x y : D), layN n x = true → layN m y = true → (PyData.eqv (toPy x) (toPy y) = true ↔ x = y)
  | _, _, .non, y, _, l => by cases y <;> simp [toPy, PyData.eqv, layN] at l ⊢
  | _, _, .int i, y, _, l => by cases y <;> simp [toPy, PyData.eqv, layN] at l ⊢
  | _, _, .str i, y, _, l => by cases y <;> simp [toPy, PyData.eqv, layN] at l ⊢
  | n + 1, m, .lst ds, y, l, l2 => by
    cases y with
    | lst es =>
      cases m with
      | zero => simp [layN] at l2
      | succ m =>
        have q := eqvs_iff n m ds es (by simpa [layN] using l) (by simpa [layN] using l2)
        simp only [toPy, PyData.eqv, D.lst.injEq]
        exact q
    | _ => simp [toPy, PyData.eqv, layN] at l2 ⊢
  | n + 1, m, .tup ds, y, l, l2 => by
    cases y with
    | tup es =>
      cases m with
      | zero => simp [layN] at l2
      | succ m =>
        have q := eqvs_iff n m ds es (by simpa [layN] using l) (by simpa [layN] using l2)
        simp only [toPy, PyData.eqv, D.tup.injEq]
        exact q
    | _ => simp [toPy, PyData.eqv, layN] at l2 ⊢
  | 0, _, .lst _, _, l, _ => by simp [layN] at l
  | 0, _, .tup _, _, l, _ => by simp [layN] at l
  | _, _, .bl _, _, l, _ => by simp [layN] at l
  | _, _, .dk _ _, _, l, _ => by simp [layN] at l
  | _, _, .dt _ _, _, l, _ => by simp [layN] at l
  | _, _, .obj _ _, _, l, _ => by simp [layN] at l
  | _, _, .ro _, _, l, _ => by simp [layN] at l
theorem eqvs_iff : ∀ (n m : Nat) (xs ys : List D), (∀ d ∈ xs, layN n d = true) → (∀ d ∈ ys, layN m d = true) → (PyData.eqvAll (toPys xs) (toPys ys) = true ↔ xs = ys)
  | _, _, [], [], _, _ => by simp [toPys, PyData.eqvAll]
  | _, _, [], _ :: _, _, _ => by simp [toPys, PyData.eqvAll]
  | _, _, _ :: _, [], _, _ => by simp [toPys, PyData.eqvAll]
  | n, m, x :: xs, y :: ys, h1, h2 => by
    have q1 := eqv_iff n m x y (h1 x (by simp)) (h2 y (by simp))
    have q2 := eqvs_iff n m xs ys (fun d hd => h1 d (by simp [hd])) (fun d hd => h2 d (by simp [hd]))
    simp only [toPys, PyData.eqvAll, Bool.and_eq_true, List.cons.injEq]
    rw [q1, q2]
end

section
variable {C : Addr} {X : Cx} {ρ : List Sl} {O : EndD} {st : Stmt} {sts : List Stmt} {e a b : Expr} {es : List Expr} {σ : L2.St} {Hb0 H0 Hb H : Hp} {pos : Pos} {P : D → Prop} {K : PySem.W.Frag} {x y : D}
/-! ### == and != of data, in -/
theorem rd_eqD {n : Nat} (hn : n ≤ 64) (hx : layN n x = true) (hy : layN n y = true) (h : ∀ b, (b = true ↔ x = y) → P (.bl b)) : RD K C (rEqD K) x y P := by
  intro Hb H v u Q s hv hu k
  exact ⟨toPy x, toPy y, lay_dp n x v hx (hv.mono s), lay_dp n y u hy (hu.mono s), lay_shaped hn hx, lay_shaped hn hy, k _ Hb H _ (Grow.refl _ _) s (.bl _) (h _ (eqv_iff n n x y hx hy))⟩
theorem rd_neD {n : Nat} (hn : n ≤ 64) (hx : layN n x = true) (hy : layN n y = true) (h : ∀ b, (b = true ↔ x ≠ y) → P (.bl b)) : RD K C (rNeD K) x y P := by
  intro Hb H v u Q s hv hu k
  refine ⟨toPy x, toPy y, lay_dp n x v hx (hv.mono s), lay_dp n y u hy (hu.mono s), lay_shaped hn hx, lay_shaped hn hy, k _ Hb H _ (Grow.refl _ _) s (.bl _) (h _ ?_)⟩
  have q := eqv_iff n n x y hx hy
  cases z : PyData.eqv (toPy x) (toPy y) with
  | true => rw [z] at q; simp [q.mp rfl]
  | false => rw [z] at q; simp; intro e; exact absurd (q.mpr e) Bool.false_ne_true
theorem w_eqD (n : Nat) (hu : X.A.units + 64 < cLine) (h : W C X a ρ fun x => W C X b ρ fun y => n ≤ 64 ∧ layN n x = true ∧ layN n y = true ∧ ∀ b, (b = true ↔ x = y) → P (.bl b)) : W C X (.Compare a [.Eq] [b] pos) ρ P :=
  w_cmpR (op_eqD hu) (nomark _) (h.mono fun x hy => hy.mono fun y ⟨h1, h2, h3, p⟩ => rd_eqD h1 h2 h3 p)
theorem wt_eqD (n : Nat) {P : Bool → Prop} (hu : X.A.units + 64 < cLine) (h : W C X a ρ fun x => W C X b ρ fun y => n ≤ 64 ∧ layN n x = true ∧ layN n y = true ∧ ∀ b, (b = true ↔ x = y) → P b) : WT C X (.Compare a [.Eq] [b] pos) ρ P :=
  wt_cmpR (op_eqD hu) (nomark _) (h.mono fun x hy => hy.mono fun y ⟨h1, h2, h3, p⟩ => rd_eqD h1 h2 h3 fun b hb => ⟨b, rfl, p b hb⟩)
theorem wt_neD (n : Nat) {P : Bool → Prop} (hu : X.A.units + 64 < cLine) (h : W C X a ρ fun x => W C X b ρ fun y => n ≤ 64 ∧ layN n x = true ∧ layN n y = true ∧ ∀ b, (b = true ↔ x ≠ y) → P b) : WT C X (.Compare a [.NotEq] [b] pos) ρ P :=
  wt_cmpR (op_neD hu) (nomark _) (h.mono fun x hy => hy.mono fun y ⟨h1, h2, h3, p⟩ => rd_neD h1 h2 h3 fun b hb => ⟨b, rfl, p b hb⟩)
theorem w_neD (n : Nat) (hu : X.A.units + 64 < cLine) (h : W C X a ρ fun x => W C X b ρ fun y => n ≤ 64 ∧ layN n x = true ∧ layN n y = true ∧ ∀ b, (b = true ↔ x ≠ y) → P (.bl b)) : W C X (.Compare a [.NotEq] [b] pos) ρ P :=
  w_cmpR (op_neD hu) (nomark _) (h.mono fun x hy => hy.mono fun y ⟨h1, h2, h3, p⟩ => rd_neD h1 h2 h3 p)
theorem any_iff {n m : Nat} {ds : List D} (hx : layN n x = true) (hd : ∀ d ∈ ds, layN m d = true) : ((toPys ds).any fun z => PyData.eqv z (toPy x)) = true ↔ x ∈ ds := by
  rw [toPys_map, List.any_map, List.any_eq_true]
  constructor
  · rintro ⟨d, h1, h2⟩
    rw [← (eqv_iff m n d x (hd d h1) hx).mp h2]
    exact h1
  · intro h
    exact ⟨x, h, (eqv_iff m n x x (hd x h) hx).mpr rfl⟩
/-- x in a list of data -/
theorem rd_inD {n : Nat} {ds : List D} (hn : n + 1 ≤ 64) (hx : layN n x = true) (hd : ∀ d ∈ ds, layN n d = true) (h : ∀ b, (b = true ↔ x ∈ ds) → P (.bl b)) : RD K C (rInD K) x (.lst ds) P := by
  intro Hb H v u Q s hv hu k
  have hl : layN (n + 1) (.lst ds) = true := by simpa [layN] using hd
  have q := lay_dp (n + 1) (.lst ds) u hl (hu.mono s)
  rw [toPy] at q
  have q2 := lay_shaped hn hl
  rw [toPy] at q2
  exact ⟨toPy x, toPys ds, lay_dp n x v hx (hv.mono s), q, lay_shaped (by omega) hx, q2, k _ Hb H _ (Grow.refl _ _) s (.bl _) (h _ (any_iff hx hd))⟩
theorem w_inD (n : Nat) (hu : X.A.units + 65 < cLine) (h : W C X a ρ fun x => W C X b ρ fun y => ∃ ds, y = .lst ds ∧ n + 1 ≤ 64 ∧ layN n x = true ∧ (∀ d ∈ ds, layN n d = true) ∧ ∀ b, (b = true ↔ x ∈ ds) → P (.bl b)) (hm : behindInMarks .In b = false := by rfl) : W C X (.Compare a [.In] [b] pos) ρ P :=
  w_cmpR (op_inD hu) hm (h.mono fun x hy => hy.mono fun y ⟨ds, he, h1, h2, h3, p⟩ => by subst he; exact rd_inD h1 h2 h3 p)
theorem wt_inD (n : Nat) {P : Bool → Prop} (hu : X.A.units + 65 < cLine) (h : W C X a ρ fun x => W C X b ρ fun y => ∃ ds, y = .lst ds ∧ n + 1 ≤ 64 ∧ layN n x = true ∧ (∀ d ∈ ds, layN n d = true) ∧ ∀ b, (b = true ↔ x ∈ ds) → P b) (hm : behindInMarks .In b = false := by rfl) : WT C X (.Compare a [.In] [b] pos) ρ P :=
  wt_cmpR (op_inD hu) hm (h.mono fun x hy => hy.mono fun y ⟨ds, he, h1, h2, h3, p⟩ => by subst he; exact rd_inD h1 h2 h3 fun b hb => ⟨b, rfl, p b hb⟩)
/-- a text in a list of texts -/
theorem inV_strs (z : Str) : ∀ xs : List Str, inV (.str z) (xs.map V.str) = decide (z ∈ xs)
  | [] => rfl
  | w :: xs => by
    show (eqV (.str w) (.str z) || inV (.str z) (xs.map V.str)) = _
    rw [inV_strs z xs]
    show (decide (w = z) || decide (z ∈ xs)) = _
    by_cases h : w = z
    · subst h; simp
    · have h' : ¬ z = w := fun e => h e.symm
      simp [h, h']
theorem rd_inS {neg : Bool} {z : Str} {xs : List Str} (h : P (.bl (if neg then !decide (z ∈ xs) else decide (z ∈ xs)))) : RD K C (rIn K neg) (.str z) (.lst (xs.map D.str)) P := by
  intro Hb H v u Q s hv hu k
  cases hv
  cases hu with
  | lst h1 h2 =>
    rw [h2.strs] at h1
    refine ⟨_, _, rfl, .inl (SqL.of (s _ _ h1)), rfl, ?_, ?_⟩
    · rw [List.all_map]
      exact List.all_eq_true.mpr fun _ _ => rfl
    · rw [inV_strs]
      exact k _ Hb H _ (Grow.refl _ _) s (.bl _) h
theorem wt_niS {P : Bool → Prop} (h : W C X a ρ fun x => W C X b ρ fun y => ∃ (z : Str) (xs : List Str), x = .str z ∧ y = .lst (xs.map D.str) ∧ P (!decide (z ∈ xs))) (hm : behindInMarks .NotIn b = false := by rfl) : WT C X (.Compare a [.NotIn] [b] pos) ρ P :=
  wt_cmpR op_notIn_seq hm (h.mono fun x hy => hy.mono fun y ⟨z, xs, h1, h2, p⟩ => by subst h1 h2; exact rd_inS (neg := true) ⟨_, rfl, p⟩)
theorem w_niS (h : W C X a ρ fun x => W C X b ρ fun y => ∃ (z : Str) (xs : List Str), x = .str z ∧ y = .lst (xs.map D.str) ∧ P (.bl (!decide (z ∈ xs)))) (hm : behindInMarks .NotIn b = false := by rfl) : W C X (.Compare a [.NotIn] [b] pos) ρ P :=
  w_cmpR op_notIn_seq hm (h.mono fun x hy => hy.mono fun y ⟨z, xs, h1, h2, p⟩ => by subst h1 h2; exact rd_inS (neg := true) p)

/-! ### slices -/
def bO (X : Cx) (e : Option Expr) : TO := fun σ H Q => ∃ t, PO X e t ∧ t σ H Q
def cutD (ds : List D) (lo hi : Option Int) : List D := (ds.drop (HT.sIx ds.length 0 lo)).take (HT.sIx ds.length ds.length hi - HT.sIx ds.length 0 lo)
theorem Da.cut {vs : List V} {ds : List D} {lo hi : Option Int} (h : Da K C H vs ds) : Da K C H (cutV vs lo hi) (cutD ds lo hi) := by
  unfold cutV cutD
  rw [h.length]
  exact (h.drop _).take _
/-- a part of a slice -/
def Wo (C : Addr) (X : Cx) (e : Option Expr) (ρ : List Sl) (P : Option Int → Prop) : Prop := match e with
  | none => P none
  | some e => W C X e ρ fun d => ∃ i, d = .int i ∧ P (some i)
def toO (X : Cx) : Option Expr → TO
  | none => tNoPart
  | some e => tPart (bE X e)
theorem po_o (o : Option Expr) : PO X o (toO X o) := match o with
  | none => po_none
  | some e => po_some (pe_b e)
theorem Wo.use {o : Option Expr} {P : Option Int → Prop} (h : Wo C X o ρ P) (S : SR X.K C Hb0 H0 Hb H σ ρ) {Q : Option Int → Hp → Prop} (k : ∀ i Hb2 H2, Grow Hb H Hb2 H2 → Same Hb2 H2 → P i → Q i H2) : toO X o σ H Q := by
  cases o with
  | none => exact k none Hb H (Grow.refl _ _) S.sub h
  | some e =>
    show bE X e σ H _
    refine W.use h S fun v Hb2 H2 d g s hv p => ?_
    obtain ⟨i, rfl, p⟩ := p
    cases hv
    exact ⟨i, rfl, k _ Hb2 H2 g s p⟩
theorem wn_slice {lo hi : Option Expr} {p2 : Pos} (h : W C X a ρ fun x => ∃ ds, lsD x = some ds ∧ Wo C X lo ρ fun l => Wo C X hi ρ fun u => P (.lst (cutD ds l u))) : WN C X (.Subscript a (.Slice lo hi none p2) pos) ρ P :=
  .of (pe_slice sl_list (pe_b a) (po_o lo) (po_o hi)) fun {Hb0 H0 Hb H σ} S Q q => by
    show bE X a σ H _
    refine h.use S fun v Hb1 H1 d g1 s1 hv p => ?_
    obtain ⟨ds, hd, p⟩ := p
    refine p.use (S.grow g1 s1) fun l Hb2 H2 g2 s2 p => ?_
    refine p.use ((S.grow g1 s1).grow g2 s2) fun u Hb3 H3 g3 s3 p => ?_
    obtain ⟨pa, vs, rfl, h1, h2⟩ := lsD_sq ((hv.mono g2.b).mono g3.b) hd
    refine ⟨pa, vs, rfl, s3.seq h1, fun r hr => ?_⟩
    obtain ⟨g4, s4⟩ := Grow.own (o := .lst (cutV vs l u)) s3 hr
    exact q r _ _ (.lst _) (((g1.trans g2).trans g3).trans g4) s4 (((g1.trans g2).trans g3).h.free hr) (s3.free hr) ⟨_, upd_same, h2.cut⟩ p
theorem w_sliceT {lo hi : Option Expr} {p2 : Pos} (h : W C X a ρ fun x => ∃ ds, x = .tup ds ∧ Wo C X lo ρ fun l => Wo C X hi ρ fun u => ¬ (HT.sIx ds.length 0 l = 0 ∧ HT.sIx ds.length ds.length u = ds.length) ∧ P (.tup (cutD ds l u))) : W C X (.Subscript a (.Slice lo hi none p2) pos) ρ P :=
  .of (pe_slice sl_tup (pe_b a) (po_o lo) (po_o hi)) fun {Hb0 H0 Hb H σ} S Q q => by
    show bE X a σ H _
    refine h.use S fun v Hb1 H1 d g1 s1 hv p => ?_
    obtain ⟨ds, hd, p⟩ := p
    subst hd
    refine p.use (S.grow g1 s1) fun l Hb2 H2 g2 s2 p => ?_
    refine p.use ((S.grow g1 s1).grow g2 s2) fun u Hb3 H3 g3 s3 p => ?_
    have hv3 := (hv.mono g2.b).mono g3.b
    cases hv3 with
    | tup h1 h2 =>
      refine ⟨_, _, rfl, SqT.of (s3 _ _ h1), by rw [h2.length]; exact p.1, fun r hr => ?_⟩
      obtain ⟨g4, s4⟩ := Grow.new (o := .tup (cutV _ l u)) s3 hr
      exact q _ _ _ _ (((g1.trans g2).trans g3).trans g4) s4 (.tup upd_same (h2.cut.mono g4.b)) p.2
/-- xs[::s], s one or minus one -/
theorem pick_one (its : Array Value) : slicePick its none none (some 1) = its := by
  have h : slicePick its none none (some 1) = slicePick its none none none := rfl
  rw [h]
  have := slicePick_cut its.toList none none
  simp only [Array.toArray_toList] at this
  rw [this]
  simp only [HT.sIx, Nat.sub_zero, List.drop_zero]
  rw [List.take_length, Array.toArray_toList]
def stepD (ds : List D) (s : Int) : List D := if s = 1 then ds else ds.reverse
theorem pe_step {a c : Expr} {p3 : Pos} {ta tc : TE} (ha : PE X a ta) (hc : PE X c tc) : PE X (.Subscript a (.Slice none none (some c) p3) pos) (fun σ H Q => ta σ H fun x H1 => tc σ H1 fun z H2 => ∃ pa vs s, x = .ref pa ∧ z = .int s ∧ (s = 1 ∨ s = -1) ∧ SqL X.K H2 pa vs ∧ ∀ p, H2 p = none → Q (.ref p) (upd H2 p (.lst (if s = 1 then vs else vs.reverse)))) := by
  refine ⟨fun pins s σ H Q I h => ?_⟩
  refine Subscript_ (thn (ha.run pins s σ H _ I h) fun v s1 ⟨x, H1, I1, r1, q1⟩ => ?_)
  refine wpAny_Slice (thn (po_none.run pins s1 σ H1 (fun o H2 => o = none ∧ H2 = H1) I1 ⟨rfl, rfl⟩) fun vl s2 ⟨l, H2, I2, pl, el, e2⟩ => ?_)
  subst el e2
  refine thn (po_none.run pins s2 σ H2 (fun o H3 => o = none ∧ H3 = H2) I2 ⟨rfl, rfl⟩) fun vu s3 ⟨u, H3, I3, pu, eu, e3⟩ => ?_
  subst eu e3
  rw [evalPart_some]
  refine thn (hc.run pins s3 σ H3 _ I3 q1) fun w s4 ⟨z, H4, I4, r4, q4⟩ => ?_
  obtain ⟨pa, vs, i, ex, ez, hi, hx, q⟩ := q4
  subst ex ez
  cases r1
  obtain ⟨t, rfl⟩ := r4
  have ps : IsPart (.int i t) (some i) := .int i t
  have I5 : Inv X pins σ H4 { s4 with heap := s4.heap.push { cls := .type "slice", data := .fields #[vl, vu, .int i t] } } := I4.kept (t' := s4.toks) fun b ob q => Heap.get?_push_of_some _ q
  obtain ⟨its, r, ht, hz⟩ := I5.list hx
  have hlen := r.length
  show wpAny (model X.prog X.w) X.A (subscriptTail a (.Slice none none (some c) p3) (.ref pa) (.ref s4.heap.objs.size)) (EP X pins σ Q) X.xe { s4 with heap := s4.heap.push { cls := .type "slice", data := .fields #[vl, vu, .int i t] } }
  refine tail_any (ops := [.ref pa, .ref s4.heap.objs.size]) ht.isList.typeIs (PySem.slot_list_getitem.lookup) ?_ (by with_unfolding_all rfl)
  refine wpAny_getItem_list_slice ht.isList (Heap.IsSliceOf.new _ vl vu (.int i t)) pl pu ps (by rcases hi with rfl | rfl <;> decide) ?_ (by rw [List.size_toArray]; omega)
  rcases hi with rfl | rfl
  · rw [pick_one]
    rw [if_pos rfl] at q
    refine ⟨.ref _, _, I5.laid (t' := s4.toks) (o := .lst vs) (fun b ob q => Heap.get?_push_of_some _ q) (Nat.le_refl _) ?_, rfl, q _ (I5.hok.fresh (Nat.le_refl _))⟩
    exact ⟨hz, _, 0, r, Heap.get?_push_size _ rfl⟩
  · rw [PySem.W.krv_pick]
    rw [if_neg (by decide)] at q
    refine ⟨.ref _, _, I5.laid (t' := s4.toks) (o := .lst vs.reverse) (fun b ob q => Heap.get?_push_of_some _ q) (Nat.le_refl _) ?_, rfl, q _ (I5.hok.fresh (Nat.le_refl _))⟩
    exact ⟨by rw [List.length_reverse]; exact hz, _, 0, r.reverse, Heap.get?_push_size _ rfl⟩
theorem wn_step {c : Expr} {p3 : Pos} (h : W C X a ρ fun x => ∃ ds, lsD x = some ds ∧ W C X c ρ fun z => ∃ s, z = .int s ∧ (s = 1 ∨ s = -1) ∧ P (.lst (stepD ds s))) : WN C X (.Subscript a (.Slice none none (some c) p3) pos) ρ P :=
  .of (pe_step (pe_b a) (pe_b c)) fun {Hb0 H0 Hb H σ} S Q q => by
    show bE X a σ H _
    refine h.use S fun v Hb1 H1 d g1 s1 hv p => ?_
    obtain ⟨ds, hd, p⟩ := p
    refine p.use (S.grow g1 s1) fun u Hb2 H2 d2 g2 s2 hu p => ?_
    obtain ⟨i, rfl, hi, p⟩ := p
    cases hu
    obtain ⟨pa, vs, rfl, h1, h2⟩ := lsD_sq (hv.mono g2.b) hd
    refine ⟨pa, vs, i, rfl, rfl, hi, s2.seq h1, fun r hr => ?_⟩
    obtain ⟨g4, s4⟩ := Grow.own (o := .lst (if i = 1 then vs else vs.reverse)) s2 hr
    refine q r _ _ (.lst (stepD ds i)) ((g1.trans g2).trans g4) s4 ((g1.trans g2).h.free hr) (s2.free hr) ⟨_, upd_same, ?_⟩ p
    unfold stepD
    by_cases hi1 : i = 1
    · rw [if_pos hi1, if_pos hi1]; exact h2
    · rw [if_neg hi1, if_neg hi1]; exact h2.reverse

/-! ### built-ins by name -/
def RC (K : PySem.W.Frag) (C : Addr) (r : List V → Hp → VK → Prop) (ds : List D) (P : D → Prop) : Prop := ∀ (Hb H : Hp) (vs : List V) (Q : VK), Same Hb H → Da K C Hb vs ds → (∀ z Hb2 H2 d, Grow Hb H Hb2 H2 → Same Hb2 H2 → Dv K C Hb2 z d → P d → Q z H2) → r vs H Q
def RCN (K : PySem.W.Frag) (C : Addr) (r : List V → Hp → VK → Prop) (ds : List D) (P : D → Prop) : Prop := ∀ (Hb H : Hp) (vs : List V) (Q : VK), Same Hb H → Da K C Hb vs ds → (∀ a Hb2 H2 d, Grow Hb H Hb2 H2 → Same Hb2 H2 → H a = none → Hb2 a = none → OwnAt K C Hb2 H2 a d → P d → Q (.ref a) H2) → r vs H Q
variable {nm : Str} {p : Pos} {id T : String} {r : List V → Hp → VK → Prop}
theorem w_blt (hc : CallR X (.builtin id) r) (hm : X.mg nm = none) (hv : bootBuiltins nm = some (.builtin id)) (h : WA C X (e :: es) ρ fun ds => RC X.K C r ds P) (hg : Gl X nm := by rfl) (hn : nm ≠ "__name__" := by decide) (hdb : (nm == ("__debug__" : Str)) = false := by decide)
    (he : starEach (e :: es) X.env = (false, eval e X.env) :: starEach es X.env := by rfl) (hpl : (backTo pos (starEach es X.env)).any (·.1) = false := by rfl) : W C X (.Call (.Name nm p) (e :: es) [] pos) ρ P :=
  .of (pe_callB hc hg hm hv (pa_b (e :: es)) hn hdb he hpl) fun {Hb0 H0 Hb H σ} S Q q => by
    show bA X (e :: es) σ H _
    exact h.use S fun vs Hb1 H1 ds g1 s1 hvs p1 => p1 Hb1 H1 vs Q s1 hvs fun z Hb2 H2 d g2 s2 hz p2 => q z Hb2 H2 d (g1.trans g2) s2 hz p2
theorem wn_blt (hc : CallR X (.builtin id) r) (hm : X.mg nm = none) (hv : bootBuiltins nm = some (.builtin id)) (h : WA C X (e :: es) ρ fun ds => RCN X.K C r ds P) (hg : Gl X nm := by rfl) (hn : nm ≠ "__name__" := by decide) (hdb : (nm == ("__debug__" : Str)) = false := by decide)
    (he : starEach (e :: es) X.env = (false, eval e X.env) :: starEach es X.env := by rfl) (hpl : (backTo pos (starEach es X.env)).any (·.1) = false := by rfl) : WN C X (.Call (.Name nm p) (e :: es) [] pos) ρ P :=
  .of (pe_callB hc hg hm hv (pa_b (e :: es)) hn hdb he hpl) fun {Hb0 H0 Hb H σ} S Q q => by
    show bA X (e :: es) σ H _
    exact h.use S fun vs Hb1 H1 ds g1 s1 hvs p1 => p1 Hb1 H1 vs Q s1 hvs fun z Hb2 H2 d g2 s2 h1 h2 hz p2 => q z Hb2 H2 d (g1.trans g2) s2 (g1.h.free h1) h2 hz p2
theorem w_ty (hc : CallR X (.type T) r) (hm : X.mg nm = none) (hv : bootBuiltins nm = some (.type T)) (h : WA C X (e :: es) ρ fun ds => RC X.K C r ds P) (hg : Gl X nm := by rfl) (hn : nm ≠ "__name__" := by decide) (hdb : (nm == ("__debug__" : Str)) = false := by decide)
    (he : starEach (e :: es) X.env = (false, eval e X.env) :: starEach es X.env := by rfl) (hpl : (backTo pos (starEach es X.env)).any (·.1) = false := by rfl) : W C X (.Call (.Name nm p) (e :: es) [] pos) ρ P :=
  .of (pe_callTy hc hg hm hv (pa_b (e :: es)) hn hdb he hpl) fun {Hb0 H0 Hb H σ} S Q q => by
    show bA X (e :: es) σ H _
    exact h.use S fun vs Hb1 H1 ds g1 s1 hvs p1 => p1 Hb1 H1 vs Q s1 hvs fun z Hb2 H2 d g2 s2 hz p2 => q z Hb2 H2 d (g1.trans g2) s2 hz p2
theorem wn_ty (hc : CallR X (.type T) r) (hm : X.mg nm = none) (hv : bootBuiltins nm = some (.type T)) (h : WA C X (e :: es) ρ fun ds => RCN X.K C r ds P) (hg : Gl X nm := by rfl) (hn : nm ≠ "__name__" := by decide) (hdb : (nm == ("__debug__" : Str)) = false := by decide)
    (he : starEach (e :: es) X.env = (false, eval e X.env) :: starEach es X.env := by rfl) (hpl : (backTo pos (starEach es X.env)).any (·.1) = false := by rfl) : WN C X (.Call (.Name nm p) (e :: es) [] pos) ρ P :=
  .of (pe_callTy hc hg hm hv (pa_b (e :: es)) hn hdb he hpl) fun {Hb0 H0 Hb H σ} S Q q => by
    show bA X (e :: es) σ H _
    exact h.use S fun vs Hb1 H1 ds g1 s1 hvs p1 => p1 Hb1 H1 vs Q s1 hvs fun z Hb2 H2 d g2 s2 h1 h2 hz p2 => q z Hb2 H2 d (g1.trans g2) s2 (g1.h.free h1) h2 hz p2
theorem one_da {vs : List V} {d : D} (h : Da K C H vs [d]) : ∃ v, vs = [v] ∧ Dv K C H v d := by
  cases h with
  | cons h t => cases t; exact ⟨_, rfl, h⟩
theorem two_da {vs : List V} {d d' : D} (h : Da K C H vs [d, d']) : ∃ v v', vs = [v, v'] ∧ Dv K C H v d ∧ Dv K C H v' d' := by
  cases h with
  | cons h t => obtain ⟨v', rfl, h'⟩ := one_da t; exact ⟨_, v', rfl, h, h'⟩
def lenD : D → Option Nat
  | .lst ds => some ds.length
  | .tup ds => some ds.length
  | .ro ds => some ds.length
  | _ => none
theorem w_len (hm : X.mg "len" = none) (h : W C X e ρ fun d => ∃ n, lenD d = some n ∧ P (.int n)) (hg : Gl X "len" := by rfl) (he : starEach [e] X.env = (false, eval e X.env) :: starEach [] X.env := by rfl) : W C X (.Call (.Name "len" p) [e] [] pos) ρ P :=
  w_blt call_len hm PySem.boot_len (wa_cons (h.mono fun d ⟨n, hn, pp⟩ => wa_nil fun Hb H vs Q s hvs k => by
    obtain ⟨v, rfl, hv⟩ := one_da hvs
    refine ⟨v, n, rfl, ?_, k _ Hb H _ (Grow.refl _ _) s (.int _) pp⟩
    cases hv with
    | lst h1 h2 => cases hn; exact .inl ⟨_, SqL.of (s _ _ h1), h2.length.symm⟩
    | tup h1 h2 => cases hn; exact .inr ⟨_, SqT.of (s _ _ h1), h2.length.symm⟩
    | ro h1 h2 => cases hn; exact .inl ⟨_, s.seq h1, h2.length.symm⟩
    | _ => cases hn) he) hg (by decide) (by decide) he rfl
theorem w_intB (hm : X.mg "int" = none) (h : W C X e ρ fun d => ∃ k, d = .bl k ∧ P (.int (if k then 1 else 0))) (hg : Gl X "int" := by rfl) (he : starEach [e] X.env = (false, eval e X.env) :: starEach [] X.env := by rfl) : W C X (.Call (.Name "int" p) [e] [] pos) ρ P :=
  w_ty call_int1 hm PyProof.Rows.boot_int (wa_cons (h.mono fun d ⟨n, hn, pp⟩ => wa_nil fun Hb H vs Q s hvs k => by
    obtain ⟨v, rfl, hv⟩ := one_da hvs
    subst hn
    cases hv
    exact .inr ⟨n, rfl, k _ Hb H _ (Grow.refl _ _) s (.int _) pp⟩) he) hg (by decide) (by decide) he rfl
theorem wn_list (hm : X.mg "list" = none) (hb : bootBuiltins "list" = some (.type "list")) (h : W C X e ρ fun d => ∃ ds, seqD d = some ds ∧ P (.lst ds)) (hg : Gl X "list" := by rfl) (he : starEach [e] X.env = (false, eval e X.env) :: starEach [] X.env := by rfl) : WN C X (.Call (.Name "list" p) [e] [] pos) ρ P :=
  wn_ty call_list_of hm hb (wa_cons (h.mono fun d ⟨ds, hn, pp⟩ => wa_nil fun Hb H vs Q s hvs k => by
    obtain ⟨v, rfl, hv⟩ := one_da hvs
    have fin : ∀ us, Da X.K C Hb us ds → ∀ l, H l = none → Q (.ref l) (upd H l (.lst us)) := fun us t l hl => by
      obtain ⟨g4, s4⟩ := Grow.own (o := .lst us) s hl
      exact k l _ _ (.lst ds) g4 s4 hl (s.free hl) ⟨_, upd_same, t⟩ pp
    cases hv with
    | lst h1 h2 => cases hn; exact ⟨_, _, rfl, .inl (SqL.of (s _ _ h1)), fin _ h2⟩
    | tup h1 h2 => cases hn; exact ⟨_, _, rfl, .inr (SqT.of (s _ _ h1)), fin _ h2⟩
    | ro h1 h2 => cases hn; exact ⟨_, _, rfl, .inl (s.seq h1), fin _ h2⟩
    | _ => cases hn) he) hg (by decide) (by decide) he rfl
theorem w_tuple (hm : X.mg "tuple" = none) (hb : bootBuiltins "tuple" = some (.type "tuple")) (h : W C X e ρ fun d => ∃ ds, d = .lst ds ∧ P (.tup ds)) (hg : Gl X "tuple" := by rfl) (he : starEach [e] X.env = (false, eval e X.env) :: starEach [] X.env := by rfl) : W C X (.Call (.Name "tuple" p) [e] [] pos) ρ P :=
  w_ty call_tuple_of hm hb (wa_cons (h.mono fun d ⟨ds, hn, pp⟩ => wa_nil fun Hb H vs Q s hvs k => by
    obtain ⟨v, rfl, hv⟩ := one_da hvs
    subst hn
    cases hv with
    | lst h1 h2 =>
      refine ⟨_, _, rfl, .inl ⟨SqL.of (s _ _ h1), fun l hl => ?_⟩⟩
      obtain ⟨g4, s4⟩ := Grow.new (o := .tup _) s hl
      exact k _ _ _ _ g4 s4 (.tup upd_same (h2.mono g4.b)) pp) he) hg (by decide) (by decide) he rfl
theorem w_all (hc : X.calm = true) (hm : X.mg "all" = none) (hb : bootBuiltins "all" = some (.builtin "all")) (h : W C X e ρ fun d => ∃ bs : List Bool, d = .lst (bs.map D.bl) ∧ P (.bl (bs.all fun x => x))) (hg : Gl X "all" := by rfl) (he : starEach [e] X.env = (false, eval e X.env) :: starEach [] X.env := by rfl) : W C X (.Call (.Name "all" p) [e] [] pos) ρ P :=
  w_blt (cr_all hc) hm hb (wa_cons (h.mono fun d ⟨bs, hn, pp⟩ => wa_nil fun Hb H vs Q s hvs k => by
    obtain ⟨v, rfl, hv⟩ := one_da hvs
    subst hn
    cases hv with
    | lst h1 h2 =>
      rw [h2.bls] at h1
      exact ⟨_, bs, rfl, SqL.of (s _ _ h1), k _ Hb H _ (Grow.refl _ _) s (.bl _) pp⟩) he) hg (by decide) (by decide) he rfl
theorem w_any (hc : X.calm = true) (hm : X.mg "any" = none) (hb : bootBuiltins "any" = some (.builtin "any")) (h : W C X e ρ fun d => ∃ bs : List Bool, d = .lst (bs.map D.bl) ∧ P (.bl (bs.any fun x => x))) (hg : Gl X "any" := by rfl) (he : starEach [e] X.env = (false, eval e X.env) :: starEach [] X.env := by rfl) : W C X (.Call (.Name "any" p) [e] [] pos) ρ P :=
  w_blt (cr_any hc) hm hb (wa_cons (h.mono fun d ⟨bs, hn, pp⟩ => wa_nil fun Hb H vs Q s hvs k => by
    obtain ⟨v, rfl, hv⟩ := one_da hvs
    subst hn
    cases hv with
    | lst h1 h2 =>
      rw [h2.bls] at h1
      exact ⟨_, bs, rfl, SqL.of (s _ _ h1), k _ Hb H _ (Grow.refl _ _) s (.bl _) pp⟩) he) hg (by decide) (by decide) he rfl
end
end TW
set_option Elab.async false
set_option linter.all false
set_option maxRecDepth 100000
set_option maxHeartbeats 4000000
/-! Changing things: lists and dicts of one's own. -/
namespace TW
open PySem L2 PyProof.Rows
section
variable {C : Addr} {X : Cx} {ρ : List Sl} {O : EndD} {e a b : Expr} {es : List Expr} {σ : L2.St} {Hb0 H0 Hb H : Hp} {pos ap np cp : Pos} {P : D → Prop} {K : PySem.W.Frag}
theorem ownL {Hb H : Hp} {q : Addr} {vs : List V} {ds : List D} (h : H q = some (.lst vs)) (t : Da K C Hb vs ds) : OwnAt K C Hb H q (.lst ds) := ⟨vs, h, t⟩
/-- the frame's own thing at a slot -/
theorem SR.at (S : SR K C Hb0 H0 Hb H σ ρ) {i : Nat} {d : D} (hi : ρ[i]? = some (.ow d)) : ∃ q, σ[i]? = some (some (.ref q)) ∧ OwnAt K C Hb H q d := by
  obtain ⟨q, h1, h2, h3, h4⟩ := S.slot i _ hi
  exact ⟨q, h1, h4⟩
theorem tyV_lst {q : Addr} {vs : List V} (h : H q = some (.lst vs)) : tyV K "list" (.ref q) H := .inl ⟨rfl, vs, SqL.of h⟩
theorem ws_append (i : Nat) {x : Str} {ds : List D} (hi : ρ[i]? = some (.ow (.lst ds))) (h : W C X e ρ fun d => ds.length < sizeLine ∧ O.nx (ρ.set i (.ow (.lst (ds ++ [d])))))
    (hN : X.N[i]? = some x := by rfl) (hv : Vis X.env.scope x := by first | exact Or.inl rfl | exact Or.inr (Or.inl rfl) | exact Or.inr (Or.inr rfl)) (h1 : (x == ("__debug__" : Str)) = false := by decide) (h2 : (x == ("__classdict__" : Str)) = false := by decide)
    (hbase : attributeBase (.Name x np) "append" X.env (eval (.Name x np) X.env) = eval (.Name x np) X.env := by rfl)
    (hfew : ((backTo cp (starEach [e] X.env)).all (fun x => !x.1) && (backToKw cp (keywordEach [] X.env)).all (fun x => x.1.isSome) && decide ([e].length + ([] : List Keyword).length + (if ([] : List Keyword).isEmpty then 0 else 1) < 30)) = true := by rfl)
    (hline : (ap.endLine == cp.line) = true := by rfl) (hs : starEach [e] X.env = (false, eval e X.env) :: starEach [] X.env := by rfl) (hsw : swapsWith (.Call (.Attribute (.Name x np) "append" ap) [e] [] cp) none pos.line X.env = pure false := by rfl) :
    WS C X (.Expr (.Call (.Attribute (.Name x np) "append" ap) [e] [] cp) pos) ρ O :=
  .of (ps_expr (pe_bm PySem.F.plainAttrs_list PySem.F.slot_list_append PySem.F.type_list_append mt_append (pe_var hN hv h1 h2) (pa_cons (pe_b e) pa_nil hs) hbase hfew hline hs rfl) hsw) fun {Hb0 H0 Hb H σ} S D q => by
    obtain ⟨r, hr, vs, hH, t⟩ := S.at hi
    refine ⟨_, hr, tyV_lst hH, ?_⟩
    show bE X e σ H _
    refine h.use S fun v Hb2 H2 d g s hv p => ?_
    refine ⟨r, vs, v, rfl, rfl, g.h _ _ hH, by rw [t.length]; exact p.1, ?_⟩
    exact q.nx σ Hb2 _ _ ((S.grow g s).write hi hr fun H' e' => ownL e' ((t.mono g.b).append (.cons hv .nil))) p.2
theorem ws_extend (i : Nat) {x : Str} {ds : List D} (hi : ρ[i]? = some (.ow (.lst ds))) (h : W C X e ρ fun d => ∃ es, d = .lst es ∧ ds.length + es.length ≤ sizeLine ∧ O.nx (ρ.set i (.ow (.lst (ds ++ es)))))
    (hN : X.N[i]? = some x := by rfl) (hv : Vis X.env.scope x := by first | exact Or.inl rfl | exact Or.inr (Or.inl rfl) | exact Or.inr (Or.inr rfl)) (h1 : (x == ("__debug__" : Str)) = false := by decide) (h2 : (x == ("__classdict__" : Str)) = false := by decide)
    (hbase : attributeBase (.Name x np) "extend" X.env (eval (.Name x np) X.env) = eval (.Name x np) X.env := by rfl)
    (hfew : ((backTo cp (starEach [e] X.env)).all (fun x => !x.1) && (backToKw cp (keywordEach [] X.env)).all (fun x => x.1.isSome) && decide ([e].length + ([] : List Keyword).length + (if ([] : List Keyword).isEmpty then 0 else 1) < 30)) = true := by rfl)
    (hline : (ap.endLine == cp.line) = true := by rfl) (hs : starEach [e] X.env = (false, eval e X.env) :: starEach [] X.env := by rfl) (hsw : swapsWith (.Call (.Attribute (.Name x np) "extend" ap) [e] [] cp) none pos.line X.env = pure false := by rfl) :
    WS C X (.Expr (.Call (.Attribute (.Name x np) "extend" ap) [e] [] cp) pos) ρ O :=
  .of (ps_expr (pe_bm PySem.F.plainAttrs_list PySem.F.slot_list_extend PySem.F.type_list_extend mt_extend (pe_var hN hv h1 h2) (pa_cons (pe_b e) pa_nil hs) hbase hfew hline hs rfl) hsw) fun {Hb0 H0 Hb H σ} S D q => by
    obtain ⟨r, hr, vs, hH, t⟩ := S.at hi
    refine ⟨_, hr, tyV_lst hH, ?_⟩
    show bE X e σ H _
    refine h.use S fun v Hb2 H2 d g s hv p => ?_
    obtain ⟨es, rfl, hl, p⟩ := p
    cases hv with
    | lst h3 h4 =>
      refine ⟨r, _, vs, _, rfl, rfl, g.h _ _ hH, s _ _ h3, by rw [t.length, h4.length]; exact hl, ?_⟩
      exact q.nx σ Hb2 _ _ ((S.grow g s).write hi hr fun H' e' => ownL e' ((t.mono g.b).append h4)) p
/-- len of one's own list -/
theorem w_lenOw (i : Nat) {x : Str} {ds : List D} {p : Pos} (hi : ρ[i]? = some (.ow (.lst ds))) (hm : X.mg "len" = none) (h : P (.int ds.length)) (hN : X.N[i]? = some x := by rfl) (hv : Vis X.env.scope x := by first | exact Or.inl rfl | exact Or.inr (Or.inl rfl) | exact Or.inr (Or.inr rfl))
    (h1 : (x == ("__debug__" : Str)) = false := by decide) (h2 : (x == ("__classdict__" : Str)) = false := by decide) (hg : Gl X "len" := by rfl) (he : starEach [.Name x np] X.env = (false, eval (.Name x np) X.env) :: starEach [] X.env := by rfl) : W C X (.Call (.Name "len" p) [.Name x np] [] pos) ρ P :=
  .of (pe_callB call_len hg hm PySem.boot_len (pa_cons (pe_var hN hv h1 h2) pa_nil he) (by decide) (by decide) he rfl) fun {Hb0 H0 Hb H σ} S Q q => by
    obtain ⟨r, hr, vs, hH, t⟩ := S.at hi
    exact ⟨_, hr, .ref r, _, rfl, .inl ⟨vs, SqL.of hH, t.length.symm⟩, q _ Hb H _ (Grow.refl _ _) S.sub (.int _) h⟩
/-- the place of a number in one's own list of numbers -/
def intsD (ns : List Int) : List D := ns.map D.int
theorem eqV_int (i j : Int) : eqV (.int i) (.int j) = decide (i = j) := by
  show (i == j) = _
  rfl
theorem index_ints {q : Addr} {ns : List Int} {n : Int} {j : Nat} {Q : VK} (hs : SqL K H q (ns.map V.int)) (hj : ns[j]? = some n) (hno : ∀ m, m < j → ns[m]? ≠ some n) (k : Q (.int j) H) : rIndex K (.ref q) [.int n] H Q := by
  refine ⟨q, ns.map V.int, .int n, j, .int n, rfl, rfl, hs, rfl, ?_, by rw [List.getElem?_map, hj]; rfl, ?_, fun m z' hm hz => ?_, k⟩
  · rw [List.all_map]; exact List.all_eq_true.mpr fun _ _ => rfl
  · rw [eqV_int]; exact decide_eq_true rfl
  · rw [List.getElem?_map] at hz
    cases e : ns[m]? with
    | none => rw [e] at hz; cases hz
    | some i =>
      rw [e] at hz
      cases hz
      rw [eqV_int]
      exact decide_eq_false fun h => hno m hm (by rw [e, h])
theorem index_strs {q : Addr} {ns : List Str} {n : Str} {j : Nat} {Q : VK} (hs : SqL K H q (ns.map V.str)) (hj : ns[j]? = some n) (hno : ∀ m, m < j → ns[m]? ≠ some n) (k : Q (.int j) H) : rIndex K (.ref q) [.str n] H Q := by
  have es : ∀ x y : Str, eqV (.str x) (.str y) = decide (x = y) := fun x y => rfl
  refine ⟨q, ns.map V.str, .str n, j, .str n, rfl, rfl, hs, rfl, ?_, by rw [List.getElem?_map, hj]; rfl, ?_, fun m z' hm hz => ?_, k⟩
  · rw [List.all_map]; exact List.all_eq_true.mpr fun _ _ => rfl
  · rw [es]; exact decide_eq_true rfl
  · rw [List.getElem?_map] at hz
    cases e : ns[m]? with
    | none => rw [e] at hz; cases hz
    | some i =>
      rw [e] at hz
      cases hz
      rw [es]
      exact decide_eq_false fun h => hno m hm (by rw [e, h])
/-- the first place -/
def placeOf {α : Type} [DecidableEq α] : List α → α → Nat
  | [], _ => 0
  | x :: xs, y => if x = y then 0 else placeOf xs y + 1
theorem placeOf_get {α : Type} [DecidableEq α] : ∀ {xs : List α} {y : α}, y ∈ xs → xs[placeOf xs y]? = some y ∧ ∀ m, m < placeOf xs y → xs[m]? ≠ some y
  | x :: xs, y, h => by
    unfold placeOf
    by_cases e : x = y
    · rw [if_pos e]; exact ⟨by simp [e], fun m hm => absurd hm (Nat.not_lt_zero m)⟩
    · rw [if_neg e]
      have hy : y ∈ xs := by
        rcases List.mem_cons.mp h with z | z
        · exact absurd z.symm e
        · exact z
      obtain ⟨h1, h2⟩ := placeOf_get hy
      refine ⟨by simpa using h1, fun m hm => ?_⟩
      cases m with
      | zero => simpa using e
      | succ m => simpa using h2 m (by omega)
theorem placeOf_lt {α : Type} [DecidableEq α] {xs : List α} {y : α} (h : y ∈ xs) : placeOf xs y < xs.length := (List.getElem?_eq_some_iff.mp (placeOf_get h).1).1
theorem w_indexOw (i : Nat) {x : Str} {ns : List Int} (hi : ρ[i]? = some (.ow (.lst (ns.map D.int)))) (h : W C X e ρ fun d => ∃ n, d = .int n ∧ n ∈ ns ∧ P (.int (placeOf ns n))) (hN : X.N[i]? = some x := by rfl) (hv : Vis X.env.scope x := by first | exact Or.inl rfl | exact Or.inr (Or.inl rfl) | exact Or.inr (Or.inr rfl))
    (h1 : (x == ("__debug__" : Str)) = false := by decide) (h2 : (x == ("__classdict__" : Str)) = false := by decide) (hbase : attributeBase (.Name x np) "index" X.env (eval (.Name x np) X.env) = eval (.Name x np) X.env := by rfl)
    (hfew : ((backTo cp (starEach [e] X.env)).all (fun x => !x.1) && (backToKw cp (keywordEach [] X.env)).all (fun x => x.1.isSome) && decide ([e].length + ([] : List Keyword).length + (if ([] : List Keyword).isEmpty then 0 else 1) < 30)) = true := by rfl)
    (hline : (ap.endLine == cp.line) = true := by rfl) (hs : starEach [e] X.env = (false, eval e X.env) :: starEach [] X.env := by rfl) : W C X (.Call (.Attribute (.Name x np) "index" ap) [e] [] cp) ρ P :=
  .of (pe_bm PySem.F.plainAttrs_list PySem.F.slot_list_index PySem.F.type_list_index mt_index (pe_var hN hv h1 h2) (pa_cons (pe_b e) pa_nil hs) hbase hfew hline hs rfl) fun {Hb0 H0 Hb H σ} S Q q => by
    obtain ⟨r, hr, vs, hH, t⟩ := S.at hi
    refine ⟨_, hr, tyV_lst hH, ?_⟩
    show bE X e σ H _
    refine h.use S fun v Hb2 H2 d g s hv p => ?_
    obtain ⟨n, rfl, hn, p⟩ := p
    cases hv
    rw [t.ints] at hH
    obtain ⟨h3, h4⟩ := placeOf_get hn
    exact index_ints (SqL.of (g.h _ _ hH)) h3 h4 (q _ Hb2 H2 _ g s (.int _) p)
/-- index of a text in a list of texts; of a number in a list of numbers, never to change -/
theorem w_indexS (h : W C X a ρ fun x => ∃ ns : List Str, x = .lst (ns.map D.str) ∧ W C X e ρ fun d => ∃ n, d = .str n ∧ n ∈ ns ∧ P (.int (placeOf ns n))) (hbase : attributeBase a "index" X.env (eval a X.env) = eval a X.env := by rfl)
    (hfew : ((backTo cp (starEach [e] X.env)).all (fun x => !x.1) && (backToKw cp (keywordEach [] X.env)).all (fun x => x.1.isSome) && decide ([e].length + ([] : List Keyword).length + (if ([] : List Keyword).isEmpty then 0 else 1) < 30)) = true := by rfl)
    (hline : (ap.endLine == cp.line) = true := by rfl) (hs : starEach [e] X.env = (false, eval e X.env) :: starEach [] X.env := by rfl) : W C X (.Call (.Attribute a "index" ap) [e] [] cp) ρ P :=
  .of (pe_bm PySem.F.plainAttrs_list PySem.F.slot_list_index PySem.F.type_list_index mt_index (pe_b a) (pa_cons (pe_b e) pa_nil hs) hbase hfew hline hs rfl) fun {Hb0 H0 Hb H σ} S Q q => by
    show bE X a σ H _
    refine h.use S fun v Hb1 H1 d g1 s1 hv p => ?_
    obtain ⟨ns, rfl, p⟩ := p
    cases hv with
    | lst h1 h2 =>
      refine ⟨tyV_lst (s1 _ _ h1), ?_⟩
      refine p.use (S.grow g1 s1) fun u Hb2 H2 d2 g2 s2 hu p => ?_
      obtain ⟨n, rfl, hn, p⟩ := p
      cases hu
      rw [h2.strs] at h1
      obtain ⟨h3, h4⟩ := placeOf_get hn
      exact index_strs (SqL.of (s2 _ _ (g2.b _ _ h1))) h3 h4 (q _ Hb2 H2 _ (g1.trans g2) s2 (.int _) p)
theorem w_indexI (h : W C X a ρ fun x => ∃ ns : List Int, x = .lst (ns.map D.int) ∧ W C X e ρ fun d => ∃ n, d = .int n ∧ n ∈ ns ∧ P (.int (placeOf ns n))) (hbase : attributeBase a "index" X.env (eval a X.env) = eval a X.env := by rfl)
    (hfew : ((backTo cp (starEach [e] X.env)).all (fun x => !x.1) && (backToKw cp (keywordEach [] X.env)).all (fun x => x.1.isSome) && decide ([e].length + ([] : List Keyword).length + (if ([] : List Keyword).isEmpty then 0 else 1) < 30)) = true := by rfl)
    (hline : (ap.endLine == cp.line) = true := by rfl) (hs : starEach [e] X.env = (false, eval e X.env) :: starEach [] X.env := by rfl) : W C X (.Call (.Attribute a "index" ap) [e] [] cp) ρ P :=
  .of (pe_bm PySem.F.plainAttrs_list PySem.F.slot_list_index PySem.F.type_list_index mt_index (pe_b a) (pa_cons (pe_b e) pa_nil hs) hbase hfew hline hs rfl) fun {Hb0 H0 Hb H σ} S Q q => by
    show bE X a σ H _
    refine h.use S fun v Hb1 H1 d g1 s1 hv p => ?_
    obtain ⟨ns, rfl, p⟩ := p
    cases hv with
    | lst h1 h2 =>
      refine ⟨tyV_lst (s1 _ _ h1), ?_⟩
      refine p.use (S.grow g1 s1) fun u Hb2 H2 d2 g2 s2 hu p => ?_
      obtain ⟨n, rfl, hn, p⟩ := p
      cases hu
      rw [h2.ints] at h1
      obtain ⟨h3, h4⟩ := placeOf_get hn
      exact index_ints (SqL.of (s2 _ _ (g2.b _ _ h1))) h3 h4 (q _ Hb2 H2 _ (g1.trans g2) s2 (.int _) p)
/-- xs.insert(i, y) of one's own list -/
theorem ws_insert (i : Nat) {x : Str} {ds : List D} (hi : ρ[i]? = some (.ow (.lst ds))) (h : W C X a ρ fun d => ∃ n, d = .int n ∧ ds.length < sizeLine ∧ 0 ≤ n ∧ n < 2 ^ 63 ∧ W C X e ρ fun d => O.nx (ρ.set i (.ow (.lst (ds.take n.toNat ++ [d] ++ ds.drop n.toNat)))))
    (hN : X.N[i]? = some x := by rfl) (hv : Vis X.env.scope x := by first | exact Or.inl rfl | exact Or.inr (Or.inl rfl) | exact Or.inr (Or.inr rfl)) (h1 : (x == ("__debug__" : Str)) = false := by decide) (h2 : (x == ("__classdict__" : Str)) = false := by decide)
    (hbase : attributeBase (.Name x np) "insert" X.env (eval (.Name x np) X.env) = eval (.Name x np) X.env := by rfl)
    (hfew : ((backTo cp (starEach [a, e] X.env)).all (fun x => !x.1) && (backToKw cp (keywordEach [] X.env)).all (fun x => x.1.isSome) && decide ([a, e].length + ([] : List Keyword).length + (if ([] : List Keyword).isEmpty then 0 else 1) < 30)) = true := by rfl)
    (hline : (ap.endLine == cp.line) = true := by rfl) (hs : starEach [a, e] X.env = (false, eval a X.env) :: starEach [e] X.env := by rfl) (hs2 : starEach [e] X.env = (false, eval e X.env) :: starEach [] X.env := by rfl) (hpl : (backTo cp (starEach [e] X.env)).any (·.1) = false := by rfl) (hsw : swapsWith (.Call (.Attribute (.Name x np) "insert" ap) [a, e] [] cp) none pos.line X.env = pure false := by rfl) :
    WS C X (.Expr (.Call (.Attribute (.Name x np) "insert" ap) [a, e] [] cp) pos) ρ O :=
  .of (ps_expr (pe_bm PySem.F.plainAttrs_list PySem.F.slot_list_insert PySem.F.type_list_insert mt_insert (pe_var hN hv h1 h2) (pa_cons (pe_b a) (pa_cons (pe_b e) pa_nil hs2) hs) hbase hfew hline hs hpl) hsw) fun {Hb0 H0 Hb H σ} S D q => by
    obtain ⟨r, hr, vs, hH, t⟩ := S.at hi
    refine ⟨_, hr, tyV_lst hH, ?_⟩
    show bE X a σ H _
    refine h.use S fun v Hb1 H1 d g1 s1 hv p => ?_
    obtain ⟨n, rfl, hl, h0, h3, p⟩ := p
    cases hv
    show bE X e σ H1 _
    refine p.use (S.grow g1 s1) fun u Hb2 H2 d2 g2 s2 hu p => ?_
    have g := g1.trans g2
    refine ⟨r, vs, n, u, rfl, rfl, g.h _ _ hH, by rw [t.length]; exact hl, h0, h3, ?_⟩
    have t2 := t.mono g.b
    exact q.nx σ Hb2 _ _ ((S.grow g s2).write hi hr fun H' e' => ownL e' (((t2.take _).append (.cons hu .nil)).append (t2.drop _))) p
/-- xs[i] = e of one's own list -/
theorem ws_setItem (i : Nat) {x : Str} {ds : List D} {sp : Pos} (hi : ρ[i]? = some (.ow (.lst ds))) (h : W C X e ρ fun d => W C X a ρ fun z => ∃ n j, z = .int n ∧ ixN ds.length n = some j ∧ O.nx (ρ.set i (.ow (.lst (ds.set j d)))))
    (hN : X.N[i]? = some x := by rfl) (hv : Vis X.env.scope x := by first | exact Or.inl rfl | exact Or.inr (Or.inl rfl) | exact Or.inr (Or.inr rfl)) (h1 : (x == ("__debug__" : Str)) = false := by decide) (h2 : (x == ("__classdict__" : Str)) = false := by decide)
    (hs : swapsWithSole [.Subscript (.Name x np) a sp] e pos.line X.env = pure false := by rfl) (hw : swappedStores [.Subscript (.Name x np) a sp] e X.env = pure none := by rfl) (h3 : (assignEach [.Subscript (.Name x np) a sp] X.env).map (·.2) = [assign (.Subscript (.Name x np) a sp) X.env] := by rfl)
    (ha : ∀ v, assign (.Subscript (.Name x np) a sp) X.env v = (do
      let ov ← holding [v] (eval (.Name x np) X.env)
      let iv ← holding [v, ov] (eval a X.env)
      standAt sp
      holding [v, ov, iv] (setItem ov iv v)
      release [v, ov, iv] []) := by intro _; rfl) : WS C X (.Assign [.Subscript (.Name x np) a sp] e pos) ρ O :=
  .of (ps_asg (pe_b e) (pg_sub (pe_var hN hv h1 h2) (pe_b a) set_list ha) hs hw h3) fun {Hb0 H0 Hb H σ} S D q => by
    show bE X e σ H _
    refine h.use S fun v Hb1 H1 d g1 s1 hv p => ?_
    obtain ⟨r, hr, vs, hH, t⟩ := S.at hi
    refine ⟨_, hr, ?_⟩
    refine p.use (S.grow g1 s1) fun u Hb2 H2 d2 g2 s2 hu p => ?_
    obtain ⟨n, j, rfl, hj, p⟩ := p
    cases hu
    have g := g1.trans g2
    refine ⟨r, vs, n, j, rfl, rfl, g.h _ _ hH, by rw [t.length]; exact hj, ?_⟩
    exact q.nx σ Hb2 _ _ ((S.grow g s2).write hi hr fun H' e' => ownL e' (Da.set (hv.mono g2.b) j (t.mono g.b))) p
/-- xs.append(ys.pop(e)) -/
theorem ws_appendPop (i j : Nat) {x y : Str} {ds es : List D} {np2 ap2 cp2 : Pos} (hij : i ≠ j) (hi : ρ[i]? = some (.ow (.lst ds))) (hj : ρ[j]? = some (.ow (.lst es)))
    (h : W C X e ρ fun d => ∃ (n : Int) (k : Nat) (z : D), d = .int n ∧ ds.length < sizeLine ∧ 0 ≤ n ∧ n.toNat = k ∧ n < 2 ^ 63 ∧ es[k]? = some z ∧ O.nx ((ρ.set j (.ow (.lst (es.eraseIdx k)))).set i (.ow (.lst (ds ++ [z])))))
    (hN : X.N[i]? = some x := by rfl) (hv : Vis X.env.scope x := by first | exact Or.inl rfl | exact Or.inr (Or.inl rfl) | exact Or.inr (Or.inr rfl)) (h1 : (x == ("__debug__" : Str)) = false := by decide) (h2 : (x == ("__classdict__" : Str)) = false := by decide)
    (hN2 : X.N[j]? = some y := by rfl) (hv2 : Vis X.env.scope y := by first | exact Or.inl rfl | exact Or.inr (Or.inl rfl) | exact Or.inr (Or.inr rfl)) (h12 : (y == ("__debug__" : Str)) = false := by decide) (h22 : (y == ("__classdict__" : Str)) = false := by decide)
    (hbase : attributeBase (.Name x np) "append" X.env (eval (.Name x np) X.env) = eval (.Name x np) X.env := by rfl)
    (hfew : ((backTo cp (starEach [.Call (.Attribute (.Name y np2) "pop" ap2) [e] [] cp2] X.env)).all (fun x => !x.1) && (backToKw cp (keywordEach [] X.env)).all (fun x => x.1.isSome) && decide ([Expr.Call (.Attribute (.Name y np2) "pop" ap2) [e] [] cp2].length + ([] : List Keyword).length + (if ([] : List Keyword).isEmpty then 0 else 1) < 30)) = true := by rfl)
    (hline : (ap.endLine == cp.line) = true := by rfl) (hs : starEach [.Call (.Attribute (.Name y np2) "pop" ap2) [e] [] cp2] X.env = (false, eval (.Call (.Attribute (.Name y np2) "pop" ap2) [e] [] cp2) X.env) :: starEach [] X.env := by rfl)
    (hbase2 : attributeBase (.Name y np2) "pop" X.env (eval (.Name y np2) X.env) = eval (.Name y np2) X.env := by rfl)
    (hfew2 : ((backTo cp2 (starEach [e] X.env)).all (fun x => !x.1) && (backToKw cp2 (keywordEach [] X.env)).all (fun x => x.1.isSome) && decide ([e].length + ([] : List Keyword).length + (if ([] : List Keyword).isEmpty then 0 else 1) < 30)) = true := by rfl)
    (hline2 : (ap2.endLine == cp2.line) = true := by rfl) (hs2 : starEach [e] X.env = (false, eval e X.env) :: starEach [] X.env := by rfl)
    (hsw : swapsWith (.Call (.Attribute (.Name x np) "append" ap) [.Call (.Attribute (.Name y np2) "pop" ap2) [e] [] cp2] [] cp) none pos.line X.env = pure false := by rfl) :
    WS C X (.Expr (.Call (.Attribute (.Name x np) "append" ap) [.Call (.Attribute (.Name y np2) "pop" ap2) [e] [] cp2] [] cp) pos) ρ O :=
  .of (ps_expr (pe_bm PySem.F.plainAttrs_list PySem.F.slot_list_append PySem.F.type_list_append mt_append (pe_var hN hv h1 h2)
    (pa_cons (pe_bm PySem.F.plainAttrs_list PySem.F.slot_list_pop PySem.F.type_list_pop mt_popAt (pe_var hN2 hv2 h12 h22) (pa_cons (pe_b e) pa_nil hs2) hbase2 hfew2 hline2 hs2 rfl) pa_nil hs) hbase hfew hline hs rfl) hsw) fun {Hb0 H0 Hb H σ} S D q => by
    obtain ⟨r, hr, vs, hH, t⟩ := S.at hi
    obtain ⟨r2, hr2, us, hH2, t2⟩ := S.at hj
    refine ⟨_, hr, tyV_lst hH, ?_⟩
    refine ⟨_, hr2, tyV_lst hH2, ?_⟩
    show bE X e σ H _
    refine h.use S fun v Hb2 H2 d g s hv p => ?_
    obtain ⟨n, k, z, rfl, hl, h0, hk, h63, hz, p⟩ := p
    cases hv
    obtain ⟨u, hu, hd⟩ := (t2.mono g.b).get hz
    have hlt : k < us.length := (List.getElem?_eq_some_iff.mp hu).1
    refine ⟨r2, us, n, k, u, rfl, rfl, g.h _ _ hH2, by omega, h63, ?_, hu, ?_⟩
    · rw [seqIndex_of h0 (by omega), hk]
    · have S2 := (S.grow g s).write (d' := .lst (es.eraseIdx k)) (o := .lst (us.eraseIdx k)) hj hr2 fun H' e' => ownL e' ((t2.mono g.b).erase k)
      have hi2 : (ρ.set j (.ow (.lst (es.eraseIdx k))))[i]? = some (.ow (.lst ds)) := by rw [List.getElem?_set_ne (Ne.symm hij)]; exact hi
      have ne : r ≠ r2 := fun z => S.sep i j _ _ r hij hi hj hr (by rw [hr2, z])
      refine ⟨r, vs, u, rfl, rfl, by rw [upd_ne ne]; exact g.h _ _ hH, by rw [t.length]; exact hl, ?_⟩
      exact q.nx σ Hb2 _ _ (S2.write hi2 hr fun H' e' => ownL e' ((t.mono g.b).append (.cons hd .nil))) p
end

/-! ### dicts -/
section
variable {κ : Type} [DecidableEq κ]
/-- looked up -/
def look : List κ → List D → κ → Option D
  | k :: ks, d :: ds, x => if k = x then some d else look ks ds x
  | _, _, _ => none
/-- stored -/
def dput (ks : List κ) (ds : List D) (k : κ) (d : D) : List κ × List D :=
  if k ∈ ks then (ks, (ks.zip ds).map fun p => if p.1 = k then d else p.2) else (ks ++ [k], ds ++ [d])
variable {K : PySem.W.Frag} {C : Addr} {H : Hp}
theorem look_val : ∀ {ks : List κ} {vs : List V} {ds : List D} {k : κ} {d : D}, Da K C H vs ds → look ks ds k = some d → ∃ v, valV (ks.zip vs) k = some v ∧ Dv K C H v d
  | [], _, _, _, _, _, h => by cases h
  | x :: ks, _, _, k, d, .nil, h => by cases h
  | x :: ks, _, _, k, d, .cons (v := v) h1 t, h => by
    unfold look at h
    by_cases e : x = k
    · rw [if_pos e] at h
      cases h
      exact ⟨v, by rw [List.zip_cons_cons, valV_pos e], h1⟩
    · rw [if_neg e] at h
      obtain ⟨w, h2, h3⟩ := look_val t h
      exact ⟨w, by rw [List.zip_cons_cons, valV_neg e]; exact h2, h3⟩
theorem look_none : ∀ {ks : List κ} {vs : List V} {k : κ}, k ∉ ks → valV (ks.zip vs) k = none
  | [], _, _, _ => rfl
  | x :: ks, [], _, _ => rfl
  | x :: ks, v :: vs, k, h => by
    rw [List.zip_cons_cons, valV_neg (fun e : x = k => h (by simp [e]))]
    exact look_none fun z => h (List.mem_cons_of_mem _ z)
theorem any_zip : ∀ {ks : List κ} {vs : List V} {k : κ}, ks.length = vs.length → ((ks.zip vs).any fun kv => decide (kv.1 = k)) = decide (k ∈ ks)
  | [], [], _, _ => rfl
  | x :: ks, v :: vs, k, h => by
    rw [List.zip_cons_cons, List.any_cons, any_zip (by simpa using h)]
    by_cases e : x = k
    · subst e; simp
    · have e' : ¬ k = x := fun z => e z.symm
      simp [e, e']
theorem dput_da {ks : List κ} {vs : List V} {ds : List D} {k : κ} {v : V} {d : D} (hl : ks.length = vs.length) (t : Da K C H vs ds) (hv : Dv K C H v d) :
    ∃ vs', putK (ks.zip vs) k v = (dput ks ds k d).1.zip vs' ∧ (dput ks ds k d).1.length = vs'.length ∧ Da K C H vs' (dput ks ds k d).2 := by
  unfold putK dput
  rw [any_zip hl]
  by_cases h : k ∈ ks
  · rw [decide_eq_true h, if_pos rfl, if_pos h]
    refine ⟨(ks.zip vs).map fun p => if p.1 = k then v else p.2, ?_, ?_, ?_⟩
    · clear h t
      induction ks generalizing vs with
      | nil => rfl
      | cons x ks ih =>
        cases vs with
        | nil => cases hl
        | cons w vs =>
          simp only [List.zip_cons_cons, List.map_cons]
          rw [ih (by simpa using hl)]
          by_cases e : x = k <;> simp [e]
    · rw [List.length_map, List.length_zip, hl, Nat.min_self]
    · clear h
      induction ks generalizing vs ds with
      | nil => exact .nil
      | cons x ks ih =>
        cases t with
        | nil => exact .nil
        | cons h1 t =>
          simp only [List.zip_cons_cons, List.map_cons]
          refine .cons ?_ (ih (by simpa using hl) t)
          by_cases e : x = k
          · rw [if_pos e, if_pos e]; exact hv
          · rw [if_neg e, if_neg e]; exact h1
  · rw [decide_eq_false h, if_neg Bool.false_ne_true, if_neg h]
    refine ⟨vs ++ [v], ?_, by simp [hl], t.append (.cons hv .nil)⟩
    rw [List.zip_append hl]
    rfl
end
end TW
set_option Elab.async false
set_option linter.all false
set_option maxRecDepth 100000
set_option maxHeartbeats 4000000
/-! Dicts read and stored; the program's own data: sums, conditions. -/
namespace TW
open PySem L2 PyProof.Rows
section
variable {C : Addr} {X : Cx} {ρ : List Sl} {O : EndD} {e a b : Expr} {es : List Expr} {σ : L2.St} {Hb0 H0 Hb H : Hp} {pos ap np cp : Pos} {P : D → Prop} {K : PySem.W.Frag}
def kD : Key → D
  | .inl i => .int i
  | .inr x => .str x
theorem kD_v {v : V} {k : Key} (h : Dv K C H v (kD k)) : v = kV k := by
  cases k <;> (cases h; rfl)
theorem kDs_v : ∀ {vs : List V} {ks : List Key}, Da K C H vs (ks.map kD) → vs = ks.map kV
  | _, [], h => by cases h; rfl
  | _, k :: ks, h => by
    cases h with
    | cons h1 t => rw [kD_v h1, kDs_v t]; rfl
/-- d[k] -/
theorem w_dgetK (hu : X.A.units + 1 < cLine) (h : W C X a ρ fun x => ∃ ks vs, x = .dk ks vs ∧ W C X b ρ fun y => ∃ k d, y = kD k ∧ look ks vs k = some d ∧ P d) (hs : NoSl b := by exact fun _ _ => rfl) : W C X (.Subscript a b pos) ρ P :=
  .of (pe_dget hu (pe_b a) (pe_b b) hs) fun {Hb0 H0 Hb H σ} S Q q => by
    show bE X a σ H _
    refine h.use S fun v Hb1 H1 d g1 s1 hv p => ?_
    obtain ⟨ks, vs, rfl, p⟩ := p
    refine p.use (S.grow g1 s1) fun u Hb2 H2 d2 g2 s2 hu p => ?_
    obtain ⟨k, d, rfl, hl, p⟩ := p
    cases hv with
    | dk h1 h2 h3 =>
      obtain ⟨w, hw, hd⟩ := look_val h3 hl
      have e := kD_v hu
      subst e
      refine ⟨_, w, rfl, ?_, q w Hb2 H2 d (g1.trans g2) s2 (hd.mono g2.b) p⟩
      rw [← hw]
      exact DGet.k (s2 _ _ (g2.b _ _ h1))
theorem w_dgetT (hu : X.A.units + 1 < cLine) (h : W C X a ρ fun x => ∃ ks vs, x = .dt ks vs ∧ W C X b ρ fun y => ∃ k d, y = .tup (k.map kD) ∧ look ks vs k = some d ∧ P d) (hs : NoSl b := by exact fun _ _ => rfl) : W C X (.Subscript a b pos) ρ P :=
  .of (pe_dget hu (pe_b a) (pe_b b) hs) fun {Hb0 H0 Hb H σ} S Q q => by
    show bE X a σ H _
    refine h.use S fun v Hb1 H1 d g1 s1 hv p => ?_
    obtain ⟨ks, vs, rfl, p⟩ := p
    refine p.use (S.grow g1 s1) fun u Hb2 H2 d2 g2 s2 hu p => ?_
    obtain ⟨k, d, rfl, hl, p⟩ := p
    cases hv with
    | dt h1 h2 h3 =>
      obtain ⟨w, hw, hd⟩ := look_val h3 hl
      cases hu with
      | tup h4 h5 =>
        have e := kDs_v h5
        subst e
        refine ⟨_, w, rfl, ?_, q w Hb2 H2 d (g1.trans g2) s2 (hd.mono g2.b) p⟩
        rw [← hw]
        exact DGet.t (s2 _ _ (g2.b _ _ h1)) (s2 _ _ h4)
end
/-! ### sums and conditions -/
inductive SumT where
  | num (n : Int) | leaf (t x : Str) | plus (a b : SumT) | less (a b : SumT)
namespace SumT
def enc : SumT → D
  | num n => .tup [.str "number", .int n]
  | leaf t x => .tup [.str t, .str x]
  | plus a b => .tup [.str "plus", a.enc, b.enc]
  | less a b => .tup [.str "less", a.enc, b.enc]
def eval (m : Str → Str → Int) : SumT → Int
  | num n => n
  | leaf t x => m t x
  | plus a b => a.eval m + b.eval m
  | less a b => a.eval m - b.eval m
def all (p : Str → Str → Prop) : SumT → Prop
  | num _ => True
  | leaf t x => p t x
  | plus a b => a.all p ∧ b.all p
  | less a b => a.all p ∧ b.all p
def dep : SumT → Nat
  | num _ => 0
  | leaf _ _ => 0
  | plus a b => max a.dep b.dep + 1
  | less a b => max a.dep b.dep + 1
theorem all_mono {p q : Str → Str → Prop} (h : ∀ t x, p t x → q t x) : ∀ {s : SumT}, s.all p → s.all q
  | num _, _ => trivial
  | leaf _ _, k => h _ _ k
  | plus _ _, k => ⟨all_mono h k.1, all_mono h k.2⟩
  | less _ _, k => ⟨all_mono h k.1, all_mono h k.2⟩
end SumT
inductive CndT where
  | yes | no (c : CndT) | both (c d : CndT) | same (a b : SumT) | under (a b : SumT)
namespace CndT
def enc : CndT → D
  | yes => .tup [.str "yes"]
  | no c => .tup [.str "not", c.enc]
  | both c d => .tup [.str "both", c.enc, d.enc]
  | same a b => .tup [.str "same", a.enc, b.enc]
  | under a b => .tup [.str "under", a.enc, b.enc]
def eval (m : Str → Str → Int) : CndT → Bool
  | yes => true
  | no c => !c.eval m
  | both c d => c.eval m && d.eval m
  | same a b => decide (a.eval m = b.eval m)
  | under a b => decide (a.eval m < b.eval m)
def all (p : Str → Str → Prop) : CndT → Prop
  | yes => True
  | no c => c.all p
  | both c d => c.all p ∧ d.all p
  | same a b => a.all p ∧ b.all p
  | under a b => a.all p ∧ b.all p
def dep : CndT → Nat
  | yes => 0
  | no c => c.dep + 1
  | both c d => max c.dep d.dep + 1
  | same a b => max a.dep b.dep + 1
  | under a b => max a.dep b.dep + 1
theorem all_mono {p q : Str → Str → Prop} (h : ∀ t x, p t x → q t x) : ∀ {s : CndT}, s.all p → s.all q
  | yes, _ => trivial
  | no c, k => all_mono (s := c) h k
  | both _ _, k => ⟨all_mono h k.1, all_mono h k.2⟩
  | same _ _, k => ⟨SumT.all_mono h k.1, SumT.all_mono h k.2⟩
  | under _ _, k => ⟨SumT.all_mono h k.1, SumT.all_mono h k.2⟩
end CndT
end TW
set_option Elab.async false
set_option linter.all false
set_option maxRecDepth 100000
set_option maxHeartbeats 4000000
/-! The text by places, the names by slots. -/
namespace TW
open PySem L2 PyProof.Rows
def topS (i : Nat) : Stmt := PySem.Challenge.pw_twinwalk_k23_whole_entries_that_count.main.body.getD i (.Pass ⟨0, 0, 0, 0⟩)
abbrev sNamesOf : Stmt := topS 6
abbrev nNamesOf : List Str := ["program", "name", "size"]
theorem scNamesOf : FnScope nNamesOf ["program"] (defScope sNamesOf) := ⟨rfl, rfl, rfl, by decide +kernel, rfl, by decide +kernel, by decide +kernel⟩
abbrev sWorthIn : Stmt := topS 7
abbrev nWorthIn : List Str := ["known", "told"]
theorem scWorthIn : FnScope nWorthIn ["known", "told"] (defScope sWorthIn) := ⟨rfl, rfl, rfl, by decide +kernel, rfl, by decide +kernel, by decide +kernel⟩
abbrev sHoldsIn : Stmt := topS 8
abbrev nHoldsIn : List Str := ["known", "condition", "one", "other"]
theorem scHoldsIn : FnScope nHoldsIn ["known", "condition"] (defScope sHoldsIn) := ⟨rfl, rfl, rfl, by decide +kernel, rfl, by decide +kernel, by decide +kernel⟩
abbrev sNeedWorths : Stmt := topS 9
abbrev nNeedWorths : List Str := ["program", "worths", "worth", "name", "size"]
theorem scNeedWorths : FnScope nNeedWorths ["program", "worths"] (defScope sNeedWorths) := ⟨rfl, rfl, rfl, by decide +kernel, rfl, by decide +kernel, by decide +kernel⟩
abbrev sKnownBy : Stmt := topS 10
abbrev nKnownBy : List Str := ["program", "worths"]
theorem scKnownBy : FnScope nKnownBy ["program", "worths"] (defScope sKnownBy) := ⟨rfl, rfl, rfl, by decide +kernel, rfl, by decide +kernel, by decide +kernel⟩
abbrev sStepFrom : Stmt := topS 12
abbrev nStepFrom : List Str := ["program", "place", "worths", "node", "known", "found", "at"]
theorem scStepFrom : FnScope nStepFrom ["program", "place", "worths"] (defScope sStepFrom) := ⟨rfl, rfl, rfl, by decide +kernel, rfl, by decide +kernel, by decide +kernel⟩
abbrev sFirstWorths : Stmt := topS 13
abbrev nFirstWorths : List Str := ["program", "inputs", "sizes", "worth", "name", "given"]
theorem scFirstWorths : FnScope nFirstWorths ["program", "inputs"] (defScope sFirstWorths) := ⟨rfl, rfl, rfl, by decide +kernel, rfl, by decide +kernel, by decide +kernel⟩
abbrev sEveryInput : Stmt := topS 14
abbrev nEveryInput : List Str := ["program", "sizes", "found", "name", "longer", "row", "worth"]
theorem scEveryInput : FnScope nEveryInput ["program"] (defScope sEveryInput) := ⟨rfl, rfl, rfl, by decide +kernel, rfl, by decide +kernel, by decide +kernel⟩
abbrev sSizesOf : Stmt := topS 16
abbrev nSizesOf : List Str := ["program"]
theorem scSizesOf : FnScope nSizesOf ["program"] (defScope sSizesOf) := ⟨rfl, rfl, rfl, by decide +kernel, rfl, by decide +kernel, by decide +kernel⟩
abbrev sNeedPair : Stmt := topS 17
abbrev nNeedPair : List Str := ["one", "other", "mine", "yours", "name"]
theorem scNeedPair : FnScope nNeedPair ["one", "other"] (defScope sNeedPair) := ⟨rfl, rfl, rfl, by decide +kernel, rfl, by decide +kernel, by decide +kernel⟩
abbrev sBoxesBetween : Stmt := topS 18
abbrev nBoxesBetween : List Str := ["thing", "found", "part"]
theorem scBoxesBetween : FnScope nBoxesBetween ["thing"] (defScope sBoxesBetween) := ⟨rfl, rfl, rfl, by decide +kernel, rfl, by decide +kernel, by decide +kernel⟩
abbrev sNamesKnown : Stmt := topS 19
abbrev nNamesKnown : List Str := ["one", "other", "thing", "known", "name", "size", "box"]
theorem scNamesKnown : FnScope nNamesKnown ["one", "other", "thing"] (defScope sNamesKnown) := ⟨rfl, rfl, rfl, by decide +kernel, rfl, by decide +kernel, by decide +kernel⟩
abbrev sSideBySide : Stmt := topS 20
abbrev nSideBySide : List Str := ["one", "other", "mine", "yours", "found", "name", "size", "worth"]
theorem scSideBySide : FnScope nSideBySide ["one", "other", "mine", "yours"] (defScope sSideBySide) := ⟨rfl, rfl, rfl, by decide +kernel, rfl, by decide +kernel, by decide +kernel⟩
abbrev sBetweenWorth : Stmt := topS 21
abbrev nBetweenWorth : List Str := ["thing", "boxes"]
theorem scBetweenWorth : FnScope nBetweenWorth ["thing", "boxes"] (defScope sBetweenWorth) := ⟨rfl, rfl, rfl, by decide +kernel, rfl, by decide +kernel, by decide +kernel⟩
abbrev sBetweenHolds : Stmt := topS 22
abbrev nBetweenHolds : List Str := ["thing", "boxes", "first", "second"]
theorem scBetweenHolds : FnScope nBetweenHolds ["thing", "boxes"] (defScope sBetweenHolds) := ⟨rfl, rfl, rfl, by decide +kernel, rfl, by decide +kernel, by decide +kernel⟩
abbrev sNeedBetween : Stmt := topS 23
abbrev nNeedBetween : List Str := ["one", "other", "mine", "yours", "thing"]
theorem scNeedBetween : FnScope nNeedBetween ["one", "other", "mine", "yours", "thing"] (defScope sNeedBetween) := ⟨rfl, rfl, rfl, by decide +kernel, rfl, by decide +kernel, by decide +kernel⟩
abbrev sHoldsBetween : Stmt := topS 24
abbrev nHoldsBetween : List Str := ["one", "other", "mine", "yours", "condition"]
theorem scHoldsBetween : FnScope nHoldsBetween ["one", "other", "mine", "yours", "condition"] (defScope sHoldsBetween) := ⟨rfl, rfl, rfl, by decide +kernel, rfl, by decide +kernel, by decide +kernel⟩
abbrev sEveryWorths : Stmt := topS 27
abbrev nEveryWorths : List Str := ["program", "found", "name", "size", "longer", "worths", "worth"]
theorem scEveryWorths : FnScope nEveryWorths ["program"] (defScope sEveryWorths) := ⟨rfl, rfl, rfl, by decide +kernel, rfl, by decide +kernel, by decide +kernel⟩
abbrev sIsEntry : Stmt := topS 28
abbrev nIsEntry : List Str := ["one", "other", "entry", "p", "q", "condition", "who", "wait"]
theorem scIsEntry : FnScope nIsEntry ["one", "other", "entry"] (defScope sIsEntry) := ⟨rfl, rfl, rfl, by decide +kernel, rfl, by decide +kernel, by decide +kernel⟩
abbrev sByPlaces : Stmt := topS 29
abbrev nByPlaces : List Str := ["paper", "found", "number"]
theorem scByPlaces : FnScope nByPlaces ["paper"] (defScope sByPlaces) := ⟨rfl, rfl, rfl, by decide +kernel, rfl, by decide +kernel, by decide +kernel⟩
abbrev sWalkerInit : Stmt := inClass (topS 30) 0
abbrev nWalkerInit : List Str := ["self", "one", "other", "paper"]
theorem scWalkerInit : FnScope nWalkerInit ["self", "one", "other", "paper"] (defScope sWalkerInit) := ⟨rfl, rfl, rfl, by decide +kernel, rfl, by decide +kernel, by decide +kernel⟩
abbrev sWalkerCounting : Stmt := inClass (topS 30) 1
abbrev nWalkerCounting : List Str := ["self", "place", "p", "q", "mine", "yours", "boxes", "number"]
theorem scWalkerCounting : FnScope nWalkerCounting ["self", "place"] (defScope sWalkerCounting) := ⟨rfl, rfl, rfl, by decide +kernel, rfl, by decide +kernel, by decide +kernel⟩
abbrev sWalkerWaitAt : Stmt := inClass (topS 30) 2
abbrev nWalkerWaitAt : List Str := ["self", "number", "place", "p", "q", "mine", "yours", "boxes"]
theorem scWalkerWaitAt : FnScope nWalkerWaitAt ["self", "number", "place"] (defScope sWalkerWaitAt) := ⟨rfl, rfl, rfl, by decide +kernel, rfl, by decide +kernel, by decide +kernel⟩
abbrev sWalkerBehind : Stmt := inClass (topS 30) 3
abbrev nWalkerBehind : List Str := ["self", "who", "place", "p", "q", "mine", "yours", "mine_step", "yours_step"]
theorem scWalkerBehind : FnScope nWalkerBehind ["self", "who", "place"] (defScope sWalkerBehind) := ⟨rfl, rfl, rfl, by decide +kernel, rfl, by decide +kernel, by decide +kernel⟩
abbrev sWalkerIsWell : Stmt := inClass (topS 30) 4
abbrev nWalkerIsWell : List Str := ["self", "number", "place", "who", "wait", "ends", "there", "later"]
theorem scWalkerIsWell : FnScope nWalkerIsWell ["self", "number", "place"] (defScope sWalkerIsWell) := ⟨rfl, rfl, rfl, by decide +kernel, rfl, by decide +kernel, by decide +kernel⟩
abbrev sEveryPlace : Stmt := topS 31
abbrev nEveryPlace : List Str := ["one", "other", "paper", "mine_worths", "yours_worths", "found", "p", "q", "mine", "yours"]
theorem scEveryPlace : FnScope nEveryPlace ["one", "other", "paper"] (defScope sEveryPlace) := ⟨rfl, rfl, rfl, by decide +kernel, rfl, by decide +kernel, by decide +kernel⟩
abbrev sPaperShows : Stmt := topS 32
abbrev nPaperShows : List Str := ["one", "other", "paper", "entry", "walker", "inputs", "place", "number"]
theorem scPaperShows : FnScope nPaperShows ["one", "other", "paper"] (defScope sPaperShows) := ⟨rfl, rfl, rfl, by decide +kernel, rfl, by decide +kernel, by decide +kernel⟩
abbrev sEntryWorths : Stmt := topS 33
abbrev nEntryWorths : List Str := ["one", "other", "paper", "number", "walker", "p", "q", "found", "mine", "yours"]
theorem scEntryWorths : FnScope nEntryWorths ["one", "other", "paper", "number"] (defScope sEntryWorths) := ⟨rfl, rfl, rfl, by decide +kernel, rfl, by decide +kernel, by decide +kernel⟩
abbrev sLawCellAt : Stmt := topS 35
abbrev nLawCellAt : List Str := ["script", "k"]
theorem scLawCellAt : FnScope nLawCellAt ["script", "k"] (defScope sLawCellAt) := ⟨rfl, rfl, rfl, by decide +kernel, rfl, by decide +kernel, by decide +kernel⟩
abbrev sLawNumbers : Stmt := topS 36
abbrev nLawNumbers : List Str := ["cell", "many", "base", "row", "rest", "k", "stir"]
theorem scLawNumbers : FnScope nLawNumbers ["cell", "many", "base"] (defScope sLawNumbers) := ⟨rfl, rfl, rfl, by decide +kernel, rfl, by decide +kernel, by decide +kernel⟩
abbrev sLawSum : Stmt := topS 37
abbrev nLawSum : List Str := ["row", "names", "number", "some", "name", "one", "other", "way"]
theorem scLawSum : FnScope nLawSum ["row", "names"] (defScope sLawSum) := ⟨rfl, rfl, rfl, by decide +kernel, rfl, by decide +kernel, by decide +kernel⟩
abbrev sLawCondition : Stmt := topS 38
abbrev nLawCondition : List Str := ["row", "names", "one", "other", "way"]
theorem scLawCondition : FnScope nLawCondition ["row", "names"] (defScope sLawCondition) := ⟨rfl, rfl, rfl, by decide +kernel, rfl, by decide +kernel, by decide +kernel⟩
abbrev sLawNode : Stmt := topS 39
abbrev nLawNode : List Str := ["row", "names", "many", "after", "way"]
theorem scLawNode : FnScope nLawNode ["row", "names", "many"] (defScope sLawNode) := ⟨rfl, rfl, rfl, by decide +kernel, rfl, by decide +kernel, by decide +kernel⟩
abbrev sLawBoxes : Stmt := topS 40
abbrev nLawBoxes : List Str := ["number", "sizes", "names", "boxes", "k", "inputs"]
theorem scLawBoxes : FnScope nLawBoxes ["number"] (defScope sLawBoxes) := ⟨rfl, rfl, rfl, by decide +kernel, rfl, by decide +kernel, by decide +kernel⟩
abbrev sLawProgram : Stmt := topS 41
abbrev nLawProgram : List Str := ["script", "most", "head", "boxes", "inputs", "names", "name", "size", "cells", "far", "k", "nodes", "cell"]
theorem scLawProgram : FnScope nLawProgram ["script", "most"] (defScope sLawProgram) := ⟨rfl, rfl, rfl, by decide +kernel, rfl, by decide +kernel, by decide +kernel⟩
abbrev sLawRenamed : Stmt := topS 42
abbrev nLawRenamed : List Str := ["thing", "called", "part"]
theorem scLawRenamed : FnScope nLawRenamed ["thing", "called"] (defScope sLawRenamed) := ⟨rfl, rfl, rfl, by decide +kernel, rfl, by decide +kernel, by decide +kernel⟩
abbrev sLawNodeAs : Stmt := topS 43
abbrev nLawNodeAs : List Str := ["node", "called", "places"]
theorem scLawNodeAs : FnScope nLawNodeAs ["node", "called", "places"] (defScope sLawNodeAs) := ⟨rfl, rfl, rfl, by decide +kernel, rfl, by decide +kernel, by decide +kernel⟩
abbrev sLawMadeOver : Stmt := topS 44
abbrev nLawMadeOver : List Str := ["program", "row", "boxes", "inputs", "nodes", "called", "name", "size", "many", "skipped", "left", "k", "order", "places", "behind", "found", "turned"]
theorem scLawMadeOver : FnScope nLawMadeOver ["program", "row"] (defScope sLawMadeOver) := ⟨rfl, rfl, rfl, by decide +kernel, rfl, by decide +kernel, by decide +kernel⟩
abbrev sLawSkip : Stmt := topS 45
abbrev nLawSkip : List Str := ["boxes", "called", "number", "after", "name"]
theorem scLawSkip : FnScope nLawSkip ["boxes", "called", "number", "after"] (defScope sLawSkip) := ⟨rfl, rfl, rfl, by decide +kernel, rfl, by decide +kernel, by decide +kernel⟩
abbrev sLawAllSame : Stmt := topS 46
abbrev nLawAllSame : List Str := ["boxes", "called", "found", "name", "size"]
theorem scLawAllSame : FnScope nLawAllSame ["boxes", "called"] (defScope sLawAllSame) := ⟨rfl, rfl, rfl, by decide +kernel, rfl, by decide +kernel, by decide +kernel⟩
abbrev sLawGoodPaper : Stmt := topS 47
abbrev nLawGoodPaper : List Str := ["program", "called", "places", "behind", "same", "found", "p", "who"]
theorem scLawGoodPaper : FnScope nLawGoodPaper ["program", "called", "places", "behind"] (defScope sLawGoodPaper) := ⟨rfl, rfl, rfl, by decide +kernel, rfl, by decide +kernel, by decide +kernel⟩
abbrev sLawSpoilt : Stmt := topS 48
abbrev nLawSpoilt : List Str := ["paper", "row", "boxes", "at", "p", "q", "condition", "who", "wait", "some", "one", "other", "wider", "way", "entry"]
theorem scLawSpoilt : FnScope nLawSpoilt ["paper", "row", "boxes"] (defScope sLawSpoilt) := ⟨rfl, rfl, rfl, by decide +kernel, rfl, by decide +kernel, by decide +kernel⟩
abbrev sLawBoxesOf : Stmt := topS 49
abbrev nLawBoxesOf : List Str := ["one", "other", "mine", "name", "size"]
theorem scLawBoxesOf : FnScope nLawBoxesOf ["one", "other"] (defScope sLawBoxesOf) := ⟨rfl, rfl, rfl, by decide +kernel, rfl, by decide +kernel, by decide +kernel⟩
abbrev sLawWorths : Stmt := topS 50
abbrev nLawWorths : List Str := ["program", "found", "name", "size", "longer", "row", "worth"]
theorem scLawWorths : FnScope nLawWorths ["program"] (defScope sLawWorths) := ⟨rfl, rfl, rfl, by decide +kernel, rfl, by decide +kernel, by decide +kernel⟩
abbrev sLawPlaced : Stmt := topS 51
abbrev nLawPlaced : List Str := ["one", "other", "paper", "place", "told", "number", "k"]
theorem scLawPlaced : FnScope nLawPlaced ["one", "other", "paper", "place"] (defScope sLawPlaced) := ⟨rfl, rfl, rfl, by decide +kernel, rfl, by decide +kernel, by decide +kernel⟩
abbrev sLawAny : Stmt := topS 52
abbrev nLawAny : List Str := ["one", "other", "paper", "place", "conditions", "entry", "found", "mine", "yours", "some"]
theorem scLawAny : FnScope nLawAny ["one", "other", "paper", "place"] (defScope sLawAny) := ⟨rfl, rfl, rfl, by decide +kernel, rfl, by decide +kernel, by decide +kernel⟩
abbrev sLawResized : Stmt := topS 53
abbrev nLawResized : List Str := ["program", "number", "boxes", "inputs", "nodes", "name", "size"]
theorem scLawResized : FnScope nLawResized ["program", "number"] (defScope sLawResized) := ⟨rfl, rfl, rfl, by decide +kernel, rfl, by decide +kernel, by decide +kernel⟩
abbrev sLaw : Stmt := topS 54
abbrev nLaw : List Str := ["script", "one", "row", "other", "called", "places", "behind", "paper", "boxes", "k", "place", "entry", "at", "p", "q", "condition", "who", "wait", "some", "more", "halves", "parted", "told", "whole"]
theorem scLaw : FnScope nLaw ["script"] (defScope sLaw) := ⟨rfl, rfl, rfl, by decide +kernel, rfl, by decide +kernel, by decide +kernel⟩
end TW
set_option Elab.async false
set_option linter.all false
set_option maxRecDepth 100000
set_option maxHeartbeats 4000000
namespace TW
open PySem L2 PyProof.Rows
theorem if_t {b : Bool} {A B : Prop} (h : b = true) (a : A) : if b = true then A else B := by rw [if_pos h]; exact a
theorem if_f {b : Bool} {A B : Prop} (h : b = false) (a : B) : if b = true then A else B := by subst h; exact a
/-- both ways of a test -/
theorem if_2 {b : Bool} {A B : Prop} (h1 : b = true → A) (h2 : b = false → B) : if b = true then A else B := by
  cases b with
  | true => exact h1 rfl
  | false => exact h2 rfl
theorem sz {n : Nat} (h : Nat.ble n 1000 = true) : n ≤ sizeLine := Nat.le_trans (Nat.le_of_ble_eq_true h) (by decide)
theorem szl {n : Nat} (h : n ≤ 100000) : n ≤ sizeLine := Nat.le_trans h (by decide)
theorem szt {n : Nat} (h : n < 100000) : n < sizeLine := Nat.lt_of_lt_of_le h (by decide)
section
variable {C : Addr} {X : Cx} {ρ : List Sl} {a b : Expr} {pos p2 : Pos} {P : D → Prop}
theorem w_ixN {x : Str} (h : W C X (.Name x p2) ρ fun x => ∃ ds, seqD x = some ds ∧ W C X b ρ fun y => ∃ i, y = .int i ∧ ∃ d, atI ds i = some d ∧ P d) (hs : PlainIx b := by exact fun _ _ => rfl) : W C X (.Subscript (.Name x p2) b pos) ρ P := w_ix h hs
theorem w_ixS {a c : Expr} (h : W C X (.Subscript a c p2) ρ fun x => ∃ ds, seqD x = some ds ∧ W C X b ρ fun y => ∃ i, y = .int i ∧ ∃ d, atI ds i = some d ∧ P d) (hs : PlainIx b := by exact fun _ _ => rfl) : W C X (.Subscript (.Subscript a c p2) b pos) ρ P := w_ix h hs
theorem w_ixA {a : Expr} {x : Str} (h : W C X (.Attribute a x p2) ρ fun x => ∃ ds, seqD x = some ds ∧ W C X b ρ fun y => ∃ i, y = .int i ∧ ∃ d, atI ds i = some d ∧ P d) (hs : PlainIx b := by exact fun _ _ => rfl) : W C X (.Subscript (.Attribute a x p2) b pos) ρ P := w_ix h hs
theorem w_ixD {es : List Expr} (h : W C X (.List es p2) ρ fun x => ∃ ds, seqD x = some ds ∧ W C X b ρ fun y => ∃ i, y = .int i ∧ ∃ d, atI ds i = some d ∧ P d) (hs : PlainIx b := by exact fun _ _ => rfl) : W C X (.Subscript (.List es p2) b pos) ρ P := w_ix h hs
end
section
variable {C : Addr} {X : Cx} {ρ : List Sl} {a : Expr} {pos p2 : Pos} {k : Nat} {c : Const}
theorem w_eqc {P : D → Prop} (h : W C X a ρ fun x => W C X (.Constant c k p2) ρ fun y => sOk x y = true ∧ P (.bl (sEq x y))) : W C X (.Compare a [.Eq] [.Constant c k p2] pos) ρ P := w_eq h
theorem wt_eqc {P : Bool → Prop} (h : W C X a ρ fun x => W C X (.Constant c k p2) ρ fun y => sOk x y = true ∧ P (sEq x y)) : WT C X (.Compare a [.Eq] [.Constant c k p2] pos) ρ P := wt_eq h
theorem wt_nec {P : Bool → Prop} (h : W C X a ρ fun x => W C X (.Constant c k p2) ρ fun y => sOk x y = true ∧ P (!sEq x y)) : WT C X (.Compare a [.NotEq] [.Constant c k p2] pos) ρ P := wt_ne h
end
end TW
set_option Elab.async false
set_option linter.all false
set_option maxRecDepth 100000
set_option maxHeartbeats 4000000
namespace TW
open PySem L2 PyProof.Rows
/-! ### programs and papers as data -/
inductive NdT where
  | put (x : Str) (s : SumT) (n : Nat) | say (s : SumT) (n : Nat) | test (c : CndT) (n o : Nat) | fin
namespace NdT
def enc : NdT → D
  | put x s n => .tup [.str "put", .str x, s.enc, .int n]
  | say s n => .tup [.str "say", s.enc, .int n]
  | test c n o => .tup [.str "test", c.enc, .int n, .int o]
  | fin => .tup [.str "end"]
end NdT
structure PrT where
  boxes : List (Str × Nat)
  inputs : List Str
  nodes : List NdT
namespace PrT
def names (p : PrT) : List Str := p.boxes.map (·.1)
def sizes (p : PrT) : List Nat := p.boxes.map (·.2)
def encB (b : Str × Nat) : D := .tup [.str b.1, .int b.2]
def enc (p : PrT) : D := .tup [.lst (p.boxes.map encB), .lst (p.inputs.map D.str), .lst (p.nodes.map NdT.enc)]
end PrT
/-- the worth of a name -/
def val : List Str → List Int → Str → Int
  | n :: ns, w :: ws, x => if n = x then w else val ns ws x
  | _, _, _ => 0
def isB (ns : List Str) (t x : Str) : Prop := t = "box" ∧ x ∈ ns
namespace NdT
def ok (ns : List Str) (many : Nat) : NdT → Prop
  | put x s n => x ∈ ns ∧ s.all (isB ns) ∧ s.dep ≤ 8 ∧ n < many
  | say s n => s.all (isB ns) ∧ s.dep ≤ 8 ∧ n < many
  | test c n o => c.all (isB ns) ∧ c.dep ≤ 8 ∧ n < many ∧ o < many
  | fin => True
end NdT
/-- what the programs of the law are -/
structure PrT.Ok (p : PrT) : Prop where
  few : p.boxes.length ≤ 2
  nd : p.names.Nodup
  pos : ∀ b ∈ p.boxes, 1 ≤ b.2 ∧ b.2 ≤ 10
  lay : ∀ x ∈ p.names, PyData.strOk x = true
  ins : ∀ x ∈ p.inputs, x ∈ p.names
  fewI : p.inputs.length ≤ 2
  ndI : p.inputs.Nodup
  some : p.nodes ≠ []
  fewN : p.nodes.length ≤ 8
  node : ∀ n ∈ p.nodes, n.ok p.names p.nodes.length
/-- worths of a program's boxes -/
def PrT.fits (p : PrT) (ws : List Int) : Prop := ws.length = p.boxes.length ∧ ∀ (i : Nat) (w : Int) (b : Str × Nat), ws[i]? = some w → p.boxes[i]? = some b → 0 ≤ w ∧ w < b.2
theorem look_ints : ∀ {ns : List Str} {ws : List Int} {x : Str}, x ∈ ns → ns.length = ws.length → look (ns.map (fun n => (Sum.inr n : Key))) (ws.map D.int) (.inr x) = some (.int (val ns ws x))
  | n :: ns, w :: ws, x, h, hl => by
    show (if (Sum.inr n : Key) = .inr x then some (D.int w) else look _ _ _) = _
    by_cases e : n = x
    · subst e
      rw [if_pos rfl]
      show _ = some (D.int (if n = n then w else _))
      rw [if_pos rfl]
    · rw [if_neg (fun z => e (Sum.inr.inj z)), look_ints (ns := ns) (ws := ws) (by simpa [Ne.symm e] using h) (by simpa using hl)]
      show _ = some (D.int (if n = x then w else _))
      rw [if_neg e]
/-! ### all worths -/
def cstep (found : List (List Int)) (s : Nat) : List (List Int) := found.flatMap fun row => (List.range s).map fun w : Nat => row ++ [(w : Int)]
def combos (ss : List Nat) : List (List Int) := ss.foldl cstep [[]]
theorem combos_snoc (ss : List Nat) (s : Nat) : combos (ss ++ [s]) = cstep (combos ss) s := by simp [combos, List.foldl_append]
theorem combos_take {ss : List Nat} {i : Nat} {s : Nat} (h : ss[i]? = some s) : combos (ss.take (i + 1)) = cstep (combos (ss.take i)) s := by
  rw [List.take_add_one, h]
  exact combos_snoc _ _
theorem cstep_len (found : List (List Int)) (s : Nat) : (cstep found s).length = found.length * s := by
  unfold cstep
  induction found with
  | nil => simp
  | cons r rs ih => rw [List.flatMap_cons, List.length_append, ih]; simp [Nat.succ_mul, Nat.add_comm]
theorem fold_len : ∀ (ss : List Nat) (init : List (List Int)), (∀ s ∈ ss, s ≤ 10) → (ss.foldl cstep init).length ≤ init.length * 10 ^ ss.length
  | [], init, _ => by simp
  | s :: ss, init, h => by
    have h1 := fold_len ss (cstep init s) (fun x hx => h x (by simp [hx]))
    rw [cstep_len] at h1
    have h2 := Nat.mul_le_mul (Nat.le_refl init.length) (h s (by simp))
    rw [List.foldl_cons, List.length_cons, Nat.pow_succ]
    refine Nat.le_trans h1 (Nat.le_trans (Nat.mul_le_mul h2 (Nat.le_refl _)) ?_)
    rw [Nat.mul_assoc, Nat.mul_comm 10]
    exact Nat.le_refl _
theorem combos_len {ss : List Nat} (h : ∀ s ∈ ss, s ≤ 10) : (combos ss).length ≤ 10 ^ ss.length := by
  have := fold_len ss [[]] h
  simpa [combos] using this
theorem fold_row : ∀ (ss : List Nat) (init : List (List Int)) (k : Nat), (∀ r ∈ init, r.length = k) → ∀ r ∈ ss.foldl cstep init, r.length = k + ss.length
  | [], init, k, h, r, hr => by simpa using h r hr
  | s :: ss, init, k, h, r, hr => by
    have := fold_row ss (cstep init s) (k + 1) (fun x hx => by
      rw [cstep, List.mem_flatMap] at hx
      obtain ⟨y, hy, hx⟩ := hx
      obtain ⟨z, _, rfl⟩ := List.mem_map.mp hx
      simp [h y hy]) r hr
    rw [this, List.length_cons]
    omega
theorem combos_row {ss : List Nat} {r : List Int} (h : r ∈ combos ss) : r.length = ss.length := by
  have := fold_row ss [[]] 0 (by simp) r h
  simpa using this
theorem take_flatMap {α β : Type} {f : α → List β} {l : List α} {i : Nat} {a : α} (h : l[i]? = some a) : (l.take (i + 1)).flatMap f = (l.take i).flatMap f ++ f a := by
  rw [List.take_add_one, h]
  simp
theorem get_range {n k z : Nat} (h : (List.range n)[k]? = some z) : k < n ∧ z = k := by
  obtain ⟨h1, h2⟩ := List.getElem?_eq_some_iff.mp h
  simp at h1 h2
  exact ⟨h1, h2.symm⟩
def encW (ws : List Int) : D := .lst (ws.map D.int)
end TW
set_option Elab.async false
set_option linter.all false
set_option maxRecDepth 100000
set_option maxHeartbeats 4000000
/-! Dicts made and stored, objects, isinstance. -/
namespace TW
open PySem L2 PyProof.Rows
section
variable {C : Addr} {X : Cx} {ρ : List Sl} {O : EndD} {e e2 a b : Expr} {es : List Expr} {σ : L2.St} {Hb0 H0 Hb H : Hp} {pos pos2 ap np cp p p2 : Pos} {P : D → Prop} {K : PySem.W.Frag}
/-! ### dict(zip(xs, ys)) -/
theorem pairs_zip {P : Program} {w : World} : ∀ {ks : List Key} {ys : List V} {its its2 : List Value}, Vals (ks.map kV) its → Vals ys its2 → ks.length = ys.length →
    ∃ kvs : List (Key × Value), KV (ks.zip ys) kvs ∧ kvs.length = ks.length ∧ ∀ (i : Nat) (k v : Value), its[i]? = some k → its2[i]? = some v → ∃ kk, kvs[i]? = some (kk, v) ∧ (mixKind P w).is kk k = true
  | [], [], _, _, .nil, .nil, _ => ⟨[], .nil, rfl, fun i k v h => by simp at h⟩
  | k :: ks, y :: ys, _, _, .cons r t, .cons r' t', hl => by
    obtain ⟨kvs, h1, h2, h3⟩ := pairs_zip (P := P) (w := w) t t' (by simpa using hl)
    refine ⟨(k, _) :: kvs, .cons ⟨rfl, r'⟩ h1, by simp [h2], fun i kk v e1 e2 => ?_⟩
    cases i with
    | zero =>
      simp at e1 e2
      subst e1 e2
      exact ⟨k, rfl, kV_is r⟩
    | succ i =>
      obtain ⟨z, q1, q2⟩ := h3 i kk v (by simpa using e1) (by simpa using e2)
      exact ⟨z, by simpa using q1, q2⟩
theorem pe_dictZip {ta : TA} (hc : X.calm = true) (hm : X.mg "dict" = none) (hmz : X.mg "zip" = none) (hv : bootBuiltins "dict" = some (.type "dict")) (ha : PA X [a, b] ta) (hg : Gl X "dict") (hgz : Gl X "zip")
    (hs : starEach [a, b] X.env = (false, eval a X.env) :: starEach [b] X.env) (hpl : (backTo pos2 (starEach [b] X.env)).any (·.1) = false)
    (hs1 : starEach [.Call (.Name "zip" p2) [a, b] [] pos2] X.env = (false, eval (.Call (.Name "zip" p2) [a, b] [] pos2) X.env) :: starEach [] X.env) :
    PE X (.Call (.Name "dict" p) [.Call (.Name "zip" p2) [a, b] [] pos2] [] pos) (fun σ H Q => ta σ H fun vs H1 => ∃ (q r : Addr) (ks : List Key) (ys : List V), vs = [.ref q, .ref r] ∧ SqL X.K H1 q (ks.map kV) ∧ SqL X.K H1 r ys ∧ ks.length = ys.length ∧ ∀ d, H1 d = none → Q (.ref d) (upd H1 d (.dK (mergeK [] (ks.zip ys))))) := by
  refine ⟨fun pins s σ H Q I h => ?_⟩
  refine wpAny_Call_Name_kw (ld_blt I hg hm hv ?_ (by decide))
  refine PyProof.Rows.callWith_type1 ?_ hs1 rfl
  rw [hs1]
  show wpAny _ _ (spliced ((false, eval (.Call (.Name "zip" p2) [a, b] [] pos2) X.env) :: backTo pos [])) _ _ s
  refine Calls.spliced_cons ?_
  refine wpAny_Call_Name_kw (ld_blt I hgz hmz PyProof.Rows.boot_zip ?_ (by decide))
  refine PyProof.Rows.callWith_type1 (thn (ha.run pos2 pins s σ H _ I h) fun us s1 ⟨vs, H1, I1, r1, q1⟩ => ?_) hs hpl
  obtain ⟨q, r, ks, ys, ex, hq, hr, hl, k⟩ := q1
  subst ex
  cases r1 with
  | cons ra rr =>
    cases rr with
    | cons rb rr =>
      cases rr
      cases ra
      cases rb
      obtain ⟨its, rv, p1, hz1⟩ := I1.list hq
      obtain ⟨its2, rv2, p2, hz2⟩ := I1.list hr
      have la : q < s1.heap.objs.size := p1.lt
      have lb : r < s1.heap.objs.size := p2.lt
      have hlen := rv.length
      have hlen2 := rv2.length
      rw [List.length_map] at hlen
      refine call_zip_2 p1.isList p2.isList fun h' hz hTI hTO h1 h2 hsz hk => ?_
      refine Calls.spliced_nil ?_
      obtain ⟨kvs, q1, q2, q3⟩ := pairs_zip (P := X.prog) (w := X.w) rv rv2 hl
      have D := PySem.W.ktu_apart s1.heap.objs.size q r la lb
      refine PySem.call_dict_pairs (knd := mixKind X.prog X.w) (kvs := kvs) (PySem.PairArg.zip (prog := X.prog) (w := X.w) _ _ _ _ _ _ _ D its.toArray its2.toArray) (I.ok.hd hc) ⟨hz, hTI, ⟨_, _, hTO⟩, h1, h2, p1.isList.at fun o e => hk _ o e, p2.isList.at fun o e => hk _ o e⟩ ⟨?_, ?_⟩ ?_ fun h'' tk hd hk2 => ?_
      · simp only [List.size_toArray]
        omega
      · intro i kk v ⟨e1, e2⟩
        exact q3 i kk v (by simpa using e1) (by simpa using e2)
      · simp only [List.size_toArray]
        rw [List.length_map] at hz1
        omega
      · have kp : ∀ b o, s1.heap.get? b = some o → h''.get? b = some o := fun b o eb => by
          have hb := Heap.lt_size eb
          refine hk2 b o (fun hm => ?_) (hk b o eb)
          simp only [List.mem_cons, List.mem_nil_iff, or_false] at hm
          rcases hm with rfl | rfl | rfl | rfl <;> first | exact absurd hb (Nat.not_lt.mpr (Nat.le_add_right _ _)) | exact absurd hb (Nat.lt_irrefl _)
        have hm : ((h'.objs.size : Nat) == sysModules) = false := beq_eq_false_iff_ne.mpr (Nat.ne_of_gt (Nat.lt_of_lt_of_le I1.big (by rw [hsz]; exact Nat.le_add_right _ _)))
        have hlen : (mergeK [] (ks.zip ys)).length ≤ sizeLine := by
          refine Nat.le_trans (length_mergeK _ []) ?_
          rw [List.length_nil, Nat.zero_add, List.length_zip]
          rw [List.length_map] at hz1
          omega
        have hsz' : s1.heap.objs.size ≤ h'.objs.size := by rw [hsz]; exact Nat.le_add_right _ _
        exact ⟨.ref h'.objs.size, _, I1.laid (t' := tk) kp hsz' (show ObjOk X.prog X.w _ _ _ (.dK (mergeK [] (ks.zip ys))) from ⟨hlen, hm, merged [] kvs, KV.merge q1 .nil, hd⟩), rfl, k _ (I1.hok.fresh hsz')⟩
theorem merge_nodup : ∀ (more kvs : List (Key × V)), (more.map (·.1)).Nodup → (∀ k ∈ more.map (·.1), valV kvs k = none) → mergeK kvs more = kvs ++ more
  | [], kvs, _, _ => by simp [mergeK]
  | kv :: more, kvs, nd, hn => by
    have h1 : putK kvs kv.1 kv.2 = kvs ++ [kv] := putK_new kv.2 (hn kv.1 (by simp))
    show mergeK (putK kvs kv.1 kv.2) more = _
    rw [List.map_cons, List.nodup_cons] at nd
    rw [h1, merge_nodup more (kvs ++ [kv]) nd.2 (fun k hk => ?_), List.append_assoc]
    · rfl
    · have h2 := valV_snoc kv.1 k kv.2 kvs (hn kv.1 (by simp))
      show valV (kvs ++ [(kv.1, kv.2)]) k = none
      rw [h2, if_neg (fun e => nd.1 (by rw [← e]; exact hk))]
      exact hn k (by rw [List.map_cons]; exact List.mem_cons_of_mem _ hk)
theorem zip_keys {κ : Type} : ∀ {ks : List κ} {ys : List V}, ks.length = ys.length → (ks.zip ys).map (·.1) = ks
  | [], [], _ => rfl
  | k :: ks, y :: ys, h => by rw [List.zip_cons_cons, List.map_cons, zip_keys (by simpa using h)]
theorem merge_zip {ks : List Key} {ys : List V} (h : ks.length = ys.length) (nd : ks.Nodup) : mergeK [] (ks.zip ys) = ks.zip ys := by
  rw [merge_nodup _ [] (by rw [zip_keys h]; exact nd) (fun _ _ => rfl)]
  rfl
theorem wn_dictZip (hc : X.calm = true) (hm : X.mg "dict" = none) (hmz : X.mg "zip" = none) (hv : bootBuiltins "dict" = some (.type "dict"))
    (h : W C X a ρ fun x => ∃ ks : List Key, x = .lst (ks.map kD) ∧ W C X b ρ fun y => ∃ ds, lsD y = some ds ∧ ks.length = ds.length ∧ ks.Nodup ∧ P (.dk ks ds)) (hg : Gl X "dict" := by rfl) (hgz : Gl X "zip" := by rfl)
    (hs : starEach [a, b] X.env = (false, eval a X.env) :: starEach [b] X.env := by rfl) (hs2 : starEach [b] X.env = (false, eval b X.env) :: starEach [] X.env := by rfl) (hpl : (backTo pos2 (starEach [b] X.env)).any (·.1) = false := by rfl)
    (hs1 : starEach [.Call (.Name "zip" p2) [a, b] [] pos2] X.env = (false, eval (.Call (.Name "zip" p2) [a, b] [] pos2) X.env) :: starEach [] X.env := by rfl) : WN C X (.Call (.Name "dict" p) [.Call (.Name "zip" p2) [a, b] [] pos2] [] pos) ρ P :=
  .of (pe_dictZip hc hm hmz hv (pa_cons (pe_b a) (pa_cons (pe_b b) pa_nil hs2) hs) hg hgz hs hpl hs1) fun {Hb0 H0 Hb H σ} S Q q => by
    show bE X a σ H _
    refine h.use S fun v Hb1 H1 d g1 s1 hv p => ?_
    obtain ⟨ks, rfl, p⟩ := p
    show bE X b σ H1 _
    refine p.use (S.grow g1 s1) fun u Hb2 H2 d2 g2 s2 hu p => ?_
    obtain ⟨ds, hd, hl, nd, p⟩ := p
    cases hv with
    | lst h1 h2 =>
      have e := kDs_v h2
      subst e
      obtain ⟨pb, us, rfl, h3, h4⟩ := lsD_sq hu hd
      have hl2 : ks.length = us.length := by rw [hl, h4.length]
      refine ⟨_, pb, ks, us, rfl, SqL.of (s2 _ _ (g2.b _ _ h1)), s2.seq h3, hl2, fun r hr => ?_⟩
      rw [merge_zip hl2 nd]
      obtain ⟨g4, s4⟩ := Grow.own (o := .dK (ks.zip us)) s2 hr
      exact q r _ _ (.dk ks ds) ((g1.trans g2).trans g4) s4 ((g1.trans g2).h.free hr) (s2.free hr) ⟨us, upd_same, hl2, h4⟩ p
/-! ### dict(xs), xs a list of pairs -/
theorem paired_of : ∀ {vs : List V} {ks : List Key} {ds : List D}, ks.length = ds.length → Da K C H vs (List.zipWith (fun k d => D.tup [kD k, d]) ks ds) → ∃ (ps : List Addr) (us : List V), vs = ps.map V.ref ∧ Paired (fun q kv => SqT K H q [kV kv.1, kv.2]) ps (ks.zip us) ∧ ks.length = us.length ∧ Da K C H us ds
  | _, [], [], _, h => by cases h; exact ⟨[], [], rfl, .nil, rfl, .nil⟩
  | _, k :: ks, d :: ds, hl, h => by
    cases h with
    | cons h1 t =>
      obtain ⟨ps, us, rfl, q1, q2, q3⟩ := paired_of (by simpa using hl) t
      cases h1 with
      | tup h2 h3 =>
        obtain ⟨v, v', rfl, h4, h5⟩ := two_da h3
        rw [kD_v h4] at h2
        exact ⟨_ :: ps, v' :: us, rfl, .cons (SqT.of h2) q1, by simp [q2], .cons h5 q3⟩
theorem wn_dictP (hc : X.calm = true) (hm : X.mg "dict" = none) (hv : bootBuiltins "dict" = some (.type "dict")) (h : W C X e ρ fun x => ∃ (ks : List Key) (ds : List D), x = .lst (List.zipWith (fun k d => D.tup [kD k, d]) ks ds) ∧ ks.length = ds.length ∧ ks.Nodup ∧ P (.dk ks ds)) (hg : Gl X "dict" := by rfl)
    (he : starEach [e] X.env = (false, eval e X.env) :: starEach [] X.env := by rfl) : WN C X (.Call (.Name "dict" p) [e] [] pos) ρ P :=
  wn_ty (call_dictP hc) hm hv (wa_cons (h.mono fun d ⟨ks, ds, hn, hl, nd, pp⟩ => wa_nil fun Hb H vs Q s hvs k => by
    obtain ⟨v, rfl, hv⟩ := one_da hvs
    subst hn
    cases hv with
    | lst h1 h2 =>
      obtain ⟨ps, us, rfl, q1, q2, q3⟩ := paired_of hl h2
      refine ⟨_, ps, ks.zip us, rfl, SqL.of (s _ _ h1), Paired.mapP q1 fun a b z => same_t s z, fun r hr => ?_⟩
      rw [merge_zip q2 nd]
      obtain ⟨g4, s4⟩ := Grow.own (o := .dK (ks.zip us)) s hr
      exact k r _ _ (.dk ks ds) g4 s4 hr (s.free hr) ⟨us, upd_same, q2, q3⟩ pp) he) hg (by decide) (by decide) he rfl
theorem ownK {Hb H : Hp} {q : Addr} {ks : List Key} {vs : List V} {ds : List D} (h : H q = some (.dK (ks.zip vs))) (l : ks.length = vs.length) (t : Da K C Hb vs ds) : OwnAt K C Hb H q (.dk ks ds) := ⟨vs, h, l, t⟩
theorem ownT {Hb H : Hp} {q : Addr} {ks : List (List Key)} {vs : List V} {ds : List D} (h : H q = some (.dT (ks.zip vs))) (l : ks.length = vs.length) (t : Da K C Hb vs ds) : OwnAt K C Hb H q (.dt ks ds) := ⟨vs, h, l, t⟩
/-! ### {} and what is stored in it -/
theorem wn_dnewK (h : P (.dk [] [])) : WN C X (.Dict [] [] pos) ρ P := .of pe_dnewK fun {Hb0 H0 Hb H σ} S Q q => fun r hr => by
  obtain ⟨g4, s4⟩ := Grow.own (o := .dK []) S.sub hr
  exact q r _ _ (.dk [] []) g4 s4 hr (S.sub.free hr) ⟨[], upd_same, rfl, .nil⟩ h
theorem wn_dnewT (h : P (.dt [] [])) : WN C X (.Dict [] [] pos) ρ P := .of pe_dnewT fun {Hb0 H0 Hb H σ} S Q q => fun r hr => by
  obtain ⟨g4, s4⟩ := Grow.own (o := .dT []) S.sub hr
  exact q r _ _ (.dt [] []) g4 s4 hr (S.sub.free hr) ⟨[], upd_same, rfl, .nil⟩ h
theorem ws_dputK (i : Nat) {x : Str} {ks : List Key} {ds : List D} {sp : Pos} (hu : X.A.units + 1 < cLine) (hi : ρ[i]? = some (.ow (.dk ks ds))) (h : W C X e ρ fun d => W C X b ρ fun y => ∃ k, y = kD k ∧ ks.length < sizeLine ∧ O.nx (ρ.set i (.ow (.dk (dput ks ds k d).1 (dput ks ds k d).2))))
    (hN : X.N[i]? = some x := by rfl) (hv : Vis X.env.scope x := by first | exact Or.inl rfl | exact Or.inr (Or.inl rfl) | exact Or.inr (Or.inr rfl)) (h1 : (x == ("__debug__" : Str)) = false := by decide) (h2 : (x == ("__classdict__" : Str)) = false := by decide)
    (hs : swapsWith e (some (.Subscript (.Name x np) b sp)) pos.line X.env = pure false := by rfl) : WS C X (.Assign [.Subscript (.Name x np) b sp] e pos) ρ O :=
  .of (ps_dput hu (pe_var hN hv h1 h2) (pe_b b) (pe_b e) hs) fun {Hb0 H0 Hb H σ} S D q => by
    show bE X e σ H _
    refine h.use S fun v Hb1 H1 d g1 s1 hv p => ?_
    obtain ⟨r, hr, vs, hH, hl, t⟩ := S.at hi
    refine ⟨_, hr, ?_⟩
    refine p.use (S.grow g1 s1) fun u Hb2 H2 d2 g2 s2 hu p => ?_
    obtain ⟨k, rfl, hlen, p⟩ := p
    have e := kD_v hu
    subst e
    have g := g1.trans g2
    obtain ⟨vs', e1, e2, e3⟩ := dput_da (k := k) hl (t.mono g.b) (hv.mono g2.b)
    refine ⟨r, _, rfl, DPut.k (g.h _ _ hH) (by rw [List.length_zip]; omega), ?_⟩
    rw [e1]
    exact q.nx σ Hb2 _ _ ((S.grow g s2).write hi hr fun H' e' => ownK e' e2 e3) p
theorem ws_dputT (i : Nat) {x : Str} {ks : List (List Key)} {ds : List D} {sp : Pos} (hu : X.A.units + 1 < cLine) (hi : ρ[i]? = some (.ow (.dt ks ds))) (h : W C X e ρ fun d => W C X b ρ fun y => ∃ k : List Key, y = .tup (k.map kD) ∧ ks.length < sizeLine ∧ O.nx (ρ.set i (.ow (.dt (dput ks ds k d).1 (dput ks ds k d).2))))
    (hN : X.N[i]? = some x := by rfl) (hv : Vis X.env.scope x := by first | exact Or.inl rfl | exact Or.inr (Or.inl rfl) | exact Or.inr (Or.inr rfl)) (h1 : (x == ("__debug__" : Str)) = false := by decide) (h2 : (x == ("__classdict__" : Str)) = false := by decide)
    (hs : swapsWith e (some (.Subscript (.Name x np) b sp)) pos.line X.env = pure false := by rfl) : WS C X (.Assign [.Subscript (.Name x np) b sp] e pos) ρ O :=
  .of (ps_dput hu (pe_var hN hv h1 h2) (pe_b b) (pe_b e) hs) fun {Hb0 H0 Hb H σ} S D q => by
    show bE X e σ H _
    refine h.use S fun v Hb1 H1 d g1 s1 hv p => ?_
    obtain ⟨r, hr, vs, hH, hl, t⟩ := S.at hi
    refine ⟨_, hr, ?_⟩
    refine p.use (S.grow g1 s1) fun u Hb2 H2 d2 g2 s2 hu p => ?_
    obtain ⟨k, rfl, hlen, p⟩ := p
    cases hu with
    | tup h3 h4 =>
      have e := kDs_v h4
      subst e
      have g := g1.trans g2
      obtain ⟨vs', e1, e2, e3⟩ := dput_da (k := k) hl (t.mono g.b) (hv.mono g2.b)
      refine ⟨r, _, rfl, DPut.t (g.h _ _ hH) (s2 _ _ h3) (by rw [List.length_zip]; omega), ?_⟩
      rw [e1]
      exact q.nx σ Hb2 _ _ ((S.grow g s2).write hi hr fun H' e' => ownT e' e2 e3) p
/-- d.get(k, x) -/
theorem w_get2K (hu : X.A.units + 1 < cLine) (m : M2 X a "get" ap e e2 cp) (h : W C X a ρ fun x => ∃ ks ds, x = .dk ks ds ∧ W C X e ρ fun y => ∃ k, y = kD k ∧ W C X e2 ρ fun z => ((∃ d, look ks ds k = some d ∧ P d) ∨ (k ∉ ks ∧ P z))) : W C X (.Call (.Attribute a "get" ap) [e, e2] [] cp) ρ P :=
  .of (pe_dget2 hu (pe_b a) (pe_b e) (pe_b e2) m) fun {Hb0 H0 Hb H σ} S Q q => by
    show bE X a σ H _
    refine h.use S fun v Hb1 H1 d g1 s1 hv p => ?_
    obtain ⟨ks, ds, rfl, p⟩ := p
    cases hv with
    | dk h1 h2 h3 =>
      refine ⟨_, rfl, .inl ⟨_, .inl (s1 _ _ h1)⟩, ?_⟩
      refine p.use (S.grow g1 s1) fun u Hb2 H2 d2 g2 s2 hu p => ?_
      obtain ⟨k, rfl, p⟩ := p
      have e := kD_v hu
      subst e
      refine p.use ((S.grow g1 s1).grow g2 s2) fun z Hb3 H3 d3 g3 s3 hz p => ?_
      refine ⟨_, DGet.k (s3 _ _ (g3.b _ _ (g2.b _ _ h1))), ?_⟩
      have g := (g1.trans g2).trans g3
      rcases p with ⟨d, hl, p⟩ | ⟨hn, p⟩
      · obtain ⟨w, hw, hd⟩ := look_val h3 hl
        rw [hw]
        exact q w Hb3 H3 d g s3 ((hd.mono g2.b).mono g3.b) p
      · rw [look_none hn]
        exact q z Hb3 H3 _ g s3 hz p
theorem w_get2T (hu : X.A.units + 1 < cLine) (m : M2 X a "get" ap e e2 cp) (h : W C X a ρ fun x => ∃ ks ds, x = .dt ks ds ∧ W C X e ρ fun y => ∃ k : List Key, y = .tup (k.map kD) ∧ W C X e2 ρ fun z => ((∃ d, look ks ds k = some d ∧ P d) ∨ (k ∉ ks ∧ P z))) : W C X (.Call (.Attribute a "get" ap) [e, e2] [] cp) ρ P :=
  .of (pe_dget2 hu (pe_b a) (pe_b e) (pe_b e2) m) fun {Hb0 H0 Hb H σ} S Q q => by
    show bE X a σ H _
    refine h.use S fun v Hb1 H1 d g1 s1 hv p => ?_
    obtain ⟨ks, ds, rfl, p⟩ := p
    cases hv with
    | dt h1 h2 h3 =>
      refine ⟨_, rfl, .inr ⟨_, .inl (s1 _ _ h1)⟩, ?_⟩
      refine p.use (S.grow g1 s1) fun u Hb2 H2 d2 g2 s2 hu p => ?_
      obtain ⟨k, rfl, p⟩ := p
      refine p.use ((S.grow g1 s1).grow g2 s2) fun z Hb3 H3 d3 g3 s3 hz p => ?_
      cases hu with
      | tup h4 h5 =>
        have e := kDs_v h5
        subst e
        refine ⟨_, DGet.t (s3 _ _ (g3.b _ _ (g2.b _ _ h1))) (s3 _ _ (g3.b _ _ h4)), ?_⟩
        have g := (g1.trans g2).trans g3
        rcases p with ⟨d, hl, p⟩ | ⟨hn, p⟩
        · obtain ⟨w, hw, hd⟩ := look_val h3 hl
          rw [hw]
          exact q w Hb3 H3 d g s3 ((hd.mono g2.b).mono g3.b) p
        · rw [look_none hn]
          exact q z Hb3 H3 _ g s3 hz p
/-! ### isinstance(x, tuple) -/
def isTup : D → Bool
  | .tup _ => true
  | _ => false
def isData : D → Bool
  | .int _ => true | .str _ => true | .tup _ => true | .lst _ => true | .non => true
  | _ => false
theorem w_isTup (hm : X.mg "isinstance" = none) (hmt : X.mg "tuple" = none) (hb : bootBuiltins "isinstance" = some (.builtin "isinstance")) (hbt : bootBuiltins "tuple" = some (.type "tuple"))
    (h : W C X e ρ fun d => isData d = true ∧ P (.bl (isTup d))) (hg : Gl X "isinstance" := by rfl) (hgt : Gl X "tuple" := by rfl) (hs : starEach [e, .Name "tuple" p2] X.env = (false, eval e X.env) :: starEach [.Name "tuple" p2] X.env := by rfl) (hs2 : starEach [.Name "tuple" p2] X.env = (false, eval (.Name "tuple" p2) X.env) :: starEach [] X.env := by rfl)
    (hpl : (backTo pos (starEach [.Name "tuple" p2] X.env)).any (·.1) = false := by rfl) : W C X (.Call (.Name "isinstance" p) [e, .Name "tuple" p2] [] pos) ρ P :=
  .of (pe_callB call_isi hg hm hb (pa_cons (pe_b e) (pa_cons (pe_bltn (v := .ty "tuple") hgt hmt hbt rfl (by decide)) pa_nil hs2) hs) (by decide) (by decide) hs hpl) fun {Hb0 H0 Hb H σ} S Q q => by
    show bE X e σ H _
    refine h.use S fun v Hb2 H2 d g s hv p => ?_
    have fin : ∀ (t : String), TyOf X.K H2 v (.type t) → kitB t "tuple" = some (isTup d) → rIsi X.K [v, .ty "tuple"] H2 Q := fun t ty hk =>
      ⟨v, .ty "tuple", .type t, .type "tuple", isTup d, rfl, .ty _, .base ty, kit_ty hk, q _ Hb2 H2 _ g s (.bl _) p.2⟩
    cases hv with
    | non => exact fin "NoneType" .non (show kitB "NoneType" "tuple" = some false by decide +kernel)
    | int i => exact fin "int" (.int i) (show kitB "int" "tuple" = some false by decide +kernel)
    | str x => exact fin "str" (.str x) (show kitB "str" "tuple" = some false by decide +kernel)
    | lst h1 h2 => exact fin "list" (.lst (s _ _ h1)) (show kitB "list" "tuple" = some false by decide +kernel)
    | tup h1 h2 => exact fin "tuple" (.tup (s _ _ h1)) (show kitB "tuple" "tuple" = some true by decide +kernel)
    | _ => exact absurd p.1 Bool.false_ne_true
/-! ### objects -/
theorem lookup_zip : ∀ {fs : List Str} {vs : List V} {ds : List D} {f : Str} {d : D}, Da K C H vs ds → look fs ds f = some d → ∃ v, (fs.zip vs).lookup f = some v ∧ Dv K C H v d
  | [], _, _, _, _, _, h => by cases h
  | x :: fs, _, _, f, d, .nil, h => by cases h
  | x :: fs, _, _, f, d, .cons (v := v) h1 t, h => by
    unfold look at h
    rw [List.zip_cons_cons, List.lookup_cons]
    by_cases e : x = f
    · rw [if_pos e] at h
      cases h
      subst e
      exact ⟨v, by simp, h1⟩
    · rw [if_neg e] at h
      obtain ⟨w, h2, h3⟩ := lookup_zip t h
      have e' : (f == x) = false := beq_eq_false_iff_ne.mpr fun z => e z.symm
      exact ⟨w, by simp only [e']; exact h2, h3⟩
theorem lookup_no : ∀ {fs : List Str} {vs : List V} {f : Str}, f ∉ fs → (fs.zip vs).lookup f = none
  | [], _, _, _ => by simp
  | x :: fs, [], _, _ => by simp
  | x :: fs, v :: vs, f, h => by
    rw [List.zip_cons_cons, List.lookup_cons]
    have e' : (f == x) = false := beq_eq_false_iff_ne.mpr fun z => h (by simp [z])
    simp only [e']
    exact lookup_no fun z => h (List.mem_cons_of_mem _ z)
theorem w_fld {f : Str} (cl : Cls X.K C) (na : NoAttr X.K C f) (h : W C X e ρ fun x => ∃ fs ds d, x = .obj fs ds ∧ look fs ds f = some d ∧ P d) (hb : attributeBase e f X.env (eval e X.env) = eval e X.env := by rfl) : W C X (.Attribute e f pos) ρ P :=
  .of (pe_fld (pe_b e) hb) fun {Hb0 H0 Hb H σ} S Q q => by
    show bE X e σ H _
    refine h.use S fun v Hb2 H2 d g s hv p => ?_
    obtain ⟨fs, ds, d, rfl, hl, p⟩ := p
    cases hv with
    | obj h1 h2 h3 =>
      obtain ⟨w, hw, hd⟩ := lookup_zip h3 hl
      exact ⟨_, C, _, _, w, rfl, s _ _ h1, cl, na, hw, q w Hb2 H2 d g s hd p⟩
structure DfM (Pg : Program) (w : World) (K : PySem.W.Frag) (mg : Str → Option Value) (base : Heap) (C : Addr) (k : Nat) (x : Str) (ps : List Str) (Wf : List D → (D → Prop) → Prop) : Prop where
  ex : ∃ f fd, Meth K C x f ∧ Binds K fd ps [] ∧ FnOk Pg w K mg base CX0 k f fd ps (spD K C Wf)
theorem w_meth {pl : Sem Bool} {k k' : Nat} {x : Str} {ps : List Str} {Wf : List D → (D → Prop) → Prop} (cl : Cls X.K C) (G : DfM X.prog X.w X.K X.mg X.base C k x ps Wf) (hr : Room k' X.A) (h : W C X a ρ fun s => ∃ fs fd, s = .obj fs fd ∧ x ∉ fs ∧ WA C X (e :: es) ρ fun ds => Wf (s :: ds) P) (hk : k ≤ k' := by decide)
    (hst : starEach (e :: es) X.env = (false, eval e X.env) :: starEach es X.env := by rfl) (hpl : (backTo pos (starEach es X.env)).any (·.1) = false := by rfl)
    (ht : eval (.Call (.Attribute a x ap) (e :: es) [] pos) X.env = (do
      let ov ← eval a X.env
      standAt ap.atName
      let (f, first) ← holding [ov] (getMethod ov x pl)
      callWith pos f first (backTo pos (starEach (e :: es) X.env)) (backToKw pos (keywordEach [] X.env))) := by rfl) : W C X (.Call (.Attribute a x ap) (e :: es) [] pos) ρ P := by
  obtain ⟨f, fd, hm, hb, F⟩ := G.ex
  refine .of (pe_meth (pe_b a) cl hm F (hr.mono hk) hb .nil pass0 (pa_b (e :: es)) hst hpl ht) fun {Hb0 H0 Hb H σ} S Q q => ?_
  show bE X a σ H _
  refine h.use S fun v Hb1 H1 d g1 s1 hv p => ?_
  obtain ⟨fs, dd, rfl, hx, p⟩ := p
  have hv' := hv
  cases hv with
  | obj h1 h2 h3 =>
    refine ⟨_, _, _, rfl, s1 _ _ h1, lookup_no hx, ?_⟩
    refine p.use (S.grow g1 s1) fun vs Hb2 H2 ds g2 s2 hvs p2 => ?_
    rw [List.append_nil]
    exact ⟨Hb2, _, P, s2, .cons (hv'.mono g2.b) hvs, p2, fun z Hb3 H3 d3 g3 s3 hz p3 => q z Hb3 H3 d3 ((g1.trans g2).trans g3) s3 hz p3⟩
end
end TW
set_option Elab.async false
set_option linter.all false
set_option maxRecDepth 100000
set_option maxHeartbeats 4000000
namespace TW
open PySem L2 PyProof.Rows
/-- what is built in still is -/
structure Bl (mg : Str → Option Value) : Prop where
  len : mg "len" = none
  range : mg "range" = none
  zip : mg "zip" = none
  dict : mg "dict" = none
  int : mg "int" = none
  list : mg "list" = none
  tuple : mg "tuple" = none
  isi : mg "isinstance" = none
  all : mg "all" = none
  any : mg "any" = none
  sorted : mg "sorted" = none
  set : mg "set" = none
  max : mg "max" = none
theorem bt_dict : bootBuiltins "dict" = some (.type "dict") := by decide +kernel
theorem bt_list : bootBuiltins "list" = some (.type "list") := by decide +kernel
theorem bt_tuple : bootBuiltins "tuple" = some (.type "tuple") := by decide +kernel
theorem bt_isi : bootBuiltins "isinstance" = some (.builtin "isinstance") := by decide +kernel
theorem bt_all : bootBuiltins "all" = some (.builtin "all") := by decide +kernel
theorem bt_any : bootBuiltins "any" = some (.builtin "any") := by decide +kernel
theorem bt_sorted : bootBuiltins "sorted" = some (.builtin "sorted") := by decide +kernel
theorem bt_set : bootBuiltins "set" = some (.type "set") := by decide +kernel
theorem bt_max : bootBuiltins "max" = some (.builtin "max") := by decide +kernel
theorem get_map {α β : Type} {f : α → β} {l : List α} {i : Nat} {d : β} (h : (l.map f)[i]? = some d) : ∃ a, l[i]? = some a ∧ d = f a := by
  rw [List.getElem?_map] at h
  cases e : l[i]? with
  | none => rw [e] at h; cases h
  | some a => rw [e] at h; cases h; exact ⟨a, rfl, rfl⟩
theorem get_zipWith {α β γ : Type} {f : α → β → γ} {l : List α} {m : List β} {i : Nat} {d : γ} (h : (List.zipWith f l m)[i]? = some d) : ∃ a b, l[i]? = some a ∧ m[i]? = some b ∧ d = f a b := by
  rw [List.getElem?_zipWith] at h
  cases e1 : l[i]? with
  | none => rw [e1] at h; simp at h
  | some a =>
    cases e2 : m[i]? with
    | none => rw [e1, e2] at h; simp at h
    | some b => rw [e1, e2] at h; simp at h; exact ⟨a, b, rfl, rfl, h.symm⟩
end TW
set_option Elab.async false
set_option linter.all false
set_option maxRecDepth 100000
set_option maxHeartbeats 4000000
namespace TW
open PySem L2 PyProof.Rows
section
variable {Pg : Program} {w : World} {K : PySem.W.Frag} {mg : Str → Option Value} {base : Heap} {C : Addr}
/-- a sum's worth -/
def wfWorth (n : Nat) : List D → (D → Prop) → Prop := fun ds P => ∃ (ks : List Key) (vs : List D) (m : Str → Str → Int) (s : SumT), ds = [.dk ks vs, s.enc] ∧ s.dep ≤ n ∧ s.all (fun t x => t = "box" ∧ look ks vs (.inr x) = some (.int (m t x))) ∧ P (.int (s.eval m))
theorem ok_worth {f : Addr} {fd : FuncData} (F : Fun K "worth_in" "worth_in" sWorthIn f fd) (mgf : mg "worth_in" = some (.ref f)) (b : Binds K fd ["known", "told"] []) : ∀ n, FnOk Pg w K mg base CX0 (n + 1) f fd ["known", "told"] (spD K C (wfWorth n)) := by
  intro n
  induction n using Nat.strongRecOn with
  | ind n ih =>
    refine fn_ok F scWorthIn (fun ds P h => by obtain ⟨_, _, _, _, rfl, _⟩ := h; rfl) fun cdv A outer s H E hr ds P h => ?_
    obtain ⟨ks, vs, m, s, rfl, hn, ha, p⟩ := h
    have G : ∀ k, k < n → Df Pg w K mg base C (k + 1) "worth_in" ["known", "told"] (wfWorth k) := fun k hk => ⟨f, fd, mgf, F.kp, b, ih k hk⟩
    cases s with
    | num i =>
      (refine ws_seq ?_; refine ws_if ?_; refine wt_eqc ?_; refine w_ixN (w_var 1 rfl ⟨_, rfl, ?_⟩); refine w_int ?_; refine ⟨_, rfl, ?_⟩; refine ⟨_, rfl, ?_⟩; refine w_str ?_; refine ⟨rfl, ?_⟩; refine ws_seq ?_; refine ws_ret ?_; refine w_ixN (w_var 1 rfl ⟨_, rfl, ?_⟩); refine w_int ?_; refine ⟨_, rfl, ?_⟩; refine ⟨_, rfl, ?_⟩)
      exact p
    | leaf t x =>
      obtain ⟨rfl, hx⟩ := ha
      (refine ws_seq ?_; refine ws_if ?_; refine wt_eqc ?_; refine w_ixN (w_var 1 rfl ⟨_, rfl, ?_⟩); refine w_int ?_; refine ⟨_, rfl, ?_⟩; refine ⟨_, rfl, ?_⟩; refine w_str ?_; refine ⟨rfl, ?_⟩; refine if_f (by decide +kernel) ?_; refine ws_nil ?_; refine ws_seq ?_; refine ws_if ?_; refine wt_eqc ?_; refine w_ixN (w_var 1 rfl ⟨_, rfl, ?_⟩); refine w_int ?_; refine ⟨_, rfl, ?_⟩; refine ⟨_, rfl, ?_⟩; refine w_str ?_; refine ⟨rfl, ?_⟩; refine ws_seq ?_; refine ws_ret ?_)
      refine w_dgetK (hu_of hr) ?_
      (refine w_var 0 rfl ?_)
      refine ⟨_, _, rfl, ?_⟩
      (refine w_ixN (w_var 1 rfl ⟨_, rfl, ?_⟩); refine w_int ?_; refine ⟨_, rfl, ?_⟩; refine ⟨_, rfl, ?_⟩)
      exact ⟨.inr x, _, rfl, hx, p⟩
    | plus a b =>
      obtain ⟨k, rfl⟩ : ∃ k, n = k + 1 := ⟨n - 1, by simp [SumT.dep] at hn; omega⟩
      simp only [SumT.dep] at hn
      (refine ws_seq ?_; refine ws_if ?_; refine wt_eqc ?_; refine w_ixN (w_var 1 rfl ⟨_, rfl, ?_⟩); refine w_int ?_; refine ⟨_, rfl, ?_⟩; refine ⟨_, rfl, ?_⟩; refine w_str ?_; refine ⟨rfl, ?_⟩; refine if_f (by decide +kernel) ?_; refine ws_nil ?_; refine ws_seq ?_; refine ws_if ?_; refine wt_eqc ?_; refine w_ixN (w_var 1 rfl ⟨_, rfl, ?_⟩); refine w_int ?_; refine ⟨_, rfl, ?_⟩; refine ⟨_, rfl, ?_⟩; refine w_str ?_; refine ⟨rfl, ?_⟩; refine if_f (by decide +kernel) ?_; refine ws_nil ?_; refine ws_seq ?_; refine ws_if ?_; refine wt_eqc ?_; refine w_ixN (w_var 1 rfl ⟨_, rfl, ?_⟩); refine w_int ?_; refine ⟨_, rfl, ?_⟩; refine ⟨_, rfl, ?_⟩; refine w_str ?_; refine ⟨rfl, ?_⟩; refine ws_seq ?_; refine ws_ret ?_)
      refine w_add ?_
      refine w_call (G k (by omega)) hr ?_ (by omega)
      (refine wa_cons ?_; refine w_var 0 rfl ?_; refine wa_cons ?_; refine w_ixN (w_var 1 rfl ⟨_, rfl, ?_⟩); refine w_int ?_; refine ⟨_, rfl, ?_⟩; refine ⟨_, rfl, ?_⟩; refine wa_nil ?_)
      refine ⟨_, _, m, a, rfl, by omega, ha.1, _, rfl, ?_⟩
      refine w_call (G k (by omega)) hr ?_ (by omega)
      (refine wa_cons ?_; refine w_var 0 rfl ?_; refine wa_cons ?_; refine w_ixN (w_var 1 rfl ⟨_, rfl, ?_⟩); refine w_int ?_; refine ⟨_, rfl, ?_⟩; refine ⟨_, rfl, ?_⟩; refine wa_nil ?_)
      exact ⟨_, _, m, _, rfl, by omega, ha.2, _, rfl, p⟩
    | less a b => 
      obtain ⟨k, rfl⟩ : ∃ k, n = k + 1 := ⟨n - 1, by simp [SumT.dep] at hn; omega⟩
      simp only [SumT.dep] at hn
      (refine ws_seq ?_; refine ws_if ?_; refine wt_eqc ?_; refine w_ixN (w_var 1 rfl ⟨_, rfl, ?_⟩); refine w_int ?_; refine ⟨_, rfl, ?_⟩; refine ⟨_, rfl, ?_⟩; refine w_str ?_; refine ⟨rfl, ?_⟩; refine if_f (by decide +kernel) ?_; refine ws_nil ?_; refine ws_seq ?_; refine ws_if ?_; refine wt_eqc ?_; refine w_ixN (w_var 1 rfl ⟨_, rfl, ?_⟩); refine w_int ?_; refine ⟨_, rfl, ?_⟩; refine ⟨_, rfl, ?_⟩; refine w_str ?_; refine ⟨rfl, ?_⟩; refine if_f (by decide +kernel) ?_; refine ws_nil ?_; refine ws_seq ?_; refine ws_if ?_; refine wt_eqc ?_; refine w_ixN (w_var 1 rfl ⟨_, rfl, ?_⟩); refine w_int ?_; refine ⟨_, rfl, ?_⟩; refine ⟨_, rfl, ?_⟩; refine w_str ?_; refine ⟨rfl, ?_⟩; refine if_f (by decide +kernel) ?_; refine ws_nil ?_; refine ws_seq ?_; refine ws_ret ?_; refine w_sub ?_)
      refine w_call (G k (by omega)) hr ?_ (by omega)
      (refine wa_cons ?_; refine w_var 0 rfl ?_; refine wa_cons ?_; refine w_ixN (w_var 1 rfl ⟨_, rfl, ?_⟩); refine w_int ?_; refine ⟨_, rfl, ?_⟩; refine ⟨_, rfl, ?_⟩; refine wa_nil ?_)
      refine ⟨_, _, m, a, rfl, by omega, ha.1, _, rfl, ?_⟩
      refine w_call (G k (by omega)) hr ?_ (by omega)
      (refine wa_cons ?_; refine w_var 0 rfl ?_; refine wa_cons ?_; refine w_ixN (w_var 1 rfl ⟨_, rfl, ?_⟩); refine w_int ?_; refine ⟨_, rfl, ?_⟩; refine ⟨_, rfl, ?_⟩; refine wa_nil ?_)
      exact ⟨_, _, m, _, rfl, by omega, ha.2, _, rfl, p⟩
end
end TW
set_option Elab.async false
set_option linter.all false
set_option maxRecDepth 100000
set_option maxHeartbeats 4000000
namespace TW
open PySem L2 PyProof.Rows
section
variable {Pg : Program} {w : World} {K : PySem.W.Frag} {mg : Str → Option Value} {base : Heap} {C : Addr}
def wfNames : List D → (D → Prop) → Prop := fun ds P => ∃ p : PrT, ds = [p.enc] ∧ p.boxes.length ≤ 2 ∧ P (.lst (p.names.map D.str))
theorem ok_names {f : Addr} {fd : FuncData} (F : Fun K "names_of" "names_of" sNamesOf f fd) : FnOk Pg w K mg base CX0 1 f fd ["program"] (spD K C wfNames) := by
  refine fn_ok F scNamesOf (fun ds P h => by obtain ⟨_, rfl, _⟩ := h; rfl) fun cdv A outer s H E hr ds P h => ?_
  obtain ⟨p, rfl, hp, pp⟩ := h
  (refine ws_seq ?_; refine ws_ret ?_)
  refine WN.w (wn_lc (own := [("name", 1), ("size", 2)]) (ts := [1, 2]) rfl scNamesOf.nd (blkOk_by (N := nNamesOf) (sc := defScope sNamesOf) (by decide +kernel)) (by decide) (wi_list ?_))
  (refine w_ixN (w_var 0 rfl ⟨_, rfl, ?_⟩); refine w_int ?_; refine Exists.intro _ (And.intro rfl ?_); refine Exists.intro _ (And.intro rfl ?_))
  refine ⟨_, .inl rfl, fun i acc => acc = (p.names.take i).map D.str, rfl, fun i d acc hd ha => ?_, fun acc ha => ?_⟩
  · rw [List.getElem?_map] at hd
    cases e : p.boxes[i]? with
    | none => rw [e] at hd; cases hd
    | some b =>
      rw [e] at hd
      cases hd
      subst ha
      intro _ _ _ _ _
      refine wg_tup rfl (wgs_cons (wg_name 1 scNamesOf.nd (wgs_cons (wg_name 2 scNamesOf.nd (wgs_nil ?_))))) rfl
      intro _ _ _ _ _
      refine wts_nil (if_t rfl ?_)
      intro _ _ _ _ _
      (refine w_var 1 rfl ?_)
      refine ⟨szt (by simp [PrT.names]; omega), ?_⟩
      have e2 : p.names[i]? = some b.1 := by simp [PrT.names, e]
      show _ = (p.names.take (i + 1)).map D.str
      rw [List.take_add_one, e2]
      simp
  · rw [ha]
    rw [List.take_of_length_le (by simp [PrT.names])]
    exact pp
def wfHolds (n : Nat) : List D → (D → Prop) → Prop := fun ds P => ∃ (ks : List Key) (vs : List D) (m : Str → Str → Int) (c : CndT), ds = [.dk ks vs, c.enc] ∧ c.dep ≤ n ∧ c.all (fun t x => t = "box" ∧ look ks vs (.inr x) = some (.int (m t x))) ∧ P (.bl (c.eval m))
theorem ok_holds (Gw : ∀ n, Df Pg w K mg base C (n + 1) "worth_in" ["known", "told"] (wfWorth n)) {f : Addr} {fd : FuncData} (F : Fun K "holds_in" "holds_in" sHoldsIn f fd) (mgf : mg "holds_in" = some (.ref f)) (b : Binds K fd ["known", "condition"] []) : ∀ n, FnOk Pg w K mg base CX0 (n + 2) f fd ["known", "condition"] (spD K C (wfHolds n)) := by
  intro n
  induction n using Nat.strongRecOn with
  | ind n ih =>
    refine fn_ok F scHoldsIn (fun ds P h => by obtain ⟨_, _, _, _, rfl, _⟩ := h; rfl) fun cdv A outer s H E hr ds P h => ?_
    obtain ⟨ks, vs, m, c, rfl, hn, ha, p⟩ := h
    have G : ∀ k, k < n → Df Pg w K mg base C (k + 2) "holds_in" ["known", "condition"] (wfHolds k) := fun k hk => ⟨f, fd, mgf, F.kp, b, ih k hk⟩
    cases c with
    | yes => 
      (refine ws_seq ?_; refine ws_if ?_; refine wt_eqc ?_; refine w_ixN (w_var 1 rfl ⟨_, rfl, ?_⟩); refine w_int ?_; refine Exists.intro _ (And.intro rfl ?_); refine Exists.intro _ (And.intro rfl ?_); refine w_str ?_; refine And.intro rfl ?_; refine ws_seq ?_; refine ws_ret ?_; refine w_bl ?_)
      exact p
    | no c =>
      obtain ⟨k, rfl⟩ : ∃ k, n = k + 1 := ⟨n - 1, by simp [CndT.dep] at hn; omega⟩
      simp only [CndT.dep] at hn
      (refine ws_seq ?_; refine ws_if ?_; refine wt_eqc ?_; refine w_ixN (w_var 1 rfl ⟨_, rfl, ?_⟩); refine w_int ?_; refine Exists.intro _ (And.intro rfl ?_); refine Exists.intro _ (And.intro rfl ?_); refine w_str ?_; refine And.intro rfl ?_; refine ws_nil ?_; refine ws_seq ?_; refine ws_if ?_; refine wt_eqc ?_; refine w_ixN (w_var 1 rfl ⟨_, rfl, ?_⟩); refine w_int ?_; refine Exists.intro _ (And.intro rfl ?_); refine Exists.intro _ (And.intro rfl ?_); refine w_str ?_; refine And.intro rfl ?_; refine ws_seq ?_; refine ws_ret ?_; refine w_not ?_)
      refine w_call (G k (by omega)) hr ?_ (by omega)
      (refine wa_cons ?_; refine w_var 0 rfl ?_; refine wa_cons ?_; refine w_ixN (w_var 1 rfl ⟨_, rfl, ?_⟩); refine w_int ?_; refine Exists.intro _ (And.intro rfl ?_); refine Exists.intro _ (And.intro rfl ?_); refine wa_nil ?_)
      refine ⟨_, _, m, c, rfl, by omega, ha, _, rfl, p⟩
    | both c d =>
      obtain ⟨k, rfl⟩ : ∃ k, n = k + 1 := ⟨n - 1, by simp [CndT.dep] at hn; omega⟩
      simp only [CndT.dep] at hn
      (refine ws_seq ?_; refine ws_if ?_; refine wt_eqc ?_; refine w_ixN (w_var 1 rfl ⟨_, rfl, ?_⟩); refine w_int ?_; refine Exists.intro _ (And.intro rfl ?_); refine Exists.intro _ (And.intro rfl ?_); refine w_str ?_; refine And.intro rfl ?_; refine ws_nil ?_; refine ws_seq ?_; refine ws_if ?_; refine wt_eqc ?_; refine w_ixN (w_var 1 rfl ⟨_, rfl, ?_⟩); refine w_int ?_; refine Exists.intro _ (And.intro rfl ?_); refine Exists.intro _ (And.intro rfl ?_); refine w_str ?_; refine And.intro rfl ?_; refine ws_nil ?_; refine ws_seq ?_; refine ws_if ?_; refine wt_eqc ?_; refine w_ixN (w_var 1 rfl ⟨_, rfl, ?_⟩); refine w_int ?_; refine Exists.intro _ (And.intro rfl ?_); refine Exists.intro _ (And.intro rfl ?_); refine w_str ?_; refine And.intro rfl ?_; refine ws_seq ?_; refine ws_ret ?_; refine w_and ?_)
      refine w_call (G k (by omega)) hr ?_ (by omega)
      (refine wa_cons ?_; refine w_var 0 rfl ?_; refine wa_cons ?_; refine w_ixN (w_var 1 rfl ⟨_, rfl, ?_⟩); refine w_int ?_; refine Exists.intro _ (And.intro rfl ?_); refine Exists.intro _ (And.intro rfl ?_); refine wa_nil ?_)
      refine ⟨_, _, m, c, rfl, by omega, ha.1, _, rfl, if_2 (fun e => ?_) fun e => ?_⟩
      · (refine w_one ?_)
        refine w_call (G k (by omega)) hr ?_ (by omega)
        (refine wa_cons ?_; refine w_var 0 rfl ?_; refine wa_cons ?_; refine w_ixN (w_var 1 rfl ⟨_, rfl, ?_⟩); refine w_int ?_; refine Exists.intro _ (And.intro rfl ?_); refine Exists.intro _ (And.intro rfl ?_); refine wa_nil ?_)
        refine ⟨_, _, m, d, rfl, by omega, ha.2, ?_⟩
        have e2 : (CndT.both c d).eval m = d.eval m := by simp [CndT.eval, e]
        rw [← e2]
        exact p
      · have e2 : (CndT.both c d).eval m = false := by simp [CndT.eval, e]
        rw [← e2]
        exact p
    | same x y =>
      (refine ws_seq ?_; refine ws_if ?_; refine wt_eqc ?_; refine w_ixN (w_var 1 rfl ⟨_, rfl, ?_⟩); refine w_int ?_; refine Exists.intro _ (And.intro rfl ?_); refine Exists.intro _ (And.intro rfl ?_); refine w_str ?_; refine And.intro rfl ?_; refine ws_nil ?_; refine ws_seq ?_; refine ws_if ?_; refine wt_eqc ?_; refine w_ixN (w_var 1 rfl ⟨_, rfl, ?_⟩); refine w_int ?_; refine Exists.intro _ (And.intro rfl ?_); refine Exists.intro _ (And.intro rfl ?_); refine w_str ?_; refine And.intro rfl ?_; refine ws_nil ?_; refine ws_seq ?_; refine ws_if ?_; refine wt_eqc ?_; refine w_ixN (w_var 1 rfl ⟨_, rfl, ?_⟩); refine w_int ?_; refine Exists.intro _ (And.intro rfl ?_); refine Exists.intro _ (And.intro rfl ?_); refine w_str ?_; refine And.intro rfl ?_; refine ws_nil ?_; refine ws_seq ?_)
      refine ws_set 2 scHoldsIn.nd ?_
      refine w_call (Gw n) hr ?_ (by omega)
      (refine wa_cons ?_; refine w_var 0 rfl ?_; refine wa_cons ?_; refine w_ixN (w_var 1 rfl ⟨_, rfl, ?_⟩); refine w_int ?_; refine Exists.intro _ (And.intro rfl ?_); refine Exists.intro _ (And.intro rfl ?_); refine wa_nil ?_)
      simp only [CndT.dep] at hn
      refine ⟨_, _, m, x, rfl, by omega, ha.1, ?_⟩
      (refine ws_seq ?_)
      refine ws_set 3 scHoldsIn.nd ?_
      refine w_call (Gw n) hr ?_ (by omega)
      (refine wa_cons ?_; refine w_var 0 rfl ?_; refine wa_cons ?_; refine w_ixN (w_var 1 rfl ⟨_, rfl, ?_⟩); refine w_int ?_; refine Exists.intro _ (And.intro rfl ?_); refine Exists.intro _ (And.intro rfl ?_); refine wa_nil ?_)
      refine ⟨_, _, m, y, rfl, by omega, ha.2, ?_⟩
      (refine ws_seq ?_; refine ws_if ?_; refine wt_eqc ?_; refine w_ixN (w_var 1 rfl ⟨_, rfl, ?_⟩); refine w_int ?_; refine Exists.intro _ (And.intro rfl ?_); refine Exists.intro _ (And.intro rfl ?_); refine w_str ?_; refine And.intro rfl ?_; refine ws_seq ?_; refine ws_ret ?_)
      refine w_eq ?_
      (refine w_var 2 rfl ?_; refine w_var 3 rfl ?_; refine And.intro rfl ?_)
      exact p
    | under x y => 
      (refine ws_seq ?_; refine ws_if ?_; refine wt_eqc ?_; refine w_ixN (w_var 1 rfl ⟨_, rfl, ?_⟩); refine w_int ?_; refine Exists.intro _ (And.intro rfl ?_); refine Exists.intro _ (And.intro rfl ?_); refine w_str ?_; refine And.intro rfl ?_; refine ws_nil ?_; refine ws_seq ?_; refine ws_if ?_; refine wt_eqc ?_; refine w_ixN (w_var 1 rfl ⟨_, rfl, ?_⟩); refine w_int ?_; refine Exists.intro _ (And.intro rfl ?_); refine Exists.intro _ (And.intro rfl ?_); refine w_str ?_; refine And.intro rfl ?_; refine ws_nil ?_; refine ws_seq ?_; refine ws_if ?_; refine wt_eqc ?_; refine w_ixN (w_var 1 rfl ⟨_, rfl, ?_⟩); refine w_int ?_; refine Exists.intro _ (And.intro rfl ?_); refine Exists.intro _ (And.intro rfl ?_); refine w_str ?_; refine And.intro rfl ?_; refine ws_nil ?_; refine ws_seq ?_)
      refine ws_set 2 scHoldsIn.nd ?_
      refine w_call (Gw n) hr ?_ (by omega)
      (refine wa_cons ?_; refine w_var 0 rfl ?_; refine wa_cons ?_; refine w_ixN (w_var 1 rfl ⟨_, rfl, ?_⟩); refine w_int ?_; refine Exists.intro _ (And.intro rfl ?_); refine Exists.intro _ (And.intro rfl ?_); refine wa_nil ?_)
      simp only [CndT.dep] at hn
      refine ⟨_, _, m, x, rfl, by omega, ha.1, ?_⟩
      (refine ws_seq ?_)
      refine ws_set 3 scHoldsIn.nd ?_
      refine w_call (Gw n) hr ?_ (by omega)
      (refine wa_cons ?_; refine w_var 0 rfl ?_; refine wa_cons ?_; refine w_ixN (w_var 1 rfl ⟨_, rfl, ?_⟩); refine w_int ?_; refine Exists.intro _ (And.intro rfl ?_); refine Exists.intro _ (And.intro rfl ?_); refine wa_nil ?_)
      refine ⟨_, _, m, y, rfl, by omega, ha.2, ?_⟩
      (refine ws_seq ?_; refine ws_if ?_; refine wt_eqc ?_; refine w_ixN (w_var 1 rfl ⟨_, rfl, ?_⟩); refine w_int ?_; refine Exists.intro _ (And.intro rfl ?_); refine Exists.intro _ (And.intro rfl ?_); refine w_str ?_; refine And.intro rfl ?_; refine ws_nil ?_; refine ws_seq ?_; refine ws_ret ?_; refine w_lt ?_; refine w_var 2 rfl ?_; refine Exists.intro _ (And.intro rfl ?_); refine w_var 3 rfl ?_; refine Exists.intro _ (And.intro rfl ?_))
      exact p
end
end TW
set_option Elab.async false
set_option linter.all false
set_option maxRecDepth 100000
set_option maxHeartbeats 4000000
namespace TW
open PySem L2 PyProof.Rows
section
variable {Pg : Program} {w : World} {K : PySem.W.Frag} {mg : Str → Option Value} {base : Heap} {C : Addr}
def wfNeedW : List D → (D → Prop) → Prop := fun ds P => ∃ (p : PrT) (ws : List Int), ds = [p.enc, encW ws] ∧ p.fits ws ∧ P .non
theorem ok_needw (B : Bl mg) {f : Addr} {fd : FuncData} (F : Fun K "need_worths" "need_worths" sNeedWorths f fd) : FnOk Pg w K mg base CX0 1 f fd ["program", "worths"] (spD K C wfNeedW) := by
  refine fn_ok F scNeedWorths (fun ds P h => by obtain ⟨_, _, rfl, _⟩ := h; rfl) fun cdv A outer s H E hr ds P h => ?_
  obtain ⟨p, ws, rfl, hf, pp⟩ := h
  (refine ws_seq ?_; refine ws_if ?_)
  refine wt_ne (w_len B.len ?_)
  (refine w_var 1 rfl ?_; refine Exists.intro _ (And.intro rfl ?_))
  refine w_len B.len ?_
  (refine w_ixN (w_var 0 rfl ⟨_, rfl, ?_⟩); refine w_int ?_; refine Exists.intro _ (And.intro rfl ?_); refine Exists.intro _ (And.intro rfl ?_); refine Exists.intro _ (And.intro rfl ?_); refine And.intro rfl ?_)
  refine if_f ?_ ?_
  · simp [sEq, hf.1]
  (refine ws_nil ?_; refine ws_seq ?_)
  refine ws_for (ts := [2, 3, 4]) PassesOwn.never rfl (wi_zip B.zip ?_)
  (refine w_var 1 rfl ?_; refine Exists.intro _ (And.intro rfl ?_); refine w_ixN (w_var 0 rfl ⟨_, rfl, ?_⟩); refine w_int ?_; refine Exists.intro _ (And.intro rfl ?_); refine Exists.intro _ (And.intro rfl ?_); refine Exists.intro _ (And.intro rfl ?_))
  refine ⟨by simpa using hf.1, fun i ρ' => ∃ a b c, ρ' = [.im p.enc, .im (encW ws), a, b, c], ⟨_, _, _, rfl⟩, fun i d ρ' hd hi => ?_, fun ρ' hi => ws_nil pp⟩
  obtain ⟨a, b, c, rfl⟩ := hi
  obtain ⟨x, y, hx, hy, rfl⟩ := get_zipWith hd
  obtain ⟨v, hv, rfl⟩ := get_map hx
  obtain ⟨bx, hb, rfl⟩ := get_map hy
  refine wg_tup rfl (wgs_cons (wg_name 2 scNeedWorths.nd (wgs_cons (wg_tup rfl (wgs_cons (wg_name 3 scNeedWorths.nd (wgs_cons (wg_name 4 scNeedWorths.nd (wgs_nil (wgs_nil ?_)))))) rfl)))) rfl
  (refine ws_seq ?_; refine ws_if ?_; refine wt_not ?_)
  refine wt_chain ?_
  (refine w_int ?_; refine Exists.intro _ (And.intro rfl ?_); refine w_var 2 rfl ?_; refine Exists.intro _ (And.intro rfl ?_))
  have hh := hf.2 i v bx hv hb
  refine if_t (decide_eq_true hh.1) ?_
  (refine w_var 4 rfl ?_; refine Exists.intro _ (And.intro rfl ?_))
  refine if_f (by simp [hh.2]) ?_
  (refine ws_nil ?_; refine ws_nil ?_)
  exact ⟨_, _, _, rfl⟩
def wfKnown : List D → (D → Prop) → Prop := fun ds P => ∃ (p : PrT) (ws : List Int), ds = [p.enc, encW ws] ∧ p.boxes.length ≤ 2 ∧ p.names.Nodup ∧ ws.length = p.boxes.length ∧ P (.dk (p.names.map fun n => .inr n) (ws.map D.int))
theorem ok_known (B : Bl mg) (Gn : Df Pg w K mg base C 1 "names_of" ["program"] wfNames) {f : Addr} {fd : FuncData} (F : Fun K "known_by" "known_by" sKnownBy f fd) : FnOk Pg w K mg base CX0 2 f fd ["program", "worths"] (spD K C wfKnown) := by
  refine fn_ok F scKnownBy (fun ds P h => by obtain ⟨_, _, rfl, _⟩ := h; rfl) fun cdv A outer s H E hr ds P h => ?_
  obtain ⟨p, ws, rfl, h2, nd, hl, pp⟩ := h
  (refine ws_seq ?_; refine ws_ret ?_)
  refine WN.w (wn_dictZip rfl B.dict B.zip bt_dict ?_)
  refine w_call Gn hr ?_
  (refine wa_cons ?_; refine w_var 0 rfl ?_; refine wa_nil ?_; refine Exists.intro _ (And.intro rfl ?_))
  refine ⟨h2, p.names.map fun n => .inr n, by simp [kD], ?_⟩
  (refine w_var 1 rfl ?_; refine Exists.intro _ (And.intro rfl ?_))
  refine ⟨by simp [PrT.names, hl], ?_, pp⟩
  exact (List.pairwise_map.mpr (nd.imp fun h e => h (Sum.inr.inj e)))
def wfSizes : List D → (D → Prop) → Prop := fun ds P => ∃ (p : PrT), ds = [p.enc] ∧ p.names.Nodup ∧ P (.dk (p.names.map fun n => .inr n) (p.boxes.map fun b => D.int b.2))
theorem ok_sizes (B : Bl mg) {f : Addr} {fd : FuncData} (F : Fun K "sizes_of" "sizes_of" sSizesOf f fd) : FnOk Pg w K mg base CX0 1 f fd ["program"] (spD K C wfSizes) := by
  refine fn_ok F scSizesOf (fun ds P h => by obtain ⟨_, rfl, _⟩ := h; rfl) fun cdv A outer s H E hr ds P h => ?_
  obtain ⟨p, rfl, nd, pp⟩ := h
  (refine ws_seq ?_; refine ws_ret ?_)
  refine WN.w (wn_dictP rfl B.dict bt_dict ?_)
  (refine w_ixN (w_var 0 rfl ⟨_, rfl, ?_⟩); refine w_int ?_; refine Exists.intro _ (And.intro rfl ?_); refine Exists.intro _ (And.intro rfl ?_))
  refine ⟨p.names.map fun n => .inr n, p.boxes.map fun b => D.int b.2, ?_, by simp [PrT.names], ?_, pp⟩
  · simp [PrT.names, List.zipWith_map, PrT.encB, kD]
  · exact (List.pairwise_map.mpr (nd.imp fun h e => h (Sum.inr.inj e)))
end
end TW
set_option Elab.async false
set_option linter.all false
set_option maxRecDepth 100000
set_option maxHeartbeats 4000000
namespace TW
open PySem L2 PyProof.Rows
def PrT.sizeV (p : PrT) (x : Str) : Int := val p.names (p.boxes.map fun b => (b.2 : Int)) x
def PrT.step (p : PrT) (pl : Nat) (ws : List Int) : Option (List Int × Nat × List Int) :=
  match p.nodes[pl]? with
  | some (.say s n) => some ([s.eval fun _ x => val p.names ws x], n, ws)
  | some (.test c n o) => some ([], if c.eval (fun _ x => val p.names ws x) = true then n else o, ws)
  | some (.put x s n) => some ([], n, ws.set (placeOf p.names x) ((s.eval fun _ x => val p.names ws x) % p.sizeV x))
  | _ => none
def encStep : Option (List Int × Nat × List Int) → D
  | none => .non
  | some (a, n, ws) => .tup [.lst (a.map D.int), .int n, encW ws]
theorem val_get : ∀ {ns : List Str} {ws : List Int} {x : Str}, x ∈ ns → ns.length = ws.length → ws[placeOf ns x]? = some (val ns ws x)
  | n :: ns, w :: ws, x, h, hl => by
    unfold placeOf val
    by_cases e : n = x
    · rw [if_pos e, if_pos e]; rfl
    · rw [if_neg e, if_neg e]
      have hy : x ∈ ns := by
        rcases List.mem_cons.mp h with z | z
        · exact absurd z.symm e
        · exact z
      simpa using val_get hy (by simpa using hl)
theorem PrT.Ok.sizeP {p : PrT} (o : p.Ok) {x : Str} (h : x ∈ p.names) : 1 ≤ p.sizeV x ∧ p.sizeV x ≤ 10 := by
  have e := val_get (ws := p.boxes.map fun b => (b.2 : Int)) h (by simp [PrT.names])
  obtain ⟨b, hb, hv⟩ := get_map e
  have hv' : p.sizeV x = (b.2 : Int) := hv
  have := o.pos b (List.mem_of_getElem? hb)
  omega
section
variable {Pg : Program} {w : World} {K : PySem.W.Frag} {mg : Str → Option Value} {base : Heap} {C : Addr}
def wfStep : List D → (D → Prop) → Prop := fun ds P => ∃ (p : PrT) (pl : Nat) (ws : List Int), ds = [p.enc, .int pl, encW ws] ∧ p.Ok ∧ p.fits ws ∧ pl < p.nodes.length ∧ P (encStep (p.step pl ws))
theorem ok_step (B : Bl mg) (Gn : Df Pg w K mg base C 1 "names_of" ["program"] wfNames) (Gd : Df Pg w K mg base C 1 "need_worths" ["program", "worths"] wfNeedW) (Gk : Df Pg w K mg base C 2 "known_by" ["program", "worths"] wfKnown)
    (Gw : Df Pg w K mg base C 9 "worth_in" ["known", "told"] (wfWorth 8)) (Gh : Df Pg w K mg base C 10 "holds_in" ["known", "condition"] (wfHolds 8)) {f : Addr} {fd : FuncData} (F : Fun K "step_from" "step_from" sStepFrom f fd) : FnOk Pg w K mg base CX0 11 f fd ["program", "place", "worths"] (spD K C wfStep) := by
  refine fn_ok F scStepFrom (fun ds P h => by obtain ⟨_, _, _, rfl, _⟩ := h; rfl) fun cdv A outer s H E hr ds P h => ?_
  obtain ⟨p, pl, ws, rfl, ok, hf, hpl, pp⟩ := h
  have hnl : p.names.length = ws.length := by simp [PrT.names, hf.1]
  have lk : ∀ t x, isB p.names t x → t = "box" ∧ look (p.names.map (fun n => (Sum.inr n : Key))) (ws.map D.int) (.inr x) = some (.int (val p.names ws x)) := fun t x h => ⟨h.1, look_ints h.2 hnl⟩
  (refine ws_seq ?_)
  refine ws_expr (w_call Gd hr ?_)
  (refine wa_cons ?_; refine w_var 0 rfl ?_; refine wa_cons ?_; refine w_var 2 rfl ?_; refine wa_nil ?_)
  refine ⟨p, ws, rfl, hf, ?_⟩
  (refine ws_seq ?_)
  refine ws_set 3 scStepFrom.nd ?_
  (refine w_ixS ?_; refine w_ixN (w_var 0 rfl ⟨_, rfl, ?_⟩); refine w_int ?_; refine Exists.intro _ (And.intro rfl ?_); refine Exists.intro _ (And.intro rfl ?_); refine Exists.intro _ (And.intro rfl ?_); refine w_var 1 rfl ?_; refine Exists.intro _ (And.intro rfl ?_))
  have hn : p.nodes[pl]? = some p.nodes[pl] := List.getElem?_eq_getElem hpl
  refine ⟨_, atI_nat (by rw [List.getElem?_map, hn]; rfl), ?_⟩
  have hk := ok.node _ (List.getElem_mem hpl)
  have es : p.step pl ws = (match (some p.nodes[pl] : Option NdT) with
    | some (.say s n) => some ([s.eval fun _ x => val p.names ws x], n, ws)
    | some (.test c n o) => some ([], if c.eval (fun _ x => val p.names ws x) = true then n else o, ws)
    | some (.put x s n) => some ([], n, ws.set (placeOf p.names x) ((s.eval fun _ x => val p.names ws x) % p.sizeV x))
    | _ => none) := by unfold PrT.step; rw [hn]
  rw [es] at pp
  revert pp hk
  generalize p.nodes[pl] = nd
  intro pp hk
  (refine ws_seq ?_)
  refine ws_set 4 scStepFrom.nd ?_
  refine w_call Gk hr ?_
  (refine wa_cons ?_; refine w_var 0 rfl ?_; refine wa_cons ?_; refine w_var 2 rfl ?_; refine wa_nil ?_)
  refine ⟨p, ws, rfl, ok.few, ok.nd, hf.1, ?_⟩
  cases nd with
  | fin =>
    (refine ws_seq ?_; refine ws_if ?_; refine wt_eqc ?_; refine w_ixN (w_var 3 rfl ⟨_, rfl, ?_⟩); refine w_int ?_; refine Exists.intro _ (And.intro rfl ?_); refine Exists.intro _ (And.intro rfl ?_); refine w_str ?_; refine And.intro rfl ?_; refine ws_seq ?_; refine ws_ret ?_; refine w_non ?_)
    exact pp
  | say t n =>
    (refine ws_seq ?_; refine ws_if ?_; refine wt_eqc ?_; refine w_ixN (w_var 3 rfl ⟨_, rfl, ?_⟩); refine w_int ?_; refine Exists.intro _ (And.intro rfl ?_); refine Exists.intro _ (And.intro rfl ?_); refine w_str ?_; refine And.intro rfl ?_; refine ws_nil ?_; refine ws_seq ?_; refine ws_if ?_; refine wt_eqc ?_; refine w_ixN (w_var 3 rfl ⟨_, rfl, ?_⟩); refine w_int ?_; refine Exists.intro _ (And.intro rfl ?_); refine Exists.intro _ (And.intro rfl ?_); refine w_str ?_; refine And.intro rfl ?_; refine ws_seq ?_; refine ws_ret ?_; refine w_tup ?_; refine wa_cons ?_)
    refine WN.w (wn_lst ?_)
    (refine wa_cons ?_)
    refine w_call Gw hr ?_
    (refine wa_cons ?_; refine w_var 4 rfl ?_; refine wa_cons ?_; refine w_ixN (w_var 3 rfl ⟨_, rfl, ?_⟩); refine w_int ?_; refine Exists.intro _ (And.intro rfl ?_); refine Exists.intro _ (And.intro rfl ?_); refine wa_nil ?_)
    refine ⟨_, _, _, t, rfl, hk.2.1, t.all_mono lk hk.1, ?_⟩
    (refine wa_nil ?_; refine And.intro (sz rfl) ?_; refine wa_cons ?_; refine w_ixN (w_var 3 rfl ⟨_, rfl, ?_⟩); refine w_int ?_; refine Exists.intro _ (And.intro rfl ?_); refine Exists.intro _ (And.intro rfl ?_); refine wa_cons ?_)
    refine WN.w (wn_list B.list bt_list ?_)
    (refine w_var 2 rfl ?_; refine Exists.intro _ (And.intro rfl ?_); refine wa_nil ?_; refine And.intro (sz rfl) ?_)
    exact pp
  | test c n o =>
    (refine ws_seq ?_; refine ws_if ?_; refine wt_eqc ?_; refine w_ixN (w_var 3 rfl ⟨_, rfl, ?_⟩); refine w_int ?_; refine Exists.intro _ (And.intro rfl ?_); refine Exists.intro _ (And.intro rfl ?_); refine w_str ?_; refine And.intro rfl ?_; refine ws_nil ?_; refine ws_seq ?_; refine ws_if ?_; refine wt_eqc ?_; refine w_ixN (w_var 3 rfl ⟨_, rfl, ?_⟩); refine w_int ?_; refine Exists.intro _ (And.intro rfl ?_); refine Exists.intro _ (And.intro rfl ?_); refine w_str ?_; refine And.intro rfl ?_; refine ws_nil ?_; refine ws_seq ?_; refine ws_if ?_; refine wt_eqc ?_; refine w_ixN (w_var 3 rfl ⟨_, rfl, ?_⟩); refine w_int ?_; refine Exists.intro _ (And.intro rfl ?_); refine Exists.intro _ (And.intro rfl ?_); refine w_str ?_; refine And.intro rfl ?_; refine ws_seq ?_; refine ws_ret ?_; refine w_tup ?_; refine wa_cons ?_)
    refine WN.w (wn_lst ?_)
    (refine wa_nil ?_; refine And.intro (sz rfl) ?_; refine wa_cons ?_; refine w_ixN (w_var 3 rfl ⟨_, rfl, ?_⟩); refine w_sub ?_; refine w_int ?_; refine Exists.intro _ (And.intro rfl ?_))
    refine w_intB B.int ?_
    refine w_call Gh hr ?_
    (refine wa_cons ?_; refine w_var 4 rfl ?_; refine wa_cons ?_; refine w_ixN (w_var 3 rfl ⟨_, rfl, ?_⟩); refine w_int ?_; refine Exists.intro _ (And.intro rfl ?_); refine Exists.intro _ (And.intro rfl ?_); refine wa_nil ?_)
    refine ⟨_, _, _, c, rfl, hk.2.1, c.all_mono lk hk.1, ?_⟩
    (refine Exists.intro _ (And.intro rfl ?_); refine Exists.intro _ (And.intro rfl ?_); refine Exists.intro _ (And.intro rfl ?_))
    refine ⟨.int ((if c.eval (fun _ x => val p.names ws x) = true then n else o : Nat) : Int), ?_, ?_⟩
    · cases c.eval (fun _ x => val p.names ws x) <;> rfl
    (refine wa_cons ?_)
    refine WN.w (wn_list B.list bt_list ?_)
    (refine w_var 2 rfl ?_; refine Exists.intro _ (And.intro rfl ?_); refine wa_nil ?_; refine And.intro (sz rfl) ?_)
    exact pp
  | put x t n =>
    have hx := hk.1
    (refine ws_seq ?_; refine ws_if ?_; refine wt_eqc ?_; refine w_ixN (w_var 3 rfl ⟨_, rfl, ?_⟩); refine w_int ?_; refine Exists.intro _ (And.intro rfl ?_); refine Exists.intro _ (And.intro rfl ?_); refine w_str ?_; refine And.intro rfl ?_; refine ws_nil ?_; refine ws_seq ?_; refine ws_if ?_; refine wt_eqc ?_; refine w_ixN (w_var 3 rfl ⟨_, rfl, ?_⟩); refine w_int ?_; refine Exists.intro _ (And.intro rfl ?_); refine Exists.intro _ (And.intro rfl ?_); refine w_str ?_; refine And.intro rfl ?_; refine ws_nil ?_; refine ws_seq ?_; refine ws_if ?_; refine wt_eqc ?_; refine w_ixN (w_var 3 rfl ⟨_, rfl, ?_⟩); refine w_int ?_; refine Exists.intro _ (And.intro rfl ?_); refine Exists.intro _ (And.intro rfl ?_); refine w_str ?_; refine And.intro rfl ?_; refine ws_nil ?_; refine ws_seq ?_)
    refine ws_own 5 scStepFrom.nd (wn_list B.list bt_list ?_)
    (refine w_var 2 rfl ?_; refine Exists.intro _ (And.intro rfl ?_); refine ws_seq ?_)
    refine ws_set 6 scStepFrom.nd (w_indexS ?_)
    refine w_call Gn hr ?_
    (refine wa_cons ?_; refine w_var 0 rfl ?_; refine wa_nil ?_; refine Exists.intro _ (And.intro rfl ?_))
    refine ⟨ok.few, p.names, rfl, ?_⟩
    (refine w_ixN (w_var 3 rfl ⟨_, rfl, ?_⟩); refine w_int ?_; refine Exists.intro _ (And.intro rfl ?_); refine Exists.intro _ (And.intro rfl ?_); refine Exists.intro _ (And.intro rfl ?_))
    refine ⟨hx, ?_⟩
    (refine ws_seq ?_)
    refine ws_setItem 5 rfl ?_
    (refine w_mod ?_)
    refine w_call Gw hr ?_
    (refine wa_cons ?_; refine w_var 4 rfl ?_; refine wa_cons ?_; refine w_ixN (w_var 3 rfl ⟨_, rfl, ?_⟩); refine w_int ?_; refine Exists.intro _ (And.intro rfl ?_); refine Exists.intro _ (And.intro rfl ?_); refine wa_nil ?_)
    refine ⟨_, _, _, t, rfl, hk.2.2.1, t.all_mono lk hk.2.1, ?_⟩
    (refine Exists.intro _ (And.intro rfl ?_); refine w_ixS ?_; refine w_ixS ?_; refine w_ixN (w_var 0 rfl ⟨_, rfl, ?_⟩); refine w_int ?_; refine Exists.intro _ (And.intro rfl ?_); refine Exists.intro _ (And.intro rfl ?_); refine Exists.intro _ (And.intro rfl ?_); refine w_var 6 rfl ?_; refine Exists.intro _ (And.intro rfl ?_))
    have hp := placeOf_lt hx
    have hb : p.boxes[placeOf p.names x]? = some (p.boxes[placeOf p.names x]'(by simpa [PrT.names] using hp)) := List.getElem?_eq_getElem _
    refine ⟨_, atI_nat (by rw [List.getElem?_map, hb]; rfl), ?_⟩
    (refine Exists.intro _ (And.intro rfl ?_); refine w_int ?_; refine Exists.intro _ (And.intro rfl ?_); refine Exists.intro _ (And.intro rfl ?_); refine Exists.intro _ (And.intro rfl ?_))
    have hs : p.sizeV x = ((p.boxes[placeOf p.names x]'(by simpa [PrT.names] using hp)).2 : Int) := by
      have e := val_get (ws := p.boxes.map fun b => (b.2 : Int)) hx (by simp [PrT.names])
      rw [List.getElem?_map, hb] at e
      exact (Option.some.inj e).symm
    rw [← hs]
    refine ⟨by have := ok.sizeP hx; omega, ?_⟩
    (refine w_var 6 rfl ?_)
    refine ⟨_, placeOf p.names x, rfl, ?_, ?_⟩
    · unfold ixN
      rw [if_pos (by omega), if_pos (by simp; omega)]
      rfl
    refine wss_frz 5 rfl ?_
    (refine ws_seq ?_; refine ws_ret ?_; refine w_tup ?_; refine wa_cons ?_)
    refine WN.w (wn_lst ?_)
    (refine wa_nil ?_; refine And.intro (sz rfl) ?_; refine wa_cons ?_; refine w_ixN (w_var 3 rfl ⟨_, rfl, ?_⟩); refine w_int ?_; refine Exists.intro _ (And.intro rfl ?_); refine Exists.intro _ (And.intro rfl ?_); refine wa_cons ?_; refine w_var 5 rfl ?_; refine wa_nil ?_; refine And.intro (sz rfl) ?_)
    have e2 : encStep (some ([], n, ws.set (placeOf p.names x) ((t.eval fun _ x => val p.names ws x) % p.sizeV x))) = .tup [.lst [], .int n, .lst ((ws.map D.int).set (placeOf p.names x) (.int ((t.eval fun _ x => val p.names ws x) % p.sizeV x)))] := by
      simp [encStep, encW, List.map_set]
    have pp2 : P (encStep (some ([], n, ws.set (placeOf p.names x) ((t.eval fun _ x => val p.names ws x) % p.sizeV x)))) := pp
    rw [e2] at pp2
    exact pp2
end
end TW
set_option Elab.async false
set_option linter.all false
set_option maxRecDepth 100000
set_option maxHeartbeats 4000000
namespace TW
open PySem L2 PyProof.Rows
def PrT.first (p : PrT) (ins : List Int) : List Int := p.names.map fun x => if x ∈ p.inputs then val p.inputs ins x else 0
/-- worths of a program's inputs -/
def PrT.fitsI (p : PrT) (ins : List Int) : Prop := ins.length = p.inputs.length ∧ ∀ (i : Nat) (w : Int) (x : Str), ins[i]? = some w → p.inputs[i]? = some x → 0 ≤ w ∧ w < p.sizeV x
theorem look_size {p : PrT} {x : Str} (h : x ∈ p.names) : look (p.names.map (fun n => (Sum.inr n : Key))) (p.boxes.map fun b => D.int b.2) (.inr x) = some (.int (p.sizeV x)) := by
  have := look_ints (ns := p.names) (ws := p.boxes.map fun b => (b.2 : Int)) h (by simp [PrT.names])
  rw [List.map_map] at this
  exact this
section
variable {Pg : Program} {w : World} {K : PySem.W.Frag} {mg : Str → Option Value} {base : Heap} {C : Addr}
def wfFirst : List D → (D → Prop) → Prop := fun ds P => ∃ (p : PrT) (ins : List Int), ds = [p.enc, encW ins] ∧ p.Ok ∧ p.fitsI ins ∧ P (encW (p.first ins))
theorem ok_first (B : Bl mg) (Gn : Df Pg w K mg base C 1 "names_of" ["program"] wfNames) {f : Addr} {fd : FuncData} (F : Fun K "first_worths" "first_worths" sFirstWorths f fd) : FnOk Pg w K mg base CX0 2 f fd ["program", "inputs"] (spD K C wfFirst) := by
  refine fn_ok F scFirstWorths (fun ds P h => by obtain ⟨_, _, rfl, _⟩ := h; rfl) fun cdv A outer s H E hr ds P h => ?_
  obtain ⟨p, ins, rfl, ok, hf, pp⟩ := h
  (refine ws_seq ?_)
  refine ws_set 2 scFirstWorths.nd (WN.w (wn_dictP rfl B.dict bt_dict ?_))
  (refine w_ixN (w_var 0 rfl ⟨_, rfl, ?_⟩); refine w_int ?_; refine Exists.intro _ (And.intro rfl ?_); refine Exists.intro _ (And.intro rfl ?_))
  refine ⟨p.names.map fun n => .inr n, p.boxes.map fun b => D.int b.2, ?_, by simp [PrT.names], ?_, ?_⟩
  · simp [PrT.names, List.zipWith_map, PrT.encB, kD]
  · exact (List.pairwise_map.mpr (ok.nd.imp fun h e => h (Sum.inr.inj e)))
  (refine ws_seq ?_; refine ws_if ?_)
  refine wt_ne (w_len B.len ?_)
  (refine w_var 1 rfl ?_; refine Exists.intro _ (And.intro rfl ?_))
  refine w_len B.len ?_
  (refine w_ixN (w_var 0 rfl ⟨_, rfl, ?_⟩); refine w_int ?_; refine Exists.intro _ (And.intro rfl ?_); refine Exists.intro _ (And.intro rfl ?_); refine Exists.intro _ (And.intro rfl ?_); refine And.intro rfl ?_)
  refine if_f ?_ ?_
  · simp [sEq, hf.1]
  (refine ws_nil ?_; refine ws_seq ?_)
  refine ws_for (ts := [3, 4]) PassesOwn.never rfl (wi_zip B.zip ?_)
  (refine w_var 1 rfl ?_; refine Exists.intro _ (And.intro rfl ?_); refine w_ixN (w_var 0 rfl ⟨_, rfl, ?_⟩); refine w_int ?_; refine Exists.intro _ (And.intro rfl ?_); refine Exists.intro _ (And.intro rfl ?_); refine Exists.intro _ (And.intro rfl ?_))
  refine ⟨by simpa using hf.1, fun i ρ' => ∃ a b c, ρ' = [.im p.enc, .im (encW ins), .im (.dk (p.names.map fun n => .inr n) (p.boxes.map fun b => D.int b.2)), a, b, c], ⟨_, _, _, rfl⟩, fun i d ρ' hd hi => ?_, fun ρ' hi => ?_⟩
  · obtain ⟨a, b, c, rfl⟩ := hi
    obtain ⟨x, y, hx, hy, rfl⟩ := get_zipWith hd
    obtain ⟨v, hv, rfl⟩ := get_map hx
    obtain ⟨nm, hn, rfl⟩ := get_map hy
    refine wg_tup rfl (wgs_cons (wg_name 3 scFirstWorths.nd (wgs_cons (wg_name 4 scFirstWorths.nd (wgs_nil ?_))))) rfl
    (refine ws_seq ?_; refine ws_if ?_; refine wt_not ?_)
    refine wt_chain ?_
    (refine w_int ?_; refine Exists.intro _ (And.intro rfl ?_); refine w_var 3 rfl ?_; refine Exists.intro _ (And.intro rfl ?_))
    have hh := hf.2 i v nm hv hn
    refine if_t (decide_eq_true hh.1) ?_
    refine w_dgetK (hu_of hr) ?_
    (refine w_var 2 rfl ?_)
    refine ⟨_, _, rfl, ?_⟩
    (refine w_var 4 rfl ?_)
    refine ⟨.inr nm, _, rfl, look_size (ok.ins nm (List.mem_of_getElem? hn)), ?_⟩
    (refine Exists.intro _ (And.intro rfl ?_))
    refine if_f (by simp [hh.2]) ?_
    (refine ws_nil ?_; refine ws_nil ?_)
    exact ⟨_, _, _, rfl⟩
  · obtain ⟨a, b, c, rfl⟩ := hi
    (refine ws_seq ?_)
    refine ws_set 5 scFirstWorths.nd (WN.w (wn_dictZip rfl B.dict B.zip bt_dict ?_))
    (refine w_ixN (w_var 0 rfl ⟨_, rfl, ?_⟩); refine w_int ?_; refine Exists.intro _ (And.intro rfl ?_); refine Exists.intro _ (And.intro rfl ?_))
    refine ⟨p.inputs.map fun n => .inr n, by simp [kD], ?_⟩
    (refine w_var 1 rfl ?_; refine Exists.intro _ (And.intro rfl ?_))
    refine ⟨by simp [hf.1], ?_, ?_⟩
    · exact (List.pairwise_map.mpr (ok.ndI.imp fun h e => h (Sum.inr.inj e)))
    (refine ws_seq ?_; refine ws_ret ?_)
    refine WN.w (wn_lc (own := [("name", 4)]) (ts := [4]) rfl scFirstWorths.nd (blkOk_by (N := nFirstWorths) (sc := defScope sFirstWorths) (by decide +kernel)) (by decide) (wi_list ?_))
    refine w_call Gn hr ?_
    (refine wa_cons ?_; refine w_var 0 rfl ?_; refine wa_nil ?_; refine Exists.intro _ (And.intro rfl ?_))
    refine ⟨ok.few, p.names.map D.str, .inl rfl, fun i acc => acc = ((p.first ins).take i).map D.int, rfl, fun i d acc hd ha => ?_, fun acc ha => ?_⟩
    · obtain ⟨nm, hn, rfl⟩ := get_map hd
      have hil : i < p.names.length := (List.getElem?_eq_some_iff.mp hn).1
      have hbl : p.names.length ≤ 2 := by simpa [PrT.names] using ok.few
      subst ha
      intro _ _ _ _ _
      refine wg_name 4 scFirstWorths.nd ?_
      intro _ _ _ _ _
      refine wts_nil (if_t rfl ?_)
      intro _ _ _ _ _
      refine w_get2K (hu_of hr) ⟨rfl, rfl, rfl, rfl⟩ ?_
      (refine w_var 5 rfl ?_)
      refine ⟨_, _, rfl, ?_⟩
      (refine w_var 4 rfl ?_)
      refine ⟨.inr nm, rfl, ?_⟩
      (refine w_int ?_)
      have e2 : (p.first ins)[i]? = some (if nm ∈ p.inputs then val p.inputs ins nm else 0) := by simp [PrT.first, hn]
      have fin : ∀ z : Int, z = (if nm ∈ p.inputs then val p.inputs ins nm else 0) → (((p.first ins).take i).map D.int).length < sizeLine ∧ ((p.first ins).take i).map D.int ++ [D.int z] = ((p.first ins).take (i + 1)).map D.int := fun z hz => by
        refine ⟨szt (by simp; omega), ?_⟩
        rw [List.take_add_one, e2, hz]
        simp
      by_cases hi : nm ∈ p.inputs
      · exact .inl ⟨_, look_ints hi hf.1.symm, fin _ (by rw [if_pos hi])⟩
      · refine .inr ⟨fun z => hi ?_, fin _ (by rw [if_neg hi])⟩
        obtain ⟨q, hq, e⟩ := List.mem_map.mp z
        cases e
        exact hq
    · rw [ha]
      have e3 : (p.first ins).take (p.names.map D.str).length = p.first ins := List.take_of_length_le (by simp [PrT.first])
      rw [e3]
      exact pp
end
end TW
set_option Elab.async false
set_option linter.all false
set_option maxRecDepth 100000
set_option maxHeartbeats 4000000
namespace TW
open PySem L2 PyProof.Rows
section
variable {Pg : Program} {w : World} {K : PySem.W.Frag} {mg : Str → Option Value} {base : Heap} {C : Addr}
def wfEvery : List D → (D → Prop) → Prop := fun ds P => ∃ (p : PrT), ds = [p.enc] ∧ p.boxes.length ≤ 2 ∧ (∀ b ∈ p.boxes, b.2 ≤ 10) ∧ P (.lst ((combos p.sizes).map encW))
theorem ok_every (B : Bl mg) {f : Addr} {fd : FuncData} (F : Fun K "every_worths" "every_worths" sEveryWorths f fd) : FnOk Pg w K mg base CX0 1 f fd ["program"] (spD K C wfEvery) := by
  refine fn_ok F scEveryWorths (fun ds P h => by obtain ⟨_, rfl, _⟩ := h; rfl) fun cdv A outer s H E hr ds P h => ?_
  obtain ⟨p, rfl, h2, h10, pp⟩ := h
  (refine ws_seq ?_)
  refine ws_set 1 scEveryWorths.nd (WN.w (wn_lst ?_))
  (refine wa_cons ?_)
  refine WN.w (wn_lst ?_)
  (refine wa_nil ?_; refine And.intro (sz rfl) ?_; refine wa_nil ?_; refine And.intro (sz rfl) ?_; refine ws_seq ?_)
  refine ws_for (ts := [2, 3]) PassesOwn.never rfl (wi_list ?_)
  (refine w_ixN (w_var 0 rfl ⟨_, rfl, ?_⟩); refine w_int ?_; refine Exists.intro _ (And.intro rfl ?_); refine Exists.intro _ (And.intro rfl ?_))
  refine ⟨_, .inl rfl, fun i ρ' => ∃ a b c d e, ρ' = [.im p.enc, .im (.lst ((combos (p.sizes.take i)).map encW)), a, b, c, d, e], ⟨_, _, _, _, _, rfl⟩, fun i d ρ' hd hi => ?_, fun ρ' hi => ?_⟩
  · obtain ⟨a, b, c, d, e, rfl⟩ := hi
    obtain ⟨bx, hb, rfl⟩ := get_map hd
    have hs : p.sizes[i]? = some bx.2 := by simp [PrT.sizes, hb]
    have hbx := h10 bx (List.mem_of_getElem? hb)
    have hi2 : i < 2 := by have := (List.getElem?_eq_some_iff.mp hb).1; omega
    have hc : (combos (p.sizes.take i)).length ≤ 10 := by
      have h1 := combos_len (ss := p.sizes.take i) (fun s hs => by
        obtain ⟨q, hq, rfl⟩ := List.mem_map.mp (List.mem_of_mem_take hs)
        exact h10 q hq)
      have h3 : (p.sizes.take i).length ≤ 1 := by rw [List.length_take]; omega
      exact Nat.le_trans h1 (Nat.le_trans (Nat.pow_le_pow_right (by decide) h3) (by decide))
    refine wg_tup rfl (wgs_cons (wg_name 2 scEveryWorths.nd (wgs_cons (wg_name 3 scEveryWorths.nd (wgs_nil ?_))))) rfl
    (refine ws_seq ?_)
    refine ws_own 4 scEveryWorths.nd (wn_lst ?_)
    (refine wa_nil ?_; refine And.intro (sz rfl) ?_; refine ws_seq ?_)
    refine ws_for (ts := [5]) PassesOwn.never rfl (wi_list ?_)
    (refine w_var 1 rfl ?_)
    refine ⟨_, .inl rfl, fun j ρ' => ∃ e f, ρ' = [.im p.enc, .im (.lst ((combos (p.sizes.take i)).map encW)), .im (.str bx.1), .im (.int bx.2), .ow (.lst ((((combos (p.sizes.take i)).take j).flatMap fun row => (List.range bx.2).map fun w : Nat => row ++ [(w : Int)]).map encW)), e, f], ⟨_, _, rfl⟩, fun j d ρ' hd hj => ?_, fun ρ' hj => ?_⟩
    · obtain ⟨e, f, rfl⟩ := hj
      obtain ⟨row, hrow, rfl⟩ := get_map hd
      have hrl := combos_row (List.mem_of_getElem? hrow)
      have hjl : j < 10 := by have := (List.getElem?_eq_some_iff.mp hrow).1; omega
      refine wg_name 5 scEveryWorths.nd ?_
      (refine ws_seq ?_)
      refine ws_extend 4 rfl (WN.w (wn_lc (own := [("worth", 6)]) (ts := [6]) rfl scEveryWorths.nd (blkOk_by (N := nEveryWorths) (sc := defScope sEveryWorths) (by decide +kernel)) (by decide) (wi_range1 B.range ?_)))
      (refine w_var 3 rfl ?_; refine Exists.intro _ (And.intro rfl ?_))
      refine ⟨by omega, by omega, fun k acc => acc = ((List.range k).map fun w : Nat => encW (row ++ [(w : Int)])), rfl, fun k d acc hd ha => ?_, fun acc ha => ?_⟩
      · obtain ⟨z, hz, rfl⟩ := get_map hd
        obtain ⟨hk, rfl⟩ := get_range hz
        subst ha
        intro _ _ _ _ _
        refine wg_name 6 scEveryWorths.nd ?_
        intro _ _ _ _ _
        refine wts_nil (if_t rfl ?_)
        intro _ _ _ _ _
        refine WN.w (wn_cat ?_)
        (refine w_var 5 rfl ?_; refine Exists.intro _ (And.intro rfl ?_))
        refine WN.w (wn_lst ?_)
        (refine wa_cons ?_; refine w_var 6 rfl ?_; refine wa_nil ?_; refine And.intro (sz rfl) ?_; refine Exists.intro _ (And.intro rfl ?_))
        refine ⟨szl (by simp [hrl, List.length_take]; omega), szt (by simp; omega), ?_⟩
        show _ = List.map _ (List.range (z + 1))
        rw [List.range_succ, List.map_append]
        simp [encW]
      · subst ha
        refine ⟨_, rfl, szl ?_, ws_nil ⟨.im (encW row), f, ?_⟩⟩
        · have h1 := cstep_len ((combos (p.sizes.take i)).take j) bx.2
          unfold cstep at h1
          have h3 : ((combos (p.sizes.take i)).take j).length ≤ 10 := by rw [List.length_take]; omega
          have h4 := Nat.mul_le_mul h3 hbx
          simp only [List.length_map, List.length_range, h1, Int.toNat_natCast]
          omega
        · rw [take_flatMap hrow]
          simp [encW]
    · obtain ⟨e, f, rfl⟩ := hj
      (refine ws_seq ?_)
      refine ws_frz 4 rfl (ws_set 1 scEveryWorths.nd ?_)
      (refine w_var 4 rfl ?_; refine ws_nil ?_)
      have e2 : combos (p.sizes.take (i + 1)) = (((combos (p.sizes.take i)).take ((combos (p.sizes.take i)).map encW).length).flatMap fun row => (List.range bx.2).map fun w : Nat => row ++ [(w : Int)]) := by
        rw [combos_take hs, List.length_map, List.take_length]
        rfl
      show ∃ a b c d e, _ = [Sl.im p.enc, .im (.lst ((combos (p.sizes.take (i + 1))).map encW)), a, b, c, d, e]
      rw [e2]
      exact ⟨_, _, _, _, _, rfl⟩
  · obtain ⟨a, b, c, d, e, rfl⟩ := hi
    (refine ws_seq ?_; refine ws_ret ?_; refine w_var 1 rfl ?_)
    rw [List.length_map, List.take_of_length_le (by simp [PrT.sizes])]
    exact pp
end
end TW
set_option Elab.async false
set_option linter.all false
set_option maxRecDepth 100000
set_option maxHeartbeats 4000000
namespace TW
open PySem L2 PyProof.Rows
/-- the inputs are alike -/
def PrT.pair (p q : PrT) : Prop := (p.inputs.map fun x => (x, val p.names (p.boxes.map fun b => (b.2 : Int)) x)) = q.inputs.map fun x => (x, val q.names (q.boxes.map fun b => (b.2 : Int)) x)
section
variable {Pg : Program} {w : World} {K : PySem.W.Frag} {mg : Str → Option Value} {base : Heap} {C : Addr}
def wfPair : List D → (D → Prop) → Prop := fun ds P => ∃ (p q : PrT), ds = [p.enc, q.enc] ∧ p.Ok ∧ q.Ok ∧ p.pair q ∧ P .non
theorem lay_pair {p : PrT} (ok : p.Ok) : layN 2 (.lst (p.inputs.map fun x => D.tup [.str x, .int (val p.names (p.boxes.map fun b => (b.2 : Int)) x)])) = true := by
  simp only [layN, List.all_map, List.all_eq_true]
  intro x hx
  simp [layN, ok.lay x (ok.ins x hx)]
theorem ok_pair (B : Bl mg) (Gs : Df Pg w K mg base C 1 "sizes_of" ["program"] wfSizes) {f : Addr} {fd : FuncData} (F : Fun K "need_pair" "need_pair" sNeedPair f fd) : FnOk Pg w K mg base CX0 2 f fd ["one", "other"] (spD K C wfPair) := by
  refine fn_ok F scNeedPair (fun ds P h => by obtain ⟨_, _, rfl, _⟩ := h; rfl) fun cdv A outer s H E hr ds P h => ?_
  obtain ⟨p, q, rfl, ok, ok2, hp, pp⟩ := h
  have lc : ∀ (p : PrT), p.Ok → ∀ x ∈ p.inputs, look (p.names.map (fun n => (Sum.inr n : Key))) (p.boxes.map fun b => D.int b.2) (.inr x) = some (.int (val p.names (p.boxes.map fun b => (b.2 : Int)) x)) := fun p ok x hx => by
    have := look_ints (ns := p.names) (ws := p.boxes.map fun b => (b.2 : Int)) (ok.ins x hx) (by simp [PrT.names])
    rw [List.map_map] at this
    exact this
  (refine ws_seq ?_)
  refine ws_set 2 scNeedPair.nd ?_
  refine w_call Gs hr ?_
  (refine wa_cons ?_; refine w_var 0 rfl ?_; refine wa_nil ?_; refine Exists.intro _ (And.intro rfl ?_))
  refine ⟨ok.nd, ?_⟩
  (refine ws_seq ?_)
  refine ws_set 3 scNeedPair.nd ?_
  refine w_call Gs hr ?_
  (refine wa_cons ?_; refine w_var 1 rfl ?_; refine wa_nil ?_; refine Exists.intro _ (And.intro rfl ?_))
  refine ⟨ok2.nd, ?_⟩
  (refine ws_seq ?_; refine ws_if ?_)
  refine wt_neD 2 hr.units ?_
  refine WN.w (wn_lc (own := [("name", 4)]) (ts := [4]) rfl scNeedPair.nd (blkOk_by (N := nNeedPair) (sc := defScope sNeedPair) (by decide +kernel)) (by decide) (wi_list ?_))
  (refine w_ixN (w_var 0 rfl ⟨_, rfl, ?_⟩); refine w_int ?_; refine Exists.intro _ (And.intro rfl ?_); refine Exists.intro _ (And.intro rfl ?_))
  refine ⟨_, .inl rfl, fun i acc => acc = (p.inputs.take i).map fun x => D.tup [.str x, .int (val p.names (p.boxes.map fun b => (b.2 : Int)) x)], rfl, fun i d acc hd ha => ?_, fun acc ha => ?_⟩
  · obtain ⟨x, hx, rfl⟩ := get_map hd
    have hil : i < p.inputs.length := (List.getElem?_eq_some_iff.mp hx).1
    have := ok.fewI
    subst ha
    intro _ _ _ _ _
    refine wg_name 4 scNeedPair.nd ?_
    intro _ _ _ _ _
    refine wts_nil (if_t rfl ?_)
    intro _ _ _ _ _
    (refine w_tup ?_; refine wa_cons ?_; refine w_var 4 rfl ?_; refine wa_cons ?_)
    refine w_dgetK (hu_of hr) ?_
    (refine w_var 2 rfl ?_)
    refine ⟨_, _, rfl, ?_⟩
    (refine w_var 4 rfl ?_)
    refine ⟨.inr x, _, rfl, lc p ok x (List.mem_of_getElem? hx), ?_⟩
    (refine wa_nil ?_; refine And.intro (sz rfl) ?_)
    refine ⟨szt (by simp; omega), ?_⟩
    show _ = List.map _ (p.inputs.take (i + 1))
    rw [List.take_add_one, hx]
    simp
  · subst ha
    refine WN.w (wn_lc (own := [("name", 4)]) (ts := [4]) rfl scNeedPair.nd (blkOk_by (N := nNeedPair) (sc := defScope sNeedPair) (by decide +kernel)) (by decide) (wi_list ?_))
    (refine w_ixN (w_var 1 rfl ⟨_, rfl, ?_⟩); refine w_int ?_; refine Exists.intro _ (And.intro rfl ?_); refine Exists.intro _ (And.intro rfl ?_))
    refine ⟨_, .inl rfl, fun i acc => acc = (q.inputs.take i).map fun x => D.tup [.str x, .int (val q.names (q.boxes.map fun b => (b.2 : Int)) x)], rfl, fun i d acc hd ha => ?_, fun acc ha => ?_⟩
    · obtain ⟨x, hx, rfl⟩ := get_map hd
      have hil : i < q.inputs.length := (List.getElem?_eq_some_iff.mp hx).1
      have := ok2.fewI
      subst ha
      intro _ _ _ _ _
      refine wg_name 4 scNeedPair.nd ?_
      intro _ _ _ _ _
      refine wts_nil (if_t rfl ?_)
      intro _ _ _ _ _
      (refine w_tup ?_; refine wa_cons ?_; refine w_var 4 rfl ?_; refine wa_cons ?_)
      refine w_dgetK (hu_of hr) ?_
      (refine w_var 3 rfl ?_)
      refine ⟨_, _, rfl, ?_⟩
      (refine w_var 4 rfl ?_)
      refine ⟨.inr x, _, rfl, lc q ok2 x (List.mem_of_getElem? hx), ?_⟩
      (refine wa_nil ?_; refine And.intro (sz rfl) ?_)
      refine ⟨szt (by simp; omega), ?_⟩
      show _ = List.map _ (q.inputs.take (i + 1))
      rw [List.take_add_one, hx]
      simp
    · subst ha
      rw [List.length_map, List.length_map, List.take_length, List.take_length]
      refine ⟨by decide, lay_pair ok, lay_pair ok2, fun b hb => ?_⟩
      have e : (D.lst (p.inputs.map fun x => D.tup [.str x, .int (val p.names (p.boxes.map fun b => (b.2 : Int)) x)])) = D.lst (q.inputs.map fun x => D.tup [.str x, .int (val q.names (q.boxes.map fun b => (b.2 : Int)) x)]) := by
        have h2 := congrArg (List.map fun z : Str × Int => D.tup [.str z.1, .int z.2]) hp
        rw [List.map_map, List.map_map] at h2
        exact congrArg D.lst h2
      cases b with
      | true => exact absurd e (hb.mp rfl)
      | false =>
        (refine ws_nil ?_; refine ws_nil ?_)
        exact pp
end
end TW
set_option Elab.async false
set_option linter.all false
set_option maxRecDepth 100000
set_option maxHeartbeats 4000000
namespace TW
open PySem L2 PyProof.Rows
/-- the leaves of a sum, of a condition -/
def SumT.leaves : SumT → List (Str × Str)
  | .num _ => []
  | .leaf t x => [(t, x)]
  | .plus a b => a.leaves ++ b.leaves
  | .less a b => a.leaves ++ b.leaves
def CndT.leaves : CndT → List (Str × Str)
  | .yes => []
  | .no c => c.leaves
  | .both c d => c.leaves ++ d.leaves
  | .same a b => a.leaves ++ b.leaves
  | .under a b => a.leaves ++ b.leaves
theorem SumT.all_leaves {p : Str → Str → Prop} : ∀ {s : SumT}, s.all p → ∀ z ∈ s.leaves, p z.1 z.2
  | .num _, _, z, h => by cases h
  | .leaf t x, k, z, h => by cases h with | head => exact k | tail _ h => cases h
  | .plus a b, k, z, h => (List.mem_append.mp h).elim (SumT.all_leaves k.1 z) (SumT.all_leaves k.2 z)
  | .less a b, k, z, h => (List.mem_append.mp h).elim (SumT.all_leaves k.1 z) (SumT.all_leaves k.2 z)
theorem CndT.all_leaves {p : Str → Str → Prop} : ∀ {s : CndT}, s.all p → ∀ z ∈ s.leaves, p z.1 z.2
  | .yes, _, z, h => by cases h
  | .no c, k, z, h => CndT.all_leaves (s := c) k z h
  | .both a b, k, z, h => (List.mem_append.mp h).elim (CndT.all_leaves k.1 z) (CndT.all_leaves k.2 z)
  | .same a b, k, z, h => (List.mem_append.mp h).elim (SumT.all_leaves k.1 z) (SumT.all_leaves k.2 z)
  | .under a b, k, z, h => (List.mem_append.mp h).elim (SumT.all_leaves k.1 z) (SumT.all_leaves k.2 z)
theorem SumT.leaves_len : ∀ s : SumT, s.leaves.length ≤ 2 ^ s.dep
  | .num _ => by simp [leaves]
  | .leaf _ _ => by simp [leaves, dep]
  | .plus a b => by
    have h1 := Nat.le_trans a.leaves_len (Nat.pow_le_pow_right (by decide) (Nat.le_max_left a.dep b.dep))
    have h2 := Nat.le_trans b.leaves_len (Nat.pow_le_pow_right (by decide) (Nat.le_max_right a.dep b.dep))
    simp only [leaves, dep, List.length_append, Nat.pow_succ]; omega
  | .less a b => by
    have h1 := Nat.le_trans a.leaves_len (Nat.pow_le_pow_right (by decide) (Nat.le_max_left a.dep b.dep))
    have h2 := Nat.le_trans b.leaves_len (Nat.pow_le_pow_right (by decide) (Nat.le_max_right a.dep b.dep))
    simp only [leaves, dep, List.length_append, Nat.pow_succ]; omega
theorem CndT.leaves_len : ∀ s : CndT, s.leaves.length ≤ 2 ^ s.dep
  | .yes => by simp [leaves]
  | .no c => by
    have := c.leaves_len
    simp only [leaves, dep, Nat.pow_succ]; omega
  | .both a b => by
    have h1 := Nat.le_trans a.leaves_len (Nat.pow_le_pow_right (by decide) (Nat.le_max_left a.dep b.dep))
    have h2 := Nat.le_trans b.leaves_len (Nat.pow_le_pow_right (by decide) (Nat.le_max_right a.dep b.dep))
    simp only [leaves, dep, List.length_append, Nat.pow_succ]; omega
  | .same a b => by
    have h1 := Nat.le_trans a.leaves_len (Nat.pow_le_pow_right (by decide) (Nat.le_max_left a.dep b.dep))
    have h2 := Nat.le_trans b.leaves_len (Nat.pow_le_pow_right (by decide) (Nat.le_max_right a.dep b.dep))
    simp only [leaves, dep, List.length_append, Nat.pow_succ]; omega
  | .under a b => by
    have h1 := Nat.le_trans a.leaves_len (Nat.pow_le_pow_right (by decide) (Nat.le_max_left a.dep b.dep))
    have h2 := Nat.le_trans b.leaves_len (Nat.pow_le_pow_right (by decide) (Nat.le_max_right a.dep b.dep))
    simp only [leaves, dep, List.length_append, Nat.pow_succ]; omega
def encL (z : Str × Str) : D := .tup [.str z.1, .str z.2]
/-- a sum or a condition -/
inductive Thing where
  | su (s : SumT) | co (c : CndT)
def Thing.enc : Thing → D
  | .su s => s.enc
  | .co c => c.enc
def Thing.dep : Thing → Nat
  | .su s => s.dep
  | .co c => c.dep
def Thing.leaves : Thing → List (Str × Str)
  | .su s => s.leaves
  | .co c => c.leaves
def Thing.all (p : Str → Str → Prop) : Thing → Prop
  | .su s => s.all p
  | .co c => c.all p
theorem Thing.leaves_len : ∀ t : Thing, t.leaves.length ≤ 2 ^ t.dep
  | .su s => s.leaves_len
  | .co c => c.leaves_len
def isMY (t _x : Str) : Prop := t = "mine" ∨ t = "yours"
theorem cut1 (x : D) (l : List D) : cutD (x :: l) (some 1) none = l := by
  have h1 : HT.sIx (l.length + 1) 0 (some 1) = 1 := by simp [HT.sIx]
  have h2 : HT.sIx (l.length + 1) (l.length + 1) none = l.length + 1 := rfl
  unfold cutD
  rw [List.length_cons, h1, h2]
  simp
section
variable {Pg : Program} {w : World} {K : PySem.W.Frag} {mg : Str → Option Value} {base : Heap} {C : Addr}
def wfBtw (n : Nat) : List D → (D → Prop) → Prop := fun ds P => ∃ t : Thing, ds = [t.enc] ∧ t.dep ≤ n ∧ n ≤ 12 ∧ t.all isMY ∧ P (.lst (t.leaves.map encL))
theorem ok_btw {f : Addr} {fd : FuncData} (F : Fun K "boxes_between" "boxes_between" sBoxesBetween f fd) (mgf : mg "boxes_between" = some (.ref f)) (b : Binds K fd ["thing"] []) : ∀ n, FnOk Pg w K mg base CX0 (n + 1) f fd ["thing"] (spD K C (wfBtw n)) := by
  intro n
  induction n using Nat.strongRecOn with
  | ind n ih =>
    refine fn_ok F scBoxesBetween (fun ds P h => by obtain ⟨_, rfl, _⟩ := h; rfl) fun cdv A outer s H E hr ds P h => ?_
    obtain ⟨t, rfl, hn, h12, ha, p⟩ := h
    have G : ∀ k, k < n → Df Pg w K mg base C (k + 1) "boxes_between" ["thing"] (wfBtw k) := fun k hk => ⟨f, fd, mgf, F.kp, b, ih k hk⟩
    -- the leaf, the number, yes: told at once; else the parts
    have walk : ∀ (tag : Str) (ps : List Thing), t.enc = .tup (.str tag :: ps.map Thing.enc) → tag ≠ "mine" → tag ≠ "yours" → tag ≠ "number" → tag ≠ "yes" → ps ≠ [] → ps.length ≤ 2 → (∀ q ∈ ps, q.dep + 1 ≤ n ∧ q.all isMY) → t.leaves = ps.flatMap Thing.leaves →
        WSs C (cxOf CX0 Pg w K mg base nBoxesBetween "boxes_between" (defScope sBoxesBetween) f cdv A outer s H E).nox (defBody sBoxesBetween) ([t.enc].map Sl.im ++ List.replicate (nBoxesBetween.length - [t.enc].length) Sl.no) { nx := fun _ => P .non, rt := P } := by
      intro tag ps he n1 n2 n3 n4 hne hpl hq hl
      rw [he]
      (refine ws_seq ?_; refine ws_if ?_; refine WW.wt (ww_or ?_); refine wt_eqc ?_; refine w_ixN (w_var 0 rfl ⟨_, rfl, ?_⟩); refine w_int ?_; refine Exists.intro _ (And.intro rfl ?_))
      refine ⟨.str tag, atI_nat (j := 0) rfl, ?_⟩
      (refine w_str ?_; refine And.intro rfl ?_)
      refine if_f (by simp [sEq, n1]) ?_
      (refine ww_or1 ?_; refine wt_eqc ?_; refine w_ixN (w_var 0 rfl ⟨_, rfl, ?_⟩); refine w_int ?_; refine Exists.intro _ (And.intro rfl ?_))
      refine ⟨.str tag, atI_nat (j := 0) rfl, ?_⟩
      (refine w_str ?_; refine And.intro rfl ?_)
      refine if_f (by simp [sEq, n2]) ?_
      (refine ws_nil ?_; refine ws_seq ?_; refine ws_if ?_; refine WW.wt (ww_or ?_); refine wt_eqc ?_; refine w_ixN (w_var 0 rfl ⟨_, rfl, ?_⟩); refine w_int ?_; refine Exists.intro _ (And.intro rfl ?_))
      refine ⟨.str tag, atI_nat (j := 0) rfl, ?_⟩
      (refine w_str ?_; refine And.intro rfl ?_)
      refine if_f (by simp [sEq, n3]) ?_
      (refine ww_or1 ?_; refine wt_eqc ?_; refine w_ixN (w_var 0 rfl ⟨_, rfl, ?_⟩); refine w_int ?_; refine Exists.intro _ (And.intro rfl ?_))
      refine ⟨.str tag, atI_nat (j := 0) rfl, ?_⟩
      (refine w_str ?_; refine And.intro rfl ?_)
      refine if_f (by simp [sEq, n4]) ?_
      (refine ws_nil ?_; refine ws_seq ?_)
      refine ws_own 1 scBoxesBetween.nd (wn_lst ?_)
      (refine wa_nil ?_; refine And.intro (sz rfl) ?_; refine ws_seq ?_)
      refine ws_for (ts := [2]) PassesOwn.never rfl (wi_tup (w_sliceT ?_))
      (refine w_var 0 rfl ?_; refine Exists.intro _ (And.intro rfl ?_); refine w_int ?_; refine Exists.intro _ (And.intro rfl ?_))
      refine And.intro ?_ ?_
      · simp [HT.sIx]
      have ec : cutD (.str tag :: ps.map Thing.enc) (some 1) none = ps.map Thing.enc := cut1 _ _
      rw [ec]
      refine ⟨_, rfl, fun i ρ' => ∃ a, ρ' = [.im (.tup (.str tag :: ps.map Thing.enc)), .ow (.lst (((ps.take i).flatMap Thing.leaves).map encL)), a], ⟨_, rfl⟩, fun i d ρ' hd hi => ?_, fun ρ' hi => ?_⟩
      · obtain ⟨a, rfl⟩ := hi
        obtain ⟨q, hq1, rfl⟩ := get_map hd
        obtain ⟨hqd, hqa⟩ := hq q (List.mem_of_getElem? hq1)
        obtain ⟨k, rfl⟩ : ∃ k, n = k + 1 := ⟨n - 1, by omega⟩
        refine wg_name 2 scBoxesBetween.nd ?_
        (refine ws_seq ?_)
        refine ws_extend 1 rfl ?_
        refine w_call (G k (by omega)) hr ?_ (by omega)
        (refine wa_cons ?_; refine w_var 2 rfl ?_; refine wa_nil ?_; refine Exists.intro _ (And.intro rfl ?_))
        refine ⟨by omega, by omega, hqa, _, rfl, ?_, ws_nil ⟨.im q.enc, ?_⟩⟩
        · have h1 : ∀ z ∈ ps, z.leaves.length ≤ 4096 := fun z hz => Nat.le_trans z.leaves_len (Nat.le_trans (Nat.pow_le_pow_right (by decide) (show z.dep ≤ 12 by have := (hq z hz).1; omega)) (by decide))
          have h2 : ((ps.take i).flatMap Thing.leaves).length ≤ i * 4096 := by
            clear hq1 hqd hqa hd
            induction i with
            | zero => simp
            | succ i ihi =>
              cases e : ps[i]? with
              | none => rw [List.take_add_one, e]; simp only [Option.toList_none, List.append_nil]; omega
              | some z => rw [take_flatMap e, List.length_append]; have := h1 z (List.mem_of_getElem? e); omega
          have h3 := h1 q (List.mem_of_getElem? hq1)
          have h4 : i < ps.length := (List.getElem?_eq_some_iff.mp hq1).1
          refine szl ?_
          simp only [List.length_map]
          have h5 : i ≤ 1 := by omega
          have h6 := Nat.mul_le_mul h5 (Nat.le_refl 4096)
          omega
        · rw [take_flatMap hq1]
          simp
      · obtain ⟨a, rfl⟩ := hi
        refine wss_frz 1 rfl ?_
        (refine ws_seq ?_; refine ws_ret ?_; refine w_var 1 rfl ?_)
        rw [List.length_map, List.take_length, ← hl]
        exact p
    cases t with
    | su x =>
      cases x with
      | num i =>
        (refine ws_seq ?_; refine ws_if ?_; refine WW.wt (ww_or ?_); refine wt_eqc ?_; refine w_ixN (w_var 0 rfl ⟨_, rfl, ?_⟩); refine w_int ?_; refine Exists.intro _ (And.intro rfl ?_); refine Exists.intro _ (And.intro rfl ?_); refine w_str ?_; refine And.intro rfl ?_; refine ww_or1 ?_; refine wt_eqc ?_; refine w_ixN (w_var 0 rfl ⟨_, rfl, ?_⟩); refine w_int ?_; refine Exists.intro _ (And.intro rfl ?_); refine Exists.intro _ (And.intro rfl ?_); refine w_str ?_; refine And.intro rfl ?_; refine ws_nil ?_; refine ws_seq ?_; refine ws_if ?_; refine WW.wt (ww_or ?_); refine wt_eqc ?_; refine w_ixN (w_var 0 rfl ⟨_, rfl, ?_⟩); refine w_int ?_; refine Exists.intro _ (And.intro rfl ?_); refine Exists.intro _ (And.intro rfl ?_); refine w_str ?_; refine And.intro rfl ?_; refine ws_seq ?_; refine ws_ret ?_)
        refine WN.w (wn_lst ?_)
        (refine wa_nil ?_; refine And.intro (sz rfl) ?_)
        exact p
      | leaf t x =>
        rcases ha with rfl | rfl
        · (refine ws_seq ?_; refine ws_if ?_; refine WW.wt (ww_or ?_); refine wt_eqc ?_; refine w_ixN (w_var 0 rfl ⟨_, rfl, ?_⟩); refine w_int ?_; refine Exists.intro _ (And.intro rfl ?_); refine Exists.intro _ (And.intro rfl ?_); refine w_str ?_; refine And.intro rfl ?_; refine ws_seq ?_; refine ws_ret ?_)
          refine WN.w (wn_lst ?_)
          (refine wa_cons ?_; refine w_var 0 rfl ?_; refine wa_nil ?_; refine And.intro (sz rfl) ?_)
          exact p
        · (refine ws_seq ?_; refine ws_if ?_; refine WW.wt (ww_or ?_); refine wt_eqc ?_; refine w_ixN (w_var 0 rfl ⟨_, rfl, ?_⟩); refine w_int ?_; refine Exists.intro _ (And.intro rfl ?_); refine Exists.intro _ (And.intro rfl ?_); refine w_str ?_; refine And.intro rfl ?_; refine ww_or1 ?_; refine wt_eqc ?_; refine w_ixN (w_var 0 rfl ⟨_, rfl, ?_⟩); refine w_int ?_; refine Exists.intro _ (And.intro rfl ?_); refine Exists.intro _ (And.intro rfl ?_); refine w_str ?_; refine And.intro rfl ?_; refine ws_seq ?_; refine ws_ret ?_)
          refine WN.w (wn_lst ?_)
          (refine wa_cons ?_; refine w_var 0 rfl ?_; refine wa_nil ?_; refine And.intro (sz rfl) ?_)
          exact p
      | plus a b => exact walk "plus" [.su a, .su b] rfl (by decide +kernel) (by decide +kernel) (by decide +kernel) (by decide +kernel) (by simp) (by simp) (by simp [Thing.dep, SumT.dep, Thing.all] at hn ⊢; exact ⟨⟨by omega, ha.1⟩, by omega, ha.2⟩) (by simp [Thing.leaves, SumT.leaves])
      | less a b => exact walk "less" [.su a, .su b] rfl (by decide +kernel) (by decide +kernel) (by decide +kernel) (by decide +kernel) (by simp) (by simp) (by simp [Thing.dep, SumT.dep, Thing.all] at hn ⊢; exact ⟨⟨by omega, ha.1⟩, by omega, ha.2⟩) (by simp [Thing.leaves, SumT.leaves])
    | co x =>
      cases x with
      | yes =>
        (refine ws_seq ?_; refine ws_if ?_; refine WW.wt (ww_or ?_); refine wt_eqc ?_; refine w_ixN (w_var 0 rfl ⟨_, rfl, ?_⟩); refine w_int ?_; refine Exists.intro _ (And.intro rfl ?_); refine Exists.intro _ (And.intro rfl ?_); refine w_str ?_; refine And.intro rfl ?_; refine ww_or1 ?_; refine wt_eqc ?_; refine w_ixN (w_var 0 rfl ⟨_, rfl, ?_⟩); refine w_int ?_; refine Exists.intro _ (And.intro rfl ?_); refine Exists.intro _ (And.intro rfl ?_); refine w_str ?_; refine And.intro rfl ?_; refine ws_nil ?_; refine ws_seq ?_; refine ws_if ?_; refine WW.wt (ww_or ?_); refine wt_eqc ?_; refine w_ixN (w_var 0 rfl ⟨_, rfl, ?_⟩); refine w_int ?_; refine Exists.intro _ (And.intro rfl ?_); refine Exists.intro _ (And.intro rfl ?_); refine w_str ?_; refine And.intro rfl ?_; refine ww_or1 ?_; refine wt_eqc ?_; refine w_ixN (w_var 0 rfl ⟨_, rfl, ?_⟩); refine w_int ?_; refine Exists.intro _ (And.intro rfl ?_); refine Exists.intro _ (And.intro rfl ?_); refine w_str ?_; refine And.intro rfl ?_; refine ws_seq ?_; refine ws_ret ?_)
        refine WN.w (wn_lst ?_)
        (refine wa_nil ?_; refine And.intro (sz rfl) ?_)
        exact p
      | no c => exact walk "not" [.co c] rfl (by decide +kernel) (by decide +kernel) (by decide +kernel) (by decide +kernel) (by simp) (by simp) (by simp [Thing.dep, CndT.dep, Thing.all] at hn ⊢; exact ⟨by omega, ha⟩) (by simp [Thing.leaves, CndT.leaves])
      | both a b => exact walk "both" [.co a, .co b] rfl (by decide +kernel) (by decide +kernel) (by decide +kernel) (by decide +kernel) (by simp) (by simp) (by simp [Thing.dep, CndT.dep, Thing.all] at hn ⊢; exact ⟨⟨by omega, ha.1⟩, by omega, ha.2⟩) (by simp [Thing.leaves, CndT.leaves])
      | same a b => exact walk "same" [.su a, .su b] rfl (by decide +kernel) (by decide +kernel) (by decide +kernel) (by decide +kernel) (by simp) (by simp) (by simp [Thing.dep, CndT.dep, Thing.all] at hn ⊢; exact ⟨⟨by omega, ha.1⟩, by omega, ha.2⟩) (by simp [Thing.leaves, CndT.leaves])
      | under a b => exact walk "under" [.su a, .su b] rfl (by decide +kernel) (by decide +kernel) (by decide +kernel) (by decide +kernel) (by simp) (by simp) (by simp [Thing.dep, CndT.dep, Thing.all] at hn ⊢; exact ⟨⟨by omega, ha.1⟩, by omega, ha.2⟩) (by simp [Thing.leaves, CndT.leaves])
end
end TW
set_option Elab.async false
set_option linter.all false
set_option maxRecDepth 100000
set_option maxHeartbeats 4000000
namespace TW
open PySem L2 PyProof.Rows
/-- what is known between -/
def known2 (p q : PrT) (t x : Str) : Prop := (t = "mine" ∧ x ∈ p.names) ∨ (t = "yours" ∧ x ∈ q.names)
theorem known2.my {p q : PrT} {t x : Str} (h : known2 p q t x) : isMY t x := h.elim (fun z => .inl z.1) fun z => .inr z.1
theorem all_iff {bs : List Bool} (h : ∀ b ∈ bs, b = true) : (bs.all fun x => x) = true := List.all_eq_true.mpr h
theorem Thing.all_mono {p q : Str → Str → Prop} (h : ∀ t x, p t x → q t x) : ∀ {s : Thing}, s.all p → s.all q
  | .su _, k => SumT.all_mono h k
  | .co _, k => CndT.all_mono h k
theorem Thing.all_leaves {p : Str → Str → Prop} : ∀ {s : Thing}, s.all p → ∀ z ∈ s.leaves, p z.1 z.2
  | .su _, k => SumT.all_leaves k
  | .co _, k => CndT.all_leaves k
theorem u65 {A : Around} {k : Nat} (hr : Room k A) : A.units + 65 < cLine := by have := hr.un; omega
section
variable {Pg : Program} {w : World} {K : PySem.W.Frag} {mg : Str → Option Value} {base : Heap} {C : Addr}
def knownL (p q : PrT) : List (Str × Str) := (p.names.map fun n => (("mine" : Str), n)) ++ q.names.map fun n => (("yours" : Str), n)
theorem known_mem {p q : PrT} {t x : Str} (h : known2 p q t x) : (t, x) ∈ knownL p q := by
  rcases h with ⟨rfl, h⟩ | ⟨rfl, h⟩
  · exact List.mem_append_left _ (List.mem_map.mpr ⟨x, h, rfl⟩)
  · exact List.mem_append_right _ (List.mem_map.mpr ⟨x, h, rfl⟩)
theorem encL_inj {a b : Str × Str} (h : encL a = encL b) : a = b := by
  simp [encL] at h
  exact Prod.ext h.1 h.2
theorem lay_L {p : PrT} (ok : p.Ok) {t x : Str} (ht : PyData.strOk t = true) (h : x ∈ p.names) : layN 1 (encL (t, x)) = true := by
  simp [encL, layN, ht, ok.lay x h]
theorem ok_mine : PyData.strOk "mine" = true := by decide +kernel
theorem ok_yours : PyData.strOk "yours" = true := by decide +kernel
def wfKnownN : List D → (D → Prop) → Prop := fun ds P => ∃ (p q : PrT) (t : Thing), ds = [p.enc, q.enc, t.enc] ∧ p.Ok ∧ q.Ok ∧ t.dep ≤ 12 ∧ t.all (known2 p q) ∧ P (.bl true)
theorem ok_namesknown (B : Bl mg) (Gb : Df Pg w K mg base C 13 "boxes_between" ["thing"] (wfBtw 12)) {f : Addr} {fd : FuncData} (F : Fun K "names_known" "names_known" sNamesKnown f fd) : FnOk Pg w K mg base CX0 14 f fd ["one", "other", "thing"] (spD K C wfKnownN) := by
  refine fn_ok F scNamesKnown (fun ds P h => by obtain ⟨_, _, _, rfl, _⟩ := h; rfl) fun cdv A outer s H E hr ds P h => ?_
  obtain ⟨p, q, t, rfl, ok, ok2, h12, ha, pp⟩ := h
  have f1 := ok.few
  have f2 := ok2.few
  (refine ws_seq ?_)
  refine ws_set 3 scNamesKnown.nd (WN.w (wn_cat ?_))
  refine WN.w (wn_lc (own := [("name", 4), ("size", 5)]) (ts := [4, 5]) rfl scNamesKnown.nd (blkOk_by (N := nNamesKnown) (sc := defScope sNamesKnown) (by decide +kernel)) (by decide) (wi_list ?_))
  (refine w_ixN (w_var 0 rfl ⟨_, rfl, ?_⟩); refine w_int ?_; refine Exists.intro _ (And.intro rfl ?_); refine Exists.intro _ (And.intro rfl ?_))
  refine ⟨_, .inl rfl, fun i acc => acc = (p.names.take i).map fun n => encL ("mine", n), rfl, fun i d acc hd hacc => ?_, fun acc hacc => ?_⟩
  · obtain ⟨bx, hb, rfl⟩ := get_map hd
    have hil : i < p.boxes.length := (List.getElem?_eq_some_iff.mp hb).1
    subst hacc
    intro _ _ _ _ _
    refine wg_tup rfl (wgs_cons (wg_name 4 scNamesKnown.nd (wgs_cons (wg_name 5 scNamesKnown.nd (wgs_nil ?_))))) rfl
    intro _ _ _ _ _
    refine wts_nil (if_t rfl ?_)
    intro _ _ _ _ _
    (refine w_tup ?_; refine wa_cons ?_; refine w_str ?_; refine wa_cons ?_; refine w_var 4 rfl ?_; refine wa_nil ?_; refine And.intro (sz rfl) ?_)
    refine ⟨szt (by simp; omega), ?_⟩
    have e2 : p.names[i]? = some bx.1 := by simp [PrT.names, hb]
    show _ = List.map _ (p.names.take (i + 1))
    rw [List.take_add_one, e2]
    simp [encL]
  subst hacc
  (refine Exists.intro _ (And.intro rfl ?_))
  refine WN.w (wn_lc (own := [("name", 4), ("size", 5)]) (ts := [4, 5]) rfl scNamesKnown.nd (blkOk_by (N := nNamesKnown) (sc := defScope sNamesKnown) (by decide +kernel)) (by decide) (wi_list ?_))
  (refine w_ixN (w_var 1 rfl ⟨_, rfl, ?_⟩); refine w_int ?_; refine Exists.intro _ (And.intro rfl ?_); refine Exists.intro _ (And.intro rfl ?_))
  refine ⟨_, .inl rfl, fun i acc => acc = (q.names.take i).map fun n => encL ("yours", n), rfl, fun i d acc hd hacc => ?_, fun acc hacc => ?_⟩
  · obtain ⟨bx, hb, rfl⟩ := get_map hd
    have hil : i < q.boxes.length := (List.getElem?_eq_some_iff.mp hb).1
    subst hacc
    intro _ _ _ _ _
    refine wg_tup rfl (wgs_cons (wg_name 4 scNamesKnown.nd (wgs_cons (wg_name 5 scNamesKnown.nd (wgs_nil ?_))))) rfl
    intro _ _ _ _ _
    refine wts_nil (if_t rfl ?_)
    intro _ _ _ _ _
    (refine w_tup ?_; refine wa_cons ?_; refine w_str ?_; refine wa_cons ?_; refine w_var 4 rfl ?_; refine wa_nil ?_; refine And.intro (sz rfl) ?_)
    refine ⟨szt (by simp; omega), ?_⟩
    have e2 : q.names[i]? = some bx.1 := by simp [PrT.names, hb]
    show _ = List.map _ (q.names.take (i + 1))
    rw [List.take_add_one, e2]
    simp [encL]
  subst hacc
  (refine Exists.intro _ (And.intro rfl ?_))
  refine ⟨szl (by simp; omega), ?_⟩
  have eK : (((p.names.take (p.boxes.map PrT.encB).length).map fun n => encL ("mine", n)) ++ (q.names.take (q.boxes.map PrT.encB).length).map fun n => encL ("yours", n)) = (knownL p q).map encL := by
    rw [List.take_of_length_le (by simp [PrT.names]), List.take_of_length_le (by simp [PrT.names])]
    simp only [knownL, List.map_append, List.map_map]
    rfl
  rw [eK]
  have hlay : ∀ d ∈ (knownL p q).map encL, layN 1 d = true := by
    intro d hd
    obtain ⟨z, hz, rfl⟩ := List.mem_map.mp hd
    rcases List.mem_append.mp hz with h | h
    · obtain ⟨x, hx, rfl⟩ := List.mem_map.mp h; exact lay_L ok ok_mine hx
    · obtain ⟨x, hx, rfl⟩ := List.mem_map.mp h; exact lay_L ok2 ok_yours hx
  (refine ws_seq ?_; refine ws_ret ?_)
  refine w_all rfl B.all bt_all ?_
  refine WN.w (wn_lc (own := [("box", 6)]) (ts := [6]) rfl scNamesKnown.nd (blkOk_by (N := nNamesKnown) (sc := defScope sNamesKnown) (by decide +kernel)) (by decide) (wi_list ?_))
  refine w_call Gb hr ?_
  (refine wa_cons ?_; refine w_var 2 rfl ?_; refine wa_nil ?_; refine Exists.intro _ (And.intro rfl ?_))
  refine ⟨h12, Nat.le_refl _, Thing.all_mono (fun _ _ => known2.my) ha, _, .inl rfl, fun i acc => ∃ bs : List Bool, acc = bs.map D.bl ∧ bs.length = i ∧ ∀ b ∈ bs, b = true, ⟨[], rfl, rfl, by simp⟩, fun i d acc hd hacc => ?_, fun acc hacc => ?_⟩
  · obtain ⟨z, hz, rfl⟩ := get_map hd
    obtain ⟨bs, rfl, hbl, hbs⟩ := hacc
    have hk := t.all_leaves ha z (List.mem_of_getElem? hz)
    have hi : i < t.leaves.length := (List.getElem?_eq_some_iff.mp hz).1
    have h4 := Nat.le_trans t.leaves_len (Nat.pow_le_pow_right (by decide) h12)
    intro _ _ _ _ _
    refine wg_name 6 scNamesKnown.nd ?_
    intro _ _ _ _ _
    refine wts_nil (if_t rfl ?_)
    intro _ _ _ _ _
    refine w_inD 1 (u65 hr) ?_
    (refine w_var 6 rfl ?_; refine w_var 3 rfl ?_; refine Exists.intro _ (And.intro rfl ?_))
    refine ⟨by decide, ?_, hlay, fun b hb => ?_⟩
    · rcases hk with ⟨e, hx⟩ | ⟨e, hx⟩
      · have : z = (("mine" : Str), z.2) := Prod.ext e rfl
        rw [this]; exact lay_L ok ok_mine hx
      · have : z = (("yours" : Str), z.2) := Prod.ext e rfl
        rw [this]; exact lay_L ok2 ok_yours hx
    · refine ⟨szt (by simp; omega), bs ++ [b], by simp, by simp [hbl], fun c hc => ?_⟩
      rcases List.mem_append.mp hc with h | h
      · exact hbs c h
      · have : c = b := by simpa using h
        rw [this]
        exact hb.mpr (List.mem_map.mpr ⟨z, known_mem hk, rfl⟩)
  · obtain ⟨bs, rfl, hbl, hbs⟩ := hacc
    refine ⟨bs, rfl, ?_⟩
    rw [all_iff hbs]
    exact pp
end
end TW
set_option Elab.async false
set_option linter.all false
set_option maxRecDepth 100000
set_option maxHeartbeats 4000000
namespace TW
open PySem L2 PyProof.Rows
def keysB (p q : PrT) : List (List Key) := (p.names.map fun n => [(Sum.inr ("mine" : Str) : Key), Sum.inr n]) ++ q.names.map fun n => [(Sum.inr ("yours" : Str) : Key), Sum.inr n]
def mAt (p q : PrT) (mine yours : List Int) (t x : Str) : Int := if t = "mine" then val p.names mine x else val q.names yours x
theorem look_app1 {κ : Type} [DecidableEq κ] : ∀ {ks ks2 : List κ} {ds ds2 : List D} {k : κ} {d : D}, ks.length = ds.length → look ks ds k = some d → look (ks ++ ks2) (ds ++ ds2) k = some d
  | [], _, _, _, _, _, _, h => by cases h
  | x :: ks, _, [], _, _, _, hl, _ => by cases hl
  | x :: ks, ks2, y :: ds, ds2, k, d, hl, h => by
    unfold look at h
    show (if x = k then some y else look (ks ++ ks2) (ds ++ ds2) k) = some d
    by_cases e : x = k
    · rw [if_pos e] at h ⊢; exact h
    · rw [if_neg e] at h ⊢; exact look_app1 (by simpa using hl) h
theorem look_app2 {κ : Type} [DecidableEq κ] : ∀ {ks ks2 : List κ} {ds ds2 : List D} {k : κ} {d : D}, ks.length = ds.length → k ∉ ks → look ks2 ds2 k = some d → look (ks ++ ks2) (ds ++ ds2) k = some d
  | [], _, [], _, _, _, _, _, h => h
  | [], _, _ :: _, _, _, _, hl, _, _ => by cases hl
  | x :: ks, _, [], _, _, _, hl, _, _ => by cases hl
  | x :: ks, ks2, y :: ds, ds2, k, d, hl, hn, h => by
    show (if x = k then some y else look (ks ++ ks2) (ds ++ ds2) k) = some d
    rw [if_neg (fun e => hn (by simp [e]))]
    exact look_app2 (by simpa using hl) (fun z => hn (List.mem_cons_of_mem _ z)) h
theorem look_tag (tag : Str) : ∀ {ns : List Str} {ws : List Int} {x : Str}, x ∈ ns → ns.length = ws.length → look (ns.map fun n => [(Sum.inr tag : Key), Sum.inr n]) (ws.map D.int) [Sum.inr tag, Sum.inr x] = some (.int (val ns ws x))
  | n :: ns, w :: ws, x, h, hl => by
    show (if [(Sum.inr tag : Key), Sum.inr n] = [Sum.inr tag, Sum.inr x] then some (D.int w) else look _ _ _) = some (D.int (if n = x then w else _))
    by_cases e : n = x
    · subst e
      rw [if_pos rfl, if_pos rfl]
    · rw [if_neg (fun z => e (by simpa using z)), if_neg e, look_tag tag (ns := ns) (ws := ws) (by simpa [Ne.symm e] using h) (by simpa using hl)]
section
variable {Pg : Program} {w : World} {K : PySem.W.Frag} {mg : Str → Option Value} {base : Heap} {C : Addr}
def sideD (p q : PrT) (mine yours : List Int) : D := .dt (keysB p q) ((mine ++ yours).map D.int)
def wfSide : List D → (D → Prop) → Prop := fun ds P => ∃ (p q : PrT) (mine yours : List Int), ds = [p.enc, q.enc, encW mine, encW yours] ∧ p.Ok ∧ q.Ok ∧ mine.length = p.boxes.length ∧ yours.length = q.boxes.length ∧ P (sideD p q mine yours)
theorem dput_new {κ : Type} [DecidableEq κ] {ks : List κ} {ds : List D} {k : κ} {d : D} (h : k ∉ ks) : dput ks ds k d = (ks ++ [k], ds ++ [d]) := by
  unfold dput
  rw [if_neg h]
theorem ok_side (B : Bl mg) {f : Addr} {fd : FuncData} (F : Fun K "side_by_side" "side_by_side" sSideBySide f fd) : FnOk Pg w K mg base CX0 1 f fd ["one", "other", "mine", "yours"] (spD K C wfSide) := by
  refine fn_ok F scSideBySide (fun ds P h => by obtain ⟨_, _, _, _, rfl, _⟩ := h; rfl) fun cdv A outer s H E hr ds P h => ?_
  obtain ⟨p, q, mine, yours, rfl, ok, ok2, hm, hy, pp⟩ := h
  have f1 := ok.few
  have f2 := ok2.few
  have nd : (keysB p q).Nodup := by
    unfold keysB
    refine List.nodup_append.mpr ⟨List.pairwise_map.mpr (ok.nd.imp fun h e => h (by simpa using e)), List.pairwise_map.mpr (ok2.nd.imp fun h e => h (by simpa using e)), ?_⟩
    intro a ha b hb e
    obtain ⟨x, _, rfl⟩ := List.mem_map.mp ha
    obtain ⟨y, _, rfl⟩ := List.mem_map.mp hb
    have : ("mine" : Str) = "yours" := by simpa using (List.cons.inj e).1
    exact absurd this (by decide +kernel)
  have kl : (keysB p q).length = p.boxes.length + q.boxes.length := by simp [keysB, PrT.names]
  have knew : ∀ i k, (keysB p q)[i]? = some k → k ∉ (keysB p q).take i := fun i k hk hm => by
    obtain ⟨hi, e⟩ := List.getElem?_eq_some_iff.mp hk
    obtain ⟨j, hj, e2⟩ := List.mem_iff_getElem.mp hm
    rw [List.getElem_take] at e2
    have := (List.getElem_inj nd).mp (e2.trans e.symm)
    simp at hj
    omega
  (refine ws_seq ?_)
  refine ws_own 4 scSideBySide.nd (wn_dnewT ?_)
  (refine ws_seq ?_)
  refine ws_for (ts := [5, 6, 7]) PassesOwn.never rfl (wi_zip B.zip ?_)
  (refine w_ixN (w_var 0 rfl ⟨_, rfl, ?_⟩); refine w_int ?_; refine Exists.intro _ (And.intro rfl ?_); refine Exists.intro _ (And.intro rfl ?_); refine Exists.intro _ (And.intro rfl ?_); refine w_var 2 rfl ?_; refine Exists.intro _ (And.intro rfl ?_))
  refine ⟨by simp [hm], fun i ρ' => ∃ a b c, ρ' = [.im p.enc, .im q.enc, .im (encW mine), .im (encW yours), .ow (.dt ((keysB p q).take i) ((mine.take i).map D.int)), a, b, c], ⟨_, _, _, rfl⟩, fun i d ρ' hd hi => ?_, fun ρ' hi => ?_⟩
  · obtain ⟨a, b, c, rfl⟩ := hi
    obtain ⟨x, y, hx, hy', rfl⟩ := get_zipWith hd
    obtain ⟨bx, hb, rfl⟩ := get_map hx
    obtain ⟨v, hv, rfl⟩ := get_map hy'
    have hil : i < p.boxes.length := (List.getElem?_eq_some_iff.mp hb).1
    have hk : (keysB p q)[i]? = some [(Sum.inr ("mine" : Str) : Key), Sum.inr bx.1] := by
      unfold keysB
      rw [List.getElem?_append_left (by simpa [PrT.names] using hil)]
      simp [PrT.names, hb]
    refine wg_tup rfl (wgs_cons (wg_tup rfl (wgs_cons (wg_name 5 scSideBySide.nd (wgs_cons (wg_name 6 scSideBySide.nd (wgs_nil (wgs_cons (wg_name 7 scSideBySide.nd (wgs_nil ?_)))))))) rfl)) rfl
    (refine ws_seq ?_)
    refine ws_dputT 4 (hu_of hr) rfl ?_
    (refine w_var 7 rfl ?_; refine w_tup ?_; refine wa_cons ?_; refine w_str ?_; refine wa_cons ?_; refine w_var 5 rfl ?_; refine wa_nil ?_; refine And.intro (sz rfl) ?_)
    refine ⟨[(Sum.inr ("mine" : Str) : Key), Sum.inr bx.1], rfl, szt (by simp; omega), ws_nil ⟨.im (.str bx.1), .im (.int bx.2), .im (.int v), ?_⟩⟩
    rw [dput_new (knew i _ hk), List.take_add_one, hk, List.take_add_one, hv]
    simp
  · obtain ⟨a, b, c, rfl⟩ := hi
    have e1 : (List.zipWith (fun d e => D.tup [d, e]) (p.boxes.map PrT.encB) (mine.map D.int)).length = p.boxes.length := by simp [hm]
    rw [e1]
    (refine ws_seq ?_)
    refine ws_for (ts := [5, 6, 7]) PassesOwn.never rfl (wi_zip B.zip ?_)
    (refine w_ixN (w_var 1 rfl ⟨_, rfl, ?_⟩); refine w_int ?_; refine Exists.intro _ (And.intro rfl ?_); refine Exists.intro _ (And.intro rfl ?_); refine Exists.intro _ (And.intro rfl ?_); refine w_var 3 rfl ?_; refine Exists.intro _ (And.intro rfl ?_))
    refine ⟨by simp [hy], fun i ρ' => ∃ a b c, ρ' = [.im p.enc, .im q.enc, .im (encW mine), .im (encW yours), .ow (.dt ((keysB p q).take (p.boxes.length + i)) ((mine ++ yours.take i).map D.int)), a, b, c], ⟨a, b, c, by rw [List.take_of_length_le (l := mine) (by rw [hm]; exact Nat.le_refl _)]; simp⟩, fun i d ρ' hd hi => ?_, fun ρ' hi => ?_⟩
    · obtain ⟨a, b, c, rfl⟩ := hi
      obtain ⟨x, y, hx, hy', rfl⟩ := get_zipWith hd
      obtain ⟨bx, hb, rfl⟩ := get_map hx
      obtain ⟨v, hv, rfl⟩ := get_map hy'
      have hil : i < q.boxes.length := (List.getElem?_eq_some_iff.mp hb).1
      have hk : (keysB p q)[p.boxes.length + i]? = some [(Sum.inr ("yours" : Str) : Key), Sum.inr bx.1] := by
        unfold keysB
        rw [List.getElem?_append_right (by simp [PrT.names])]
        simp [PrT.names, hb]
      refine wg_tup rfl (wgs_cons (wg_tup rfl (wgs_cons (wg_name 5 scSideBySide.nd (wgs_cons (wg_name 6 scSideBySide.nd (wgs_nil (wgs_cons (wg_name 7 scSideBySide.nd (wgs_nil ?_)))))))) rfl)) rfl
      (refine ws_seq ?_)
      refine ws_dputT 4 (hu_of hr) rfl ?_
      (refine w_var 7 rfl ?_; refine w_tup ?_; refine wa_cons ?_; refine w_str ?_; refine wa_cons ?_; refine w_var 5 rfl ?_; refine wa_nil ?_; refine And.intro (sz rfl) ?_)
      refine ⟨[(Sum.inr ("yours" : Str) : Key), Sum.inr bx.1], rfl, szt (by simp; omega), ws_nil ⟨.im (.str bx.1), .im (.int bx.2), .im (.int v), ?_⟩⟩
      rw [dput_new (knew _ _ hk), ← Nat.add_assoc, List.take_add_one (i := p.boxes.length + i), hk, List.take_add_one (i := i), hv]
      simp
    · obtain ⟨a, b, c, rfl⟩ := hi
      have e2 : (List.zipWith (fun d e => D.tup [d, e]) (q.boxes.map PrT.encB) (yours.map D.int)).length = q.boxes.length := by simp [hy]
      rw [e2]
      refine wss_frz 4 rfl ?_
      (refine ws_seq ?_; refine ws_ret ?_; refine w_var 4 rfl ?_)
      rw [List.take_of_length_le (l := keysB p q) (by rw [kl]; exact Nat.le_refl _), List.take_of_length_le (l := yours) (by rw [hy]; exact Nat.le_refl _)]
      exact pp
def wfBWorth (n : Nat) : List D → (D → Prop) → Prop := fun ds P => ∃ (ks : List (List Key)) (vs : List D) (m : Str → Str → Int) (s : SumT), ds = [s.enc, .dt ks vs] ∧ s.dep ≤ n ∧ s.all (fun t x => (t = "mine" ∨ t = "yours") ∧ look ks vs [.inr t, .inr x] = some (.int (m t x))) ∧ P (.int (s.eval m))
theorem ok_bworth {f : Addr} {fd : FuncData} (F : Fun K "between_worth" "between_worth" sBetweenWorth f fd) (mgf : mg "between_worth" = some (.ref f)) (b : Binds K fd ["thing", "boxes"] []) : ∀ n, FnOk Pg w K mg base CX0 (n + 1) f fd ["thing", "boxes"] (spD K C (wfBWorth n)) := by
  intro n
  induction n using Nat.strongRecOn with
  | ind n ih =>
    refine fn_ok F scBetweenWorth (fun ds P h => by obtain ⟨_, _, _, _, rfl, _⟩ := h; rfl) fun cdv A outer s H E hr ds P h => ?_
    obtain ⟨ks, vs, m, s, rfl, hn, ha, p⟩ := h
    have G : ∀ k, k < n → Df Pg w K mg base C (k + 1) "between_worth" ["thing", "boxes"] (wfBWorth k) := fun k hk => ⟨f, fd, mgf, F.kp, b, ih k hk⟩
    cases s with
    | num i =>
      (refine ws_seq ?_; refine ws_if ?_; refine wt_eqc ?_; refine w_ixN (w_var 0 rfl ⟨_, rfl, ?_⟩); refine w_int ?_; refine Exists.intro _ (And.intro rfl ?_); refine Exists.intro _ (And.intro rfl ?_); refine w_str ?_; refine And.intro rfl ?_; refine ws_seq ?_; refine ws_ret ?_; refine w_ixN (w_var 0 rfl ⟨_, rfl, ?_⟩); refine w_int ?_; refine Exists.intro _ (And.intro rfl ?_); refine Exists.intro _ (And.intro rfl ?_))
      exact p
    | leaf t x =>
      obtain ⟨ht, hx⟩ := ha
      have n1 : t ≠ "number" ∧ t ≠ "plus" ∧ t ≠ "less" := by rcases ht with rfl | rfl <;> exact ⟨by decide +kernel, by decide +kernel, by decide +kernel⟩
      (refine ws_seq ?_; refine ws_if ?_; refine wt_eqc ?_; refine w_ixN (w_var 0 rfl ⟨_, rfl, ?_⟩); refine w_int ?_; refine Exists.intro _ (And.intro rfl ?_); refine Exists.intro _ (And.intro rfl ?_); refine w_str ?_; refine And.intro rfl ?_)
      refine if_f (by simp [sEq, n1.1]) ?_
      (refine ws_nil ?_; refine ws_seq ?_; refine ws_if ?_; refine wt_eqc ?_; refine w_ixN (w_var 0 rfl ⟨_, rfl, ?_⟩); refine w_int ?_; refine Exists.intro _ (And.intro rfl ?_); refine Exists.intro _ (And.intro rfl ?_); refine w_str ?_; refine And.intro rfl ?_)
      refine if_f (by simp [sEq, n1.2.1]) ?_
      (refine ws_nil ?_; refine ws_seq ?_; refine ws_if ?_; refine wt_eqc ?_; refine w_ixN (w_var 0 rfl ⟨_, rfl, ?_⟩); refine w_int ?_; refine Exists.intro _ (And.intro rfl ?_); refine Exists.intro _ (And.intro rfl ?_); refine w_str ?_; refine And.intro rfl ?_)
      refine if_f (by simp [sEq, n1.2.2]) ?_
      (refine ws_nil ?_; refine ws_seq ?_; refine ws_ret ?_)
      refine w_dgetT (hu_of hr) ?_
      (refine w_var 1 rfl ?_)
      refine ⟨_, _, rfl, ?_⟩
      (refine w_var 0 rfl ?_)
      exact ⟨[.inr t, .inr x], _, rfl, hx, p⟩
    | plus a b =>
      obtain ⟨k, rfl⟩ : ∃ k, n = k + 1 := ⟨n - 1, by simp [SumT.dep] at hn; omega⟩
      simp only [SumT.dep] at hn
      (refine ws_seq ?_; refine ws_if ?_; refine wt_eqc ?_; refine w_ixN (w_var 0 rfl ⟨_, rfl, ?_⟩); refine w_int ?_; refine Exists.intro _ (And.intro rfl ?_); refine Exists.intro _ (And.intro rfl ?_); refine w_str ?_; refine And.intro rfl ?_; refine ws_nil ?_; refine ws_seq ?_; refine ws_if ?_; refine wt_eqc ?_; refine w_ixN (w_var 0 rfl ⟨_, rfl, ?_⟩); refine w_int ?_; refine Exists.intro _ (And.intro rfl ?_); refine Exists.intro _ (And.intro rfl ?_); refine w_str ?_; refine And.intro rfl ?_; refine ws_seq ?_; refine ws_ret ?_)
      refine w_add ?_
      refine w_call (G k (by omega)) hr ?_ (by omega)
      (refine wa_cons ?_; refine w_ixN (w_var 0 rfl ⟨_, rfl, ?_⟩); refine w_int ?_; refine Exists.intro _ (And.intro rfl ?_); refine Exists.intro _ (And.intro rfl ?_); refine wa_cons ?_; refine w_var 1 rfl ?_; refine wa_nil ?_)
      refine ⟨_, _, m, a, rfl, by omega, ha.1, _, rfl, ?_⟩
      refine w_call (G k (by omega)) hr ?_ (by omega)
      (refine wa_cons ?_; refine w_ixN (w_var 0 rfl ⟨_, rfl, ?_⟩); refine w_int ?_; refine Exists.intro _ (And.intro rfl ?_); refine Exists.intro _ (And.intro rfl ?_); refine wa_cons ?_; refine w_var 1 rfl ?_; refine wa_nil ?_)
      exact ⟨_, _, m, _, rfl, by omega, ha.2, _, rfl, p⟩
    | less a b => 
      obtain ⟨k, rfl⟩ : ∃ k, n = k + 1 := ⟨n - 1, by simp [SumT.dep] at hn; omega⟩
      simp only [SumT.dep] at hn
      (refine ws_seq ?_; refine ws_if ?_; refine wt_eqc ?_; refine w_ixN (w_var 0 rfl ⟨_, rfl, ?_⟩); refine w_int ?_; refine Exists.intro _ (And.intro rfl ?_); refine Exists.intro _ (And.intro rfl ?_); refine w_str ?_; refine And.intro rfl ?_; refine ws_nil ?_; refine ws_seq ?_; refine ws_if ?_; refine wt_eqc ?_; refine w_ixN (w_var 0 rfl ⟨_, rfl, ?_⟩); refine w_int ?_; refine Exists.intro _ (And.intro rfl ?_); refine Exists.intro _ (And.intro rfl ?_); refine w_str ?_; refine And.intro rfl ?_; refine ws_nil ?_; refine ws_seq ?_; refine ws_if ?_; refine wt_eqc ?_; refine w_ixN (w_var 0 rfl ⟨_, rfl, ?_⟩); refine w_int ?_; refine Exists.intro _ (And.intro rfl ?_); refine Exists.intro _ (And.intro rfl ?_); refine w_str ?_; refine And.intro rfl ?_; refine ws_seq ?_; refine ws_ret ?_; refine w_sub ?_)
      refine w_call (G k (by omega)) hr ?_ (by omega)
      (refine wa_cons ?_; refine w_ixN (w_var 0 rfl ⟨_, rfl, ?_⟩); refine w_int ?_; refine Exists.intro _ (And.intro rfl ?_); refine Exists.intro _ (And.intro rfl ?_); refine wa_cons ?_; refine w_var 1 rfl ?_; refine wa_nil ?_)
      refine ⟨_, _, m, a, rfl, by omega, ha.1, _, rfl, ?_⟩
      refine w_call (G k (by omega)) hr ?_ (by omega)
      (refine wa_cons ?_; refine w_ixN (w_var 0 rfl ⟨_, rfl, ?_⟩); refine w_int ?_; refine Exists.intro _ (And.intro rfl ?_); refine Exists.intro _ (And.intro rfl ?_); refine wa_cons ?_; refine w_var 1 rfl ?_; refine wa_nil ?_)
      exact ⟨_, _, m, _, rfl, by omega, ha.2, _, rfl, p⟩
def wfBHolds (n : Nat) : List D → (D → Prop) → Prop := fun ds P => ∃ (ks : List (List Key)) (vs : List D) (m : Str → Str → Int) (c : CndT), ds = [c.enc, .dt ks vs] ∧ c.dep ≤ n ∧ c.all (fun t x => (t = "mine" ∨ t = "yours") ∧ look ks vs [.inr t, .inr x] = some (.int (m t x))) ∧ P (.bl (c.eval m))
theorem ok_bholds (Gw : ∀ n, Df Pg w K mg base C (n + 1) "between_worth" ["thing", "boxes"] (wfBWorth n)) {f : Addr} {fd : FuncData} (F : Fun K "between_holds" "between_holds" sBetweenHolds f fd) (mgf : mg "between_holds" = some (.ref f)) (b : Binds K fd ["thing", "boxes"] []) : ∀ n, FnOk Pg w K mg base CX0 (n + 2) f fd ["thing", "boxes"] (spD K C (wfBHolds n)) := by
  intro n
  induction n using Nat.strongRecOn with
  | ind n ih =>
    refine fn_ok F scBetweenHolds (fun ds P h => by obtain ⟨_, _, _, _, rfl, _⟩ := h; rfl) fun cdv A outer s H E hr ds P h => ?_
    obtain ⟨ks, vs, m, c, rfl, hn, ha, p⟩ := h
    have G : ∀ k, k < n → Df Pg w K mg base C (k + 2) "between_holds" ["thing", "boxes"] (wfBHolds k) := fun k hk => ⟨f, fd, mgf, F.kp, b, ih k hk⟩
    cases c with
    | yes => 
      (refine ws_seq ?_; refine ws_if ?_; refine wt_eqc ?_; refine w_ixN (w_var 0 rfl ⟨_, rfl, ?_⟩); refine w_int ?_; refine Exists.intro _ (And.intro rfl ?_); refine Exists.intro _ (And.intro rfl ?_); refine w_str ?_; refine And.intro rfl ?_; refine ws_seq ?_; refine ws_ret ?_; refine w_bl ?_)
      exact p
    | no c =>
      obtain ⟨k, rfl⟩ : ∃ k, n = k + 1 := ⟨n - 1, by simp [CndT.dep] at hn; omega⟩
      simp only [CndT.dep] at hn
      (refine ws_seq ?_; refine ws_if ?_; refine wt_eqc ?_; refine w_ixN (w_var 0 rfl ⟨_, rfl, ?_⟩); refine w_int ?_; refine Exists.intro _ (And.intro rfl ?_); refine Exists.intro _ (And.intro rfl ?_); refine w_str ?_; refine And.intro rfl ?_; refine ws_nil ?_; refine ws_seq ?_; refine ws_if ?_; refine wt_eqc ?_; refine w_ixN (w_var 0 rfl ⟨_, rfl, ?_⟩); refine w_int ?_; refine Exists.intro _ (And.intro rfl ?_); refine Exists.intro _ (And.intro rfl ?_); refine w_str ?_; refine And.intro rfl ?_; refine ws_seq ?_; refine ws_ret ?_; refine w_not ?_)
      refine w_call (G k (by omega)) hr ?_ (by omega)
      (refine wa_cons ?_; refine w_ixN (w_var 0 rfl ⟨_, rfl, ?_⟩); refine w_int ?_; refine Exists.intro _ (And.intro rfl ?_); refine Exists.intro _ (And.intro rfl ?_); refine wa_cons ?_; refine w_var 1 rfl ?_; refine wa_nil ?_)
      refine ⟨_, _, m, c, rfl, by omega, ha, _, rfl, p⟩
    | both c d =>
      obtain ⟨k, rfl⟩ : ∃ k, n = k + 1 := ⟨n - 1, by simp [CndT.dep] at hn; omega⟩
      simp only [CndT.dep] at hn
      (refine ws_seq ?_; refine ws_if ?_; refine wt_eqc ?_; refine w_ixN (w_var 0 rfl ⟨_, rfl, ?_⟩); refine w_int ?_; refine Exists.intro _ (And.intro rfl ?_); refine Exists.intro _ (And.intro rfl ?_); refine w_str ?_; refine And.intro rfl ?_; refine ws_nil ?_; refine ws_seq ?_; refine ws_if ?_; refine wt_eqc ?_; refine w_ixN (w_var 0 rfl ⟨_, rfl, ?_⟩); refine w_int ?_; refine Exists.intro _ (And.intro rfl ?_); refine Exists.intro _ (And.intro rfl ?_); refine w_str ?_; refine And.intro rfl ?_; refine ws_nil ?_; refine ws_seq ?_; refine ws_if ?_; refine wt_eqc ?_; refine w_ixN (w_var 0 rfl ⟨_, rfl, ?_⟩); refine w_int ?_; refine Exists.intro _ (And.intro rfl ?_); refine Exists.intro _ (And.intro rfl ?_); refine w_str ?_; refine And.intro rfl ?_; refine ws_seq ?_; refine ws_ret ?_; refine w_and ?_)
      refine w_call (G k (by omega)) hr ?_ (by omega)
      (refine wa_cons ?_; refine w_ixN (w_var 0 rfl ⟨_, rfl, ?_⟩); refine w_int ?_; refine Exists.intro _ (And.intro rfl ?_); refine Exists.intro _ (And.intro rfl ?_); refine wa_cons ?_; refine w_var 1 rfl ?_; refine wa_nil ?_)
      refine ⟨_, _, m, c, rfl, by omega, ha.1, _, rfl, if_2 (fun e => ?_) fun e => ?_⟩
      · (refine w_one ?_)
        refine w_call (G k (by omega)) hr ?_ (by omega)
        (refine wa_cons ?_; refine w_ixN (w_var 0 rfl ⟨_, rfl, ?_⟩); refine w_int ?_; refine Exists.intro _ (And.intro rfl ?_); refine Exists.intro _ (And.intro rfl ?_); refine wa_cons ?_; refine w_var 1 rfl ?_; refine wa_nil ?_)
        refine ⟨_, _, m, d, rfl, by omega, ha.2, ?_⟩
        have e2 : (CndT.both c d).eval m = d.eval m := by simp [CndT.eval, e]
        rw [← e2]
        exact p
      · have e2 : (CndT.both c d).eval m = false := by simp [CndT.eval, e]
        rw [← e2]
        exact p
    | same x y =>
      (refine ws_seq ?_; refine ws_if ?_; refine wt_eqc ?_; refine w_ixN (w_var 0 rfl ⟨_, rfl, ?_⟩); refine w_int ?_; refine Exists.intro _ (And.intro rfl ?_); refine Exists.intro _ (And.intro rfl ?_); refine w_str ?_; refine And.intro rfl ?_; refine ws_nil ?_; refine ws_seq ?_; refine ws_if ?_; refine wt_eqc ?_; refine w_ixN (w_var 0 rfl ⟨_, rfl, ?_⟩); refine w_int ?_; refine Exists.intro _ (And.intro rfl ?_); refine Exists.intro _ (And.intro rfl ?_); refine w_str ?_; refine And.intro rfl ?_; refine ws_nil ?_; refine ws_seq ?_; refine ws_if ?_; refine wt_eqc ?_; refine w_ixN (w_var 0 rfl ⟨_, rfl, ?_⟩); refine w_int ?_; refine Exists.intro _ (And.intro rfl ?_); refine Exists.intro _ (And.intro rfl ?_); refine w_str ?_; refine And.intro rfl ?_; refine ws_nil ?_; refine ws_seq ?_)
      refine ws_set 2 scBetweenHolds.nd ?_
      refine w_call (Gw n) hr ?_ (by omega)
      (refine wa_cons ?_; refine w_ixN (w_var 0 rfl ⟨_, rfl, ?_⟩); refine w_int ?_; refine Exists.intro _ (And.intro rfl ?_); refine Exists.intro _ (And.intro rfl ?_); refine wa_cons ?_; refine w_var 1 rfl ?_; refine wa_nil ?_)
      simp only [CndT.dep] at hn
      refine ⟨_, _, m, x, rfl, by omega, ha.1, ?_⟩
      (refine ws_seq ?_)
      refine ws_set 3 scBetweenHolds.nd ?_
      refine w_call (Gw n) hr ?_ (by omega)
      (refine wa_cons ?_; refine w_ixN (w_var 0 rfl ⟨_, rfl, ?_⟩); refine w_int ?_; refine Exists.intro _ (And.intro rfl ?_); refine Exists.intro _ (And.intro rfl ?_); refine wa_cons ?_; refine w_var 1 rfl ?_; refine wa_nil ?_)
      refine ⟨_, _, m, y, rfl, by omega, ha.2, ?_⟩
      (refine ws_seq ?_; refine ws_if ?_; refine wt_eqc ?_; refine w_ixN (w_var 0 rfl ⟨_, rfl, ?_⟩); refine w_int ?_; refine Exists.intro _ (And.intro rfl ?_); refine Exists.intro _ (And.intro rfl ?_); refine w_str ?_; refine And.intro rfl ?_; refine ws_seq ?_; refine ws_ret ?_)
      refine w_eq ?_
      (refine w_var 2 rfl ?_; refine w_var 3 rfl ?_; refine And.intro rfl ?_)
      exact p
    | under x y => 
      (refine ws_seq ?_; refine ws_if ?_; refine wt_eqc ?_; refine w_ixN (w_var 0 rfl ⟨_, rfl, ?_⟩); refine w_int ?_; refine Exists.intro _ (And.intro rfl ?_); refine Exists.intro _ (And.intro rfl ?_); refine w_str ?_; refine And.intro rfl ?_; refine ws_nil ?_; refine ws_seq ?_; refine ws_if ?_; refine wt_eqc ?_; refine w_ixN (w_var 0 rfl ⟨_, rfl, ?_⟩); refine w_int ?_; refine Exists.intro _ (And.intro rfl ?_); refine Exists.intro _ (And.intro rfl ?_); refine w_str ?_; refine And.intro rfl ?_; refine ws_nil ?_; refine ws_seq ?_; refine ws_if ?_; refine wt_eqc ?_; refine w_ixN (w_var 0 rfl ⟨_, rfl, ?_⟩); refine w_int ?_; refine Exists.intro _ (And.intro rfl ?_); refine Exists.intro _ (And.intro rfl ?_); refine w_str ?_; refine And.intro rfl ?_; refine ws_nil ?_; refine ws_seq ?_)
      refine ws_set 2 scBetweenHolds.nd ?_
      refine w_call (Gw n) hr ?_ (by omega)
      (refine wa_cons ?_; refine w_ixN (w_var 0 rfl ⟨_, rfl, ?_⟩); refine w_int ?_; refine Exists.intro _ (And.intro rfl ?_); refine Exists.intro _ (And.intro rfl ?_); refine wa_cons ?_; refine w_var 1 rfl ?_; refine wa_nil ?_)
      simp only [CndT.dep] at hn
      refine ⟨_, _, m, x, rfl, by omega, ha.1, ?_⟩
      (refine ws_seq ?_)
      refine ws_set 3 scBetweenHolds.nd ?_
      refine w_call (Gw n) hr ?_ (by omega)
      (refine wa_cons ?_; refine w_ixN (w_var 0 rfl ⟨_, rfl, ?_⟩); refine w_int ?_; refine Exists.intro _ (And.intro rfl ?_); refine Exists.intro _ (And.intro rfl ?_); refine wa_cons ?_; refine w_var 1 rfl ?_; refine wa_nil ?_)
      refine ⟨_, _, m, y, rfl, by omega, ha.2, ?_⟩
      (refine ws_seq ?_; refine ws_if ?_; refine wt_eqc ?_; refine w_ixN (w_var 0 rfl ⟨_, rfl, ?_⟩); refine w_int ?_; refine Exists.intro _ (And.intro rfl ?_); refine Exists.intro _ (And.intro rfl ?_); refine w_str ?_; refine And.intro rfl ?_; refine ws_nil ?_; refine ws_seq ?_; refine ws_ret ?_; refine w_lt ?_; refine w_var 2 rfl ?_; refine Exists.intro _ (And.intro rfl ?_); refine w_var 3 rfl ?_; refine Exists.intro _ (And.intro rfl ?_))
      exact p
end
end TW
set_option Elab.async false
set_option linter.all false
set_option maxRecDepth 100000
set_option maxHeartbeats 4000000
namespace TW
open PySem L2 PyProof.Rows
theorem look_known {p q : PrT} (ok : p.Ok) {mine yours : List Int} (hm : mine.length = p.boxes.length) (hy : yours.length = q.boxes.length) {t x : Str} (h : known2 p q t x) : (t = "mine" ∨ t = "yours") ∧ look (keysB p q) ((mine ++ yours).map D.int) [.inr t, .inr x] = some (.int (mAt p q mine yours t x)) := by
  refine ⟨h.my, ?_⟩
  rw [List.map_append]
  rcases h with ⟨rfl, h⟩ | ⟨rfl, h⟩
  · refine look_app1 (by simp [PrT.names, hm]) ?_
    unfold mAt
    rw [if_pos rfl]
    exact look_tag "mine" h (by simp [PrT.names, hm])
  · refine look_app2 (by simp [PrT.names, hm]) (fun hk => ?_) ?_
    · obtain ⟨n, _, e⟩ := List.mem_map.mp hk
      have : ("mine" : Str) = "yours" := by simpa using (List.cons.inj e).1
      exact absurd this (by decide +kernel)
    · unfold mAt
      rw [if_neg (by decide +kernel)]
      exact look_tag "yours" h (by simp [PrT.names, hy])
section
variable {Pg : Program} {w : World} {K : PySem.W.Frag} {mg : Str → Option Value} {base : Heap} {C : Addr}
def wfNeedB : List D → (D → Prop) → Prop := fun ds P => ∃ (p q : PrT) (mine yours : List Int) (t : Thing), ds = [p.enc, q.enc, encW mine, encW yours, t.enc] ∧ p.Ok ∧ q.Ok ∧ p.pair q ∧ p.fits mine ∧ q.fits yours ∧ t.dep ≤ 12 ∧ t.all (known2 p q) ∧ P .non
theorem ok_needb (Gp : Df Pg w K mg base C 2 "need_pair" ["one", "other"] wfPair) (Gw : Df Pg w K mg base C 1 "need_worths" ["program", "worths"] wfNeedW) (Gk : Df Pg w K mg base C 14 "names_known" ["one", "other", "thing"] wfKnownN)
    {f : Addr} {fd : FuncData} (F : Fun K "need_between" "need_between" sNeedBetween f fd) : FnOk Pg w K mg base CX0 15 f fd ["one", "other", "mine", "yours", "thing"] (spD K C wfNeedB) := by
  refine fn_ok F scNeedBetween (fun ds P h => by obtain ⟨_, _, _, _, _, rfl, _⟩ := h; rfl) fun cdv A outer s H E hr ds P h => ?_
  obtain ⟨p, q, mine, yours, t, rfl, ok, ok2, hp, hm, hy, h12, ha, pp⟩ := h
  (refine ws_seq ?_)
  refine ws_expr (w_call Gp hr ?_)
  (refine wa_cons ?_; refine w_var 0 rfl ?_; refine wa_cons ?_; refine w_var 1 rfl ?_; refine wa_nil ?_)
  refine ⟨p, q, rfl, ok, ok2, hp, ?_⟩
  (refine ws_seq ?_)
  refine ws_expr (w_call Gw hr ?_)
  (refine wa_cons ?_; refine w_var 0 rfl ?_; refine wa_cons ?_; refine w_var 2 rfl ?_; refine wa_nil ?_)
  refine ⟨p, mine, rfl, hm, ?_⟩
  (refine ws_seq ?_)
  refine ws_expr (w_call Gw hr ?_)
  (refine wa_cons ?_; refine w_var 1 rfl ?_; refine wa_cons ?_; refine w_var 3 rfl ?_; refine wa_nil ?_)
  refine ⟨q, yours, rfl, hy, ?_⟩
  (refine ws_seq ?_; refine ws_if ?_; refine wt_not ?_)
  refine wt_val (w_call Gk hr ?_)
  (refine wa_cons ?_; refine w_var 0 rfl ?_; refine wa_cons ?_; refine w_var 1 rfl ?_; refine wa_cons ?_; refine w_var 4 rfl ?_; refine wa_nil ?_)
  refine ⟨p, q, t, rfl, ok, ok2, h12, ha, true, rfl, ?_⟩
  (refine ws_nil ?_; refine ws_nil ?_)
  exact pp
def wfHoldsB : List D → (D → Prop) → Prop := fun ds P => ∃ (p q : PrT) (mine yours : List Int) (c : CndT), ds = [p.enc, q.enc, encW mine, encW yours, c.enc] ∧ p.Ok ∧ q.Ok ∧ p.pair q ∧ p.fits mine ∧ q.fits yours ∧ c.dep ≤ 12 ∧ c.all (known2 p q) ∧ P (.bl (c.eval (mAt p q mine yours)))
theorem ok_holdsb (Gn : Df Pg w K mg base C 15 "need_between" ["one", "other", "mine", "yours", "thing"] wfNeedB) (Gs : Df Pg w K mg base C 1 "side_by_side" ["one", "other", "mine", "yours"] wfSide) (Gh : Df Pg w K mg base C 14 "between_holds" ["thing", "boxes"] (wfBHolds 12))
    {f : Addr} {fd : FuncData} (F : Fun K "holds_between" "holds_between" sHoldsBetween f fd) : FnOk Pg w K mg base CX0 16 f fd ["one", "other", "mine", "yours", "condition"] (spD K C wfHoldsB) := by
  refine fn_ok F scHoldsBetween (fun ds P h => by obtain ⟨_, _, _, _, _, rfl, _⟩ := h; rfl) fun cdv A outer s H E hr ds P h => ?_
  obtain ⟨p, q, mine, yours, c, rfl, ok, ok2, hp, hm, hy, h12, ha, pp⟩ := h
  (refine ws_seq ?_)
  refine ws_expr (w_call Gn hr ?_)
  (refine wa_cons ?_; refine w_var 0 rfl ?_; refine wa_cons ?_; refine w_var 1 rfl ?_; refine wa_cons ?_; refine w_var 2 rfl ?_; refine wa_cons ?_; refine w_var 3 rfl ?_; refine wa_cons ?_; refine w_var 4 rfl ?_; refine wa_nil ?_)
  refine ⟨p, q, mine, yours, .co c, rfl, ok, ok2, hp, hm, hy, h12, ha, ?_⟩
  (refine ws_seq ?_; refine ws_ret ?_)
  refine w_call Gh hr ?_
  (refine wa_cons ?_; refine w_var 4 rfl ?_; refine wa_cons ?_)
  refine w_call Gs hr ?_
  (refine wa_cons ?_; refine w_var 0 rfl ?_; refine wa_cons ?_; refine w_var 1 rfl ?_; refine wa_cons ?_; refine w_var 2 rfl ?_; refine wa_cons ?_; refine w_var 3 rfl ?_; refine wa_nil ?_)
  refine ⟨p, q, mine, yours, rfl, ok, ok2, hm.1, hy.1, ?_⟩
  (refine wa_nil ?_)
  exact ⟨_, _, _, c, rfl, h12, c.all_mono (fun t x h => look_known ok hm.1 hy.1 h) ha, pp⟩
end
end TW
set_option Elab.async false
set_option linter.all false
set_option maxRecDepth 100000
set_option maxHeartbeats 4000000
/-! d.setdefault(k, x) with keys that are tuples. -/
namespace TW
open PySem L2 PyProof.Rows
section
variable {X : Cx} {pins : List (Addr × Obj)} {σ : L2.St} {H : Hp} {s : Shared} {a b : Addr} {u r : Value} {d : V} {k : List Key} {A : Around} {E : Value → Shared → Prop}
theorem d_setdT {kvs : List (List Key × V)} {Q : Value → Shared → Prop} (hu : A.units + 1 < cLine) (I : Inv X pins σ H s) (e : H a = some (.dT kvs)) (eb : H b = some (.tup (k.map kV))) (rd : RelV d r) (hl : kvs.length < sizeLine)
    (h1 : ∀ v, valV kvs k = some v → ∀ (w' : Value) (s' : Shared), Inv X pins σ H s' → RelV v w' → Q w' s') (h2 : valV kvs k = none → ∀ (s' : Shared), Inv X pins σ (upd H a (.dT (putK kvs k d))) s' → Q r s') :
    wpAny (model X.prog X.w) A (call (.builtin "dict.setdefault") [.ref a, .ref b, r]) Q E s := by
  obtain ⟨z, hd, xs, rel, dd⟩ := dt_of I.hok e
  have hz : xs.length ≤ sizeLine := by rw [← Paired.length rel]; exact z
  refine call_setdefault_heap (hsz := hz) (knd := tupleKind (mixKind X.prog X.w)) (tupleKind_room_in1 hu) (key_of I.hok eb) hd dd (fun p hp => ?_) fun hn h' dd' hs => ?_
  · have q := KT.val rel k
    rw [hp] at q
    cases q0 : valV kvs k with
    | none => rw [q0] at q; exact (show False from q).elim
    | some v0 =>
      rw [q0] at q
      exact h1 v0 q0 _ _ (I.tok _) q
  · have q := KT.val rel k
    rw [hn] at q
    cases q0 : valV kvs k with
    | some v0 => rw [q0] at q; exact (show False from q).elim
    | none =>
      have hl2 : (putK kvs k d).length ≤ sizeLine := by
        have := length_putK kvs k d
        omega
      obtain ⟨ob, es, ep, hq, g2, g3, g4, _, g5⟩ := dd'
      refine h2 q0 _ (d_write (t' := s.toks + _) I (by rw [e]; exact True.intro) hs ⟨ob, hq⟩ ⟨hl2, hd, _, (rel.put k eb rd).keeps fun c ys ec => ?_, ob, es, ep, hq, g2, g3, g4, g5⟩)
      rw [upd_ne (ne_of ec e (fun z => nomatch z))]
      exact ec
end
def tDSetdT (td ty tx : TE) : TE := fun σ H Q => td σ H fun x H1 => ∃ a, x = .ref a ∧ IsD H1 a ∧ ty σ H1 fun y H2 => tx σ H2 fun z H3 => ∃ (kvs : List (List Key × V)) (k : List Key) (b : Addr), H3 a = some (.dT kvs) ∧ y = .ref b ∧ H3 b = some (.tup (k.map kV)) ∧ kvs.length < sizeLine ∧
  (∀ v, valV kvs k = some v → Q v H3) ∧ (valV kvs k = none → Q z (upd H3 a (.dT (putK kvs k z))))
section
variable {X : Cx} {o e f : Expr} {td ty tx : TE} {apos cpos : Pos}
theorem pe_dsetdT (hu : X.A.units + 1 < cLine) (ho : PE X o td) (he : PE X e ty) (hf : PE X f tx) (m : M2 X o "setdefault" apos e f cpos) : PE X (.Call (.Attribute o "setdefault" apos) [e, f] [] cpos) (tDSetdT td ty tx) := by
  refine ⟨fun pins s σ H Q I h => ?_⟩
  refine wpAny_Call_method m.base m.few m.line PySem.F.plainAttrs_dict PySem.F.slot_dict_setdefault PySem.F.type_dict_setdefault (thn (ho.run pins s σ H _ I h) fun u s1 ⟨x, H1, I1, rx, a, ex, d, q1⟩ => ?_)
  subst ex
  obtain rfl : u = Value.ref a := rx
  obtain ⟨t1, t2, _⟩ := isD_at I1 d
  refine ⟨t1, t2, ?_⟩
  rw [m.trees]
  refine Calls.callWith_builtin rfl (Calls.evalArgs_plain (Calls.spliced_cons (thn (he.run pins s1 σ H1 _ I1 q1) fun iv s2 ⟨y, H2, I2, ry, q2⟩ =>
    Calls.spliced_cons (thn (hf.run pins s2 σ H2 _ I2 q2) fun fv s3 ⟨z, H3, I3, rz, kvs, k, b, ea, ey, eb, hl, q3, q4⟩ => Calls.spliced_nil ?_))))
  subst ey
  cases (show iv = Value.ref b from ry)
  exact d_setdT hu I3 ea eb rz hl (fun v hv w' s4 I4 rw' => ⟨v, _, I4, rw', q3 v hv⟩) fun hn s4 I4 => ⟨z, _, I4, rz, q4 hn⟩
end
end TW
set_option Elab.async false
set_option linter.all false
set_option maxRecDepth 100000
set_option maxHeartbeats 4000000
namespace TW
open PySem L2 PyProof.Rows
/-! ### papers -/
structure EntT where
  p : Nat
  q : Nat
  c : CndT
  who : Str
  wait : SumT
namespace EntT
def enc (e : EntT) : D := .tup [.int e.p, .int e.q, e.c.enc, .str e.who, e.wait.enc]
def pl (e : EntT) : Nat × Nat := (e.p, e.q)
end EntT
def whoL : List Str := ["mine", "yours", "both", "end"]
structure EntT.Ok (a b : PrT) (e : EntT) : Prop where
  p : e.p < a.nodes.length
  q : e.q < b.nodes.length
  c : e.c.all (known2 a b)
  cd : e.c.dep ≤ 12
  who : e.who ∈ whoL
  w : e.wait.all (known2 a b)
  wd : e.wait.dep ≤ 12
def encE (es : List EntT) : D := .lst (es.map EntT.enc)
/-! ### which entries are at which places -/
def bstep (st : List (Nat × Nat) × List (List Nat)) (pl : Nat × Nat) (i : Nat) : List (Nat × Nat) × List (List Nat) :=
  if pl ∈ st.1 then (st.1, st.2.modify (placeOf st.1 pl) (· ++ [i])) else (st.1 ++ [pl], st.2 ++ [[i]])
def bAll (ps : List (Nat × Nat)) : Nat → List (Nat × Nat) × List (List Nat)
  | 0 => ([], [])
  | n + 1 => match ps[n]? with
    | some pl => bstep (bAll ps n) pl n
    | none => bAll ps n
def keyP (pl : Nat × Nat) : List Key := [.inl pl.1, .inl pl.2]
theorem keyP_inj {a b : Nat × Nat} (h : keyP a = keyP b) : a = b := by
  simp [keyP] at h
  exact Prod.ext (by exact_mod_cast h.1) (by exact_mod_cast h.2)
def encN (ns : List Nat) : D := .lst (ns.map fun n : Nat => D.int n)
def encBy (st : List (Nat × Nat) × List (List Nat)) : D := .dt (st.1.map keyP) (st.2.map encN)
def places (es : List EntT) : List (Nat × Nat) := es.map EntT.pl
/-- the numbers ahead of n of the entries at pl -/
def idxs (ps : List (Nat × Nat)) (pl : Nat × Nat) (n : Nat) : List Nat := (List.range n).filter fun i => decide (ps[i]? = some pl)
theorem idxs_succ (ps : List (Nat × Nat)) (pl : Nat × Nat) (n : Nat) : idxs ps pl (n + 1) = idxs ps pl n ++ if ps[n]? = some pl then [n] else [] := by
  unfold idxs
  rw [List.range_succ, List.filter_append]
  congr 1
  by_cases h : ps[n]? = some pl <;> simp [h]
structure BInv (ps : List (Nat × Nat)) (n : Nat) (st : List (Nat × Nat) × List (List Nat)) : Prop where
  nd : st.1.Nodup
  len : st.1.length = st.2.length
  mem : ∀ pl, pl ∈ st.1 ↔ pl ∈ ps.take n
  at' : ∀ (j : Nat) (pl : Nat × Nat), st.1[j]? = some pl → st.2[j]? = some (idxs ps pl n)
theorem idxs_none {ps : List (Nat × Nat)} {pl : Nat × Nat} {n : Nat} (h : pl ∉ ps.take n) : idxs ps pl n = [] := by
  unfold idxs
  rw [List.filter_eq_nil_iff]
  intro i hi
  simp at hi
  simp only [decide_eq_true_eq]
  intro e
  exact h (List.mem_of_getElem? (i := i) (by rw [List.getElem?_take, if_pos hi]; exact e))
theorem bAll_inv (ps : List (Nat × Nat)) : ∀ n, n ≤ ps.length → BInv ps n (bAll ps n)
  | 0, _ => ⟨by simp [bAll], rfl, by simp [bAll], by simp [bAll]⟩
  | n + 1, hn => by
    have ih := bAll_inv ps n (by omega)
    have e : ps[n]? = some ps[n] := List.getElem?_eq_getElem (by omega)
    show BInv ps (n + 1) (match ps[n]? with | some pl => bstep (bAll ps n) pl n | none => bAll ps n)
    rw [e]
    show BInv ps (n + 1) (bstep (bAll ps n) ps[n] n)
    generalize bAll ps n = st at ih
    generalize hpl : ps[n] = pl at e
    have tk : ps.take (n + 1) = ps.take n ++ [pl] := by rw [List.take_add_one, e]; rfl
    unfold bstep
    by_cases h : pl ∈ st.1
    · rw [if_pos h]
      obtain ⟨g1, g2⟩ := placeOf_get h
      refine ⟨ih.nd, by simp [ih.len], fun q => ?_, fun j q hj => ?_⟩
      · rw [tk, List.mem_append]
        constructor
        · intro z; exact .inl ((ih.mem q).mp z)
        · rintro (z | z)
          · exact (ih.mem q).mpr z
          · simp at z; subst z; exact h
      · show (st.2.modify (placeOf st.1 pl) (· ++ [n]))[j]? = _
        rw [List.getElem?_modify, ih.at' j q hj, idxs_succ]
        by_cases hjp : placeOf st.1 pl = j
        · have : q = pl := by rw [← hjp, g1] at hj; exact (Option.some.inj hj).symm
          subst this
          simp [hjp, e]
        · have hq : q ≠ pl := fun z => by
            subst z
            have h1 := (List.getElem?_eq_some_iff.mp hj)
            have h2 := (List.getElem?_eq_some_iff.mp g1)
            obtain ⟨a1, b1⟩ := h1
            obtain ⟨a2, b2⟩ := h2
            exact hjp ((List.getElem_inj ih.nd).mp (b2.trans b1.symm))
          have : ¬ ps[n]? = some q := by rw [e]; intro z; exact hq (Option.some.inj z).symm
          simp [hjp, this]
    · rw [if_neg h]
      have hno : pl ∉ ps.take n := fun z => h ((ih.mem pl).mpr z)
      refine ⟨List.nodup_append.mpr ⟨ih.nd, by simp, by intro a ha b hb; simp at hb; subst hb; intro z; subst z; exact h ha⟩, by simp [ih.len], fun q => ?_, fun j q hj => ?_⟩
      · rw [tk, List.mem_append, List.mem_append, ih.mem q]
      · show (st.2 ++ [[n]])[j]? = _
        by_cases hjl : j < st.1.length
        · rw [List.getElem?_append_left hjl] at hj
          rw [List.getElem?_append_left (by rw [← ih.len]; exact hjl), ih.at' j q hj, idxs_succ]
          have hq : ¬ ps[n]? = some q := by
            rw [e]
            intro z
            exact h (by rw [Option.some.inj z]; exact List.mem_of_getElem? hj)
          simp [hq]
        · rw [List.getElem?_append_right (by omega)] at hj
          have hj0 : j = st.1.length := by
            have := (List.getElem?_eq_some_iff.mp hj).1
            simp at this
            omega
          subst hj0
          simp at hj
          subst hj
          rw [ih.len, List.getElem?_append_right (Nat.le_refl _), idxs_succ, idxs_none hno]
          simp [e]
def byP (es : List EntT) : List (Nat × Nat) × List (List Nat) := bAll (places es) es.length
theorem byP_inv (es : List EntT) : BInv (places es) es.length (byP es) := bAll_inv _ _ (by simp [places])
theorem look_zipK {ks : List (Nat × Nat)} {nss : List (List Nat)} {pl : Nat × Nat} : ks.length = nss.length → pl ∈ ks → ∃ ns, nss[placeOf ks pl]? = some ns ∧ look (ks.map keyP) (nss.map encN) (keyP pl) = some (encN ns) := by
  induction ks generalizing nss with
  | nil => intro _ h; cases h
  | cons k ks ih =>
    intro hl h
    cases nss with
    | nil => cases hl
    | cons ns nss =>
      unfold placeOf
      show ∃ m, _ ∧ (if keyP k = keyP pl then some (encN ns) else look (ks.map keyP) (nss.map encN) (keyP pl)) = some (encN m)
      by_cases e : k = pl
      · rw [if_pos e, e, if_pos rfl]; exact ⟨ns, rfl, rfl⟩
      · rw [if_neg e, if_neg (fun z => e (keyP_inj z))]
        have hm : pl ∈ ks := by
          rcases List.mem_cons.mp h with z | z
          · exact absurd z.symm e
          · exact z
        obtain ⟨m, h1, h2⟩ := ih (by simpa using hl) hm
        exact ⟨m, by simpa using h1, h2⟩
/-- the numbers of the entries at a place -/
def numsAt (es : List EntT) (pl : Nat × Nat) : List Nat := idxs (places es) pl es.length
theorem by_look {es : List EntT} {pl : Nat × Nat} (h : pl ∈ (byP es).1) : look ((byP es).1.map keyP) ((byP es).2.map encN) (keyP pl) = some (encN (numsAt es pl)) := by
  have I := byP_inv es
  obtain ⟨ns, h1, h2⟩ := look_zipK I.len h
  have := I.at' _ _ (placeOf_get h).1
  rw [h1] at this
  cases this
  exact h2
theorem by_none {es : List EntT} {pl : Nat × Nat} (h : pl ∉ (byP es).1) : keyP pl ∉ (byP es).1.map keyP ∧ numsAt es pl = [] := by
  have I := byP_inv es
  refine ⟨fun z => ?_, idxs_none fun z => h ((I.mem pl).mpr z)⟩
  obtain ⟨q, hq, e⟩ := List.mem_map.mp z
  exact h (by rw [← keyP_inj e]; exact hq)
theorem mem_nums {es : List EntT} {pl : Nat × Nat} {i : Nat} (h : i ∈ numsAt es pl) : i < es.length ∧ ∃ e, es[i]? = some e ∧ e.pl = pl := by
  unfold numsAt idxs at h
  simp at h
  obtain ⟨h1, h2⟩ := h
  refine ⟨h1, es[i], List.getElem?_eq_getElem h1, ?_⟩
  simp [places, List.getElem?_eq_getElem h1] at h2
  exact h2
def PapOk (a b : PrT) (es : List EntT) : Prop := es.length ≤ 30 ∧ ∀ e ∈ es, e.Ok a b
/-- which entry counts -/
def cntM (a b : PrT) (es : List EntT) (pl : Nat × Nat) (mine yours : List Int) : Option Nat :=
  (numsAt es pl).find? fun i => match es[i]? with | some e => e.c.eval (mAt a b mine yours) | none => false
def encO : Option Nat → D
  | none => .non
  | some n => .int n
def fldW : List Str := ["mine_program", "yours_program", "entries", "numbers_there"]
def walkerD (a b : PrT) (es : List EntT) : D := .obj fldW [a.enc, b.enc, encE es, encBy (byP es)]
def encPl (pl : Nat × Nat) (mine yours : List Int) : D := .tup [.int pl.1, .int pl.2, encW mine, encW yours]
end TW
set_option Elab.async false
set_option linter.all false
set_option maxRecDepth 100000
set_option maxHeartbeats 4000000
namespace TW
open PySem L2 PyProof.Rows
/-- the class Walker as the top has made it -/
structure Wk (K : PySem.W.Frag) (C : Addr) : Prop where
  cl : Cls K C
  n1 : NoAttr K C "mine_program"
  n2 : NoAttr K C "yours_program"
  n3 : NoAttr K C "entries"
  n4 : NoAttr K C "numbers_there"
theorem look_eval {p q : PrT} (ok : p.Ok) {mine yours : List Int} (hm : mine.length = p.boxes.length) (hy : yours.length = q.boxes.length) {c : CndT} (h : c.all (known2 p q)) : c.all (fun t x => (t = "mine" ∨ t = "yours") ∧ look (keysB p q) ((mine ++ yours).map D.int) [.inr t, .inr x] = some (.int (mAt p q mine yours t x))) :=
  c.all_mono (fun _ _ h => look_known ok hm hy h) h
section
variable {Pg : Program} {w : World} {K : PySem.W.Frag} {mg : Str → Option Value} {base : Heap} {C : Addr}
theorem w_getBy {X : Cx} {ρ : List Sl} {a e e2 : Expr} {ap cp : Pos} {P : D → Prop} (hu : X.A.units + 1 < cLine) (m : M2 X a "get" ap e e2 cp) (h : W C X a ρ fun x => ∃ es, x = encBy (byP es) ∧ W C X e ρ fun y => ∃ pl : Nat × Nat, y = .tup [.int pl.1, .int pl.2] ∧ W C X e2 ρ fun z => z = .lst [] ∧ P (encN (numsAt es pl))) : W C X (.Call (.Attribute a "get" ap) [e, e2] [] cp) ρ P :=
  w_get2T hu m (h.mono fun x ⟨es, hx, h2⟩ => ⟨_, _, hx, h2.mono fun y ⟨pl, hy, h3⟩ => ⟨keyP pl, hy, h3.mono fun z ⟨hz, p⟩ => by
    by_cases h : pl ∈ (byP es).1
    · exact .inl ⟨_, by_look h, p⟩
    · refine .inr ⟨(by_none h).1, ?_⟩
      rw [(by_none h).2] at p
      rw [hz]
      exact p⟩⟩)
def wfCount : List D → (D → Prop) → Prop := fun ds P => ∃ (p q : PrT) (es : List EntT) (pl : Nat × Nat) (mine yours : List Int), ds = [walkerD p q es, encPl pl mine yours] ∧ p.Ok ∧ q.Ok ∧ PapOk p q es ∧ mine.length = p.boxes.length ∧ yours.length = q.boxes.length ∧ P (encO (cntM p q es pl mine yours))
theorem ok_count (B : Bl mg) (T : Wk K C) (Gs : Df Pg w K mg base C 1 "side_by_side" ["one", "other", "mine", "yours"] wfSide) (Gh : Df Pg w K mg base C 14 "between_holds" ["thing", "boxes"] (wfBHolds 12)) {f : Addr} {fd : FuncData} (F : Fun K "counting" "Walker.counting" sWalkerCounting f fd) : FnOk Pg w K mg base CX0 15 f fd ["self", "place"] (spD K C wfCount) := by
  refine fn_ok F scWalkerCounting (fun ds P h => by obtain ⟨_, _, _, _, _, _, rfl, _⟩ := h; rfl) fun cdv A outer s H E hr ds P h => ?_
  obtain ⟨p, q, es, pl, mine, yours, rfl, ok, ok2, po, hm, hy, pp⟩ := h
  (refine ws_seq ?_)
  refine ws_asg (ts := [2, 3, 4, 5]) ?_
  (refine w_var 1 rfl ?_)
  refine wg_tup rfl (wgs_cons (wg_name 2 scWalkerCounting.nd (wgs_cons (wg_name 3 scWalkerCounting.nd (wgs_cons (wg_name 4 scWalkerCounting.nd (wgs_cons (wg_name 5 scWalkerCounting.nd (wgs_nil ?_))))))))) rfl
  (refine ws_seq ?_)
  refine ws_set 6 scWalkerCounting.nd ?_
  refine w_call Gs hr ?_
  (refine wa_cons ?_)
  refine w_fld T.cl T.n1 ?_
  (refine w_var 0 rfl ?_)
  refine ⟨_, _, p.enc, rfl, rfl, ?_⟩
  (refine wa_cons ?_)
  refine w_fld T.cl T.n2 ?_
  (refine w_var 0 rfl ?_)
  refine ⟨_, _, q.enc, rfl, rfl, ?_⟩
  (refine wa_cons ?_; refine w_var 4 rfl ?_; refine wa_cons ?_; refine w_var 5 rfl ?_; refine wa_nil ?_)
  refine ⟨p, q, mine, yours, rfl, ok, ok2, hm, hy, ?_⟩
  (refine ws_seq ?_)
  refine ws_for (ts := [7]) PassesOwn.never rfl (wi_list ?_)
  refine w_getBy (hu_of hr) ⟨rfl, rfl, rfl, rfl⟩ ?_
  refine w_fld T.cl T.n4 ?_
  (refine w_var 0 rfl ?_)
  refine ⟨_, _, encBy (byP es), rfl, rfl, ?_⟩
  refine ⟨es, rfl, ?_⟩
  (refine w_tup ?_; refine wa_cons ?_; refine w_var 2 rfl ?_; refine wa_cons ?_; refine w_var 3 rfl ?_; refine wa_nil ?_; refine And.intro (sz rfl) ?_; refine Exists.intro _ (And.intro rfl ?_))
  refine WN.w (wn_lst ?_)
  (refine wa_nil ?_; refine And.intro (sz rfl) ?_; refine And.intro rfl ?_)
  · skip
    refine ⟨_, .inl rfl, fun i ρ' => (∃ a, ρ' = [.im (walkerD p q es), .im (encPl pl mine yours), .im (.int pl.1), .im (.int pl.2), .im (encW mine), .im (encW yours), .im (sideD p q mine yours), a]) ∧ cntM p q es pl mine yours = ((numsAt es pl).drop i).find? (fun i => match es[i]? with | some e => e.c.eval (mAt p q mine yours) | none => false), ⟨⟨_, rfl⟩, rfl⟩, fun i d ρ' hd hi => ?_, fun ρ' hi => ?_⟩
    · obtain ⟨⟨a, rfl⟩, hc⟩ := hi
      obtain ⟨n, hn, rfl⟩ := get_map hd
      obtain ⟨hn1, e, he, hpl⟩ := mem_nums (List.mem_of_getElem? hn)
      have eo := po.2 e (List.mem_of_getElem? he)
      have hdrop : (numsAt es pl).drop i = n :: (numsAt es pl).drop (i + 1) := by
        obtain ⟨hl, rfl⟩ := List.getElem?_eq_some_iff.mp hn
        exact List.drop_eq_getElem_cons hl
      refine wg_name 7 scWalkerCounting.nd ?_
      (refine ws_seq ?_; refine ws_if ?_)
      refine wt_val (w_call Gh hr ?_)
      (refine wa_cons ?_; refine w_ixS ?_; refine w_ixA ?_)
      refine w_fld T.cl T.n3 ?_
      (refine w_var 0 rfl ?_)
      refine ⟨_, _, encE es, rfl, rfl, ?_⟩
      (refine Exists.intro _ (And.intro rfl ?_); refine w_var 7 rfl ?_; refine Exists.intro _ (And.intro rfl ?_))
      refine ⟨e.enc, atI_nat (by rw [List.getElem?_map, he]; rfl), ?_⟩
      (refine Exists.intro _ (And.intro rfl ?_); refine w_int ?_; refine Exists.intro _ (And.intro rfl ?_); refine Exists.intro _ (And.intro rfl ?_); refine wa_cons ?_; refine w_var 6 rfl ?_; refine wa_nil ?_)
      refine ⟨_, _, _, e.c, rfl, eo.cd, look_eval ok hm hy eo.c, _, rfl, if_2 (fun ht => ?_) fun hf => ?_⟩
      · (refine ws_seq ?_; refine ws_ret ?_; refine w_var 7 rfl ?_)
        have : cntM p q es pl mine yours = some n := by rw [hc, hdrop, List.find?_cons]; simp [he, ht]
        rw [this] at pp
        exact pp
      · (refine ws_nil ?_; refine ws_nil ?_)
        refine ⟨⟨_, rfl⟩, ?_⟩
        rw [hc, hdrop, List.find?_cons]
        simp [he, hf]
    · obtain ⟨⟨a, rfl⟩, hc⟩ := hi
      (refine ws_seq ?_; refine ws_ret ?_; refine w_non ?_)
      have : cntM p q es pl mine yours = none := by rw [hc, List.length_map, List.drop_length]; rfl
      rw [this] at pp
      exact pp
def wfWait : List D → (D → Prop) → Prop := fun ds P => ∃ (p q : PrT) (es : List EntT) (n : Nat) (e : EntT) (pl : Nat × Nat) (mine yours : List Int), ds = [walkerD p q es, .int n, encPl pl mine yours] ∧ p.Ok ∧ q.Ok ∧ es[n]? = some e ∧ e.Ok p q ∧ mine.length = p.boxes.length ∧ yours.length = q.boxes.length ∧ P (.int (e.wait.eval (mAt p q mine yours)))
theorem ok_wait (B : Bl mg) (T : Wk K C) (Gs : Df Pg w K mg base C 1 "side_by_side" ["one", "other", "mine", "yours"] wfSide) (Gw : Df Pg w K mg base C 13 "between_worth" ["thing", "boxes"] (wfBWorth 12)) {f : Addr} {fd : FuncData} (F : Fun K "wait_at" "Walker.wait_at" sWalkerWaitAt f fd) : FnOk Pg w K mg base CX0 14 f fd ["self", "number", "place"] (spD K C wfWait) := by
  refine fn_ok F scWalkerWaitAt (fun ds P h => by obtain ⟨_, _, _, _, _, _, _, _, rfl, _⟩ := h; rfl) fun cdv A outer s H E hr ds P h => ?_
  obtain ⟨p, q, es, n, e, pl, mine, yours, rfl, ok, ok2, he, eo, hm, hy, pp⟩ := h
  (refine ws_seq ?_)
  refine ws_asg (ts := [3, 4, 5, 6]) ?_
  (refine w_var 2 rfl ?_)
  refine wg_tup rfl (wgs_cons (wg_name 3 scWalkerWaitAt.nd (wgs_cons (wg_name 4 scWalkerWaitAt.nd (wgs_cons (wg_name 5 scWalkerWaitAt.nd (wgs_cons (wg_name 6 scWalkerWaitAt.nd (wgs_nil ?_))))))))) rfl
  (refine ws_seq ?_)
  refine ws_set 7 scWalkerWaitAt.nd ?_
  refine w_call Gs hr ?_
  (refine wa_cons ?_)
  refine w_fld T.cl T.n1 ?_
  (refine w_var 0 rfl ?_)
  refine ⟨_, _, p.enc, rfl, rfl, ?_⟩
  (refine wa_cons ?_)
  refine w_fld T.cl T.n2 ?_
  (refine w_var 0 rfl ?_)
  refine ⟨_, _, q.enc, rfl, rfl, ?_⟩
  (refine wa_cons ?_; refine w_var 5 rfl ?_; refine wa_cons ?_; refine w_var 6 rfl ?_; refine wa_nil ?_)
  refine ⟨p, q, mine, yours, rfl, ok, ok2, hm, hy, ?_⟩
  (refine ws_seq ?_; refine ws_ret ?_)
  refine w_call Gw hr ?_
  (refine wa_cons ?_; refine w_ixS ?_; refine w_ixA ?_)
  refine w_fld T.cl T.n3 ?_
  (refine w_var 0 rfl ?_)
  refine ⟨_, _, encE es, rfl, rfl, ?_⟩
  (refine Exists.intro _ (And.intro rfl ?_); refine w_var 1 rfl ?_; refine Exists.intro _ (And.intro rfl ?_))
  refine ⟨e.enc, atI_nat (by rw [List.getElem?_map, he]; rfl), ?_⟩
  (refine Exists.intro _ (And.intro rfl ?_); refine w_int ?_; refine Exists.intro _ (And.intro rfl ?_); refine Exists.intro _ (And.intro rfl ?_); refine wa_cons ?_; refine w_var 7 rfl ?_; refine wa_nil ?_)
  exact ⟨_, _, _, e.wait, rfl, eo.wd, e.wait.all_mono (fun _ _ h => look_known ok hm hy h) eo.w, pp⟩
end
end TW
set_option Elab.async false
set_option linter.all false
set_option maxRecDepth 100000
set_option maxHeartbeats 4000000
namespace TW
open PySem L2 PyProof.Rows
abbrev Plc := Nat × Nat × List Int × List Int
def behM (p q : PrT) (who : Str) (z : Plc) : Option Plc :=
  if who = "mine" then match p.step z.1 z.2.2.1 with
    | some ([], n, ws) => some (n, z.2.1, ws, z.2.2.2)
    | _ => none
  else if who = "yours" then match q.step z.2.1 z.2.2.2 with
    | some ([], n, ws) => some (z.1, n, z.2.2.1, ws)
    | _ => none
  else match p.step z.1 z.2.2.1, q.step z.2.1 z.2.2.2 with
    | some (a, n, ws), some (b, m, us) => if a = b then some (n, m, ws, us) else none
    | _, _ => none
def encZ : Option Plc → D
  | none => .non
  | some z => encPl (z.1, z.2.1) z.2.2.1 z.2.2.2
theorem lay_ints (a : List Int) : layN 1 (.lst (a.map D.int)) = true := by simp [layN]
theorem lst_inj {a b : List Int} : D.lst (a.map D.int) = D.lst (b.map D.int) ↔ a = b := by
  constructor
  · intro h
    have h2 := D.lst.inj h
    exact (List.map_inj_right (f := D.int) (fun x y e => D.int.inj e)).mp h2
  · intro h; rw [h]
section
variable {Pg : Program} {w : World} {K : PySem.W.Frag} {mg : Str → Option Value} {base : Heap} {C : Addr}
def wfBehind : List D → (D → Prop) → Prop := fun ds P => ∃ (p q : PrT) (es : List EntT) (who : Str) (a b : Nat) (mine yours : List Int), ds = [walkerD p q es, .str who, encPl (a, b) mine yours] ∧ p.Ok ∧ q.Ok ∧ a < p.nodes.length ∧ b < q.nodes.length ∧ p.fits mine ∧ q.fits yours ∧ P (encZ (behM p q who (a, b, mine, yours)))
theorem ok_behind (T : Wk K C) (Gs : Df Pg w K mg base C 11 "step_from" ["program", "place", "worths"] wfStep) {f : Addr} {fd : FuncData} (F : Fun K "behind" "Walker.behind" sWalkerBehind f fd) : FnOk Pg w K mg base CX0 12 f fd ["self", "who", "place"] (spD K C wfBehind) := by
  refine fn_ok F scWalkerBehind (fun ds P h => by obtain ⟨_, _, _, _, _, _, _, _, rfl, _⟩ := h; rfl) fun cdv A outer s H E hr ds P h => ?_
  obtain ⟨p, q, es, who, a, b, mine, yours, rfl, ok, ok2, ha, hb, hm, hy, pp⟩ := h
  (refine ws_seq ?_)
  refine ws_asg (ts := [3, 4, 5, 6]) ?_
  (refine w_var 2 rfl ?_)
  refine wg_tup rfl (wgs_cons (wg_name 3 scWalkerBehind.nd (wgs_cons (wg_name 4 scWalkerBehind.nd (wgs_cons (wg_name 5 scWalkerBehind.nd (wgs_cons (wg_name 6 scWalkerBehind.nd (wgs_nil ?_))))))))) rfl
  (refine ws_seq ?_)
  refine ws_set 7 scWalkerBehind.nd ?_
  refine w_call Gs hr ?_
  (refine wa_cons ?_)
  refine w_fld T.cl T.n1 ?_
  (refine w_var 0 rfl ?_)
  refine ⟨_, _, p.enc, rfl, rfl, ?_⟩
  (refine wa_cons ?_; refine w_var 3 rfl ?_; refine wa_cons ?_; refine w_var 5 rfl ?_; refine wa_nil ?_)
  refine ⟨p, a, mine, rfl, ok, hm, ha, ?_⟩
  (refine ws_seq ?_)
  refine ws_set 8 scWalkerBehind.nd ?_
  refine w_call Gs hr ?_
  (refine wa_cons ?_)
  refine w_fld T.cl T.n2 ?_
  (refine w_var 0 rfl ?_)
  refine ⟨_, _, q.enc, rfl, rfl, ?_⟩
  (refine wa_cons ?_; refine w_var 4 rfl ?_; refine wa_cons ?_; refine w_var 6 rfl ?_; refine wa_nil ?_)
  refine ⟨q, b, yours, rfl, ok2, hy, hb, ?_⟩
  unfold behM at pp
  simp only at pp
  generalize p.step a mine = ms at pp
  generalize q.step b yours = ys at pp
  (refine ws_seq ?_; refine ws_if ?_; refine wt_eqc ?_; refine w_var 1 rfl ?_; refine w_str ?_; refine And.intro rfl ?_)
  refine if_2 (fun hw => ?_) fun hw => ?_
  · have hw' : who = "mine" := by simpa [sEq] using hw
    rw [if_pos hw'] at pp
    cases ms with
    | none =>
      (refine ws_seq ?_; refine ws_if ?_; refine WW.wt (ww_or ?_); refine wt_isN ?_; refine w_var 7 rfl ?_; refine ws_seq ?_; refine ws_ret ?_; refine w_non ?_)
      exact pp
    | some z =>
      obtain ⟨sd, n, ws⟩ := z
      (refine ws_seq ?_; refine ws_if ?_; refine WW.wt (ww_or ?_); refine wt_isN ?_; refine w_var 7 rfl ?_; refine ww_or1 ?_)
      refine wt_neD 1 hr.units ?_
      (refine w_ixN (w_var 7 rfl ⟨_, rfl, ?_⟩); refine w_int ?_; refine Exists.intro _ (And.intro rfl ?_); refine Exists.intro _ (And.intro rfl ?_))
      refine WN.w (wn_lst ?_)
      (refine wa_nil ?_; refine And.intro (sz rfl) ?_)
      refine ⟨by decide, lay_ints sd, lay_ints [], fun c hc => ?_⟩
      cases sd with
      | nil =>
        have : c = false := by cases c with | false => rfl | true => exact absurd rfl (hc.mp rfl)
        subst this
        (refine ws_nil ?_; refine ws_seq ?_; refine ws_ret ?_; refine w_tup ?_; refine wa_cons ?_; refine w_ixN (w_var 7 rfl ⟨_, rfl, ?_⟩); refine w_int ?_; refine Exists.intro _ (And.intro rfl ?_); refine Exists.intro _ (And.intro rfl ?_); refine wa_cons ?_; refine w_var 4 rfl ?_; refine wa_cons ?_; refine w_ixN (w_var 7 rfl ⟨_, rfl, ?_⟩); refine w_int ?_; refine Exists.intro _ (And.intro rfl ?_); refine Exists.intro _ (And.intro rfl ?_); refine wa_cons ?_; refine w_var 6 rfl ?_; refine wa_nil ?_; refine And.intro (sz rfl) ?_)
        exact pp
      | cons x xs =>
        have : c = true := hc.mpr (by simp)
        subst this
        (refine ws_seq ?_; refine ws_ret ?_; refine w_non ?_)
        exact pp
  · have hw' : ¬ who = "mine" := by simpa [sEq] using hw
    rw [if_neg hw'] at pp
    (refine ws_nil ?_; refine ws_seq ?_; refine ws_if ?_; refine wt_eqc ?_; refine w_var 1 rfl ?_; refine w_str ?_; refine And.intro rfl ?_)
    refine if_2 (fun hw2 => ?_) fun hw2 => ?_
    · have hw2' : who = "yours" := by simpa [sEq] using hw2
      rw [if_pos hw2'] at pp
      cases ys with
      | none =>
        (refine ws_seq ?_; refine ws_if ?_; refine WW.wt (ww_or ?_); refine wt_isN ?_; refine w_var 8 rfl ?_; refine ws_seq ?_; refine ws_ret ?_; refine w_non ?_)
        exact pp
      | some z =>
        obtain ⟨sd, n, ws⟩ := z
        (refine ws_seq ?_; refine ws_if ?_; refine WW.wt (ww_or ?_); refine wt_isN ?_; refine w_var 8 rfl ?_; refine ww_or1 ?_)
        refine wt_neD 1 hr.units ?_
        (refine w_ixN (w_var 8 rfl ⟨_, rfl, ?_⟩); refine w_int ?_; refine Exists.intro _ (And.intro rfl ?_); refine Exists.intro _ (And.intro rfl ?_))
        refine WN.w (wn_lst ?_)
        (refine wa_nil ?_; refine And.intro (sz rfl) ?_)
        refine ⟨by decide, lay_ints sd, lay_ints [], fun c hc => ?_⟩
        cases sd with
        | nil =>
          have : c = false := by cases c with | false => rfl | true => exact absurd rfl (hc.mp rfl)
          subst this
          (refine ws_nil ?_; refine ws_seq ?_; refine ws_ret ?_; refine w_tup ?_; refine wa_cons ?_; refine w_var 3 rfl ?_; refine wa_cons ?_; refine w_ixN (w_var 8 rfl ⟨_, rfl, ?_⟩); refine w_int ?_; refine Exists.intro _ (And.intro rfl ?_); refine Exists.intro _ (And.intro rfl ?_); refine wa_cons ?_; refine w_var 5 rfl ?_; refine wa_cons ?_; refine w_ixN (w_var 8 rfl ⟨_, rfl, ?_⟩); refine w_int ?_; refine Exists.intro _ (And.intro rfl ?_); refine Exists.intro _ (And.intro rfl ?_); refine wa_nil ?_; refine And.intro (sz rfl) ?_)
          exact pp
        | cons x xs =>
          have : c = true := hc.mpr (by simp)
          subst this
          (refine ws_seq ?_; refine ws_ret ?_; refine w_non ?_)
          exact pp
    · have hw2' : ¬ who = "yours" := by simpa [sEq] using hw2
      rw [if_neg hw2'] at pp
      cases ms with
      | none =>
        (refine ws_nil ?_; refine ws_seq ?_; refine ws_if ?_; refine WW.wt (ww_or ?_); refine wt_isN ?_; refine w_var 7 rfl ?_; refine ws_seq ?_; refine ws_ret ?_; refine w_non ?_)
        exact pp
      | some z =>
        cases ys with
        | none =>
          (refine ws_nil ?_; refine ws_seq ?_; refine ws_if ?_; refine WW.wt (ww_or ?_); refine wt_isN ?_; refine w_var 7 rfl ?_; refine ww_or ?_; refine wt_isN ?_; refine w_var 8 rfl ?_; refine ws_seq ?_; refine ws_ret ?_; refine w_non ?_)
          exact pp
        | some y =>
          obtain ⟨s1, n, ws⟩ := z
          obtain ⟨s2, m, us⟩ := y
          (refine ws_nil ?_; refine ws_seq ?_; refine ws_if ?_; refine WW.wt (ww_or ?_); refine wt_isN ?_; refine w_var 7 rfl ?_; refine ww_or ?_; refine wt_isN ?_; refine w_var 8 rfl ?_; refine ww_or1 ?_)
          refine wt_neD 1 hr.units ?_
          (refine w_ixN (w_var 7 rfl ⟨_, rfl, ?_⟩); refine w_int ?_; refine Exists.intro _ (And.intro rfl ?_); refine Exists.intro _ (And.intro rfl ?_); refine w_ixN (w_var 8 rfl ⟨_, rfl, ?_⟩); refine w_int ?_; refine Exists.intro _ (And.intro rfl ?_); refine Exists.intro _ (And.intro rfl ?_))
          refine ⟨by decide, lay_ints s1, lay_ints s2, fun c hc => ?_⟩
          have pp2 : P (encZ (if s1 = s2 then some (n, m, ws, us) else none)) := pp
          by_cases h : s1 = s2
          · have : c = false := by cases c with | false => rfl | true => exact absurd (lst_inj.mpr h) (hc.mp rfl)
            subst this
            rw [if_pos h] at pp2
            (refine ws_nil ?_; refine ws_seq ?_; refine ws_ret ?_; refine w_tup ?_; refine wa_cons ?_; refine w_ixN (w_var 7 rfl ⟨_, rfl, ?_⟩); refine w_int ?_; refine Exists.intro _ (And.intro rfl ?_); refine Exists.intro _ (And.intro rfl ?_); refine wa_cons ?_; refine w_ixN (w_var 8 rfl ⟨_, rfl, ?_⟩); refine w_int ?_; refine Exists.intro _ (And.intro rfl ?_); refine Exists.intro _ (And.intro rfl ?_); refine wa_cons ?_; refine w_ixN (w_var 7 rfl ⟨_, rfl, ?_⟩); refine w_int ?_; refine Exists.intro _ (And.intro rfl ?_); refine Exists.intro _ (And.intro rfl ?_); refine wa_cons ?_; refine w_ixN (w_var 8 rfl ⟨_, rfl, ?_⟩); refine w_int ?_; refine Exists.intro _ (And.intro rfl ?_); refine Exists.intro _ (And.intro rfl ?_); refine wa_nil ?_; refine And.intro (sz rfl) ?_)
            exact pp2
          · have : c = true := hc.mpr fun e => h (lst_inj.mp e)
            subst this
            rw [if_neg h] at pp2
            (refine ws_seq ?_; refine ws_ret ?_; refine w_non ?_)
            exact pp2
end
end TW
set_option Elab.async false
set_option linter.all false
set_option maxRecDepth 100000
set_option maxHeartbeats 4000000
namespace TW
open PySem L2 PyProof.Rows
def NdT.isEnd : NdT → Bool
  | .fin => true
  | _ => false
def NdT.tag : NdT → Str
  | .put _ _ _ => "put"
  | .say _ _ => "say"
  | .test _ _ _ => "test"
  | .fin => "end"
theorem NdT.tag_end : ∀ n : NdT, (n.tag = "end") ↔ n.isEnd = true
  | .put _ _ _ => by simp only [NdT.tag, NdT.isEnd]; exact ⟨fun h => absurd h (by decide +kernel), fun h => absurd h Bool.false_ne_true⟩
  | .say _ _ => by simp only [NdT.tag, NdT.isEnd]; exact ⟨fun h => absurd h (by decide +kernel), fun h => absurd h Bool.false_ne_true⟩
  | .test _ _ _ => by simp only [NdT.tag, NdT.isEnd]; exact ⟨fun h => absurd h (by decide +kernel), fun h => absurd h Bool.false_ne_true⟩
  | .fin => by simp [NdT.tag, NdT.isEnd]
def endAt (p : PrT) (a : Nat) : Bool := match p.nodes[a]? with
  | some n => n.isEnd
  | none => false
/-- whether an entry is well -/
def wellM (p q : PrT) (es : List EntT) (e : EntT) (z : Plc) : Bool :=
  decide (0 ≤ e.wait.eval (mAt p q z.2.2.1 z.2.2.2)) &&
    if e.who = "end" then endAt p z.1 && endAt q z.2.1
    else match behM p q e.who z with
      | none => false
      | some y => match cntM p q es (y.1, y.2.1) y.2.2.1 y.2.2.2 with
        | none => false
        | some n => match es[n]? with
          | some l => decide (e.who = "both") || decide (l.wait.eval (mAt p q y.2.2.1 y.2.2.2) < e.wait.eval (mAt p q z.2.2.1 z.2.2.2))
          | none => false
theorem step_len {p : PrT} {a n : Nat} {ws us : List Int} {sd : List Int} (h : p.step a ws = some (sd, n, us)) : us.length = ws.length := by
  unfold PrT.step at h
  split at h <;> first | (cases h; done) | (cases h; simp)
theorem beh_len {p q : PrT} {who : Str} {z y : Plc} (h : behM p q who z = some y) : y.2.2.1.length = z.2.2.1.length ∧ y.2.2.2.length = z.2.2.2.length := by
  unfold behM at h
  split at h
  · split at h
    · cases h; exact ⟨step_len ‹_›, rfl⟩
    · cases h
  · split at h
    · split at h
      · cases h; exact ⟨rfl, step_len ‹_›⟩
      · cases h
    · split at h
      · split at h
        · cases h; exact ⟨step_len ‹_›, step_len ‹_›⟩
        · cases h
      · cases h
theorem cnt_mem {p q : PrT} {es : List EntT} {pl : Nat × Nat} {mine yours : List Int} {n : Nat} (h : cntM p q es pl mine yours = some n) : ∃ e, es[n]? = some e ∧ e.pl = pl ∧ e.c.eval (mAt p q mine yours) = true := by
  unfold cntM at h
  have h1 := List.mem_of_find?_eq_some h
  have h2 := List.find?_some h
  obtain ⟨_, e, he, hpl⟩ := mem_nums h1
  rw [he] at h2
  exact ⟨e, he, hpl, h2⟩
section
variable {Pg : Program} {w : World} {K : PySem.W.Frag} {mg : Str → Option Value} {base : Heap} {C : Addr}
def wfWell : List D → (D → Prop) → Prop := fun ds P => ∃ (p q : PrT) (es : List EntT) (n : Nat) (e : EntT) (a b : Nat) (mine yours : List Int), ds = [walkerD p q es, .int n, encPl (a, b) mine yours] ∧ p.Ok ∧ q.Ok ∧ PapOk p q es ∧ es[n]? = some e ∧ a < p.nodes.length ∧ b < q.nodes.length ∧ p.fits mine ∧ q.fits yours ∧ P (.bl (wellM p q es e (a, b, mine, yours)))
theorem node_tag {p : PrT} {a : Nat} (h : a < p.nodes.length) : ∃ (n : NdT) (r : List D), p.nodes[a]? = some n ∧ n.enc = .tup (.str n.tag :: r) ∧ endAt p a = n.isEnd := by
  have e := List.getElem?_eq_getElem h
  refine ⟨p.nodes[a], ?_⟩
  generalize p.nodes[a] = n at e
  cases n <;> exact ⟨_, e, rfl, by simp [endAt, e]⟩
theorem ok_well (T : Wk K C) (Gw : DfM Pg w K mg base C 14 "wait_at" ["self", "number", "place"] wfWait) (Gb : DfM Pg w K mg base C 12 "behind" ["self", "who", "place"] wfBehind) (Gc : DfM Pg w K mg base C 15 "counting" ["self", "place"] wfCount)
    {f : Addr} {fd : FuncData} (F : Fun K "is_well" "Walker.is_well" sWalkerIsWell f fd) : FnOk Pg w K mg base CX0 16 f fd ["self", "number", "place"] (spD K C wfWell) := by
  refine fn_ok F scWalkerIsWell (fun ds P h => by obtain ⟨_, _, _, _, _, _, _, _, _, rfl, _⟩ := h; rfl) fun cdv A outer s H E hr ds P h => ?_
  obtain ⟨p, q, es, n, e, a, b, mine, yours, rfl, ok, ok2, po, he, ha, hb, hm, hy, pp⟩ := h
  have eo := po.2 e (List.mem_of_getElem? he)
  (refine ws_seq ?_)
  refine ws_set 3 scWalkerIsWell.nd ?_
  (refine w_ixS ?_; refine w_ixA ?_)
  refine w_fld T.cl T.n3 ?_
  (refine w_var 0 rfl ?_)
  refine ⟨_, _, encE es, rfl, rfl, ?_⟩
  (refine Exists.intro _ (And.intro rfl ?_); refine w_var 1 rfl ?_; refine Exists.intro _ (And.intro rfl ?_))
  refine ⟨e.enc, atI_nat (by rw [List.getElem?_map, he]; rfl), ?_⟩
  (refine Exists.intro _ (And.intro rfl ?_); refine w_int ?_; refine Exists.intro _ (And.intro rfl ?_); refine Exists.intro _ (And.intro rfl ?_); refine ws_seq ?_)
  refine ws_set 4 scWalkerIsWell.nd ?_
  refine w_meth T.cl Gw hr ?_
  (refine w_var 0 rfl ?_)
  refine ⟨_, _, rfl, by decide +kernel, ?_⟩
  (refine wa_cons ?_; refine w_var 1 rfl ?_; refine wa_cons ?_; refine w_var 2 rfl ?_; refine wa_nil ?_)
  refine ⟨p, q, es, n, e, (a, b), mine, yours, rfl, ok, ok2, he, eo, hm.1, hy.1, ?_⟩
  (refine ws_seq ?_; refine ws_if ?_; refine wt_lt ?_; refine w_var 4 rfl ?_; refine Exists.intro _ (And.intro rfl ?_); refine w_int ?_; refine Exists.intro _ (And.intro rfl ?_))
  unfold wellM at pp
  refine if_2 (fun hw => ?_) fun hw => ?_
  · have hw' : ¬ (0 : Int) ≤ e.wait.eval (mAt p q mine yours) := by have := of_decide_eq_true hw; omega
    have hw2 : decide ((0 : Int) ≤ e.wait.eval (mAt p q mine yours)) = false := decide_eq_false hw'
    simp only [hw2, Bool.false_and] at pp
    (refine ws_seq ?_; refine ws_ret ?_; refine w_bl ?_)
    exact pp
  have hw' : (0 : Int) ≤ e.wait.eval (mAt p q mine yours) := by have := of_decide_eq_false hw; omega
  have hw2 : decide ((0 : Int) ≤ e.wait.eval (mAt p q mine yours)) = true := decide_eq_true hw'
  simp only [hw2, Bool.true_and] at pp
  (refine ws_nil ?_; refine ws_seq ?_; refine ws_if ?_; refine wt_eqc ?_; refine w_var 3 rfl ?_; refine w_str ?_; refine And.intro rfl ?_)
  refine if_2 (fun hw => ?_) fun hw => ?_
  · have hw' : e.who = "end" := by simpa [sEq] using hw
    rw [if_pos hw'] at pp
    obtain ⟨na, ra, ea, ena, eda⟩ := node_tag ha
    obtain ⟨nb, rb, eb, enb, edb⟩ := node_tag hb
    (refine ws_seq ?_)
    refine ws_set 5 scWalkerIsWell.nd (WN.w (wn_lst ?_))
    (refine wa_cons ?_; refine w_ixS ?_; refine w_ixS ?_; refine w_ixA ?_)
    refine w_fld T.cl T.n1 ?_
    (refine w_var 0 rfl ?_)
    refine ⟨_, _, p.enc, rfl, rfl, ?_⟩
    (refine Exists.intro _ (And.intro rfl ?_); refine w_int ?_; refine Exists.intro _ (And.intro rfl ?_); refine Exists.intro _ (And.intro rfl ?_); refine Exists.intro _ (And.intro rfl ?_); refine w_ixN (w_var 2 rfl ⟨_, rfl, ?_⟩); refine w_int ?_; refine Exists.intro _ (And.intro rfl ?_); refine Exists.intro _ (And.intro rfl ?_); refine Exists.intro _ (And.intro rfl ?_))
    refine ⟨na.enc, atI_nat (by rw [List.getElem?_map, ea]; rfl), ?_⟩
    rw [ena]
    (refine Exists.intro _ (And.intro rfl ?_); refine w_int ?_; refine Exists.intro _ (And.intro rfl ?_))
    refine ⟨.str na.tag, atI_nat (j := 0) rfl, ?_⟩
    (refine wa_cons ?_; refine w_ixS ?_; refine w_ixS ?_; refine w_ixA ?_)
    refine w_fld T.cl T.n2 ?_
    (refine w_var 0 rfl ?_)
    refine ⟨_, _, q.enc, rfl, rfl, ?_⟩
    (refine Exists.intro _ (And.intro rfl ?_); refine w_int ?_; refine Exists.intro _ (And.intro rfl ?_); refine Exists.intro _ (And.intro rfl ?_); refine Exists.intro _ (And.intro rfl ?_); refine w_ixN (w_var 2 rfl ⟨_, rfl, ?_⟩); refine w_int ?_; refine Exists.intro _ (And.intro rfl ?_); refine Exists.intro _ (And.intro rfl ?_); refine Exists.intro _ (And.intro rfl ?_))
    refine ⟨nb.enc, atI_nat (by rw [List.getElem?_map, eb]; rfl), ?_⟩
    rw [enb]
    (refine Exists.intro _ (And.intro rfl ?_); refine w_int ?_; refine Exists.intro _ (And.intro rfl ?_))
    refine ⟨.str nb.tag, atI_nat (j := 0) rfl, ?_⟩
    (refine wa_nil ?_; refine And.intro (sz rfl) ?_; refine ws_seq ?_; refine ws_ret ?_)
    refine w_eqD 1 hr.units ?_
    (refine w_var 5 rfl ?_)
    refine WN.w (wn_lst ?_)
    (refine wa_cons ?_; refine w_str ?_; refine wa_cons ?_; refine w_str ?_; refine wa_nil ?_; refine And.intro (sz rfl) ?_)
    have lt : ∀ x : NdT, PyData.strOk x.tag = true := fun x => match x with | .put _ _ _ => (by decide +kernel : PyData.strOk "put" = true) | .say _ _ => (by decide +kernel : PyData.strOk "say" = true) | .test _ _ _ => (by decide +kernel : PyData.strOk "test" = true) | .fin => (by decide +kernel : PyData.strOk "end" = true)
    refine ⟨by decide, by simp [layN, lt], by decide +kernel, fun c hc => ?_⟩
    have : c = (endAt p a && endAt q b) := by
      rw [eda, edb]
      have h2 : (D.lst [.str na.tag, .str nb.tag] = D.lst [.str "end", .str "end"]) ↔ (na.isEnd && nb.isEnd) = true := by
        rw [Bool.and_eq_true, ← na.tag_end, ← nb.tag_end]
        simp
      rw [h2] at hc
      cases c with
      | true => exact (hc.mp rfl).symm
      | false =>
        cases h3 : (na.isEnd && nb.isEnd) with
        | false => rfl
        | true => exact absurd (hc.mpr h3) Bool.false_ne_true
    rw [this]
    exact pp
  have hw' : ¬ e.who = "end" := by simpa [sEq] using hw
  rw [if_neg hw'] at pp
  (refine ws_nil ?_; refine ws_seq ?_)
  refine ws_set 6 scWalkerIsWell.nd ?_
  refine w_meth T.cl Gb hr ?_
  (refine w_var 0 rfl ?_)
  refine ⟨_, _, rfl, by decide +kernel, ?_⟩
  (refine wa_cons ?_; refine w_var 3 rfl ?_; refine wa_cons ?_; refine w_var 2 rfl ?_; refine wa_nil ?_)
  refine ⟨p, q, es, e.who, a, b, mine, yours, rfl, ok, ok2, ha, hb, hm, hy, ?_⟩
  cases hbm : behM p q e.who (a, b, mine, yours) with
  | none =>
    rw [hbm] at pp
    (refine ws_seq ?_; refine ws_if ?_; refine wt_isN ?_; refine w_var 6 rfl ?_; refine ws_seq ?_; refine ws_ret ?_; refine w_bl ?_)
    exact pp
  | some y =>
    rw [hbm] at pp
    obtain ⟨a2, b2, m2, y2⟩ := y
    obtain ⟨hl1, hl2⟩ := beh_len hbm
    (refine ws_seq ?_; refine ws_if ?_; refine wt_isN ?_; refine w_var 6 rfl ?_; refine ws_nil ?_; refine ws_seq ?_)
    refine ws_set 7 scWalkerIsWell.nd ?_
    refine w_meth T.cl Gc hr ?_
    (refine w_var 0 rfl ?_)
    refine ⟨_, _, rfl, by decide +kernel, ?_⟩
    (refine wa_cons ?_; refine w_var 6 rfl ?_; refine wa_nil ?_)
    refine ⟨p, q, es, (a2, b2), m2, y2, rfl, ok, ok2, po, hl1.trans hm.1, hl2.trans hy.1, ?_⟩
    cases hcm : cntM p q es (a2, b2) m2 y2 with
    | none =>
      simp only [hcm] at pp
      (refine ws_seq ?_; refine ws_if ?_; refine wt_isN ?_; refine w_var 7 rfl ?_; refine ws_seq ?_; refine ws_ret ?_; refine w_bl ?_)
      exact pp
    | some l =>
      simp only [hcm] at pp
      obtain ⟨el, hel, _, _⟩ := cnt_mem hcm
      have elo := po.2 el (List.mem_of_getElem? hel)
      simp only [hel] at pp
      (refine ws_seq ?_; refine ws_if ?_; refine wt_isN ?_; refine w_var 7 rfl ?_; refine ws_nil ?_; refine ws_seq ?_; refine ws_ret ?_; refine w_or ?_; refine w_eqc ?_; refine w_var 3 rfl ?_; refine w_str ?_; refine And.intro rfl ?_; refine Exists.intro _ (And.intro rfl ?_))
      refine if_2 (fun hbt => ?_) fun hbt => ?_
      · have hb' : e.who = "both" := by simpa [sEq] using hbt
        simp only [hb', decide_true, Bool.true_or] at pp
        exact pp
      · have hb' : ¬ e.who = "both" := by simpa [sEq] using hbt
        simp only [hb', decide_false, Bool.false_or] at pp
        (refine w_one ?_; refine w_lt ?_)
        refine w_meth T.cl Gw hr ?_
        (refine w_var 0 rfl ?_)
        refine ⟨_, _, rfl, by decide +kernel, ?_⟩
        (refine wa_cons ?_; refine w_var 7 rfl ?_; refine wa_cons ?_; refine w_var 6 rfl ?_; refine wa_nil ?_)
        refine ⟨p, q, es, l, el, (a2, b2), m2, y2, rfl, ok, ok2, hel, elo, hl1.trans hm.1, hl2.trans hy.1, ?_⟩
        (refine Exists.intro _ (And.intro rfl ?_); refine w_var 4 rfl ?_; refine Exists.intro _ (And.intro rfl ?_))
        exact pp
end
end TW
set_option Elab.async false
set_option linter.all false
set_option maxRecDepth 100000
set_option maxHeartbeats 4000000
namespace TW
open PySem L2 PyProof.Rows
theorem nat_nodup_len' {α : Type} [DecidableEq α] : ∀ {l m : List α}, l.Nodup → (∀ x ∈ l, x ∈ m) → l.length ≤ m.length
  | [], _, _, _ => Nat.zero_le _
  | x :: l, m, nd, h => by
    rw [List.nodup_cons] at nd
    have hx : x ∈ m := h x (by simp)
    have := nat_nodup_len' (l := l) (m := m.erase x) nd.2 fun y hy => (List.mem_erase_of_ne (fun e => nd.1 (by rw [← e]; exact hy))).mpr (h y (by simp [hy]))
    rw [List.length_erase_of_mem hx] at this
    have : 0 < m.length := List.length_pos_of_mem hx
    simp only [List.length_cons]
    omega
theorem valV_zip {κ : Type} [DecidableEq κ] : ∀ {ks : List κ} {vs : List V} {j : Nat} {k : κ} {v : V}, ks.Nodup → ks[j]? = some k → vs[j]? = some v → valV (ks.zip vs) k = some v
  | [], _, _, _, _, _, h, _ => by simp at h
  | x :: ks, [], _, _, _, _, _, h => by simp at h
  | x :: ks, y :: vs, 0, k, v, _, h1, h2 => by
    simp at h1 h2
    rw [List.zip_cons_cons, valV_pos h1, h2]
  | x :: ks, y :: vs, j + 1, k, v, nd, h1, h2 => by
    rw [List.nodup_cons] at nd
    have hk : k ∈ ks := List.mem_of_getElem? (i := j) (by simpa using h1)
    rw [List.zip_cons_cons, valV_neg (fun e : x = k => nd.1 (by rw [e]; exact hk))]
    exact valV_zip nd.2 (by simpa using h1) (by simpa using h2)
structure BHeap (es : List EntT) (H : Hp) (d : Addr) (i : Nat) (H' : Hp) (ls : List Addr) : Prop where
  same : Same H H'
  len : ls.length = (bAll (places es) i).2.length
  dic : H' d = some (.dT (((bAll (places es) i).1.map keyP).zip (ls.map V.ref)))
  lst : ∀ (j : Nat) (l : Addr) (ns : List Nat), ls[j]? = some l → (bAll (places es) i).2[j]? = some ns → H' l = some (.lst (ns.map fun n : Nat => V.int n))
  new : ∀ l ∈ ls, H l = none ∧ l ≠ d
  nd : ls.Nodup
section
variable {Pg : Program} {w : World} {K : PySem.W.Frag} {mg : Str → Option Value} {base : Heap} {C : Addr}
def wfBy : List D → (D → Prop) → Prop := fun ds P => ∃ es : List EntT, ds = [encE es] ∧ es.length ≤ 30 ∧ P (encBy (byP es))
theorem ok_byplaces (B : Bl mg) {f : Addr} {fd : FuncData} (F : Fun K "by_places" "by_places" sByPlaces f fd) : FnOk Pg w K mg base CX0 1 f fd ["paper"] (spD K C wfBy) := by
  refine F.ok scByPlaces (fun vs H Q E h => ?_) (fun cdv A outer s H vs Q E hr h => ?_)
  · obtain ⟨Hb, ds, P, sb, t, ⟨es, rfl, _⟩, q⟩ := h
    obtain ⟨v, rfl, _⟩ := one_da t
    rfl
  obtain ⟨Hb, ds, P, sb, t, ⟨es, rfl, hl, pp⟩, q⟩ := h
  obtain ⟨v, rfl, hv⟩ := one_da t
  cases hv with
  | @lst a us _ h1 h2 =>
  have hu := hu_of hr
  have hul : us.length = es.length := by rw [h2.length, List.length_map]
  refine ⟨_, pss_cons (ps_set (i := 1) scByPlaces.nd rfl (Or.inl rfl) pe_dnewT)
    (pss_cons (ps_for PassesOwn.never rfl (pi_range1 rfl B.range (pa_cons (pe_callB call_len (by rfl) B.len PySem.boot_len (pa_cons (pv 0) pa_nil)) pa_nil)) (pg_name (i := 2) scByPlaces.nd rfl (Or.inl rfl))
      (pss_one (ps_expr (pe_bm PySem.F.plainAttrs_list PySem.F.slot_list_append PySem.F.type_list_append mt_append
        (pe_dsetdT hu (pv 1) (pe_slice sl_tup (pe_ix ix_list (pv 0) (pv 2) (fun _ _ => rfl)) po_none (po_some pe_int)) (pe_lst pa_nil) ⟨rfl, rfl, rfl, rfl⟩)
        (pa_cons (pv 2) pa_nil)))))
    (pss_one (ps_ret (pv 1)))), ?_⟩
  intro d hd
  have hHa : H a = some (.lst us) := sb _ _ h1
  have nad : a ≠ d := ne_of_none hHa hd
  have hH1 : upd H d (.dT []) a = some (.lst us) := by rw [upd_ne nad]; exact hHa
  refine ⟨_, rfl, .ref a, us.length, rfl, .inl ⟨us, SqL.of hH1, rfl⟩, (us.length : Int), rfl, by omega, by omega, ?_⟩
  rw [Int.toNat_natCast]
  refine for_range (lo := 0) (n := us.length) (fun i σ H' => (∃ last, σ = [some (.ref a), some (.ref d), last]) ∧ ∃ ls, BHeap es H d i H' ls) ⟨⟨_, rfl⟩, [], ⟨fun b o e => by rw [upd_ne (ne_of_none e hd)]; exact e, rfl, upd_same, fun j l ns hj => by simp at hj, fun l hl => by simp at hl, List.nodup_nil⟩⟩ ?_ ?_
  · rintro i σ H' hi ⟨⟨last, rfl⟩, ls, BH⟩
    have hei : i < es.length := by omega
    have he : es[i]? = some es[i] := List.getElem?_eq_getElem hei
    generalize es[i] = e at he
    have hpl : (places es)[i]? = some e.pl := by simp [places, he]
    obtain ⟨vi, hvi, hdv⟩ := h2.get (i := i) (d := e.enc) (by rw [List.getElem?_map, he]; rfl)
    have IB := bAll_inv (places es) i (by simp [places]; omega)
    cases hdv with
    | @tup tt xs _ g1 g2 =>
    cases g2 with
    | cons x1 g2 =>
    cases g2 with
    | cons x2 g2 =>
    cases g2 with
    | @cons vc _ _ _ x3 g2 =>
    cases g2 with
    | @cons vw _ _ _ x4 g2 =>
    cases g2 with
    | @cons vt _ _ _ x5 g2 =>
    cases g2
    cases x1
    cases x2
    have htt : H' tt = some (.tup [.int e.p, .int e.q, vc, vw, vt]) := BH.same _ _ (sb _ _ g1)
    have ha' : H' a = some (.lst us) := BH.same _ _ hHa
    have e0 : (0 : Int) + (i : Int) = (i : Int) := by omega
    refine ⟨_, rfl, d, rfl, .inr ⟨_, .inl BH.dic⟩, ?_⟩
    refine ⟨_, rfl, _, rfl, a, us, (i : Int), .ref tt, rfl, by rw [e0], SqL.of ha', atI_nat hvi, 2, rfl, tt, _, rfl, SqT.of htt, by simp [HT.sIx], fun r hr' => ?_⟩
    refine ⟨Nat.zero_le _, fun l hl' => ?_⟩
    have ecut : cutV [.int e.p, .int e.q, vc, vw, vt] none (some 2) = (keyP e.pl).map kV := rfl
    rw [ecut]
    have nrd : d ≠ r := ne_of_none BH.dic hr'
    have nrl : r ≠ l := ne_of_none (upd_same (H := H')) hl'
    have hl2 : H' l = none := by
      cases z : H' l with
      | none => rfl
      | some o =>
        rw [upd_ne (Ne.symm nrl), z] at hl'
        cases hl'
    have ndl : d ≠ l := ne_of_none BH.dic hl2
    have hd2 : upd (upd H' r (.tup ((keyP e.pl).map kV))) l (.lst []) d = some (.dT (((bAll (places es) i).1.map keyP).zip (ls.map V.ref))) := by
      rw [upd_ne ndl, upd_ne nrd]; exact BH.dic
    have hlen1 : ((bAll (places es) i).1).length ≤ 30 := by
      have z : ((bAll (places es) i).1).length ≤ ((places es).take i).length := nat_nodup_len' IB.nd (fun x hx => (IB.mem x).mp hx)
      simp at z
      omega
    have es' : bAll (places es) (i + 1) = bstep (bAll (places es) i) e.pl i := by
      show (match (places es)[i]? with | some pl => bstep (bAll (places es) i) pl i | none => bAll (places es) i) = _
      rw [hpl]
    have lk : ls.length = (bAll (places es) i).1.length := by rw [BH.len, IB.len]
    refine ⟨_, keyP e.pl, r, hd2, rfl, by rw [upd_ne nrl, upd_same], by rw [List.length_zip]; exact szt (by simp; omega), fun v hv => ?_, fun hv => ?_⟩
    · -- the place is there
      have hin : e.pl ∈ (bAll (places es) i).1 := by
        refine Classical.byContradiction fun hno => ?_
        rw [look_none (fun z => hno ?_)] at hv
        · cases hv
        · obtain ⟨y, hy, ey⟩ := List.mem_map.mp z
          rw [← keyP_inj ey]; exact hy
      obtain ⟨p1, p2⟩ := placeOf_get hin
      generalize hj : placeOf (bAll (places es) i).1 e.pl = j at p1
      have hjl : j < ls.length := by rw [lk]; exact (List.getElem?_eq_some_iff.mp p1).1
      have hlj : ls[j]? = some ls[j] := List.getElem?_eq_getElem hjl
      generalize ls[j] = lj at hlj
      have hns := IB.at' j _ p1
      have hv2 := valV_zip (ks := (bAll (places es) i).1.map keyP) (vs := ls.map V.ref) (j := j) (k := keyP e.pl) (v := .ref lj) (List.pairwise_map.mpr (IB.nd.imp fun h z => h (keyP_inj z))) (by rw [List.getElem?_map, p1]; rfl) (by rw [List.getElem?_map, hlj]; rfl)
      rw [hv2] at hv
      cases hv
      have hlst := BH.lst j lj _ hlj hns
      have njr : lj ≠ r := ne_of_none hlst hr'
      have njl : lj ≠ l := ne_of_none hlst hl2
      have hl3 : upd (upd H' r (.tup ((keyP e.pl).map kV))) l (.lst []) lj = some (.lst ((idxs (places es) e.pl i).map fun n : Nat => V.int n)) := by
        rw [upd_ne njl, upd_ne njr]; exact hlst
      refine ⟨tyV_lst hl3, _, rfl, lj, _, _, rfl, rfl, hl3, szt ?_, ⟨_, rfl⟩, ls, ?_⟩
      · have z : (idxs (places es) e.pl i).length ≤ i := by
          unfold idxs
          exact Nat.le_trans (List.length_filter_le _ _) (by simp)
        simp
        omega
      have hjd := BH.new lj (List.mem_of_getElem? hlj)
      refine ⟨fun b o eb => ?_, ?_, ?_, fun m lm ns hm hn => ?_, BH.new, BH.nd⟩
      · have hb := BH.same b o eb
        rw [upd_ne (ne_of_none eb hjd.1), upd_ne (ne_of_none hb hl2), upd_ne (ne_of_none hb hr')]
        exact hb
      · rw [es']
        unfold bstep
        rw [if_pos hin]
        simp [BH.len]
      · rw [es']
        unfold bstep
        rw [if_pos hin, upd_ne (Ne.symm hjd.2)]
        exact hd2
      · rw [es'] at hn
        unfold bstep at hn
        rw [if_pos hin] at hn
        simp only [hj, List.getElem?_modify] at hn
        by_cases hmj : j = m
        · subst hmj
          rw [hlj] at hm
          cases hm
          rw [hns] at hn
          simp at hn
          subst hn
          rw [upd_same, e0]
          simp
        · have hne : lm ≠ lj := fun z => by
            subst z
            obtain ⟨a1, b1⟩ := List.getElem?_eq_some_iff.mp hm
            obtain ⟨a2, b2⟩ := List.getElem?_eq_some_iff.mp hlj
            exact hmj ((List.getElem_inj BH.nd).mp (b2.trans b1.symm))
          have hn2 : (bAll (places es) i).2[m]? = some ns := by simpa [hmj] using hn
          have hb := BH.lst m lm ns hm hn2
          rw [upd_ne hne, upd_ne (ne_of_none hb hl2), upd_ne (ne_of_none hb hr')]
          exact hb
    · -- a new place
      have hin : e.pl ∉ (bAll (places es) i).1 := fun hin => by
        obtain ⟨p1, p2⟩ := placeOf_get hin
        generalize placeOf (bAll (places es) i).1 e.pl = j at p1
        have hjl : j < ls.length := by rw [lk]; exact (List.getElem?_eq_some_iff.mp p1).1
        have hlj : ls[j]? = some ls[j] := List.getElem?_eq_getElem hjl
        have hv2 := valV_zip (ks := (bAll (places es) i).1.map keyP) (vs := ls.map V.ref) (j := j) (k := keyP e.pl) (v := .ref ls[j]) (List.pairwise_map.mpr (IB.nd.imp fun h z => h (keyP_inj z))) (by rw [List.getElem?_map, p1]; rfl) (by rw [List.getElem?_map, hlj]; rfl)
        rw [hv2] at hv
        cases hv
      have hput : putK (((bAll (places es) i).1.map keyP).zip (ls.map V.ref)) (keyP e.pl) (.ref l) = (((bAll (places es) i).1 ++ [e.pl]).map keyP).zip ((ls ++ [l]).map V.ref) := by
        rw [putK_new _ hv, List.map_append, List.map_append, List.zip_append (by simp [lk])]
        rfl
      rw [hput]
      have hl3 : upd (upd (upd H' r (.tup ((keyP e.pl).map kV))) l (.lst [])) d (.dT ((((bAll (places es) i).1 ++ [e.pl]).map keyP).zip ((ls ++ [l]).map V.ref))) l = some (.lst []) := by
        rw [upd_ne (Ne.symm ndl), upd_same]
      have hnl : l ∉ ls := fun z => by
        obtain ⟨m, hm⟩ := List.getElem?_of_mem z
        have hm2 : m < (bAll (places es) i).2.length := by rw [← BH.len]; exact (List.getElem?_eq_some_iff.mp hm).1
        have := BH.lst m l _ hm (List.getElem?_eq_getElem hm2)
        rw [hl2] at this
        cases this
      refine ⟨tyV_lst hl3, _, rfl, l, _, _, rfl, rfl, hl3, szt (by simp), ⟨_, rfl⟩, ls ++ [l], ?_⟩
      refine ⟨fun b o eb => ?_, ?_, ?_, fun m lm ns hm hn => ?_, fun z hz => ?_, ?_⟩
      · have hb := BH.same b o eb
        rw [upd_ne (ne_of_none hb hl2), upd_ne (ne_of_none eb hd), upd_ne (ne_of_none hb hl2), upd_ne (ne_of_none hb hr')]
        exact hb
      · rw [es']
        unfold bstep
        rw [if_neg hin]
        simp [BH.len]
      · rw [es']
        unfold bstep
        rw [if_neg hin, upd_ne ndl, upd_same]
      · rw [es'] at hn
        unfold bstep at hn
        rw [if_neg hin] at hn
        by_cases hml : m < ls.length
        · rw [List.getElem?_append_left hml] at hm
          rw [List.getElem?_append_left (by rw [← BH.len]; exact hml)] at hn
          have hb := BH.lst m lm ns hm hn
          have hnew := BH.new lm (List.mem_of_getElem? hm)
          rw [upd_ne (ne_of_none hb hl2), upd_ne hnew.2, upd_ne (ne_of_none hb hl2), upd_ne (ne_of_none hb hr')]
          exact hb
        · have hm0 : m = ls.length := by
            have := (List.getElem?_eq_some_iff.mp hm).1
            simp at this
            omega
          subst hm0
          rw [List.getElem?_append_right (Nat.le_refl _)] at hm
          rw [BH.len, List.getElem?_append_right (Nat.le_refl _)] at hn
          simp at hm hn
          subst hm hn
          rw [upd_same, e0]
          simp
      · rcases List.mem_append.mp hz with z1 | z1
        · exact BH.new z z1
        · simp at z1
          subst z1
          exact ⟨BH.same.free hl2, Ne.symm ndl⟩
      · refine List.nodup_append.mpr ⟨BH.nd, by simp, ?_⟩
        intro x hx y hy exy
        simp at hy
        subst hy
        subst exy
        exact hnl hx
  · rintro σ H' ⟨⟨last, rfl⟩, ls, BH⟩
    refine ⟨_, rfl, ?_⟩
    have IB := byP_inv es
    have hby : bAll (places es) us.length = byP es := by rw [hul]; rfl
    rw [show byP es = bAll (places es) us.length from hby.symm] at pp IB
    -- what never changes: the dict, its lists
    refine q _ (fun b => if b = d ∨ b ∈ ls then H' b else Hb b) H' _ ⟨fun b o eb => ?_, BH.same, fun b hb => ?_⟩ (fun b o eb => ?_) ?_ pp
    · have nb : ¬ (b = d ∨ b ∈ ls) := fun z => by
        have hb := sb b o eb
        rcases z with z | z
        · rw [z, hd] at hb; cases hb
        · rw [(BH.new b z).1] at hb; cases hb
      show (if b = d ∨ b ∈ ls then H' b else Hb b) = some o
      rw [if_neg nb]
      exact eb
    · have nb : ¬ (b = d ∨ b ∈ ls) := fun z => by
        rcases z with z | z
        · exact hb.ne (by rw [z]; exact hd)
        · exact hb.ne (BH.new b z).1
      show (if b = d ∨ b ∈ ls then H' b else Hb b) = Hb b
      rw [if_neg nb]
    · have eb' : (if b = d ∨ b ∈ ls then H' b else Hb b) = some o := eb
      by_cases z : b = d ∨ b ∈ ls
      · rw [if_pos z] at eb'; exact eb'
      · rw [if_neg z] at eb'; exact BH.same _ _ (sb _ _ eb')
    · refine .dt (vs := ls.map V.ref) ?_ (by simp [BH.len, IB.len]) ?_
      · show (if d = d ∨ d ∈ ls then H' d else Hb d) = _
        rw [if_pos (.inl rfl)]
        exact BH.dic
      · have hh : ∀ l ∈ ls, (if l = d ∨ l ∈ ls then H' l else Hb l) = H' l := fun l hl => if_pos (.inr hl)
        have hlst := BH.lst
        have hlen := BH.len
        generalize (bAll (places es) us.length).2 = nss at hlst hlen
        generalize hG : (fun b => if b = d ∨ b ∈ ls then H' b else Hb b) = G at hh
        have hG2 : ∀ l ∈ ls, G l = H' l := fun l hl => by rw [← hG]; exact hh l hl
        clear hh
        have fin : ∀ (ls' : List Addr) (nss' : List (List Nat)), ls'.length = nss'.length → (∀ l ∈ ls', G l = H' l) → (∀ (j : Nat) (l : Addr) (ns : List Nat), ls'[j]? = some l → nss'[j]? = some ns → H' l = some (.lst (ns.map fun n : Nat => V.int n))) → Da K C G (ls'.map V.ref) (nss'.map encN) := by
          intro ls'
          induction ls' with
          | nil => intro nss' h _ _; cases nss' with | nil => exact .nil | cons _ _ => cases h
          | cons l ls' ih =>
            intro nss' h hg hl
            cases nss' with
            | nil => cases h
            | cons ns nss' =>
              refine .cons ?_ (ih nss' (by simpa using h) (fun x hx => hg x (by simp [hx])) fun j x m hj hm => hl (j + 1) x m (by simpa using hj) (by simpa using hm))
              refine .lst (vs := ns.map fun n : Nat => V.int n) (by rw [hg l (by simp)]; exact hl 0 l ns rfl rfl) ?_
              clear hl hg ih h
              induction ns with
              | nil => exact .nil
              | cons n ns ih2 => exact .cons (.int _) ih2
        exact fin ls nss hlen hG2 hlst
end
end TW
set_option Elab.async false
set_option linter.all false
set_option maxRecDepth 100000
set_option maxHeartbeats 4000000
namespace TW
open PySem L2 PyProof.Rows
/-- the module's WHO -/
structure WhoOk (K : PySem.W.Frag) (mg : Str → Option Value) : Prop where
  ex : ∃ a, mg "WHO" = some (.ref a) ∧ ∀ H, SqT K H a (whoL.map V.str)
theorem wt_niWHO {C : Addr} {X : Cx} {ρ : List Sl} {e : Expr} {pos p2 : Pos} {P : Bool → Prop} (W0 : WhoOk X.K X.mg) (h : W C X e ρ fun x => ∃ z : Str, x = .str z ∧ P (!decide (z ∈ whoL))) (hg : Gl X "WHO" := by rfl) (hm : behindInMarks .NotIn (.Name "WHO" p2) = false := by rfl) : WT C X (.Compare e [.NotIn] [.Name "WHO" p2] pos) ρ P := by
  obtain ⟨a, hw, hs⟩ := W0.ex
  refine .of (pt_cmpR op_notIn_seq (pe_b e) (pe_glob (v := .ref a) hg hw rfl) hm) fun {Hb0 H0 Hb H σ} S Q q => ?_
  show bE X e σ H _
  refine h.use S fun v Hb2 H2 d g s hv p => ?_
  obtain ⟨z, rfl, p⟩ := p
  cases hv
  refine ⟨a, _, rfl, .inr (hs H2), rfl, ?_, ?_⟩
  · rw [List.all_map]
    exact List.all_eq_true.mpr fun _ _ => rfl
  · rw [inV_strs]
    exact ⟨_, rfl, q _ Hb2 H2 g s p⟩
section
variable {Pg : Program} {w : World} {K : PySem.W.Frag} {mg : Str → Option Value} {base : Heap} {C : Addr}
def wfEntry : List D → (D → Prop) → Prop := fun ds P => ∃ (p q : PrT) (e : EntT), ds = [p.enc, q.enc, e.enc] ∧ p.Ok ∧ q.Ok ∧ e.Ok p q ∧ P (.bl true)
theorem ok_entry (B : Bl mg) (W0 : WhoOk K mg) (Gk : Df Pg w K mg base C 14 "names_known" ["one", "other", "thing"] wfKnownN) {f : Addr} {fd : FuncData} (F : Fun K "is_entry" "is_entry" sIsEntry f fd) : FnOk Pg w K mg base CX0 15 f fd ["one", "other", "entry"] (spD K C wfEntry) := by
  refine fn_ok F scIsEntry (fun ds P h => by obtain ⟨_, _, _, rfl, _⟩ := h; rfl) fun cdv A outer s H E hr ds P h => ?_
  obtain ⟨p, q, e, rfl, ok, ok2, eo, pp⟩ := h
  (refine ws_seq ?_)
  refine ws_asg (ts := [3, 4, 5, 6, 7]) ?_
  (refine w_var 2 rfl ?_)
  refine wg_tup rfl (wgs_cons (wg_name 3 scIsEntry.nd (wgs_cons (wg_name 4 scIsEntry.nd (wgs_cons (wg_name 5 scIsEntry.nd (wgs_cons (wg_name 6 scIsEntry.nd (wgs_cons (wg_name 7 scIsEntry.nd (wgs_nil ?_))))))))))) rfl
  (refine ws_seq ?_; refine ws_if ?_; refine WW.wt (ww_or ?_); refine wt_not ?_)
  refine wt_chain ?_
  (refine w_int ?_; refine Exists.intro _ (And.intro rfl ?_); refine w_var 3 rfl ?_; refine Exists.intro _ (And.intro rfl ?_))
  refine if_t (by simp) ?_
  refine w_len B.len ?_
  (refine w_ixN (w_var 0 rfl ⟨_, rfl, ?_⟩); refine w_int ?_; refine Exists.intro _ (And.intro rfl ?_); refine Exists.intro _ (And.intro rfl ?_); refine Exists.intro _ (And.intro rfl ?_); refine Exists.intro _ (And.intro rfl ?_))
  refine if_f (by have := eo.p; simp; omega) ?_
  (refine ww_or ?_; refine wt_not ?_)
  refine wt_chain ?_
  (refine w_int ?_; refine Exists.intro _ (And.intro rfl ?_); refine w_var 4 rfl ?_; refine Exists.intro _ (And.intro rfl ?_))
  refine if_t (by simp) ?_
  refine w_len B.len ?_
  (refine w_ixN (w_var 1 rfl ⟨_, rfl, ?_⟩); refine w_int ?_; refine Exists.intro _ (And.intro rfl ?_); refine Exists.intro _ (And.intro rfl ?_); refine Exists.intro _ (And.intro rfl ?_); refine Exists.intro _ (And.intro rfl ?_))
  refine if_f (by have := eo.q; simp; omega) ?_
  (refine ww_or1 ?_)
  refine wt_niWHO W0 ?_
  (refine w_var 6 rfl ?_; refine Exists.intro _ (And.intro rfl ?_))
  refine if_f (by have := eo.who; simp [this]) ?_
  (refine ws_nil ?_; refine ws_seq ?_; refine ws_ret ?_; refine w_and ?_)
  refine w_call Gk hr ?_
  (refine wa_cons ?_; refine w_var 0 rfl ?_; refine wa_cons ?_; refine w_var 1 rfl ?_; refine wa_cons ?_; refine w_var 5 rfl ?_; refine wa_nil ?_)
  refine ⟨p, q, .co e.c, rfl, ok, ok2, eo.cd, eo.c, true, rfl, ?_⟩
  (refine w_one ?_)
  refine w_call Gk hr ?_
  (refine wa_cons ?_; refine w_var 0 rfl ?_; refine wa_cons ?_; refine w_var 1 rfl ?_; refine wa_cons ?_; refine w_var 7 rfl ?_; refine wa_nil ?_)
  exact ⟨p, q, .su e.wait, rfl, ok, ok2, eo.wd, eo.w, pp⟩
end
end TW
set_option Elab.async false
set_option linter.all false
set_option maxRecDepth 100000
set_option maxHeartbeats 4000000
namespace TW
open PySem L2 PyProof.Rows
section
variable {Pg : Program} {w : World} {K : PySem.W.Frag} {mg : Str → Option Value} {base : Heap} {C : Addr}
/-! ### the making of a Walker -/
def spInitW (K : PySem.W.Frag) (C : Addr) : Sp := fun vs H Q _ => ∃ (x dx : Addr) (va vb ve : V) (Hb : Hp) (p q : PrT) (es : List EntT), vs = [.ref x, va, vb, ve] ∧ H x = some (.ins C dx []) ∧ Hb x = none ∧ Same Hb H ∧ Dv K C Hb va p.enc ∧ Dv K C Hb vb q.enc ∧ Dv K C Hb ve (encE es) ∧ es.length ≤ 30 ∧
  ∀ Hb2 H2, Same Hb Hb2 → Same Hb2 H2 → (∀ b o, b ≠ x → H b = some o → H2 b = some o) → (∀ b, b ≠ x → Mu H b → Hb2 b = Hb b) → Dv K C Hb2 (.ref x) (walkerD p q es) → Q .non H2
theorem ok_init (T : Wk K C) (G : Df Pg w K mg base C 1 "by_places" ["paper"] wfBy) {f : Addr} {fd : FuncData} (F : Fun K "__init__" "Walker.__init__" sWalkerInit f fd) : FnOk Pg w K mg base CX0 2 f fd ["self", "one", "other", "paper"] (spInitW K C) := by
  refine F.ok scWalkerInit (fun vs H Q E h => ?_) (fun cdv A outer s H vs Q E hr h => ?_)
  · obtain ⟨_, _, _, _, _, _, _, _, _, rfl, _⟩ := h
    rfl
  obtain ⟨x, dx, va, vb, ve, Hb, p, q, es, rfl, hx, hbx, sb, da, db, de, hl, k⟩ := h
  obtain ⟨g, gd, hm, hkp, hb, FG⟩ := G.ex
  refine ⟨_, pss_cons (ps_fld (pv 0) (pv 1) rfl) (pss_cons (ps_fld (pv 0) (pv 2) rfl) (pss_cons (ps_fld (pv 0) (pv 3) rfl)
    (pss_one (ps_fld (pv 0) (pe_call FG (hr.mono (by decide)) (by rfl) hm hkp hb .nil pass0 (pa_cons (pv 3) pa_nil)) rfl)))), ?_⟩
  refine ⟨_, rfl, _, rfl, x, C, dx, [], rfl, hx, T.cl, T.n1, (by show 0 < 1000; decide), ?_⟩
  refine ⟨_, rfl, _, rfl, x, C, dx, _, rfl, upd_same, T.cl, T.n2, (by show 1 < 1000; decide), ?_⟩
  refine ⟨_, rfl, _, rfl, x, C, dx, _, rfl, upd_same, T.cl, T.n3, (by show 2 < 1000; decide), ?_⟩
  refine ⟨_, rfl, Hb, _, _, ?_, .cons de .nil, ⟨es, rfl, hl, rfl⟩, fun v Hb2 H2 d g s hv hd => ?_⟩
  · intro b o e
    have nb : b ≠ x := fun z => by rw [z, hbx] at e; cases e
    rw [upd_ne nb, upd_ne nb, upd_ne nb]
    exact sb b o e
  have hx2 : H2 x = some (.ins C dx [("mine_program", va), ("yours_program", vb), ("entries", ve)]) := g.h _ _ upd_same
  have hx3 : Hb2 x = none := by rw [g.old x ⟨_, upd_same, fun _ z => nomatch z⟩]; exact hbx
  refine ⟨_, rfl, x, C, dx, _, rfl, hx2, T.cl, T.n4, (by show 3 < 1000; decide), ?_⟩
  subst hd
  refine k (upd Hb2 x (.ins C dx (fldW.zip [va, vb, ve, v]))) _ (fun b o e => ?_) (fun b o e => ?_) (fun b o nb e => ?_) (fun b nb e => ?_) ?_
  · have := g.b b o e
    rw [upd_ne (ne_of_none this hx3)]
    exact this
  · by_cases z : b = x
    · subst z
      rw [upd_same] at e ⊢
      exact e
    · rw [upd_ne z] at e ⊢
      exact s b o e
  · rw [upd_ne nb]
    refine g.h b o ?_
    rw [upd_ne nb, upd_ne nb, upd_ne nb]
    exact e
  · rw [upd_ne nb]
    obtain ⟨o, e1, e2⟩ := e
    refine g.old b ⟨o, ?_, e2⟩
    rw [upd_ne nb, upd_ne nb, upd_ne nb]
    exact e1
  · have up : Same Hb2 (upd Hb2 x (.ins C dx (fldW.zip [va, vb, ve, v]))) := fun b o e => by rw [upd_ne (ne_of_none e hx3)]; exact e
    exact .obj (dx := dx) upd_same rfl (.cons ((da.mono g.b).mono up) (.cons ((db.mono g.b).mono up) (.cons ((de.mono g.b).mono up) (.cons (hv.mono up) .nil))))
/-- the class Walker at work -/
structure MkW (Pg : Program) (w : World) (K : PySem.W.Frag) (mg : Str → Option Value) (base : Heap) (C : Addr) : Prop where
  ex : ∃ f fd, Mk K C f ∧ mg "Walker" = some (.ref C) ∧ Binds K fd ["self", "one", "other", "paper"] [] ∧ FnOk Pg w K mg base CX0 2 f fd ["self", "one", "other", "paper"] (spInitW K C)
theorem da3 {H : Hp} {vs : List V} {x y z : D} (h : Da K C H vs [x, y, z]) : ∃ a b c, vs = [a, b, c] ∧ Dv K C H a x ∧ Dv K C H b y ∧ Dv K C H c z := by
  cases h with
  | cons h1 h =>
  cases h with
  | cons h2 h =>
  cases h with
  | cons h3 h =>
  cases h
  exact ⟨_, _, _, rfl, h1, h2, h3⟩
theorem w_walker {X : Cx} {ρ : List Sl} {e : Expr} {es : List Expr} {p pos : Pos} {P : D → Prop} {k' : Nat} (M : MkW X.prog X.w X.K X.mg X.base C) (hr : Room k' X.A) (h : WA C X (e :: es) ρ fun ds => ∃ (a b : PrT) (et : List EntT), ds = [a.enc, b.enc, encE et] ∧ et.length ≤ 30 ∧ P (walkerD a b et)) (hk : 3 ≤ k' := by decide) (hg : Gl X "Walker" := by rfl)
    (he : starEach (e :: es) X.env = (false, eval e X.env) :: starEach es X.env := by rfl) (hpl : (backTo pos (starEach es X.env)).any (·.1) = false := by rfl) : W C X (.Call (.Name "Walker" p) (e :: es) [] pos) ρ P := by
  obtain ⟨f, fd, mk, hm, hb, F⟩ := M.ex
  refine .of (pe_make mk F (hr.mono hk) hg hm hb .nil pass0 (pa_b (e :: es)) (he := he) (hpl := hpl)) fun {Hb0 H0 Hb H σ} S Q q => ?_
  show bA X (e :: es) σ H _
  refine h.use S fun vs Hb1 H1 ds g1 s1 hvs p1 => ?_
  obtain ⟨a, b, et, rfl, hl, p1⟩ := p1
  obtain ⟨va, vb, ve, rfl, da, db, de⟩ := da3 hvs
  intro x dx hx hdx nd
  have hbx : Hb1 x = none := s1.free hx
  have hbd : Hb1 dx = none := s1.free hdx
  have keep : ∀ b o, H1 b = some o → upd (upd H1 dx (.own x)) x (.ins C dx []) b = some o := fun b o e => by
    rw [upd_ne (ne_of_none e hx), upd_ne (ne_of_none e hdx)]
    exact e
  refine ⟨x, dx, va, vb, ve, Hb1, a, b, et, rfl, upd_same, hbx, fun b o e => keep b o (s1 b o e), da, db, de, hl, fun Hb2 H2 b1 s2 h2 o2 hw => ⟨rfl, ?_⟩⟩
  refine q (.ref x) Hb2 H2 _ (g1.trans ⟨b1, fun b o e => h2 b o (ne_of_none e hx) (keep b o e), fun b hb => o2 b ?_ ?_⟩) s2 hw p1
  · exact fun z => hb.ne (by rw [z]; exact hx)
  · obtain ⟨o, e1, e2⟩ := hb
    exact ⟨o, keep b o e1, e2⟩
end
end TW
set_option Elab.async false
set_option linter.all false
set_option maxRecDepth 100000
set_option maxHeartbeats 4000000
/-! sorted of a list of data, of a set of pairs, of a dict by pairs. -/
namespace TW
open PySem L2 PyProof.Rows PySem.W

def eD (b : V × D) : PyData := toPy b.2
section
variable {X : Cx} {pins : List (Addr × Obj)} {σ : L2.St} {H : Hp} {s : Shared}
theorem each_of : ∀ {bs : List (V × D)} {us : List Value}, Vals (bs.map (·.1)) us → EachIs (fun u (b : V × D) => RelV b.1 u) us bs
  | [], _, .nil => .nil
  | _ :: _, _, .cons h t => .cons h (each_of t)
theorem each_vals : ∀ {bs : List (V × D)} {us : List Value}, EachIs (fun u (b : V × D) => RelV b.1 u) us bs → Vals (bs.map (·.1)) us
  | [], _, .nil => .nil
  | _ :: _, _, .cons h t => .cons h (each_vals t)
theorem each_reads (I : Inv X pins σ H s) {bs : List (V × D)} {us : List Value} (r : Vals (bs.map (·.1)) us) (h : ∀ b ∈ bs, L2.Dp X.K H b.1 (toPy b.2)) : EachIs (fun u b => ∃ as, Reads s.heap u (eD b) as) us bs :=
  (each_mem (each_of r)).mono fun u b ⟨hr, hb⟩ => Dp.reads I _ _ _ (h b hb) hr
/-- sorted(xs), xs a list of data -/
def rSortD (K : PySem.W.Frag) : List V → Hp → VK → Prop := fun xs H Q => ∃ (l : Addr) (bs : List (V × D)), xs = [.ref l] ∧ SqL K H l (bs.map (·.1)) ∧ (∀ b ∈ bs, L2.Dp K H b.1 (toPy b.2)) ∧ AllAlike (bs.map eD) ∧ Sortable (bs.map eD) ∧ bs.length ≤ sizeLine ∧ (∀ b ∈ bs, (eD b).depth ≤ 8) ∧
  ∀ p, H p = none → Q (.ref p) (upd H p (.lst ((bs.mergeSort (dataLe false eD)).map (·.1))))
theorem cr_sortD (hu : X.A.units + 16 < cLine) : CallR X (.builtin "sorted") (rSortD X.K) := by
  intro pins s σ H xs us Q I r h
  obtain ⟨l, bs, rfl, hl, hd, h1, h2, h3, h4, q⟩ := h
  rw [Vals.ref1 r]
  obtain ⟨its, rv, pl, hz⟩ := I.list hl
  refine sorted_data (R := fun u (b : V × D) => RelV b.1 u) (vs := its) (bs := bs) (enc := eD) ?_ (each_of rv) (each_reads I rv hd) h1 h2 h3 (fun b hb => ?_) fun out ho eo => ?_
  · exact pl.isList
  · have := h4 b hb
    omega
  · have hn : H (s.heap.objs.size + 1) = none := I.hok.fresh (Nat.le_succ _)
    obtain ⟨c, hc⟩ := sortedAll_at s.heap its out.toArray
    have hlen : ((bs.mergeSort (dataLe false eD)).map (·.1)).length ≤ sizeLine := by rw [List.length_map, (List.mergeSort_perm bs _).length_eq]; exact h3
    exact ⟨.ref (s.heap.objs.size + 1), _, I.laid (t' := s.toks) (o := .lst ((bs.mergeSort (dataLe false eD)).map (·.1))) (fun b u e => sortedAll_old e) (Nat.le_succ _) ⟨hlen, out, c, each_vals eo, hc⟩, rfl, q _ hn⟩
end
section
variable {C : Addr} {X : Cx} {ρ : List Sl} {e : Expr} {pos p : Pos} {P : D → Prop} {K : PySem.W.Frag}
theorem da_zip : ∀ {H : Hp} {vs : List V} {ds : List D}, Da K C H vs ds → (vs.zip ds).map (·.1) = vs ∧ (vs.zip ds).map (·.2) = ds ∧ ∀ b ∈ vs.zip ds, Dv K C H b.1 b.2
  | _, _, _, .nil => ⟨rfl, rfl, fun _ h => nomatch h⟩
  | _, _, _, .cons h t => by
    obtain ⟨a, b, c⟩ := da_zip t
    refine ⟨?_, ?_, fun x hx => ?_⟩
    · simp [a]
    · simp [b]
    · rcases List.mem_cons.mp hx with rfl | hx
      · exact h
      · exact c x hx
theorem da_of_zip : ∀ {H : Hp} {bs : List (V × D)}, (∀ b ∈ bs, Dv K C H b.1 b.2) → Da K C H (bs.map (·.1)) (bs.map (·.2))
  | _, [], _ => .nil
  | _, b :: bs, h => .cons (h b (by simp)) (da_of_zip fun x hx => h x (by simp [hx]))
theorem wn_sortD (hu : X.A.units + 16 < cLine) (hm : X.mg "sorted" = none) (hb : bootBuiltins "sorted" = some (.builtin "sorted")) (h : W C X e ρ fun d => ∃ ds, d = .lst ds ∧ (∀ x ∈ ds, layN 8 x = true) ∧ AllAlike (ds.map toPy) ∧ Sortable (ds.map toPy) ∧ ds.length ≤ sizeLine ∧ P (.lst (ds.mergeSort (dataLe false toPy))))
    (hg : Gl X "sorted" := by rfl) (he : starEach [e] X.env = (false, eval e X.env) :: starEach [] X.env := by rfl) : WN C X (.Call (.Name "sorted" p) [e] [] pos) ρ P :=
  wn_blt (cr_sortD hu) hm hb (wa_cons (h.mono fun d ⟨ds, hn, h1, h2, h3, h4, pp⟩ => wa_nil fun Hb H vs Q s hvs k => by
    obtain ⟨v, rfl, hv⟩ := one_da hvs
    subst hn
    cases hv with
    | @lst a us _ g1 g2 =>
      obtain ⟨z1, z2, z3⟩ := da_zip g2
      have em : (us.zip ds).map eD = ds.map toPy := by have e := congrArg (List.map toPy) z2; rw [List.map_map] at e; exact e
      refine ⟨a, us.zip ds, rfl, by rw [z1]; exact SqL.of (s _ _ g1), fun b hb => ?_, by rw [em]; exact h2, by rw [em]; exact h3, ?_, fun b hb => ?_, fun p hp => ?_⟩
      · have hb2 : b.2 ∈ ds := by rw [← z2]; exact List.mem_map_of_mem hb
        exact lay_dp 8 _ _ (h1 _ hb2) ((z3 b hb).mono s)
      · have := congrArg List.length z2
        rw [List.length_map] at this
        omega
      · have hb2 : b.2 ∈ ds := by rw [← z2]; exact List.mem_map_of_mem hb
        exact (lay_can 8 _ (h1 _ hb2)).2
      · obtain ⟨g4, s4⟩ := Grow.own (o := .lst ((((us.zip ds).mergeSort (dataLe false eD))).map (·.1))) s hp
        refine k p Hb _ (.lst (ds.mergeSort (dataLe false toPy))) g4 s4 hp (s.free hp) ⟨_, upd_same, ?_⟩ pp
        have e3 : ((us.zip ds).mergeSort (dataLe false eD)).map (·.2) = ds.mergeSort (dataLe false toPy) := by
          have e5 := sort_maps (r := dataLe false eD) (s := dataLe false toPy) (l := us.zip ds) (fun b : V × D => b.2) (fun a _ b _ => rfl)
          rw [z2] at e5
          exact e5
        rw [← e3]
        exact da_of_zip fun b hb => z3 b ((List.mergeSort_perm _ _).mem_iff.mp hb)) he) hg (by decide) (by decide) he rfl
/-! ### sorted(set(xs)), xs a list of pairs -/
def plD (pl : Nat × Nat) : D := .tup [.int pl.1, .int pl.2]
theorem pl_da : ∀ {H : Hp} {vs : List V} {pls : List (Nat × Nat)}, Da K C H vs (pls.map plD) → ∃ ks : List (Addr × List Int), vs = ks.map (fun p => V.ref p.1) ∧ ks.map (·.2) = pls.map (fun pl => [(pl.1 : Int), (pl.2 : Int)]) ∧ ∀ p ∈ ks, H p.1 = some (.tup (p.2.map V.int))
  | _, _, [], .nil => ⟨[], rfl, rfl, fun _ h => nomatch h⟩
  | H, _, pl :: pls, .cons h t => by
    obtain ⟨ks, rfl, h2, h3⟩ := pl_da t
    have h' : Dv K C H _ (.tup [.int pl.1, .int pl.2]) := h
    cases h' with
    | @tup a us _ g1 g2 =>
      cases g2 with
      | cons x1 g2 =>
      cases g2 with
      | cons x2 g2 =>
      cases g2
      cases x1
      cases x2
      refine ⟨(a, [(pl.1 : Int), (pl.2 : Int)]) :: ks, rfl, by simp [h2], fun p hp => ?_⟩
      rcases List.mem_cons.mp hp with rfl | hp
      · exact g1
      · exact h3 p hp
theorem back_pl : ∀ {L : List (Addr × List Int)} {pls : List (Nat × Nat)}, (∀ p ∈ L, p.2 ∈ pls.map (fun pl => [(pl.1 : Int), (pl.2 : Int)])) → ∃ out : List (Nat × Nat), L.map (·.2) = out.map (fun pl => [(pl.1 : Int), (pl.2 : Int)]) ∧ ∀ pl ∈ out, pl ∈ pls
  | [], _, _ => ⟨[], rfl, fun _ h => nomatch h⟩
  | p :: L, pls, h => by
    obtain ⟨out, h1, h2⟩ := back_pl (L := L) (pls := pls) fun x hx => h x (by simp [hx])
    obtain ⟨pl, hpl, e⟩ := List.mem_map.mp (h p (by simp))
    refine ⟨pl :: out, by simp [h1, e], fun x hx => ?_⟩
    rcases List.mem_cons.mp hx with rfl | hx
    · exact hpl
    · exact h2 x hx
theorem pl_back : ∀ {H : Hp} {L : List (Addr × List Int)} {out : List (Nat × Nat)}, L.map (·.2) = out.map (fun pl => [(pl.1 : Int), (pl.2 : Int)]) → (∀ p ∈ L, H p.1 = some (.tup (p.2.map V.int))) → Da K C H (L.map fun p => V.ref p.1) (out.map plD)
  | _, [], [], _, _ => .nil
  | _, [], _ :: _, e, _ => by simp at e
  | _, _ :: _, [], e, _ => by simp at e
  | H, p :: L, pl :: out, e, h => by
    simp only [List.map_cons, List.cons.injEq] at e
    have hp := h p (by simp)
    rw [e.1] at hp
    exact .cons (.tup hp (.cons (.int _) (.cons (.int _) .nil))) (pl_back e.2 fun x hx => h x (by simp [hx]))
theorem wn_sortedSet {p2 pos2 : Pos} (hc : X.calm = true) (hu : X.A.units + 64 < cLine) (hm : X.mg "sorted" = none) (hb : bootBuiltins "sorted" = some (.builtin "sorted")) (hm2 : X.mg "set" = none) (hb2 : bootBuiltins "set" = some (.type "set"))
    (h : W C X e ρ fun d => ∃ pls : List (Nat × Nat), d = .lst (pls.map plD) ∧ pls.length < 64 ∧ (∀ pl ∈ pls, pl.1 < 64 ∧ pl.2 < 64) ∧ ∀ out : List (Nat × Nat), out.length < 64 → (∀ pl ∈ out, pl ∈ pls) → P (.lst (out.map plD)))
    (hg : Gl X "sorted" := by rfl) (hg2 : Gl X "set" := by rfl) (he : starEach [e] X.env = (false, eval e X.env) :: starEach [] X.env := by rfl) (hs : starEach [.Call (.Name "set" p2) [e] [] pos2] X.env = (false, eval (.Call (.Name "set" p2) [e] [] pos2) X.env) :: starEach [] X.env := by rfl) :
    WN C X (.Call (.Name "sorted" p) [.Call (.Name "set" p2) [e] [] pos2] [] pos) ρ P :=
  .of (pe_callB (cr_sortedT hc) hg hm hb (pa_cons (pe_callTy (cr_setOfT hc hu) hg2 hm2 hb2 (pa_cons (pe_b e) pa_nil he) (by decide) (by decide) he rfl) pa_nil hs) (by decide) (by decide) hs rfl) fun {Hb0 H0 Hb H σ} S Q q => by
    show bE X e σ H _
    refine h.use S fun v Hb1 H1 d g1 s1 hv p1 => ?_
    obtain ⟨pls, rfl, hl, hB, p1⟩ := p1
    cases hv with
    | @lst l us _ g2 g3 =>
      obtain ⟨ks, rfl, k2, k3⟩ := pl_da g3
      have hkl : ks.length = pls.length := by have := congrArg List.length k2; simpa using this
      refine ⟨l, ks, rfl, SqL.of (s1 _ _ g2), fun p hp => SqT.of (s1 _ _ (k3 p hp)), by omega, fun a L ha hL hL2 => ?_⟩
      obtain ⟨ga, sa⟩ := Grow.own (o := SetTO X.prog X.w a L) s1 ha
      have hin : ∀ p ∈ L, p.2 ∈ pls.map (fun pl => [(pl.1 : Int), (pl.2 : Int)]) := fun p hp => by rw [← k2]; exact List.mem_map_of_mem (hL p hp)
      refine ⟨a, L, 2, 64, rfl, upd_same, fun p hp => SqT.of (sa _ _ (k3 p (hL p hp))), by decide, fun p hp => ?_, fun L' p hpm hnd hlt hpw hp => ?_⟩
      · obtain ⟨pl, hpl, ep⟩ := List.mem_map.mp (hin p hp)
        obtain ⟨b1, b2⟩ := hB pl hpl
        rw [← ep]
        refine ⟨rfl, ?_⟩
        intro x hx
        simp at hx
        rcases hx with rfl | rfl
        · omega
        · omega
      · obtain ⟨out, o1, o2⟩ := back_pl (L := L') (pls := pls) fun x hx => hin x (hpm.mem_iff.mp hx)
        obtain ⟨gp, sp⟩ := Grow.own (o := .lst (L'.map fun q => V.ref q.1)) sa hp
        have hp1 : H1 p = none := ga.h.free hp
        have hol : out.length < 64 := by have := congrArg List.length o1; simp at this; omega
        exact q p Hb1 _ (.lst (out.map plD)) ((g1.trans ga).trans gp) sp (g1.h.free hp1) (s1.free hp1) ⟨_, upd_same, pl_back o1 fun x hx => k3 x (hL x (hpm.mem_iff.mp hx))⟩ (p1 out hol o2)
/-! ### sorted(d), d a dict by pairs -/
end
section
variable {X : Cx}
theorem reads_pair {h : Heap} {v : Value} {x y : Int} {as : List Addr} (r : Reads h v (.tuple [.int x, .int y]) as) : as = [] := by
  cases r with
  | @tuple a o vs n xs as h1 h2 h3 h4 =>
    generalize vs.toList = l at h4
    cases h4 with
    | cons a1 h5 =>
      cases a1
      cases h5 with
      | cons a2 h6 =>
        cases a2
        cases h6
        rfl
def rSortDT (K : PySem.W.Frag) : List V → Hp → VK → Prop := fun xs H Q => ∃ (d : Addr) (kvs : List (List Key × V)) (pls : List (Nat × Nat)), xs = [V.ref d] ∧ Rd H d (.dT kvs) ∧ kvs.map (·.1) = pls.map keyP ∧ kvs.length ≤ sizeLine ∧
  ∀ (out : List (Addr × (Nat × Nat))) p, H p = none → (out.map (·.2)).Perm pls → (∀ b ∈ out, H b.1 = some (.tup ((keyP b.2).map kV))) → Q (.ref p) (upd H p (.lst (out.map fun b => V.ref b.1)))
theorem keys_zip : ∀ {H : Hp} {kvs : List (List Key × V)} {bs : List Addr} {pls : List (Nat × Nat)}, IsKeys H kvs bs → kvs.map (·.1) = pls.map keyP → (bs.zip pls).map (·.1) = bs ∧ (bs.zip pls).map (·.2) = pls ∧ ∀ b ∈ bs.zip pls, H b.1 = some (.tup ((keyP b.2).map kV)) := by
  intro H kvs bs pls hk
  induction hk generalizing pls with
  | nil => intro e; cases pls with | nil => exact ⟨rfl, rfl, fun _ h => nomatch h⟩ | cons _ _ => simp at e
  | @cons p b ps bs h t ih =>
    intro e
    cases pls with
    | nil => simp at e
    | cons pl pls =>
      simp only [List.map_cons, List.cons.injEq] at e
      obtain ⟨a1, a2, a3⟩ := ih e.2
      refine ⟨by simp [a1], by simp [a2], fun x hx => ?_⟩
      rcases List.mem_cons.mp hx with rfl | hx
      · rw [← e.1]; exact h
      · exact a3 x hx
theorem cr_sortDT (hc : X.calm = true) (hu : X.A.units + 16 < cLine) : CallR X (.builtin "sorted") (rSortDT X.K) := by
  intro pins s σ H xs us Q I r h
  obtain ⟨d, kvs, pls, rfl, hd, hkp, hsz, q⟩ := h
  obtain ⟨u, rfl, rx⟩ := r.one
  cases rx
  obtain ⟨z, hs, ks, pr, o, es, ep, ho, hx, hdt, he, hn⟩ := (show ObjOk X.prog X.w H s.heap d (.dT kvs) from hd.ok I.hok)
  have l1 : es.size = ks.length := size_of_entries he
  have l2 : kvs.length = ks.length := Paired.length pr
  refine Calls.call_function_entry PyProof.Rows.kind_sorted PyProof.Rows.plain_sorted PyProof.Rows.entry_sorted (PyProof.Rows.args_sorted1 _) ?_
  unfold Builtin.«sorted»
  refine wpAny_bind (m := checkCount "sorted" 1 1 _) (wpAny_pure ?_)
  refine wpAny_bind (PySem.W.kdu_collect (A := X.A.in1) (kdl_raw hs hx hdt) (I.ok.hd hc) ho (by omega) fun h' tk acc' kp it => ?_)
  have ea : acc'.toList = ks.map fun x => Value.ref x.2.1 := by
    have hl : acc'.toList.length = ks.length := by rw [Array.length_toList, it.1]; exact l1
    apply List.ext_getElem?
    intro j
    rw [List.getElem?_map]
    cases hj : acc'.toList[j]? with
    | none =>
      have h1 := List.getElem?_eq_none_iff.mp hj
      rw [List.getElem?_eq_none (by omega)]
      all_goals rfl
    | some v =>
      obtain ⟨en, hen, hv⟩ := it.2 j v (by rw [← Array.getElem?_toList]; exact hj)
      have qe := entry_at he j
      rw [hen] at qe
      cases hb : ks[j]? with
      | none =>
        rw [hb] at qe
        exact nomatch (show some en = none from qe)
      | some b =>
        rw [hb] at qe
        have e2 : en = entryOfKey (tupleKind (mixKind X.prog X.w)) b := Option.some.inj qe
        rw [hv, e2]
        all_goals rfl
  have eb : acc'.toList = (ks.map fun x => x.2.1).map Value.ref := by rw [ea, List.map_map]; all_goals rfl
  obtain ⟨z1, z2, z3⟩ := keys_zip (isKeys_of pr) hkp
  generalize hbs : (ks.map fun x => x.2.1).zip pls = bs at z1 z2 z3
  have I1 : Inv X pins σ H { s with heap := h', toks := tk } := I.kept kp
  have eV : acc'.toList = bs.map fun b => Value.ref b.1 := by rw [eb, ← z1, List.map_map]; rfl
  have hlb : bs.length = kvs.length := by have := congrArg List.length z1; simp at this; omega
  have er : EachIs (fun u (b : Addr × (Nat × Nat)) => u = Value.ref b.1) acc'.toList bs := by
    rw [eV]
    clear eV z1 z2 z3 hbs hlb
    induction bs with
    | nil => exact .nil
    | cons b bs ih => exact .cons rfl ih
  have rd : EachIs (fun u (b : Addr × (Nat × Nat)) => ∃ as, Reads h' u (toPy (plD b.2)) as) acc'.toList bs := (each_mem er).mono fun u b ⟨eu, hb⟩ => by
    subst eu
    have hk : L2.Dp X.K H (.ref b.1) (toPy (plD b.2)) := .tup (SqT.of (z3 b hb)) (.cons (.int _) (.cons (.int _) .nil))
    exact Dp.reads I1 _ _ _ hk rfl
  refine wpAny_bind (wpAny_newList ?_ (by rw [Array.length_toList, it.1]; omega))
  have hoL : (h'.push (seqObj "list" acc'.toList.toArray 0)).get? h'.objs.size = some (seqObj "list" acc'.toList.toArray 0) := Heap.get?_push_size _ rfl
  show wpAny _ _ _ _ _ { s with heap := h'.push (seqObj "list" acc'.toList.toArray 0), toks := tk }
  have rd2 : EachIs (fun u (b : Addr × (Nat × Nat)) => ∃ as, Reads (h'.push (seqObj "list" acc'.toList.toArray 0)) u (toPy (plD b.2)) as ∧ h'.objs.size ∉ as) acc'.toList bs := rd.mono fun u b ⟨as, r⟩ => ⟨as, PyProof.Rows.Reads.keeps (fun b o e => Heap.get?_push_of_some _ e) r, by
    have r' : Reads h' u (.tuple [.int b.2.1, .int b.2.2]) as := r
    rw [reads_pair r']
    exact List.not_mem_nil⟩
  have al : AllAlike (bs.map fun b => toPy (plD b.2)) := AllAlike.of fun _ _ => by simp [plD, toPy, toPys, alike, alikeAll]
  have so : Sortable (bs.map fun b => toPy (plD b.2)) := Sortable.tuples fun b => ⟨.int b.2.1, [.int b.2.2], rfl⟩
  refine wpAny_bind (wpAny_holding (list_sort_data (s := { s with heap := h'.push (seqObj "list" acc'.toList.toArray 0), toks := tk }) (R := fun u (b : Addr × (Nat × Nat)) => u = Value.ref b.1) (bs := bs) (enc := fun b => toPy (plD b.2)) hoL er rd2 al so (by omega) (fun b _ => ?_) fun out h1 h2 => ?_))
  · have hd : (toPy (plD b.2)).depth = 1 := by simp [plD, toPy, toPys, PyData.depth, PyData.depthAll]
    rw [hd]
    show X.A.in1.units + 1 + 1 < cLine
    have : X.A.in1.units = X.A.units + 1 := rfl
    omega
  · obtain ⟨e', he'⟩ := PyProof.Rows.sortedHeap_at (vs := acc'.toList) (out := out.toArray) hoL
    have pm := List.mergeSort_perm bs (dataLe false fun b => toPy (plD b.2))
    generalize bs.mergeSort (dataLe false fun b => toPy (plD b.2)) = ms at h2 pm
    have hlen : (ms.map fun b => V.ref b.1).length ≤ sizeLine := by rw [List.length_map, pm.length_eq]; omega
    have hv : Vals (ms.map fun b => V.ref b.1) out := by
      clear h1 pm hlen he'
      induction h2 with
      | nil => exact .nil
      | cons h t ih => exact .cons (show _ = Value.ref _ from h) ih
    refine wpAny_pure ⟨_, rfl, .ref h'.objs.size, upd H h'.objs.size (.lst (ms.map fun b => V.ref b.1)), I1.laid (t' := tk) (fun b u e => ?_) (Nat.le_refl _)
      (show ObjOk X.prog X.w _ _ _ (.lst (ms.map fun b => V.ref b.1)) from ⟨hlen, out, e', hv, he'⟩), rfl, q ms _ (I1.hok.fresh (Nat.le_refl _)) (by rw [← z2]; exact pm.map _) fun b hb => z3 b (pm.mem_iff.mp hb)⟩
    have hb : b < h'.objs.size := Heap.lt_size e
    rw [PyProof.Rows.sortedHeap_old (Nat.ne_of_lt hb) (by rw [size_push']; exact Nat.lt_succ_of_lt hb)]
    exact Heap.get?_push_of_some _ e
end
section
variable {C : Addr} {X : Cx} {ρ : List Sl} {e : Expr} {pos p : Pos} {P : D → Prop} {K : PySem.W.Frag}
theorem da_keys {H : Hp} : ∀ {out : List (Addr × (Nat × Nat))}, (∀ b ∈ out, H b.1 = some (.tup ((keyP b.2).map kV))) → Da K C H (out.map fun b => V.ref b.1) ((out.map (·.2)).map plD)
  | [], _ => .nil
  | b :: out, h => .cons (.tup (h b (by simp)) (.cons (.int _) (.cons (.int _) .nil))) (da_keys fun x hx => h x (by simp [hx]))
theorem wn_sortDT (hc : X.calm = true) (hu : X.A.units + 16 < cLine) (hm : X.mg "sorted" = none) (hb : bootBuiltins "sorted" = some (.builtin "sorted")) (h : W C X e ρ fun d => ∃ (pls : List (Nat × Nat)) (ds : List D), d = .dt (pls.map keyP) ds ∧ pls.length ≤ sizeLine ∧ ∀ out : List (Nat × Nat), out.Perm pls → P (.lst (out.map plD)))
    (hg : Gl X "sorted" := by rfl) (he : starEach [e] X.env = (false, eval e X.env) :: starEach [] X.env := by rfl) : WN C X (.Call (.Name "sorted" p) [e] [] pos) ρ P :=
  wn_blt (cr_sortDT hc hu) hm hb (wa_cons (h.mono fun d ⟨pls, ds, hn, hl, pp⟩ => wa_nil fun Hb H vs Q s hvs k => by
    obtain ⟨v, rfl, hv⟩ := one_da hvs
    subst hn
    cases hv with
    | @dt a _ us _ g1 g2 g3 =>
      have g2' : pls.length = us.length := by simpa using g2
      refine ⟨a, _, pls, rfl, .inl (s _ _ g1), by rw [List.map_fst_zip (by simp; omega)], by rw [List.length_zip, List.length_map]; omega, fun out p hp hpm ho => ?_⟩
      let G : Hp := fun b => if b ∈ out.map (·.1) then H b else Hb b
      have tup : ∀ b, b ∈ out.map (·.1) → ∃ vs, H b = some (.tup vs) := fun b hb => by
        obtain ⟨x, hx, rfl⟩ := List.mem_map.mp hb
        exact ⟨_, ho x hx⟩
      have e1 : Same Hb G := fun b o e => by
        show (if b ∈ out.map (·.1) then H b else Hb b) = some o
        by_cases hb : b ∈ out.map (·.1)
        · rw [if_pos hb]; exact s b o e
        · rw [if_neg hb]; exact e
      have e2 : Same G H := fun b o e => by
        have e' : (if b ∈ out.map (·.1) then H b else Hb b) = some o := e
        by_cases hb : b ∈ out.map (·.1)
        · rw [if_pos hb] at e'; exact e'
        · rw [if_neg hb] at e'; exact s b o e'
      have gr : Grow Hb H G H := ⟨e1, Same.refl _, fun b ⟨o, ho, n⟩ => by
        show (if b ∈ out.map (·.1) then H b else Hb b) = Hb b
        by_cases hb : b ∈ out.map (·.1)
        · obtain ⟨vs, hv⟩ := tup b hb
          rw [hv] at ho
          cases ho
          exact absurd rfl (n vs)
        · rw [if_neg hb]⟩
      obtain ⟨g4, s4⟩ := Grow.own (o := .lst (out.map fun b => V.ref b.1)) e2 hp
      refine k p G _ (.lst ((out.map (·.2)).map plD)) (gr.trans g4) s4 hp (e2.free hp) ⟨_, upd_same, da_keys fun b hb => ?_⟩ (pp _ hpm)
      show (if b.1 ∈ out.map (·.1) then H b.1 else Hb b.1) = _
      rw [if_pos (List.mem_map_of_mem hb)]
      exact ho b hb) he) hg (by decide) (by decide) he rfl
end
end TW
set_option Elab.async false
set_option linter.all false
set_option maxRecDepth 100000
set_option maxHeartbeats 4000000
/-! All worths: bounds and order. -/
namespace TW
open PySem L2 PyProof.Rows
theorem fold_fits : ∀ (ss : List Nat) (init : List (List Int)) (pre : List Nat), (∀ r ∈ init, r.length = pre.length ∧ ∀ (i : Nat) (w : Int) (s : Nat), r[i]? = some w → pre[i]? = some s → 0 ≤ w ∧ w < s) →
    ∀ r ∈ ss.foldl cstep init, r.length = (pre ++ ss).length ∧ ∀ (i : Nat) (w : Int) (s : Nat), r[i]? = some w → (pre ++ ss)[i]? = some s → 0 ≤ w ∧ w < s
  | [], init, pre, h, r, hr => by simpa using h r hr
  | s :: ss, init, pre, h, r, hr => by
    have := fold_fits ss (cstep init s) (pre ++ [s]) (fun x hx => by
      rw [cstep, List.mem_flatMap] at hx
      obtain ⟨y, hy, hx⟩ := hx
      obtain ⟨z, hz, rfl⟩ := List.mem_map.mp hx
      have hz' : z < s := by simpa using hz
      obtain ⟨h1, h2⟩ := h y hy
      refine ⟨by simp [h1], fun i w t hw ht => ?_⟩
      by_cases hi : i < y.length
      · rw [List.getElem?_append_left hi] at hw
        rw [List.getElem?_append_left (by omega)] at ht
        exact h2 i w t hw ht
      · rw [List.getElem?_append_right (by omega)] at hw
        rw [List.getElem?_append_right (by omega)] at ht
        have e1 := (List.getElem?_eq_some_iff.mp hw).1
        simp at e1
        have e2 : i = y.length := by omega
        subst e2
        simp at hw
        rw [h1] at ht
        simp at ht
        subst hw ht
        omega) r hr
    simpa using this
theorem combos_fits {ss : List Nat} {r : List Int} (h : r ∈ combos ss) : r.length = ss.length ∧ ∀ (i : Nat) (w : Int) (s : Nat), r[i]? = some w → ss[i]? = some s → 0 ≤ w ∧ w < s := by
  have := fold_fits ss [[]] [] (by simp) r h
  simpa using this
theorem lex_app : ∀ {r r' : List Int} (x y : List Int), r.length = r'.length → r < r' → r ++ x < r' ++ y
  | [], [], _, _, _, h => absurd h (List.lt_irrefl _)
  | [], _ :: _, _, _, h, _ => by simp at h
  | _ :: _, [], _, _, h, _ => by simp at h
  | a :: r, b :: r', x, y, hl, h => by
    rw [List.cons_append, List.cons_append, List.cons_lt_cons_iff]
    rw [List.cons_lt_cons_iff] at h
    rcases h with h | ⟨h1, h2⟩
    · exact .inl h
    · exact .inr ⟨h1, lex_app x y (by simpa using hl) h2⟩
theorem lex_same : ∀ (r : List Int) {x y : List Int}, x < y → r ++ x < r ++ y
  | [], _, _, h => h
  | a :: r, _, _, h => by
    rw [List.cons_append, List.cons_append, List.cons_lt_cons_iff]
    exact .inr ⟨rfl, lex_same r h⟩
theorem cstep_sorted {init : List (List Int)} {k : Nat} (hk : ∀ r ∈ init, r.length = k) (h : init.Pairwise (· < ·)) (s : Nat) : (cstep init s).Pairwise (· < ·) := by
  unfold cstep
  rw [List.pairwise_flatMap]
  refine ⟨fun r hr => ?_, h.imp_of_mem fun {a b} ha hb hab x hx y hy => ?_⟩
  · rw [List.pairwise_map]
    refine List.Pairwise.imp (fun {a b} hab => ?_) List.pairwise_lt_range
    refine lex_same r ?_
    rw [List.cons_lt_cons_iff]
    exact .inl (by omega)
  · obtain ⟨z, _, rfl⟩ := List.mem_map.mp hx
    obtain ⟨w, _, rfl⟩ := List.mem_map.mp hy
    exact lex_app _ _ ((hk a ha).trans (hk b hb).symm) hab
theorem fold_sorted : ∀ (ss : List Nat) (init : List (List Int)) (k : Nat), (∀ r ∈ init, r.length = k) → init.Pairwise (· < ·) → (ss.foldl cstep init).Pairwise (· < ·)
  | [], _, _, _, h => h
  | s :: ss, init, k, hk, h => fold_sorted ss (cstep init s) (k + 1) (fun x hx => by
      rw [cstep, List.mem_flatMap] at hx
      obtain ⟨y, hy, hx⟩ := hx
      obtain ⟨z, _, rfl⟩ := List.mem_map.mp hx
      simp [hk y hy]) (cstep_sorted hk h s)
theorem combos_sorted (ss : List Nat) : (combos ss).Pairwise (· < ·) := fold_sorted ss [[]] 0 (by simp) (by simp)
section
variable {p : PrT}
theorem PrT.Ok.combos_fits (ok : p.Ok) {r : List Int} (h : r ∈ combos p.sizes) : p.fits r := by
  obtain ⟨h1, h2⟩ := TW.combos_fits h
  refine ⟨by simpa [PrT.sizes] using h1, fun i w b hw hb => h2 i w b.2 hw (by simp [PrT.sizes, hb])⟩
theorem PrT.Ok.combos_len (ok : p.Ok) : (combos p.sizes).length ≤ 100 := by
  have h1 := TW.combos_len (ss := p.sizes) (fun s hs => by
    obtain ⟨q, hq, rfl⟩ := List.mem_map.mp hs
    exact (ok.pos q hq).2)
  have h3 : p.sizes.length ≤ 2 := by simpa [PrT.sizes] using ok.few
  exact Nat.le_trans h1 (Nat.le_trans (Nat.pow_le_pow_right (by decide) h3) (by decide))
end
end TW
set_option Elab.async false
set_option linter.all false
set_option maxRecDepth 100000
set_option maxHeartbeats 4000000
namespace TW
open PySem L2 PyProof.Rows
def PrT.isizes (p : PrT) : List Nat := p.inputs.map fun x => (p.sizeV x).toNat
theorem PrT.Ok.sizeN {p : PrT} (ok : p.Ok) {x : Str} (h : x ∈ p.names) : ∃ z : Nat, p.sizeV x = z ∧ 1 ≤ z ∧ z ≤ 10 := by
  have := ok.sizeP h
  exact ⟨(p.sizeV x).toNat, by omega, by omega, by omega⟩
section
variable {Pg : Program} {w : World} {K : PySem.W.Frag} {mg : Str → Option Value} {base : Heap} {C : Addr}
theorem ok_lawworths (B : Bl mg) {f : Addr} {fd : FuncData} (F : Fun K "_law_worths" "_law_worths" sLawWorths f fd) : FnOk Pg w K mg base CX0 1 f fd ["program"] (spD K C wfEvery) := by
  refine fn_ok F scLawWorths (fun ds P h => by obtain ⟨_, rfl, _⟩ := h; rfl) fun cdv A outer s H E hr ds P h => ?_
  obtain ⟨p, rfl, h2, h10, pp⟩ := h
  (refine ws_seq ?_)
  refine ws_set 1 scLawWorths.nd (WN.w (wn_lst ?_))
  (refine wa_cons ?_)
  refine WN.w (wn_lst ?_)
  (refine wa_nil ?_; refine And.intro (sz rfl) ?_; refine wa_nil ?_; refine And.intro (sz rfl) ?_; refine ws_seq ?_)
  refine ws_for (ts := [2, 3]) PassesOwn.never rfl (wi_list ?_)
  (refine w_ixN (w_var 0 rfl ⟨_, rfl, ?_⟩); refine w_int ?_; refine Exists.intro _ (And.intro rfl ?_); refine Exists.intro _ (And.intro rfl ?_))
  refine ⟨_, .inl rfl, fun i ρ' => ∃ a b c d e, ρ' = [.im p.enc, .im (.lst ((combos (p.sizes.take i)).map encW)), a, b, c, d, e], ⟨_, _, _, _, _, rfl⟩, fun i d ρ' hd hi => ?_, fun ρ' hi => ?_⟩
  · obtain ⟨a, b, c, d, e, rfl⟩ := hi
    obtain ⟨bx, hb, rfl⟩ := get_map hd
    have hs : p.sizes[i]? = some bx.2 := by simp [PrT.sizes, hb]
    have hbx := h10 bx (List.mem_of_getElem? hb)
    have hi2 : i < 2 := by have := (List.getElem?_eq_some_iff.mp hb).1; omega
    have hc : (combos (p.sizes.take i)).length ≤ 10 := by
      have h1 := combos_len (ss := p.sizes.take i) (fun s hs => by
        obtain ⟨q, hq, rfl⟩ := List.mem_map.mp (List.mem_of_mem_take hs)
        exact h10 q hq)
      have h3 : (p.sizes.take i).length ≤ 1 := by rw [List.length_take]; omega
      exact Nat.le_trans h1 (Nat.le_trans (Nat.pow_le_pow_right (by decide) h3) (by decide))
    refine wg_tup rfl (wgs_cons (wg_name 2 scLawWorths.nd (wgs_cons (wg_name 3 scLawWorths.nd (wgs_nil ?_))))) rfl
    (refine ws_seq ?_)
    refine ws_own 4 scLawWorths.nd (wn_lst ?_)
    (refine wa_nil ?_; refine And.intro (sz rfl) ?_; refine ws_seq ?_)
    refine ws_for (ts := [5]) PassesOwn.never rfl (wi_list ?_)
    (refine w_var 1 rfl ?_)
    refine ⟨_, .inl rfl, fun j ρ' => ∃ e f, ρ' = [.im p.enc, .im (.lst ((combos (p.sizes.take i)).map encW)), .im (.str bx.1), .im (.int bx.2), .ow (.lst ((((combos (p.sizes.take i)).take j).flatMap fun row => (List.range bx.2).map fun w : Nat => row ++ [(w : Int)]).map encW)), e, f], ⟨_, _, rfl⟩, fun j d ρ' hd hj => ?_, fun ρ' hj => ?_⟩
    · obtain ⟨e, f, rfl⟩ := hj
      obtain ⟨row, hrow, rfl⟩ := get_map hd
      have hrl := combos_row (List.mem_of_getElem? hrow)
      have hjl : j < 10 := by have := (List.getElem?_eq_some_iff.mp hrow).1; omega
      refine wg_name 5 scLawWorths.nd ?_
      (refine ws_seq ?_)
      refine ws_extend 4 rfl (WN.w (wn_lc (own := [("worth", 6)]) (ts := [6]) rfl scLawWorths.nd (blkOk_by (N := nLawWorths) (sc := defScope sLawWorths) (by decide +kernel)) (by decide) (wi_range1 B.range ?_)))
      (refine w_var 3 rfl ?_; refine Exists.intro _ (And.intro rfl ?_))
      refine ⟨by omega, by omega, fun k acc => acc = ((List.range k).map fun w : Nat => encW (row ++ [(w : Int)])), rfl, fun k d acc hd ha => ?_, fun acc ha => ?_⟩
      · obtain ⟨z, hz, rfl⟩ := get_map hd
        obtain ⟨hk, rfl⟩ := get_range hz
        subst ha
        intro _ _ _ _ _
        refine wg_name 6 scLawWorths.nd ?_
        intro _ _ _ _ _
        refine wts_nil (if_t rfl ?_)
        intro _ _ _ _ _
        refine WN.w (wn_cat ?_)
        (refine w_var 5 rfl ?_; refine Exists.intro _ (And.intro rfl ?_))
        refine WN.w (wn_lst ?_)
        (refine wa_cons ?_; refine w_var 6 rfl ?_; refine wa_nil ?_; refine And.intro (sz rfl) ?_; refine Exists.intro _ (And.intro rfl ?_))
        refine ⟨szl (by simp [hrl, List.length_take]; omega), szt (by simp; omega), ?_⟩
        show _ = List.map _ (List.range (z + 1))
        rw [List.range_succ, List.map_append]
        simp [encW]
      · subst ha
        refine ⟨_, rfl, szl ?_, ws_nil ⟨.im (encW row), f, ?_⟩⟩
        · have h1 := cstep_len ((combos (p.sizes.take i)).take j) bx.2
          unfold cstep at h1
          have h3 : ((combos (p.sizes.take i)).take j).length ≤ 10 := by rw [List.length_take]; omega
          have h4 := Nat.mul_le_mul h3 hbx
          simp only [List.length_map, List.length_range, h1, Int.toNat_natCast]
          omega
        · rw [take_flatMap hrow]
          simp [encW]
    · obtain ⟨e, f, rfl⟩ := hj
      (refine ws_seq ?_)
      refine ws_frz 4 rfl (ws_set 1 scLawWorths.nd ?_)
      (refine w_var 4 rfl ?_; refine ws_nil ?_)
      have e2 : combos (p.sizes.take (i + 1)) = (((combos (p.sizes.take i)).take ((combos (p.sizes.take i)).map encW).length).flatMap fun row => (List.range bx.2).map fun w : Nat => row ++ [(w : Int)]) := by
        rw [combos_take hs, List.length_map, List.take_length]
        rfl
      show ∃ a b c d e, _ = [Sl.im p.enc, .im (.lst ((combos (p.sizes.take (i + 1))).map encW)), a, b, c, d, e]
      rw [e2]
      exact ⟨_, _, _, _, _, rfl⟩
  · obtain ⟨a, b, c, d, e, rfl⟩ := hi
    (refine ws_seq ?_; refine ws_ret ?_; refine w_var 1 rfl ?_)
    rw [List.length_map, List.take_of_length_le (by simp [PrT.sizes])]
    exact pp
def wfInput : List D → (D → Prop) → Prop := fun ds P => ∃ (p : PrT), ds = [p.enc] ∧ p.Ok ∧ P (.lst ((combos p.isizes).map encW))
theorem ok_input (B : Bl mg) {f : Addr} {fd : FuncData} (F : Fun K "every_input" "every_input" sEveryInput f fd) : FnOk Pg w K mg base CX0 1 f fd ["program"] (spD K C wfInput) := by
  refine fn_ok F scEveryInput (fun ds P h => by obtain ⟨_, rfl, _⟩ := h; rfl) fun cdv A outer s H E hr ds P h => ?_
  obtain ⟨p, rfl, ok, pp⟩ := h
  (refine ws_seq ?_)
  refine ws_set 1 scEveryInput.nd (WN.w (wn_dictP rfl B.dict bt_dict ?_))
  (refine w_ixN (w_var 0 rfl ⟨_, rfl, ?_⟩); refine w_int ?_; refine Exists.intro _ (And.intro rfl ?_); refine Exists.intro _ (And.intro rfl ?_))
  refine ⟨p.names.map fun n => .inr n, p.boxes.map fun b => D.int b.2, ?_, by simp [PrT.names], ?_, ?_⟩
  · simp [PrT.names, List.zipWith_map, PrT.encB, kD]
  · exact (List.pairwise_map.mpr (ok.nd.imp fun h e => h (Sum.inr.inj e)))
  (refine ws_seq ?_)
  refine ws_set 2 scEveryInput.nd (WN.w (wn_lst ?_))
  (refine wa_cons ?_)
  refine WN.w (wn_lst ?_)
  (refine wa_nil ?_; refine And.intro (sz rfl) ?_; refine wa_nil ?_; refine And.intro (sz rfl) ?_; refine ws_seq ?_)
  refine ws_for (ts := [3]) PassesOwn.never rfl (wi_list ?_)
  (refine w_ixN (w_var 0 rfl ⟨_, rfl, ?_⟩); refine w_int ?_; refine Exists.intro _ (And.intro rfl ?_); refine Exists.intro _ (And.intro rfl ?_))
  refine ⟨_, .inl rfl, fun i ρ' => ∃ a c d e, ρ' = [.im p.enc, .im (.dk (p.names.map fun n => .inr n) (p.boxes.map fun b => D.int b.2)), .im (.lst ((combos (p.isizes.take i)).map encW)), a, c, d, e], ⟨_, _, _, _, rfl⟩, fun i d ρ' hd hi => ?_, fun ρ' hi => ?_⟩
  · obtain ⟨a, c, d, e, rfl⟩ := hi
    obtain ⟨nm, hb, rfl⟩ := get_map hd
    obtain ⟨z, hz, hz1⟩ := ok.sizeN (ok.ins nm (List.mem_of_getElem? hb))
    have hs : p.isizes[i]? = some z := by simp [PrT.isizes, hb, hz]
    have hbx : z ≤ 10 := hz1.2
    have hi2 : i < 2 := by have := (List.getElem?_eq_some_iff.mp hb).1; have := ok.fewI; omega
    have hc : (combos (p.isizes.take i)).length ≤ 10 := by
      have h1 := combos_len (ss := p.isizes.take i) (fun s hs => by
        obtain ⟨q, hq, rfl⟩ := List.mem_map.mp (List.mem_of_mem_take hs)
        obtain ⟨y, hy, hy1⟩ := ok.sizeN (ok.ins q hq)
        rw [hy]
        simpa using hy1.2)
      have h3 : (p.isizes.take i).length ≤ 1 := by rw [List.length_take]; omega
      exact Nat.le_trans h1 (Nat.le_trans (Nat.pow_le_pow_right (by decide) h3) (by decide))
    refine wg_name 3 scEveryInput.nd ?_
    (refine ws_seq ?_)
    refine ws_own 4 scEveryInput.nd (wn_lst ?_)
    (refine wa_nil ?_; refine And.intro (sz rfl) ?_; refine ws_seq ?_)
    refine ws_for (ts := [5]) PassesOwn.never rfl (wi_list ?_)
    (refine w_var 2 rfl ?_)
    refine ⟨_, .inl rfl, fun j ρ' => ∃ e f, ρ' = [.im p.enc, .im (.dk (p.names.map fun n => .inr n) (p.boxes.map fun b => D.int b.2)), .im (.lst ((combos (p.isizes.take i)).map encW)), .im (.str nm), .ow (.lst ((((combos (p.isizes.take i)).take j).flatMap fun row => (List.range z).map fun w : Nat => row ++ [(w : Int)]).map encW)), e, f], ⟨_, _, rfl⟩, fun j d ρ' hd hj => ?_, fun ρ' hj => ?_⟩
    · obtain ⟨e, f, rfl⟩ := hj
      obtain ⟨row, hrow, rfl⟩ := get_map hd
      have hrl := combos_row (List.mem_of_getElem? hrow)
      have hjl : j < 10 := by have := (List.getElem?_eq_some_iff.mp hrow).1; omega
      refine wg_name 5 scEveryInput.nd ?_
      (refine ws_seq ?_)
      refine ws_extend 4 rfl (WN.w (wn_lc (own := [("worth", 6)]) (ts := [6]) rfl scEveryInput.nd (blkOk_by (N := nEveryInput) (sc := defScope sEveryInput) (by decide +kernel)) (by decide) (wi_range1 B.range ?_)))
      refine w_dgetK (hu_of hr) ?_
      (refine w_var 1 rfl ?_)
      refine ⟨_, _, rfl, ?_⟩
      (refine w_var 3 rfl ?_)
      refine ⟨.inr nm, .int z, rfl, by rw [look_size (ok.ins nm (List.mem_of_getElem? hb)), hz], ?_⟩
      (refine Exists.intro _ (And.intro rfl ?_))
      refine ⟨by omega, by omega, fun k acc => acc = ((List.range k).map fun w : Nat => encW (row ++ [(w : Int)])), rfl, fun k d acc hd ha => ?_, fun acc ha => ?_⟩
      · obtain ⟨y, hy, rfl⟩ := get_map hd
        obtain ⟨hk, rfl⟩ := get_range hy
        subst ha
        intro _ _ _ _ _
        refine wg_name 6 scEveryInput.nd ?_
        intro _ _ _ _ _
        refine wts_nil (if_t rfl ?_)
        intro _ _ _ _ _
        refine WN.w (wn_cat ?_)
        (refine w_var 5 rfl ?_; refine Exists.intro _ (And.intro rfl ?_))
        refine WN.w (wn_lst ?_)
        (refine wa_cons ?_; refine w_var 6 rfl ?_; refine wa_nil ?_; refine And.intro (sz rfl) ?_; refine Exists.intro _ (And.intro rfl ?_))
        refine ⟨szl (by simp [hrl, List.length_take]; omega), szt (by simp; omega), ?_⟩
        show _ = List.map _ (List.range (y + 1))
        rw [List.range_succ, List.map_append]
        simp [encW]
      · subst ha
        refine ⟨_, rfl, szl ?_, ws_nil ⟨.im (encW row), f, ?_⟩⟩
        · have h1 := cstep_len ((combos (p.isizes.take i)).take j) z
          unfold cstep at h1
          have h3 : ((combos (p.isizes.take i)).take j).length ≤ 10 := by rw [List.length_take]; omega
          have h4 := Nat.mul_le_mul h3 hbx
          simp only [List.length_map, List.length_range, h1, Int.toNat_natCast]
          omega
        · rw [take_flatMap hrow]
          simp [encW]
    · obtain ⟨e, f, rfl⟩ := hj
      (refine ws_seq ?_)
      refine ws_frz 4 rfl (ws_set 2 scEveryInput.nd ?_)
      (refine w_var 4 rfl ?_; refine ws_nil ?_)
      have e2 : combos (p.isizes.take (i + 1)) = (((combos (p.isizes.take i)).take ((combos (p.isizes.take i)).map encW).length).flatMap fun row => (List.range z).map fun w : Nat => row ++ [(w : Int)]) := by
        rw [combos_take hs, List.length_map, List.take_length]
        rfl
      show ∃ a c d e, _ = [Sl.im p.enc, .im (.dk (p.names.map fun n => .inr n) (p.boxes.map fun b => D.int b.2)), .im (.lst ((combos (p.isizes.take (i + 1))).map encW)), a, c, d, e]
      rw [e2]
      exact ⟨_, _, _, _, rfl⟩
  · obtain ⟨a, c, d, e, rfl⟩ := hi
    (refine ws_seq ?_; refine ws_ret ?_; refine w_var 2 rfl ?_)
    rw [List.length_map, List.take_of_length_le (by simp [PrT.isizes])]
    exact pp
end
end TW
set_option Elab.async false
set_option linter.all false
set_option maxRecDepth 100000
set_option maxHeartbeats 4000000
namespace TW
open PySem L2 PyProof.Rows
def encMY (z : List Int × List Int) : D := .tup [encW z.1, encW z.2]
/-- the worths where an entry counts, of one of mine -/
def rowE (a b : PrT) (es : List EntT) (pl : Nat × Nat) (n : Nat) (m : List Int) (ys : List (List Int)) : List (List Int × List Int) := (ys.filter fun y => decide (cntM a b es pl m y = some n)).map fun y => (m, y)
def entW (a b : PrT) (es : List EntT) (pl : Nat × Nat) (n : Nat) : List (List Int × List Int) := (combos a.sizes).flatMap fun m => rowE a b es pl n m (combos b.sizes)
theorem rowE_len (a b : PrT) (es : List EntT) (pl : Nat × Nat) (n : Nat) (m : List Int) (ys : List (List Int)) : (rowE a b es pl n m ys).length ≤ ys.length := by
  unfold rowE
  rw [List.length_map]
  exact List.length_filter_le _ _
theorem rowE_take {a b : PrT} {es : List EntT} {pl : Nat × Nat} {n : Nat} {m y : List Int} {ys : List (List Int)} {j : Nat} (h : ys[j]? = some y) : rowE a b es pl n m (ys.take (j + 1)) = rowE a b es pl n m (ys.take j) ++ if cntM a b es pl m y = some n then [(m, y)] else [] := by
  unfold rowE
  rw [List.take_add_one, h, Option.toList_some, List.filter_append, List.map_append]
  by_cases e : cntM a b es pl m y = some n <;> simp [e]
theorem flat_len {α β : Type} {f : α → List β} {k : Nat} : ∀ {l : List α}, (∀ a ∈ l, (f a).length ≤ k) → (l.flatMap f).length ≤ l.length * k
  | [], _ => by simp
  | a :: l, h => by
    rw [List.flatMap_cons, List.length_append, List.length_cons, Nat.succ_mul]
    have h1 := h a (by simp)
    have h2 := flat_len (l := l) (f := f) (k := k) fun x hx => h x (by simp [hx])
    omega
theorem seq_encO {o : Option Nat} {n : Nat} : sOk (encO o) (.int n) = true ∧ sEq (encO o) (.int n) = decide (o = some n) := by
  cases o with
  | none => exact ⟨rfl, rfl⟩
  | some m =>
    refine ⟨rfl, ?_⟩
    show decide ((m : Int) = n) = _
    by_cases h : m = n
    · simp [h]
    · have : ¬ (m : Int) = n := by omega
      simp [h, this]
theorem szM {n : Nat} (h : n < 16000000) : n < sizeLine := by rw [sizeLine_eq]; omega
section
variable {Pg : Program} {w : World} {K : PySem.W.Frag} {mg : Str → Option Value} {base : Heap} {C : Addr}
def wfEntW : List D → (D → Prop) → Prop := fun ds P => ∃ (p q : PrT) (es : List EntT) (n : Nat) (e : EntT), ds = [p.enc, q.enc, encE es, .int n] ∧ p.Ok ∧ q.Ok ∧ p.pair q ∧ PapOk p q es ∧ es[n]? = some e ∧ P (.lst ((entW p q es e.pl n).map encMY))
theorem ok_entw (B : Bl mg) (T : Wk K C) (M : MkW Pg w K mg base C) (Gp : Df Pg w K mg base C 2 "need_pair" ["one", "other"] wfPair) (Ge : Df Pg w K mg base C 1 "every_worths" ["program"] wfEvery) (Gc : DfM Pg w K mg base C 15 "counting" ["self", "place"] wfCount) {f : Addr} {fd : FuncData} (F : Fun K "entry_worths" "entry_worths" sEntryWorths f fd) : FnOk Pg w K mg base CX0 16 f fd ["one", "other", "paper", "number"] (spD K C wfEntW) := by
  refine fn_ok F scEntryWorths (fun ds P h => by obtain ⟨_, _, _, _, _, rfl, _⟩ := h; rfl) fun cdv A outer s H E hr ds P h => ?_
  obtain ⟨p, q, es, n, e, rfl, ok, ok2, pq, po, he, pp⟩ := h
  have hn : n < es.length := (List.getElem?_eq_some_iff.mp he).1
  (refine ws_seq ?_)
  refine ws_expr (w_call Gp hr ?_)
  (refine wa_cons ?_; refine w_var 0 rfl ?_; refine wa_cons ?_; refine w_var 1 rfl ?_; refine wa_nil ?_)
  refine ⟨p, q, rfl, ok, ok2, pq, ?_⟩
  (refine ws_seq ?_)
  refine ws_set 4 scEntryWorths.nd (w_walker M hr ?_)
  (refine wa_cons ?_; refine w_var 0 rfl ?_; refine wa_cons ?_; refine w_var 1 rfl ?_; refine wa_cons ?_; refine w_var 2 rfl ?_; refine wa_nil ?_)
  refine ⟨p, q, es, rfl, po.1, ?_⟩
  (refine ws_seq ?_)
  refine ws_asg (ts := [5, 6]) ?_
  refine w_sliceT ?_
  (refine w_ixN (w_var 2 rfl ⟨_, rfl, ?_⟩); refine w_var 3 rfl ?_; refine Exists.intro _ (And.intro rfl ?_))
  refine ⟨e.enc, atI_nat (by rw [List.getElem?_map, he]; rfl), ?_⟩
  (refine Exists.intro _ (And.intro rfl ?_); refine w_int ?_; refine Exists.intro _ (And.intro rfl ?_))
  refine And.intro (by simp [HT.sIx]) ?_
  refine wg_tup rfl (wgs_cons (wg_name 5 scEntryWorths.nd (wgs_cons (wg_name 6 scEntryWorths.nd (wgs_nil ?_))))) rfl
  (refine ws_seq ?_)
  refine ws_own 7 scEntryWorths.nd (wn_lst ?_)
  (refine wa_nil ?_; refine And.intro (sz rfl) ?_; refine ws_seq ?_)
  refine ws_for (ts := [8]) PassesOwn.never rfl (wi_list (w_call Ge hr ?_))
  (refine wa_cons ?_; refine w_var 0 rfl ?_; refine wa_nil ?_; refine Exists.intro _ (And.intro rfl ?_))
  refine ⟨ok.few, fun b hb => (ok.pos b hb).2, _, .inl rfl, fun i ρ' => ∃ a b, ρ' = [.im p.enc, .im q.enc, .im (encE es), .im (.int n), .im (walkerD p q es), .im (.int e.p), .im (.int e.q), .ow (.lst ((((combos p.sizes).take i).flatMap fun m => rowE p q es e.pl n m (combos q.sizes)).map encMY)), a, b], ⟨_, _, rfl⟩, fun i d ρ' hd hi => ?_, fun ρ' hi => ?_⟩
  · obtain ⟨a, b, rfl⟩ := hi
    obtain ⟨m, hm, rfl⟩ := get_map hd
    have hmf := ok.combos_fits (List.mem_of_getElem? hm)
    have hil : i < 100 := Nat.lt_of_lt_of_le (List.getElem?_eq_some_iff.mp hm).1 ok.combos_len
    have hpre : (((combos p.sizes).take i).flatMap fun m => rowE p q es e.pl n m (combos q.sizes)).length ≤ 10000 := by
      refine Nat.le_trans (flat_len (k := 100) fun m _ => Nat.le_trans (rowE_len ..) ok2.combos_len) ?_
      rw [List.length_take]
      omega
    refine wg_name 8 scEntryWorths.nd ?_
    (refine ws_seq ?_)
    refine ws_for (ts := [9]) PassesOwn.never rfl (wi_list (w_call Ge hr ?_))
    (refine wa_cons ?_; refine w_var 1 rfl ?_; refine wa_nil ?_; refine Exists.intro _ (And.intro rfl ?_))
    refine ⟨ok2.few, fun b hb => (ok2.pos b hb).2, _, .inl rfl, fun j ρ' => ∃ b, ρ' = [.im p.enc, .im q.enc, .im (encE es), .im (.int n), .im (walkerD p q es), .im (.int e.p), .im (.int e.q), .ow (.lst ((((combos p.sizes).take i).flatMap fun m => rowE p q es e.pl n m (combos q.sizes)).map encMY ++ (rowE p q es e.pl n m ((combos q.sizes).take j)).map encMY)), .im (encW m), b], ⟨b, by simp [rowE]⟩, fun j d ρ' hd hj => ?_, fun ρ' hj => ?_⟩
    · obtain ⟨b, rfl⟩ := hj
      obtain ⟨y, hy, rfl⟩ := get_map hd
      have hyf := ok2.combos_fits (List.mem_of_getElem? hy)
      refine wg_name 9 scEntryWorths.nd ?_
      (refine ws_seq ?_; refine ws_if ?_)
      refine wt_eq (w_meth T.cl Gc hr ?_)
      (refine w_var 4 rfl ?_)
      refine ⟨_, _, rfl, by decide +kernel, ?_⟩
      (refine wa_cons ?_; refine w_tup ?_; refine wa_cons ?_; refine w_var 5 rfl ?_; refine wa_cons ?_; refine w_var 6 rfl ?_; refine wa_cons ?_; refine w_var 8 rfl ?_; refine wa_cons ?_; refine w_var 9 rfl ?_; refine wa_nil ?_; refine And.intro (sz rfl) ?_; refine wa_nil ?_)
      refine ⟨p, q, es, e.pl, m, y, rfl, ok, ok2, po, hmf.1, hyf.1, ?_⟩
      (refine w_var 3 rfl ?_)
      have hs := seq_encO (o := cntM p q es e.pl m y) (n := n)
      refine ⟨hs.1, ?_⟩
      rw [hs.2]
      have hjl : j < 100 := Nat.lt_of_lt_of_le (List.getElem?_eq_some_iff.mp hy).1 ok2.combos_len
      have hrl : (rowE p q es e.pl n m ((combos q.sizes).take j)).length ≤ 100 := by
        refine Nat.le_trans (rowE_len ..) ?_
        rw [List.length_take]
        omega
      have htk := rowE_take (a := p) (b := q) (es := es) (pl := e.pl) (n := n) (m := m) hy
      refine if_2 (fun hc => ?_) fun hc => ?_
      · rw [if_pos (of_decide_eq_true hc)] at htk
        (refine ws_seq ?_)
        refine ws_append 7 rfl ?_
        (refine w_tup ?_; refine wa_cons ?_)
        refine WN.w (wn_list B.list bt_list ?_)
        (refine w_var 8 rfl ?_; refine Exists.intro _ (And.intro rfl ?_); refine wa_cons ?_)
        refine WN.w (wn_list B.list bt_list ?_)
        (refine w_var 9 rfl ?_; refine Exists.intro _ (And.intro rfl ?_); refine wa_nil ?_; refine And.intro (sz rfl) ?_)
        refine ⟨szM (by rw [List.length_append, List.length_map, List.length_map]; omega), ws_nil (ws_nil ⟨.im (encW y), ?_⟩)⟩
        rw [htk]
        simp [encMY, encW]
      · rw [if_neg (of_decide_eq_false hc), List.append_nil] at htk
        refine ws_nil (ws_nil ⟨.im (encW y), ?_⟩)
        rw [htk]
        rfl
    · obtain ⟨b, rfl⟩ := hj
      refine ws_nil ⟨.im (encW m), b, ?_⟩
      rw [take_flatMap hm, List.map_append, List.length_map, List.take_length]
  · obtain ⟨a, b, rfl⟩ := hi
    refine wss_frz 7 rfl ?_
    (refine ws_seq ?_; refine ws_ret ?_; refine w_var 7 rfl ?_)
    rw [List.length_map, List.take_length]
    exact pp
end
end TW
set_option Elab.async false
set_option linter.all false
set_option maxRecDepth 100000
set_option maxHeartbeats 4000000
namespace TW
open PySem L2 PyProof.Rows
def plcs (a b : PrT) (out : List (Nat × Nat)) : List ((Nat × Nat) × List Int × List Int) := out.flatMap fun pl => (combos a.sizes).flatMap fun m => (combos b.sizes).map fun y => (pl, m, y)
def encP4 (z : (Nat × Nat) × List Int × List Int) : D := encPl z.1 z.2.1 z.2.2
theorem u16 {A : Around} {k : Nat} (hr : Room k A) : A.units + 16 < cLine := by have := hr.un; omega
theorem by_len30 {es : List EntT} (h : es.length ≤ 30) : (byP es).1.length ≤ 30 := by
  have I := byP_inv es
  have z := nat_nodup_len' I.nd (fun x hx => (I.mem x).mp hx)
  simp [places] at z
  omega
theorem by_len {es : List EntT} (h : es.length ≤ 30) : (byP es).1.length ≤ sizeLine := Nat.le_trans (by_len30 h) (by decide)
section
variable {Pg : Program} {w : World} {K : PySem.W.Frag} {mg : Str → Option Value} {base : Heap} {C : Addr}
def wfPlaces : List D → (D → Prop) → Prop := fun ds P => ∃ (p q : PrT) (es : List EntT), ds = [p.enc, q.enc, encE es] ∧ p.Ok ∧ q.Ok ∧ PapOk p q es ∧ ∀ out : List (Nat × Nat), out.Perm (byP es).1 → P (.lst ((plcs p q out).map encP4))
theorem ok_places (B : Bl mg) (Gb : Df Pg w K mg base C 1 "by_places" ["paper"] wfBy) (Ge : Df Pg w K mg base C 1 "every_worths" ["program"] wfEvery) {f : Addr} {fd : FuncData} (F : Fun K "every_place" "every_place" sEveryPlace f fd) : FnOk Pg w K mg base CX0 2 f fd ["one", "other", "paper"] (spD K C wfPlaces) := by
  refine fn_ok F scEveryPlace (fun ds P h => by obtain ⟨_, _, _, rfl, _⟩ := h; rfl) fun cdv A outer s H E hr ds P h => ?_
  obtain ⟨p, q, es, rfl, ok, ok2, po, pp⟩ := h
  (refine ws_seq ?_)
  refine ws_set 3 scEveryPlace.nd (w_call Ge hr ?_)
  (refine wa_cons ?_; refine w_var 0 rfl ?_; refine wa_nil ?_; refine Exists.intro _ (And.intro rfl ?_))
  refine ⟨ok.few, fun b hb => (ok.pos b hb).2, ?_⟩
  (refine ws_seq ?_)
  refine ws_set 4 scEveryPlace.nd (w_call Ge hr ?_)
  (refine wa_cons ?_; refine w_var 1 rfl ?_; refine wa_nil ?_; refine Exists.intro _ (And.intro rfl ?_))
  refine ⟨ok2.few, fun b hb => (ok2.pos b hb).2, ?_⟩
  (refine ws_seq ?_)
  refine ws_own 5 scEveryPlace.nd (wn_lst ?_)
  (refine wa_nil ?_; refine And.intro (sz rfl) ?_; refine ws_seq ?_)
  refine ws_for (ts := [6, 7]) PassesOwn.never rfl (wi_list (WN.w (wn_sortDT rfl (u16 hr) B.sorted bt_sorted (w_call Gb hr ?_))))
  (refine wa_cons ?_; refine w_var 2 rfl ?_; refine wa_nil ?_; refine Exists.intro _ (And.intro rfl ?_))
  refine ⟨po.1, (byP es).1, (byP es).2.map encN, rfl, by_len po.1, fun out hout => ?_⟩
  have hol : out.length ≤ 30 := by rw [hout.length_eq]; exact by_len30 po.1
  refine ⟨_, .inl rfl, fun i ρ' => ∃ a b c d, ρ' = [.im p.enc, .im q.enc, .im (encE es), .im (.lst ((combos p.sizes).map encW)), .im (.lst ((combos q.sizes).map encW)), .ow (.lst ((plcs p q (out.take i)).map encP4)), a, b, c, d], ⟨_, _, _, _, rfl⟩, fun i d ρ' hd hi => ?_, fun ρ' hi => ?_⟩
  · obtain ⟨a, b, c, d, rfl⟩ := hi
    obtain ⟨pl, hpl, rfl⟩ := get_map hd
    have hil : i < 30 := Nat.lt_of_lt_of_le (List.getElem?_eq_some_iff.mp hpl).1 hol
    refine wg_tup rfl (wgs_cons (wg_name 6 scEveryPlace.nd (wgs_cons (wg_name 7 scEveryPlace.nd (wgs_nil ?_))))) rfl
    (refine ws_seq ?_)
    refine ws_for (ts := [8]) PassesOwn.never rfl (wi_list ?_)
    (refine w_var 3 rfl ?_)
    refine ⟨_, .inl rfl, fun j ρ' => ∃ c d, ρ' = [.im p.enc, .im q.enc, .im (encE es), .im (.lst ((combos p.sizes).map encW)), .im (.lst ((combos q.sizes).map encW)), .ow (.lst ((plcs p q (out.take i) ++ ((combos p.sizes).take j).flatMap fun m => (combos q.sizes).map fun y => (pl, m, y)).map encP4)), .im (.int pl.1), .im (.int pl.2), c, d], ⟨c, d, by simp⟩, fun j d ρ' hd hj => ?_, fun ρ' hj => ?_⟩
    · obtain ⟨c, d, rfl⟩ := hj
      obtain ⟨m, hm, rfl⟩ := get_map hd
      have hjl : j < 100 := Nat.lt_of_lt_of_le (List.getElem?_eq_some_iff.mp hm).1 ok.combos_len
      refine wg_name 8 scEveryPlace.nd ?_
      (refine ws_seq ?_)
      refine ws_extend 5 rfl (WN.w (wn_lc (own := [("yours", 9)]) (ts := [9]) rfl scEveryPlace.nd (blkOk_by (N := nEveryPlace) (sc := defScope sEveryPlace) (by decide +kernel)) (by decide) (wi_list ?_)))
      (refine w_var 4 rfl ?_)
      refine ⟨_, .inl rfl, fun k acc => acc = ((combos q.sizes).take k).map fun y => encP4 (pl, m, y), rfl, fun k d acc hd ha => ?_, fun acc ha => ?_⟩
      · obtain ⟨y, hy, rfl⟩ := get_map hd
        have hkl : k < 100 := Nat.lt_of_lt_of_le (List.getElem?_eq_some_iff.mp hy).1 ok2.combos_len
        subst ha
        intro _ _ _ _ _
        refine wg_name 9 scEveryPlace.nd ?_
        intro _ _ _ _ _
        refine wts_nil (if_t rfl ?_)
        intro _ _ _ _ _
        (refine w_tup ?_; refine wa_cons ?_; refine w_var 6 rfl ?_; refine wa_cons ?_; refine w_var 7 rfl ?_; refine wa_cons ?_; refine w_var 8 rfl ?_; refine wa_cons ?_; refine w_var 9 rfl ?_; refine wa_nil ?_; refine And.intro (sz rfl) ?_)
        refine ⟨szt (by simp; omega), ?_⟩
        show _ = ((combos q.sizes).take (k + 1)).map fun y => encP4 (pl, m, y)
        rw [List.take_add_one, hy, List.map_append]
        rfl
      · subst ha
        have l1 : (plcs p q (out.take i) ++ ((combos p.sizes).take j).flatMap fun m => (combos q.sizes).map fun y => (pl, m, y)).length ≤ 310000 := by
          rw [List.length_append]
          have h1 : (plcs p q (out.take i)).length ≤ (out.take i).length * 10000 := flat_len fun x _ => by
            have := flat_len (l := combos p.sizes) (f := fun m => (combos q.sizes).map fun y => (x, m, y)) (k := 100) fun m _ => by rw [List.length_map]; exact ok2.combos_len
            have := ok.combos_len
            omega
          have h2 := flat_len (l := (combos p.sizes).take j) (f := fun m => (combos q.sizes).map fun y => (pl, m, y)) (k := 100) fun m _ => by rw [List.length_map]; exact ok2.combos_len
          rw [List.length_take] at h1 h2
          omega
        have l2 := ok2.combos_len
        refine ⟨_, rfl, ?_, ws_nil ⟨.im (encW m), d, ?_⟩⟩
        · simp only [List.length_map, List.length_take, List.length_append] at l1 ⊢
          rw [sizeLine_eq]
          omega
        · rw [take_flatMap hm, List.length_map, List.take_length, ← List.append_assoc, List.map_append (l₂ := (combos q.sizes).map _), List.map_map]
          rfl
    · obtain ⟨c, d, rfl⟩ := hj
      refine ws_nil ⟨.im (.int pl.1), .im (.int pl.2), c, d, ?_⟩
      rw [List.length_map, List.take_length]
      unfold plcs
      rw [take_flatMap hpl]
  · obtain ⟨a, b, c, d, rfl⟩ := hi
    refine wss_frz 5 rfl ?_
    (refine ws_seq ?_; refine ws_ret ?_; refine w_var 5 rfl ?_)
    rw [List.length_map, List.take_length]
    exact pp out hout
end
end TW
set_option Elab.async false
set_option linter.all false
set_option maxRecDepth 100000
set_option maxHeartbeats 4000000
namespace TW
open PySem L2 PyProof.Rows
/-- whether the entry that counts at a place, if any, is well -/
def wellAt (a b : PrT) (es : List EntT) (pl : Nat × Nat) (m y : List Int) : Bool := match cntM a b es pl m y with
  | none => true
  | some n => match es[n]? with
    | some e => wellM a b es e (pl.1, pl.2, m, y)
    | none => true
def showsM (a b : PrT) (es : List EntT) : Prop := (∀ i ∈ combos a.isizes, (cntM a b es (0, 0) (a.first i) (b.first i)).isSome = true) ∧ ∀ pl ∈ (byP es).1, ∀ m ∈ combos a.sizes, ∀ y ∈ combos b.sizes, wellAt a b es pl m y = true
theorem PrT.first_len (p : PrT) (i : List Int) : (p.first i).length = p.boxes.length := by simp [PrT.first, PrT.names]
theorem PrT.Ok.combosI {p : PrT} (ok : p.Ok) {r : List Int} (h : r ∈ combos p.isizes) : p.fitsI r := by
  obtain ⟨h1, h2⟩ := TW.combos_fits h
  refine ⟨by simpa [PrT.isizes] using h1, fun i w x hw hx => ?_⟩
  obtain ⟨z, hz, _⟩ := ok.sizeN (ok.ins x (List.mem_of_getElem? hx))
  have := h2 i w z hw (by simp [PrT.isizes, hx, hz])
  rw [hz]
  exact this
theorem pair_ins {p q : PrT} (h : p.pair q) : p.inputs = q.inputs ∧ p.isizes = q.isizes := by
  have h1 := congrArg (List.map Prod.fst) h
  have h2 := congrArg (List.map fun z : Str × Int => z.2.toNat) h
  simp only [List.map_map] at h1 h2
  refine ⟨?_, h2⟩
  have e : ∀ (f : Str → Int) (l : List Str), l.map (Prod.fst ∘ fun x => (x, f x)) = l := fun f l => by
    induction l with
    | nil => rfl
    | cons x l ih => rw [List.map_cons, ih]; rfl
  rw [e, e] at h1
  exact h1
theorem mem_plcs {a b : PrT} {out : List (Nat × Nat)} {z : (Nat × Nat) × List Int × List Int} : z ∈ plcs a b out ↔ z.1 ∈ out ∧ z.2.1 ∈ combos a.sizes ∧ z.2.2 ∈ combos b.sizes := by
  obtain ⟨pl, m, y⟩ := z
  unfold plcs
  simp only [List.mem_flatMap, List.mem_map]
  constructor
  · rintro ⟨x, hx, m', hm, y', hy, e⟩
    cases e
    exact ⟨hx, hm, hy⟩
  · rintro ⟨h1, h2, h3⟩
    exact ⟨pl, h1, m, h2, y, h3, rfl⟩
section
variable {Pg : Program} {w : World} {K : PySem.W.Frag} {mg : Str → Option Value} {base : Heap} {C : Addr}
def wfShows : List D → (D → Prop) → Prop := fun ds P => ∃ (p q : PrT) (es : List EntT), ds = [p.enc, q.enc, encE es] ∧ p.Ok ∧ q.Ok ∧ p.pair q ∧ PapOk p q es ∧ ∀ b : Bool, (b = true ↔ showsM p q es) → P (.bl b)
theorem ok_shows (B : Bl mg) (T : Wk K C) (M : MkW Pg w K mg base C) (Gp : Df Pg w K mg base C 2 "need_pair" ["one", "other"] wfPair) (Ge : Df Pg w K mg base C 15 "is_entry" ["one", "other", "entry"] wfEntry) (Gi : Df Pg w K mg base C 1 "every_input" ["program"] wfInput) (Gf : Df Pg w K mg base C 2 "first_worths" ["program", "inputs"] wfFirst)
    (Gs : Df Pg w K mg base C 2 "every_place" ["one", "other", "paper"] wfPlaces) (Gc : DfM Pg w K mg base C 15 "counting" ["self", "place"] wfCount) (Gw : DfM Pg w K mg base C 16 "is_well" ["self", "number", "place"] wfWell) {f : Addr} {fd : FuncData} (F : Fun K "paper_shows" "paper_shows" sPaperShows f fd) : FnOk Pg w K mg base CX0 17 f fd ["one", "other", "paper"] (spD K C wfShows) := by
  refine fn_ok F scPaperShows (fun ds P h => by obtain ⟨_, _, _, rfl, _⟩ := h; rfl) fun cdv A outer s H E hr ds P h => ?_
  obtain ⟨p, q, es, rfl, ok, ok2, pq, po, pp⟩ := h
  (refine ws_seq ?_)
  refine ws_expr (w_call Gp hr ?_)
  (refine wa_cons ?_; refine w_var 0 rfl ?_; refine wa_cons ?_; refine w_var 1 rfl ?_; refine wa_nil ?_)
  refine ⟨p, q, rfl, ok, ok2, pq, ?_⟩
  (refine ws_seq ?_; refine ws_if ?_; refine wt_not ?_)
  refine wt_val (w_all rfl B.all bt_all ?_)
  refine WN.w (wn_lc (own := [("entry", 3)]) (ts := [3]) rfl scPaperShows.nd (blkOk_by (N := nPaperShows) (sc := defScope sPaperShows) (by decide +kernel)) (by decide) (wi_list ?_))
  (refine w_var 2 rfl ?_)
  refine ⟨_, .inl rfl, fun i acc => acc = List.replicate i (.bl true), rfl, fun i d acc hd ha => ?_, fun acc ha => ?_⟩
  · obtain ⟨e, he, rfl⟩ := get_map hd
    have hil : i < 30 := Nat.lt_of_lt_of_le (List.getElem?_eq_some_iff.mp he).1 po.1
    subst ha
    intro _ _ _ _ _
    refine wg_name 3 scPaperShows.nd ?_
    intro _ _ _ _ _
    refine wts_nil (if_t rfl ?_)
    intro _ _ _ _ _
    refine w_call Ge hr ?_
    (refine wa_cons ?_; refine w_var 0 rfl ?_; refine wa_cons ?_; refine w_var 1 rfl ?_; refine wa_cons ?_; refine w_var 3 rfl ?_; refine wa_nil ?_)
    refine ⟨p, q, e, rfl, ok, ok2, po.2 e (List.mem_of_getElem? he), szt (by simp; omega), ?_⟩
    show _ = List.replicate (i + 1) (D.bl true)
    rw [List.replicate_succ']
  subst ha
  refine ⟨List.replicate es.length true, by simp [encE], ?_⟩
  (refine Exists.intro _ (And.intro rfl ?_))
  refine if_f (by simp) ?_
  (refine ws_nil ?_; refine ws_seq ?_)
  refine ws_set 4 scPaperShows.nd (w_walker M hr ?_)
  (refine wa_cons ?_; refine w_var 0 rfl ?_; refine wa_cons ?_; refine w_var 1 rfl ?_; refine wa_cons ?_; refine w_var 2 rfl ?_; refine wa_nil ?_)
  refine ⟨p, q, es, rfl, po.1, ?_⟩
  (refine ws_seq ?_)
  refine ws_for (ts := [5]) PassesOwn.never rfl (wi_list (w_call Gi hr ?_))
  (refine wa_cons ?_; refine w_var 0 rfl ?_; refine wa_nil ?_; refine Exists.intro _ (And.intro rfl ?_))
  refine ⟨ok, _, .inl rfl, fun i ρ' => (∃ a b c, ρ' = [.im p.enc, .im q.enc, .im (encE es), .no, .im (walkerD p q es), a, b, c]) ∧ ∀ ins ∈ (combos p.isizes).take i, (cntM p q es (0, 0) (p.first ins) (q.first ins)).isSome = true, ⟨⟨_, _, _, rfl⟩, by simp⟩, fun i d ρ' hd hi => ?_, fun ρ' hi => ?_⟩
  · obtain ⟨⟨a, b, c, rfl⟩, hall⟩ := hi
    obtain ⟨ins, hin, rfl⟩ := get_map hd
    have hf := ok.combosI (List.mem_of_getElem? hin)
    have hf2 : q.fitsI ins := ok2.combosI (by rw [← (pair_ins pq).2]; exact List.mem_of_getElem? hin)
    refine wg_name 5 scPaperShows.nd ?_
    (refine ws_seq ?_; refine ws_if ?_; refine wt_isN ?_)
    refine w_meth T.cl Gc hr ?_
    (refine w_var 4 rfl ?_)
    refine ⟨_, _, rfl, by decide +kernel, ?_⟩
    (refine wa_cons ?_; refine w_tup ?_; refine wa_cons ?_; refine w_int ?_; refine wa_cons ?_; refine w_int ?_; refine wa_cons ?_)
    refine w_call Gf hr ?_
    (refine wa_cons ?_; refine w_var 0 rfl ?_; refine wa_cons ?_; refine w_var 5 rfl ?_; refine wa_nil ?_)
    refine ⟨p, ins, rfl, ok, hf, ?_⟩
    (refine wa_cons ?_)
    refine w_call Gf hr ?_
    (refine wa_cons ?_; refine w_var 1 rfl ?_; refine wa_cons ?_; refine w_var 5 rfl ?_; refine wa_nil ?_)
    refine ⟨q, ins, rfl, ok2, hf2, ?_⟩
    (refine wa_nil ?_; refine And.intro (sz rfl) ?_; refine wa_nil ?_)
    refine ⟨p, q, es, (0, 0), p.first ins, q.first ins, rfl, ok, ok2, po, p.first_len ins, q.first_len ins, ?_⟩
    cases hc : cntM p q es (0, 0) (p.first ins) (q.first ins) with
    | none =>
      refine if_t rfl ?_
      (refine ws_seq ?_; refine ws_ret ?_; refine w_bl ?_)
      refine pp false ⟨fun h => absurd h Bool.false_ne_true, fun h => ?_⟩
      have := h.1 ins (List.mem_of_getElem? hin)
      rw [hc] at this
      exact this
    | some n =>
      refine if_f rfl ?_
      (refine ws_nil ?_; refine ws_nil ?_)
      refine ⟨⟨_, _, _, rfl⟩, fun x hx => ?_⟩
      rw [List.take_add_one, hin] at hx
      rcases List.mem_append.mp hx with hx | hx
      · exact hall x hx
      · simp at hx
        subst hx
        rw [hc]
        rfl
  obtain ⟨⟨a, b, c, rfl⟩, hall⟩ := hi
  rw [List.length_map, List.take_length] at hall
  (refine ws_seq ?_)
  refine ws_for (ts := [6]) PassesOwn.never rfl (wi_list (w_call Gs hr ?_))
  (refine wa_cons ?_; refine w_var 0 rfl ?_; refine wa_cons ?_; refine w_var 1 rfl ?_; refine wa_cons ?_; refine w_var 2 rfl ?_; refine wa_nil ?_)
  refine ⟨p, q, es, rfl, ok, ok2, po, fun out hout => ?_⟩
  refine ⟨_, .inl rfl, fun i ρ' => (∃ a b c, ρ' = [.im p.enc, .im q.enc, .im (encE es), .no, .im (walkerD p q es), a, b, c]) ∧ ∀ z ∈ (plcs p q out).take i, wellAt p q es z.1 z.2.1 z.2.2 = true, ⟨⟨_, _, _, rfl⟩, by simp⟩, fun i d ρ' hd hi => ?_, fun ρ' hi => ?_⟩
  · obtain ⟨⟨a, b, c, rfl⟩, hall2⟩ := hi
    obtain ⟨⟨pl, m, y⟩, hz, rfl⟩ := get_map hd
    obtain ⟨hpl, hm, hy⟩ := mem_plcs.mp (List.mem_of_getElem? hz)
    have hpl2 : pl ∈ (byP es).1 := hout.mem_iff.mp hpl
    have hmf := ok.combos_fits hm
    have hyf := ok2.combos_fits hy
    refine wg_name 6 scPaperShows.nd ?_
    (refine ws_seq ?_)
    refine ws_set 7 scPaperShows.nd (w_meth T.cl Gc hr ?_)
    (refine w_var 4 rfl ?_)
    refine ⟨_, _, rfl, by decide +kernel, ?_⟩
    (refine wa_cons ?_; refine w_var 6 rfl ?_; refine wa_nil ?_)
    refine ⟨p, q, es, pl, m, y, rfl, ok, ok2, po, hmf.1, hyf.1, ?_⟩
    (refine ws_seq ?_; refine ws_if ?_; refine WW.wt (ww_and ?_); refine wt_notN ?_; refine w_var 7 rfl ?_)
    have hw0 : wellAt p q es pl m y = match cntM p q es pl m y with
      | none => true
      | some n => match es[n]? with
        | some e => wellM p q es e (pl.1, pl.2, m, y)
        | none => true := rfl
    cases hc : cntM p q es pl m y with
    | none =>
      rw [hc] at hw0
      refine if_f rfl ?_
      (refine ws_nil ?_; refine ws_nil ?_)
      refine ⟨⟨_, _, _, rfl⟩, fun x hx => ?_⟩
      rw [List.take_add_one, hz] at hx
      rcases List.mem_append.mp hx with hx | hx
      · exact hall2 x hx
      · simp at hx
        subst hx
        exact hw0
    | some n =>
      obtain ⟨e, he, hepl, _⟩ := cnt_mem hc
      rw [hc] at hw0
      simp only [he] at hw0
      have eo := po.2 e (List.mem_of_getElem? he)
      refine if_t rfl ?_
      (refine ww_and1 ?_; refine wt_not ?_)
      refine wt_val (w_meth T.cl Gw hr ?_)
      (refine w_var 4 rfl ?_)
      refine ⟨_, _, rfl, by decide +kernel, ?_⟩
      (refine wa_cons ?_; refine w_var 7 rfl ?_; refine wa_cons ?_; refine w_var 6 rfl ?_; refine wa_nil ?_)
      refine ⟨p, q, es, n, e, pl.1, pl.2, m, y, rfl, ok, ok2, po, he, by rw [← hepl]; exact eo.p, by rw [← hepl]; exact eo.q, hmf, hyf, ?_⟩
      (refine Exists.intro _ (And.intro rfl ?_))
      refine if_2 (fun ht => ?_) fun ht => ?_
      · (refine ws_seq ?_; refine ws_ret ?_; refine w_bl ?_)
        refine pp false ⟨fun h => absurd h Bool.false_ne_true, fun h => ?_⟩
        have := h.2 pl hpl2 m hm y hy
        rw [hw0] at this
        rw [this] at ht
        exact ht
      · (refine ws_nil ?_; refine ws_nil ?_)
        refine ⟨⟨_, _, _, rfl⟩, fun x hx => ?_⟩
        rw [List.take_add_one, hz] at hx
        rcases List.mem_append.mp hx with hx | hx
        · exact hall2 x hx
        · simp at hx
          subst hx
          rw [hw0]
          simpa using ht
  · obtain ⟨⟨a, b, c, rfl⟩, hall2⟩ := hi
    rw [List.length_map, List.take_length] at hall2
    (refine ws_seq ?_; refine ws_ret ?_; refine w_bl ?_)
    refine pp true ⟨fun _ => ⟨hall, fun pl hpl m hm y hy => hall2 (pl, m, y) (mem_plcs.mpr ⟨hout.mem_iff.mpr hpl, hm, hy⟩)⟩, fun _ => rfl⟩
end
end TW
set_option Elab.async false
set_option linter.all false
set_option maxRecDepth 100000
set_option maxHeartbeats 4000000
namespace TW
open PySem L2 PyProof.Rows
section
variable {Pg : Program} {w : World} {K : PySem.W.Frag} {mg : Str → Option Value} {base : Heap} {C : Addr}
def wfCell : List D → (D → Prop) → Prop := fun ds P => ∃ (ns : List Int) (k : Nat), ds = [.ro (ns.map D.int), .int k] ∧ ∀ i : Int, P (.int i)
theorem ok_cell (B : Bl mg) {f : Addr} {fd : FuncData} (F : Fun K "_law_cell_at" "_law_cell_at" sLawCellAt f fd) : FnOk Pg w K mg base CX0 1 f fd ["script", "k"] (spD K C wfCell) := by
  refine fn_ok F scLawCellAt (fun ds P h => by obtain ⟨_, _, rfl, _⟩ := h; rfl) fun cdv A outer s H E hr ds P h => ?_
  obtain ⟨ns, k, rfl, pp⟩ := h
  (refine ws_seq ?_; refine ws_if ?_; refine wt_lt ?_; refine w_var 1 rfl ?_; refine Exists.intro _ (And.intro rfl ?_))
  refine w_len B.len ?_
  (refine w_var 0 rfl ?_; refine Exists.intro _ (And.intro rfl ?_); refine Exists.intro _ (And.intro rfl ?_))
  refine if_2 (fun h => ?_) fun h => ?_
  · (refine ws_seq ?_; refine ws_ret ?_; refine w_ixN (w_var 0 rfl ⟨_, rfl, ?_⟩); refine w_var 1 rfl ?_; refine Exists.intro _ (And.intro rfl ?_))
    have h' : k < ns.length := by simpa using h
    refine ⟨.int ns[k], atI_nat (by rw [List.getElem?_map, List.getElem?_eq_getElem h']; rfl), ?_⟩
    exact pp _
  · (refine ws_nil ?_; refine ws_seq ?_; refine ws_ret ?_; refine w_int ?_)
    exact pp _
def NumsIn (row : List Int) (many : Nat) (base : Int) : Prop := row.length = many ∧ ∀ x ∈ row, 0 ≤ x ∧ x < base
def wfNums : List D → (D → Prop) → Prop := fun ds P => ∃ (cell : Int) (many base : Nat), ds = [.int cell, .int many, .int base] ∧ many ≤ 100 ∧ 0 < base ∧ base < 1000000 ∧ ∀ row : List Int, NumsIn row many base → P (encW row)
theorem ok_nums (B : Bl mg) {f : Addr} {fd : FuncData} (F : Fun K "_law_numbers" "_law_numbers" sLawNumbers f fd) : FnOk Pg w K mg base CX0 1 f fd ["cell", "many", "base"] (spD K C wfNums) := by
  refine fn_ok F scLawNumbers (fun ds P h => by obtain ⟨_, _, _, rfl, _⟩ := h; rfl) fun cdv A outer s H E hr ds P h => ?_
  obtain ⟨cell, many, ba, rfl, hm, hb0, hb1, pp⟩ := h
  (refine ws_seq ?_)
  refine ws_set 0 scLawNumbers.nd ?_
  refine w_mod (w_var 0 rfl ⟨_, rfl, ?_⟩)
  refine w_mulW ?_
  (refine w_pow ?_; refine w_int ?_; refine Exists.intro _ (And.intro rfl ?_); refine w_int ?_; refine Exists.intro _ (And.intro rfl ?_); refine And.intro (And.intro (by decide +kernel) (by decide +kernel)) ?_; refine Exists.intro _ (And.intro rfl ?_); refine w_pow ?_; refine w_int ?_; refine Exists.intro _ (And.intro rfl ?_); refine w_int ?_; refine Exists.intro _ (And.intro rfl ?_); refine And.intro (And.intro (by decide +kernel) (by decide +kernel)) ?_; refine Exists.intro _ (And.intro rfl ?_))
  refine And.intro (show _ < _ by decide +kernel) ?_
  (refine Exists.intro _ (And.intro rfl ?_); refine And.intro (by decide +kernel) ?_; refine ws_seq ?_)
  generalize cell % _ = cell
  refine ws_own 3 scLawNumbers.nd (wn_lst ?_)
  (refine wa_nil ?_; refine And.intro (sz rfl) ?_; refine ws_seq ?_)
  refine ws_set 4 scLawNumbers.nd ?_
  (refine w_sub ?_; refine w_var 0 rfl ?_; refine Exists.intro _ (And.intro rfl ?_); refine w_pow ?_; refine w_int ?_; refine Exists.intro _ (And.intro rfl ?_); refine w_int ?_; refine Exists.intro _ (And.intro rfl ?_); refine And.intro (And.intro (by decide +kernel) (by decide +kernel)) ?_; refine Exists.intro _ (And.intro rfl ?_); refine ws_seq ?_)
  generalize cell - _ = rest
  refine ws_for (ts := [5]) PassesOwn.never rfl (wi_range1 B.range ?_)
  (refine w_var 1 rfl ?_; refine Exists.intro _ (And.intro rfl ?_))
  refine ⟨by omega, by omega, fun i ρ' => ∃ (row : List Int) (rest : Int) (a b : Sl), ρ' = [.im (.int cell), .im (.int many), .im (.int ba), .ow (encW row), .im (.int rest), a, b] ∧ row.length = i ∧ ∀ x ∈ row, 0 ≤ x ∧ x < ba, ⟨[], rest, _, _, rfl, rfl, by simp⟩, fun i d ρ' hd hi => ?_, fun ρ' hi => ?_⟩
  · obtain ⟨row, rest, a, b, rfl, hrl, hrow⟩ := hi
    obtain ⟨z, hz, rfl⟩ := get_map hd
    obtain ⟨hk, rfl⟩ := get_range hz
    refine wg_name 5 scLawNumbers.nd ?_
    (refine ws_seq ?_)
    refine ws_set 6 scLawNumbers.nd ?_
    (refine w_mod ?_; refine w_mul ?_; refine w_add ?_; refine w_add ?_; refine w_var 0 rfl ?_; refine Exists.intro _ (And.intro rfl ?_); refine w_mul ?_; refine w_int ?_; refine Exists.intro _ (And.intro rfl ?_); refine w_var 5 rfl ?_; refine Exists.intro _ (And.intro rfl ?_); refine And.intro (Or.inl (And.intro (by decide +kernel) (by decide +kernel))) ?_; refine Exists.intro _ (And.intro rfl ?_); refine Exists.intro _ (And.intro rfl ?_); refine w_int ?_; refine Exists.intro _ (And.intro rfl ?_); refine Exists.intro _ (And.intro rfl ?_); refine w_int ?_; refine Exists.intro _ (And.intro rfl ?_); refine And.intro (Or.inr (And.intro (by decide +kernel) (by decide +kernel))) ?_; refine Exists.intro _ (And.intro rfl ?_); refine w_int ?_; refine Exists.intro _ (And.intro rfl ?_); refine And.intro (by decide +kernel) ?_; refine ws_seq ?_)
    have s1 := Int.emod_nonneg ((cell + 977 * (z : Int) + 1) * 48271) (show (2147483647 : Int) ≠ 0 by decide)
    have s2 := Int.emod_lt_of_pos ((cell + 977 * (z : Int) + 1) * 48271) (show (0 : Int) < 2147483647 by decide)
    generalize (cell + 977 * (z : Int) + 1) * 48271 % 2147483647 = st at s1 s2
    refine ws_set 6 scLawNumbers.nd ?_
    (refine w_mod ?_)
    refine w_mul ?_
    (refine w_var 6 rfl ?_; refine Exists.intro _ (And.intro rfl ?_); refine w_var 6 rfl ?_; refine Exists.intro _ (And.intro rfl ?_))
    refine And.intro (.inl ⟨by omega, by omega⟩) ?_
    (refine Exists.intro _ (And.intro rfl ?_); refine w_int ?_; refine Exists.intro _ (And.intro rfl ?_); refine And.intro (by decide +kernel) ?_; refine ws_seq ?_)
    generalize st * st % 2147483629 = st
    refine ws_set 6 scLawNumbers.nd ?_
    (refine w_fdiv ?_; refine w_mod ?_; refine w_mul ?_; refine w_add ?_; refine w_var 6 rfl ?_; refine Exists.intro _ (And.intro rfl ?_); refine w_mul ?_; refine w_int ?_; refine Exists.intro _ (And.intro rfl ?_); refine w_add ?_; refine w_var 5 rfl ?_; refine Exists.intro _ (And.intro rfl ?_); refine w_int ?_; refine Exists.intro _ (And.intro rfl ?_); refine Exists.intro _ (And.intro rfl ?_); refine And.intro (Or.inl (And.intro (by decide +kernel) (by decide +kernel))) ?_; refine Exists.intro _ (And.intro rfl ?_); refine Exists.intro _ (And.intro rfl ?_); refine w_int ?_; refine Exists.intro _ (And.intro rfl ?_); refine And.intro (Or.inr (And.intro (by decide +kernel) (by decide +kernel))) ?_; refine Exists.intro _ (And.intro rfl ?_); refine w_int ?_; refine Exists.intro _ (And.intro rfl ?_); refine And.intro (by decide +kernel) ?_; refine Exists.intro _ (And.intro rfl ?_); refine w_int ?_; refine Exists.intro _ (And.intro rfl ?_); refine And.intro (And.intro (by decide +kernel) (by decide +kernel)) ?_; refine ws_seq ?_; refine ws_if ?_; refine wt_ge ?_; refine w_var 0 rfl ?_; refine Exists.intro _ (And.intro rfl ?_); refine w_pow ?_; refine w_int ?_; refine Exists.intro _ (And.intro rfl ?_); refine w_int ?_; refine Exists.intro _ (And.intro rfl ?_); refine And.intro (And.intro (by decide +kernel) (by decide +kernel)) ?_; refine Exists.intro _ (And.intro rfl ?_))
    generalize (st + 40692 * ((z : Int) + 3)) * 69621 % 2147483563 / 8 = st
    have md : ∀ u : Int, 0 ≤ u % (ba : Int) ∧ u % (ba : Int) < ba := fun u => ⟨Int.emod_nonneg u (by omega), Int.emod_lt_of_pos u (by omega)⟩
    have more : ∀ u : Int, (row ++ [u % (ba : Int)]).length = z + 1 ∧ ∀ x ∈ row ++ [u % (ba : Int)], 0 ≤ x ∧ x < ba := fun u => ⟨by simp [hrl], fun x hx => by
      rcases List.mem_append.mp hx with hx | hx
      · exact hrow x hx
      · simp at hx
        subst hx
        exact md u⟩
    have enc1 : ∀ u : Int, D.lst (row.map D.int ++ [.int u]) = encW (row ++ [u]) := fun u => by simp [encW]
    refine if_2 (fun hc => ?_) fun hc => ?_
    · (refine ws_seq ?_)
      refine ws_set 6 scLawNumbers.nd ?_
      (refine w_var 4 rfl ?_; refine ws_seq ?_)
      refine ws_set 4 scLawNumbers.nd ?_
      (refine w_fdiv ?_; refine w_var 4 rfl ?_; refine Exists.intro _ (And.intro rfl ?_); refine w_var 2 rfl ?_; refine Exists.intro _ (And.intro rfl ?_))
      refine And.intro ⟨by omega, by omega⟩ ?_
      (refine ws_nil ?_; refine ws_seq ?_)
      refine ws_append 3 rfl ?_
      (refine w_mod ?_; refine w_var 6 rfl ?_; refine Exists.intro _ (And.intro rfl ?_); refine w_var 2 rfl ?_; refine Exists.intro _ (And.intro rfl ?_))
      refine And.intro (by omega) ?_
      refine ⟨szt (by simp; omega), ws_nil ⟨row ++ [rest % (ba : Int)], rest / (ba : Int), .im (.int (z : Int)), .im (.int rest), ?_, (more rest).1, (more rest).2⟩⟩
      rw [enc1]
      rfl
    · (refine ws_nil ?_; refine ws_seq ?_)
      refine ws_append 3 rfl ?_
      (refine w_mod ?_; refine w_var 6 rfl ?_; refine Exists.intro _ (And.intro rfl ?_); refine w_var 2 rfl ?_; refine Exists.intro _ (And.intro rfl ?_))
      refine And.intro (by omega) ?_
      refine ⟨szt (by simp; omega), ws_nil ⟨row ++ [st % (ba : Int)], rest, .im (.int (z : Int)), .im (.int st), ?_, (more st).1, (more st).2⟩⟩
      rw [enc1]
      rfl
  · obtain ⟨row, rest, a, b, rfl, hrl, hrow⟩ := hi
    refine wss_frz 3 rfl ?_
    (refine ws_seq ?_; refine ws_ret ?_; refine w_var 3 rfl ?_)
    exact pp row ⟨by simpa using hrl, hrow⟩
end
end TW
set_option Elab.async false
set_option linter.all false
set_option maxRecDepth 100000
set_option maxHeartbeats 4000000
namespace TW
open PySem L2 PyProof.Rows
theorem atI_in {ds : List D} {i : Int} (h0 : 0 ≤ i) (h1 : i < ds.length) : ∃ d, atI ds i = some d ∧ d ∈ ds := by
  obtain ⟨n, rfl⟩ := Int.eq_ofNat_of_zero_le h0
  have h : n < ds.length := by omega
  exact ⟨ds[n], atI_nat (List.getElem?_eq_getElem h), List.getElem_mem h⟩
theorem atI_md {ds : List D} {x : Int} (h : ds ≠ []) : ∃ d, atI ds (x % (ds.length : Int)) = some d ∧ d ∈ ds := by
  have h0 : 0 < ds.length := List.length_pos_iff.mpr h
  exact atI_in (Int.emod_nonneg _ (by omega)) (Int.emod_lt_of_pos _ (by omega))
section
variable {Pg : Program} {w : World} {K : PySem.W.Frag} {mg : Str → Option Value} {base : Heap} {C : Addr}
def wfSum : List D → (D → Prop) → Prop := fun ds P => ∃ (r0 r1 r2 : Int) (rs : List Int) (ns : List Str), ds = [encW (r0 :: r1 :: r2 :: rs), .lst (ns.map D.str)] ∧ ns.length ≤ 2 ∧ ∀ s : SumT, s.dep ≤ 2 → s.all (isB ns) → P s.enc
theorem ok_sum (B : Bl mg) {f : Addr} {fd : FuncData} (F : Fun K "_law_sum" "_law_sum" sLawSum f fd) : FnOk Pg w K mg base CX0 1 f fd ["row", "names"] (spD K C wfSum) := by
  refine fn_ok F scLawSum (fun ds P h => by obtain ⟨_, _, _, _, _, rfl, _⟩ := h; rfl) fun cdv A outer s H E hr ds P h => ?_
  obtain ⟨r0, r1, r2, rs, ns, rfl, hn, pp⟩ := h
  (refine ws_seq ?_)
  refine ws_set 2 scLawSum.nd ?_
  (refine w_ixD ?_)
  refine WN.w (wn_lst ?_)
  (refine wa_cons ?_; refine w_mod ?_; refine w_ixN (w_var 0 rfl ⟨_, rfl, ?_⟩); refine w_int ?_; refine Exists.intro _ (And.intro rfl ?_); refine Exists.intro _ (And.intro (atI_nat (j := 1) rfl) ?_); refine Exists.intro _ (And.intro rfl ?_); refine w_int ?_; refine Exists.intro _ (And.intro rfl ?_); refine And.intro (by decide +kernel) ?_; refine wa_cons ?_; refine w_mod ?_; refine w_ixN (w_var 0 rfl ⟨_, rfl, ?_⟩); refine w_int ?_; refine Exists.intro _ (And.intro rfl ?_); refine Exists.intro _ (And.intro (atI_nat (j := 1) rfl) ?_); refine Exists.intro _ (And.intro rfl ?_); refine w_int ?_; refine Exists.intro _ (And.intro rfl ?_); refine And.intro (by decide +kernel) ?_; refine wa_cons ?_; refine w_add ?_; refine w_pow ?_; refine w_int ?_; refine Exists.intro _ (And.intro rfl ?_); refine w_int ?_; refine Exists.intro _ (And.intro rfl ?_); refine And.intro (And.intro (by decide +kernel) (by decide +kernel)) ?_; refine Exists.intro _ (And.intro rfl ?_); refine w_ixN (w_var 0 rfl ⟨_, rfl, ?_⟩); refine w_int ?_; refine Exists.intro _ (And.intro rfl ?_); refine Exists.intro _ (And.intro (atI_nat (j := 1) rfl) ?_); refine Exists.intro _ (And.intro rfl ?_); refine wa_nil ?_; refine And.intro (sz rfl) ?_; refine Exists.intro _ (And.intro rfl ?_); refine w_fdiv ?_; refine w_mod ?_; refine w_ixN (w_var 0 rfl ⟨_, rfl, ?_⟩); refine w_int ?_; refine Exists.intro _ (And.intro rfl ?_); refine Exists.intro _ (And.intro (atI_nat (j := 2) rfl) ?_); refine Exists.intro _ (And.intro rfl ?_); refine w_int ?_; refine Exists.intro _ (And.intro rfl ?_); refine And.intro (by decide +kernel) ?_; refine Exists.intro _ (And.intro rfl ?_); refine w_int ?_; refine Exists.intro _ (And.intro rfl ?_); refine And.intro (And.intro (by decide +kernel) (by decide +kernel)) ?_; refine Exists.intro _ (And.intro rfl ?_))
  obtain ⟨d, hd, hm⟩ := atI_in (ds := [.int (r1 % 3), .int (r1 % 7), .int (10 ^ Int.toNat 20 + r1)]) (i := r2 % 12 / 5) (by omega) (by simp; omega)
  obtain ⟨k, rfl⟩ : ∃ k, d = .int k := by simp at hm; rcases hm with rfl | rfl | rfl <;> exact ⟨_, rfl⟩
  refine ⟨_, hd, ?_⟩
  clear hd hm
  (refine ws_seq ?_)
  refine ws_set 3 scLawSum.nd (WN.w (wn_cat (WN.w (wn_lst ?_))))
  (refine wa_cons ?_; refine w_tup ?_; refine wa_cons ?_; refine w_str ?_; refine wa_cons ?_; refine w_var 2 rfl ?_; refine wa_nil ?_; refine And.intro (sz rfl) ?_; refine wa_nil ?_; refine And.intro (sz rfl) ?_; refine Exists.intro _ (And.intro rfl ?_))
  refine WN.w (wn_lc (own := [("name", 4)]) (ts := [4]) rfl scLawSum.nd (blkOk_by (N := nLawSum) (sc := defScope sLawSum) (by decide +kernel)) (by decide) (wi_list ?_))
  (refine w_var 1 rfl ?_)
  refine ⟨_, .inl rfl, fun i acc => acc = (ns.take i).map fun n => (SumT.leaf "box" n).enc, rfl, fun i d acc hd ha => ?_, fun acc ha => ?_⟩
  · obtain ⟨x, hx, rfl⟩ := get_map hd
    have hil : i < ns.length := (List.getElem?_eq_some_iff.mp hx).1
    subst ha
    intro _ _ _ _ _
    refine wg_name 4 scLawSum.nd ?_
    intro _ _ _ _ _
    refine wts_nil (if_t rfl ?_)
    intro _ _ _ _ _
    (refine w_tup ?_; refine wa_cons ?_; refine w_str ?_; refine wa_cons ?_; refine w_var 4 rfl ?_; refine wa_nil ?_; refine And.intro (sz rfl) ?_)
    refine ⟨szt (by simp; omega), ?_⟩
    show _ = (ns.take (i + 1)).map fun n => (SumT.leaf "box" n).enc
    rw [List.take_add_one, hx, List.map_append]
    rfl
  subst ha
  rw [List.length_map, List.take_length]
  refine ⟨_, rfl, szl (by simp; omega), ?_⟩
  have hsome : [D.tup [.str "number", .int k]] ++ ns.map (fun n => (SumT.leaf "box" n).enc) = (SumT.num k :: ns.map (SumT.leaf "box")).map SumT.enc := by simp [SumT.enc]
  rw [hsome]
  have hall : ∀ s ∈ SumT.num k :: ns.map (SumT.leaf "box"), s.dep = 0 ∧ s.all (isB ns) := fun s hs => by
    rcases List.mem_cons.mp hs with rfl | hs
    · exact ⟨rfl, trivial⟩
    · obtain ⟨x, hx, rfl⟩ := List.mem_map.mp hs
      exact ⟨rfl, rfl, hx⟩
  have hne : (SumT.num k :: ns.map (SumT.leaf "box")) ≠ [] := by simp
  generalize SumT.num k :: ns.map (SumT.leaf "box") = ss at hall hne
  clear hsome
  have pick : ∀ x : Int, ∃ s ∈ ss, atI (ss.map SumT.enc) (x % ((ss.map SumT.enc).length : Int)) = some s.enc := fun x => by
    obtain ⟨d, hd, hm⟩ := atI_md (ds := ss.map SumT.enc) (x := x) (by simpa using hne)
    obtain ⟨s, hs, rfl⟩ := List.mem_map.mp hm
    exact ⟨s, hs, hd⟩
  have hpos : 0 < ((ss.map SumT.enc).length : Int) := by have := List.length_pos_iff.mpr hne; simp; omega
  (refine ws_seq ?_)
  refine ws_set 5 scLawSum.nd ?_
  (refine w_ixN (w_var 3 rfl ⟨_, rfl, ?_⟩); refine w_mod ?_; refine w_fdiv ?_; refine w_ixN (w_var 0 rfl ⟨_, rfl, ?_⟩); refine w_int ?_; refine Exists.intro _ (And.intro rfl ?_); refine Exists.intro _ (And.intro (atI_nat (j := 0) rfl) ?_); refine Exists.intro _ (And.intro rfl ?_); refine w_int ?_; refine Exists.intro _ (And.intro rfl ?_); refine And.intro (And.intro (by decide +kernel) (by decide +kernel)) ?_; refine Exists.intro _ (And.intro rfl ?_))
  refine w_len B.len ?_
  (refine w_var 3 rfl ?_; refine Exists.intro _ (And.intro rfl ?_); refine Exists.intro _ (And.intro rfl ?_))
  refine ⟨hpos, ?_⟩
  obtain ⟨s, hs, es⟩ := pick (r0 / 8)
  refine ⟨_, rfl, _, es, ?_⟩
  (refine ws_seq ?_)
  refine ws_set 6 scLawSum.nd ?_
  (refine w_ixN (w_var 3 rfl ⟨_, rfl, ?_⟩); refine w_mod ?_; refine w_fdiv ?_; refine w_ixN (w_var 0 rfl ⟨_, rfl, ?_⟩); refine w_int ?_; refine Exists.intro _ (And.intro rfl ?_); refine Exists.intro _ (And.intro (atI_nat (j := 2) rfl) ?_); refine Exists.intro _ (And.intro rfl ?_); refine w_int ?_; refine Exists.intro _ (And.intro rfl ?_); refine And.intro (And.intro (by decide +kernel) (by decide +kernel)) ?_; refine Exists.intro _ (And.intro rfl ?_))
  refine w_len B.len ?_
  (refine w_var 3 rfl ?_; refine Exists.intro _ (And.intro rfl ?_); refine Exists.intro _ (And.intro rfl ?_))
  refine ⟨hpos, ?_⟩
  obtain ⟨t, ht, et⟩ := pick (r2 / 12)
  refine ⟨_, rfl, _, et, ?_⟩
  obtain ⟨s1, s2⟩ := hall s hs
  obtain ⟨t1, t2⟩ := hall t ht
  clear es et hpos pick
  (refine ws_seq ?_)
  refine ws_set 7 scLawSum.nd ?_
  (refine w_mod ?_; refine w_ixN (w_var 0 rfl ⟨_, rfl, ?_⟩); refine w_int ?_; refine Exists.intro _ (And.intro rfl ?_); refine Exists.intro _ (And.intro (atI_nat (j := 0) rfl) ?_); refine Exists.intro _ (And.intro rfl ?_); refine w_int ?_; refine Exists.intro _ (And.intro rfl ?_); refine And.intro (by decide +kernel) ?_; refine ws_seq ?_; refine ws_if ?_; refine wt_lt ?_; refine w_var 7 rfl ?_; refine Exists.intro _ (And.intro rfl ?_); refine w_int ?_; refine Exists.intro _ (And.intro rfl ?_))
  generalize r0 % 8 = way
  refine if_2 (fun h => ?_) fun _ => ?_
  · (refine ws_seq ?_; refine ws_ret ?_; refine w_var 5 rfl ?_)
    exact pp s (by omega) s2
  (refine ws_nil ?_; refine ws_seq ?_; refine ws_if ?_; refine wt_eqc ?_; refine w_var 7 rfl ?_; refine w_int ?_; refine And.intro rfl ?_)
  refine if_2 (fun h => ?_) fun _ => ?_
  · (refine ws_seq ?_; refine ws_ret ?_; refine w_tup ?_; refine wa_cons ?_; refine w_str ?_; refine wa_cons ?_; refine w_var 5 rfl ?_; refine wa_cons ?_; refine w_var 6 rfl ?_; refine wa_nil ?_; refine And.intro (sz rfl) ?_)
    exact pp (.less s t) (by simp [SumT.dep, s1, t1]) ⟨s2, t2⟩
  (refine ws_nil ?_; refine ws_seq ?_; refine ws_if ?_; refine wt_eqc ?_; refine w_var 7 rfl ?_; refine w_int ?_; refine And.intro rfl ?_)
  refine if_2 (fun h => ?_) fun _ => ?_
  · (refine ws_seq ?_; refine ws_ret ?_; refine w_tup ?_; refine wa_cons ?_; refine w_str ?_; refine wa_cons ?_; refine w_tup ?_; refine wa_cons ?_; refine w_str ?_; refine wa_cons ?_; refine w_var 6 rfl ?_; refine wa_cons ?_; refine w_tup ?_; refine wa_cons ?_; refine w_str ?_; refine wa_cons ?_; refine w_mod ?_; refine w_ixN (w_var 0 rfl ⟨_, rfl, ?_⟩); refine w_int ?_; refine Exists.intro _ (And.intro rfl ?_); refine Exists.intro _ (And.intro (atI_nat (j := 1) rfl) ?_); refine Exists.intro _ (And.intro rfl ?_); refine w_int ?_; refine Exists.intro _ (And.intro rfl ?_); refine And.intro (by decide +kernel) ?_; refine wa_nil ?_; refine And.intro (sz rfl) ?_; refine wa_nil ?_; refine And.intro (sz rfl) ?_; refine wa_cons ?_; refine w_var 5 rfl ?_; refine wa_nil ?_; refine And.intro (sz rfl) ?_)
    exact pp (.plus (.less t (.num (r1 % 5))) s) (by simp [SumT.dep, s1, t1]) ⟨⟨t2, trivial⟩, s2⟩
  (refine ws_nil ?_; refine ws_seq ?_; refine ws_ret ?_; refine w_tup ?_; refine wa_cons ?_; refine w_str ?_; refine wa_cons ?_; refine w_var 5 rfl ?_; refine wa_cons ?_; refine w_tup ?_; refine wa_cons ?_; refine w_str ?_; refine wa_cons ?_; refine w_mod ?_; refine w_ixN (w_var 0 rfl ⟨_, rfl, ?_⟩); refine w_int ?_; refine Exists.intro _ (And.intro rfl ?_); refine Exists.intro _ (And.intro (atI_nat (j := 1) rfl) ?_); refine Exists.intro _ (And.intro rfl ?_); refine w_int ?_; refine Exists.intro _ (And.intro rfl ?_); refine And.intro (by decide +kernel) ?_; refine wa_nil ?_; refine And.intro (sz rfl) ?_; refine wa_nil ?_; refine And.intro (sz rfl) ?_)
  exact pp (.plus s (.num (r1 % 4))) (by simp [SumT.dep, s1, t1]) ⟨s2, trivial⟩
end
end TW
set_option Elab.async false
set_option linter.all false
set_option maxRecDepth 100000
set_option maxHeartbeats 4000000
namespace TW
open PySem L2 PyProof.Rows
section
variable {Pg : Program} {w : World} {K : PySem.W.Frag} {mg : Str → Option Value} {base : Heap} {C : Addr}
def wfCond : List D → (D → Prop) → Prop := fun ds P => ∃ (r0 r1 r2 r3 : Int) (rs : List Int) (ns : List Str), ds = [encW (r0 :: r1 :: r2 :: r3 :: rs), .lst (ns.map D.str)] ∧ ns.length ≤ 2 ∧ ∀ c : CndT, c.dep ≤ 5 → c.all (isB ns) → P c.enc
theorem ok_cond (Gs : Df Pg w K mg base C 1 "_law_sum" ["row", "names"] wfSum) {f : Addr} {fd : FuncData} (F : Fun K "_law_condition" "_law_condition" sLawCondition f fd) : FnOk Pg w K mg base CX0 2 f fd ["row", "names"] (spD K C wfCond) := by
  refine fn_ok F scLawCondition (fun ds P h => by obtain ⟨_, _, _, _, _, _, rfl, _⟩ := h; rfl) fun cdv A outer s H E hr ds P h => ?_
  obtain ⟨r0, r1, r2, r3, rs, ns, rfl, hn, pp⟩ := h
  (refine ws_seq ?_)
  refine ws_set 2 scLawCondition.nd (w_call Gs hr ?_)
  (refine wa_cons ?_)
  refine WN.w (wn_lst ?_)
  (refine wa_cons ?_; refine w_mul ?_; refine w_int ?_; refine Exists.intro _ (And.intro rfl ?_); refine w_ixN (w_var 0 rfl ⟨_, rfl, ?_⟩); refine w_int ?_; refine Exists.intro _ (And.intro rfl ?_); refine Exists.intro _ (And.intro (atI_nat (j := 3) rfl) ?_); refine Exists.intro _ (And.intro rfl ?_); refine And.intro (Or.inl (And.intro (by decide +kernel) (by decide +kernel))) ?_; refine wa_cons ?_; refine w_ixN (w_var 0 rfl ⟨_, rfl, ?_⟩); refine w_int ?_; refine Exists.intro _ (And.intro rfl ?_); refine Exists.intro _ (And.intro (atI_nat (j := 1) rfl) ?_); refine wa_cons ?_; refine w_ixN (w_var 0 rfl ⟨_, rfl, ?_⟩); refine w_int ?_; refine Exists.intro _ (And.intro rfl ?_); refine Exists.intro _ (And.intro (atI_nat (j := 2) rfl) ?_); refine wa_nil ?_; refine And.intro (sz rfl) ?_; refine wa_cons ?_; refine w_var 1 rfl ?_; refine wa_nil ?_)
  refine ⟨8 * r3, r1, r2, [], ns, rfl, hn, fun s s1 s2 => ?_⟩
  (refine ws_seq ?_)
  refine ws_set 3 scLawCondition.nd (w_call Gs hr ?_)
  (refine wa_cons ?_)
  refine WN.w (wn_lst ?_)
  (refine wa_cons ?_; refine w_fdiv ?_; refine w_ixN (w_var 0 rfl ⟨_, rfl, ?_⟩); refine w_int ?_; refine Exists.intro _ (And.intro rfl ?_); refine Exists.intro _ (And.intro (atI_nat (j := 0) rfl) ?_); refine Exists.intro _ (And.intro rfl ?_); refine w_int ?_; refine Exists.intro _ (And.intro rfl ?_); refine And.intro (And.intro (by decide +kernel) (by decide +kernel)) ?_; refine wa_cons ?_; refine w_ixN (w_var 0 rfl ⟨_, rfl, ?_⟩); refine w_int ?_; refine Exists.intro _ (And.intro rfl ?_); refine Exists.intro _ (And.intro (atI_nat (j := 2) rfl) ?_); refine wa_cons ?_; refine w_ixN (w_var 0 rfl ⟨_, rfl, ?_⟩); refine w_int ?_; refine Exists.intro _ (And.intro rfl ?_); refine Exists.intro _ (And.intro (atI_nat (j := 1) rfl) ?_); refine wa_nil ?_; refine And.intro (sz rfl) ?_; refine wa_cons ?_; refine w_var 1 rfl ?_; refine wa_nil ?_)
  refine ⟨r0 / 8, r2, r1, [], ns, rfl, hn, fun t t1 t2 => ?_⟩
  (refine ws_seq ?_)
  refine ws_set 4 scLawCondition.nd ?_
  (refine w_mod ?_; refine w_ixN (w_var 0 rfl ⟨_, rfl, ?_⟩); refine w_int ?_; refine Exists.intro _ (And.intro rfl ?_); refine Exists.intro _ (And.intro (atI_nat (j := 0) rfl) ?_); refine Exists.intro _ (And.intro rfl ?_); refine w_int ?_; refine Exists.intro _ (And.intro rfl ?_); refine And.intro (by decide +kernel) ?_; refine ws_seq ?_; refine ws_if ?_; refine wt_eqc ?_; refine w_var 4 rfl ?_; refine w_int ?_; refine And.intro rfl ?_)
  generalize r0 % 8 = way
  refine if_2 (fun h => ?_) fun _ => ?_
  · (refine ws_seq ?_; refine ws_ret ?_; refine w_tup ?_; refine wa_cons ?_; refine w_str ?_; refine wa_nil ?_; refine And.intro (sz rfl) ?_)
    exact pp .yes (by simp [CndT.dep]) trivial
  (refine ws_nil ?_; refine ws_seq ?_; refine ws_if ?_; refine wt_eqc ?_; refine w_var 4 rfl ?_; refine w_int ?_; refine And.intro rfl ?_)
  refine if_2 (fun h => ?_) fun _ => ?_
  · (refine ws_seq ?_; refine ws_ret ?_; refine w_tup ?_; refine wa_cons ?_; refine w_str ?_; refine wa_cons ?_; refine w_tup ?_; refine wa_cons ?_; refine w_str ?_; refine wa_cons ?_; refine w_var 2 rfl ?_; refine wa_cons ?_; refine w_var 3 rfl ?_; refine wa_nil ?_; refine And.intro (sz rfl) ?_; refine wa_nil ?_; refine And.intro (sz rfl) ?_)
    exact pp (.no (.same s t)) (by simp [CndT.dep]; omega) ⟨s2, t2⟩
  (refine ws_nil ?_; refine ws_seq ?_; refine ws_if ?_; refine wt_eqc ?_; refine w_var 4 rfl ?_; refine w_int ?_; refine And.intro rfl ?_)
  refine if_2 (fun h => ?_) fun _ => ?_
  · (refine ws_seq ?_; refine ws_ret ?_; refine w_tup ?_; refine wa_cons ?_; refine w_str ?_; refine wa_cons ?_; refine w_tup ?_; refine wa_cons ?_; refine w_str ?_; refine wa_cons ?_; refine w_var 2 rfl ?_; refine wa_cons ?_; refine w_var 3 rfl ?_; refine wa_nil ?_; refine And.intro (sz rfl) ?_; refine wa_cons ?_; refine w_tup ?_; refine wa_cons ?_; refine w_str ?_; refine wa_cons ?_; refine w_tup ?_; refine wa_cons ?_; refine w_str ?_; refine wa_cons ?_; refine w_var 3 rfl ?_; refine wa_cons ?_; refine w_var 2 rfl ?_; refine wa_nil ?_; refine And.intro (sz rfl) ?_; refine wa_nil ?_; refine And.intro (sz rfl) ?_; refine wa_nil ?_; refine And.intro (sz rfl) ?_)
    exact pp (.both (.under s t) (.no (.under t s))) (by simp [CndT.dep]; omega) ⟨⟨s2, t2⟩, t2, s2⟩
  (refine ws_nil ?_; refine ws_seq ?_; refine ws_ret ?_; refine w_ixD ?_)
  refine WN.w (wn_lst ?_)
  (refine wa_cons ?_; refine w_tup ?_; refine wa_cons ?_; refine w_str ?_; refine wa_cons ?_; refine w_var 2 rfl ?_; refine wa_cons ?_; refine w_var 3 rfl ?_; refine wa_nil ?_; refine And.intro (sz rfl) ?_; refine wa_cons ?_; refine w_tup ?_; refine wa_cons ?_; refine w_str ?_; refine wa_cons ?_; refine w_var 2 rfl ?_; refine wa_cons ?_; refine w_var 3 rfl ?_; refine wa_nil ?_; refine And.intro (sz rfl) ?_; refine wa_nil ?_; refine And.intro (sz rfl) ?_; refine Exists.intro _ (And.intro rfl ?_); refine w_mod ?_; refine w_var 4 rfl ?_; refine Exists.intro _ (And.intro rfl ?_); refine w_int ?_; refine Exists.intro _ (And.intro rfl ?_); refine And.intro (by decide +kernel) ?_; refine Exists.intro _ (And.intro rfl ?_))
  obtain ⟨d, hd, hm⟩ := atI_in (ds := [(CndT.same s t).enc, (CndT.under s t).enc]) (i := way % 2) (by omega) (by simp; omega)
  refine ⟨_, hd, ?_⟩
  simp at hm
  rcases hm with rfl | rfl
  · exact pp (.same s t) (by simp [CndT.dep]; omega) ⟨s2, t2⟩
  · exact pp (.under s t) (by simp [CndT.dep]; omega) ⟨s2, t2⟩
def wfNode : List D → (D → Prop) → Prop := fun ds P => ∃ (r0 r1 r2 r3 r4 r5 r6 : Int) (ns : List Str) (many : Nat), ds = [encW [r0, r1, r2, r3, r4, r5, r6], .lst (ns.map D.str), .int many] ∧ ns.length ≤ 2 ∧ (∀ x ∈ ns, PyData.strOk x = true) ∧ 0 < many ∧ ∀ n : NdT, n.ok ns many → P n.enc
theorem md_nat {x : Int} {many : Nat} (h : 0 < many) : ∃ n : Nat, x % (many : Int) = n ∧ n < many := by
  have h1 := Int.emod_nonneg x (show (many : Int) ≠ 0 by omega)
  have h2 := Int.emod_lt_of_pos x (show (0 : Int) < many by omega)
  exact ⟨(x % (many : Int)).toNat, by omega, by omega⟩
theorem ok_node (B : Bl mg) (Gs : Df Pg w K mg base C 1 "_law_sum" ["row", "names"] wfSum) (Gc : Df Pg w K mg base C 2 "_law_condition" ["row", "names"] wfCond) {f : Addr} {fd : FuncData} (F : Fun K "_law_node" "_law_node" sLawNode f fd) : FnOk Pg w K mg base CX0 3 f fd ["row", "names", "many"] (spD K C wfNode) := by
  refine fn_ok F scLawNode (fun ds P h => by obtain ⟨_, _, _, _, _, _, _, _, _, rfl, _⟩ := h; rfl) fun cdv A outer s H E hr ds P h => ?_
  obtain ⟨r0, r1, r2, r3, r4, r5, r6, ns, many, rfl, hn, hl, hm, pp⟩ := h
  (refine ws_seq ?_)
  refine ws_set 3 scLawNode.nd ?_
  (refine w_mod ?_; refine w_ixN (w_var 0 rfl ⟨_, rfl, ?_⟩); refine w_int ?_; refine Exists.intro _ (And.intro rfl ?_); refine Exists.intro _ (And.intro rfl ?_); refine Exists.intro _ (And.intro rfl ?_); refine w_var 2 rfl ?_; refine Exists.intro _ (And.intro rfl ?_))
  refine And.intro (by omega) ?_
  obtain ⟨af, ha, ha2⟩ := md_nat (x := r4) hm
  rw [ha]
  (refine ws_seq ?_)
  refine ws_set 4 scLawNode.nd ?_
  (refine w_mod ?_; refine w_ixN (w_var 0 rfl ⟨_, rfl, ?_⟩); refine w_int ?_; refine Exists.intro _ (And.intro rfl ?_); refine Exists.intro _ (And.intro rfl ?_); refine Exists.intro _ (And.intro rfl ?_); refine w_int ?_; refine Exists.intro _ (And.intro rfl ?_); refine And.intro (by decide +kernel) ?_)
  generalize r5 % 8 = way
  refine ws_seq (ws_if (WT.mono (P := fun b => (b = true ↔ way = 7 ∨ (ns = [] ∧ way < 3))) ?_ fun b hb => ?_))
  · (refine WW.wt (ww_or ?_); refine wt_eqc ?_; refine w_var 4 rfl ?_; refine w_int ?_; refine And.intro rfl ?_)
    refine if_2 (fun h => ?_) fun h => ?_
    · have : way = 7 := of_decide_eq_true h
      exact ⟨fun _ => .inl this, fun _ => rfl⟩
    have h7 : ¬ way = 7 := of_decide_eq_false h
    (refine ww_or1 ?_; refine WW.wt (ww_and ?_))
    refine wt_eqD 1 hr.units ?_
    (refine w_var 1 rfl ?_)
    refine WN.w (wn_lst ?_)
    (refine wa_nil ?_; refine And.intro (sz rfl) ?_)
    refine ⟨by decide, by simpa [layN] using hl, by simp [layN], fun b hb => ?_⟩
    have e : (D.lst (ns.map D.str) = D.lst []) ↔ ns = [] := by simp
    rw [e] at hb
    refine if_2 (fun h => ?_) fun h => ?_
    · have hns := hb.mp h
      (refine ww_and1 ?_; refine wt_lt ?_; refine w_var 4 rfl ?_; refine Exists.intro _ (And.intro rfl ?_); refine w_int ?_; refine Exists.intro _ (And.intro rfl ?_))
      constructor
      · intro h3; exact .inr ⟨hns, of_decide_eq_true h3⟩
      · intro h3; exact decide_eq_true (by omega)
    · refine ⟨fun h => absurd h Bool.false_ne_true, fun z => ?_⟩
      rcases z with z | z
      · exact absurd z h7
      · rw [hb.mpr z.1] at h; cases h
  refine if_2 (fun h => ?_) fun h => ?_
  · (refine ws_seq ?_; refine ws_ret ?_; refine w_tup ?_; refine wa_cons ?_; refine w_str ?_; refine wa_nil ?_; refine And.intro (sz rfl) ?_)
    exact pp .fin trivial
  have hne : way < 3 → ns ≠ [] := fun h3 hns => by
    rw [hb.mpr (.inr ⟨hns, h3⟩)] at h
    cases h
  clear hb h
  (refine ws_nil ?_; refine ws_seq ?_; refine ws_if ?_; refine wt_lt ?_; refine w_var 4 rfl ?_; refine Exists.intro _ (And.intro rfl ?_); refine w_int ?_; refine Exists.intro _ (And.intro rfl ?_))
  refine if_2 (fun h => ?_) fun h => ?_
  · have hns := hne (of_decide_eq_true h)
    (refine ws_seq ?_; refine ws_ret ?_; refine w_tup ?_; refine wa_cons ?_; refine w_str ?_; refine wa_cons ?_; refine w_ixN (w_var 1 rfl ⟨_, rfl, ?_⟩); refine w_mod ?_; refine w_ixN (w_var 0 rfl ⟨_, rfl, ?_⟩); refine w_int ?_; refine Exists.intro _ (And.intro rfl ?_); refine Exists.intro _ (And.intro rfl ?_); refine Exists.intro _ (And.intro rfl ?_))
    refine w_len B.len ?_
    (refine w_var 1 rfl ?_; refine Exists.intro _ (And.intro rfl ?_); refine Exists.intro _ (And.intro rfl ?_))
    have hpos : 0 < ns.length := List.length_pos_iff.mpr hns
    refine And.intro (by simp; omega) ?_
    obtain ⟨d, hd, hm⟩ := atI_md (ds := ns.map D.str) (x := r6) (by simpa using hns)
    obtain ⟨x, hx, rfl⟩ := List.mem_map.mp hm
    refine ⟨_, rfl, _, hd, ?_⟩
    (refine wa_cons ?_)
    refine w_call Gs hr ?_
    (refine wa_cons ?_; refine w_var 0 rfl ?_; refine wa_cons ?_; refine w_var 1 rfl ?_; refine wa_nil ?_)
    refine ⟨r0, r1, r2, _, ns, rfl, hn, fun s s1 s2 => ?_⟩
    (refine wa_cons ?_; refine w_var 3 rfl ?_; refine wa_nil ?_; refine And.intro (sz rfl) ?_)
    exact pp (.put x s af) ⟨hx, s2, by omega, ha2⟩
  (refine ws_nil ?_; refine ws_seq ?_; refine ws_if ?_; refine wt_lt ?_; refine w_var 4 rfl ?_; refine Exists.intro _ (And.intro rfl ?_); refine w_int ?_; refine Exists.intro _ (And.intro rfl ?_))
  refine if_2 (fun h => ?_) fun h => ?_
  · (refine ws_seq ?_; refine ws_ret ?_; refine w_tup ?_; refine wa_cons ?_; refine w_str ?_; refine wa_cons ?_)
    refine w_call Gs hr ?_
    (refine wa_cons ?_; refine w_var 0 rfl ?_; refine wa_cons ?_; refine w_var 1 rfl ?_; refine wa_nil ?_)
    refine ⟨r0, r1, r2, _, ns, rfl, hn, fun s s1 s2 => ?_⟩
    (refine wa_cons ?_; refine w_var 3 rfl ?_; refine wa_nil ?_; refine And.intro (sz rfl) ?_)
    exact pp (.say s af) ⟨s2, by omega, ha2⟩
  (refine ws_nil ?_; refine ws_seq ?_; refine ws_ret ?_; refine w_tup ?_; refine wa_cons ?_; refine w_str ?_; refine wa_cons ?_)
  refine w_call Gc hr ?_
  (refine wa_cons ?_; refine w_var 0 rfl ?_; refine wa_cons ?_; refine w_var 1 rfl ?_; refine wa_nil ?_)
  refine ⟨r0, r1, r2, r3, _, ns, rfl, hn, fun c c1 c2 => ?_⟩
  (refine wa_cons ?_; refine w_var 3 rfl ?_; refine wa_cons ?_; refine w_mod ?_; refine w_ixN (w_var 0 rfl ⟨_, rfl, ?_⟩); refine w_int ?_; refine Exists.intro _ (And.intro rfl ?_); refine Exists.intro _ (And.intro rfl ?_); refine Exists.intro _ (And.intro rfl ?_); refine w_var 2 rfl ?_; refine Exists.intro _ (And.intro rfl ?_))
  refine And.intro (by omega) ?_
  obtain ⟨bf, hb, hb2⟩ := md_nat (x := r6) hm
  rw [hb]
  (refine wa_nil ?_; refine And.intro (sz rfl) ?_)
  exact pp (.test c af bf) ⟨c2, by omega, ha2, hb2⟩
end
end TW
set_option Elab.async false
set_option linter.all false
set_option maxRecDepth 100000
set_option maxHeartbeats 4000000
namespace TW
open PySem L2 PyProof.Rows
def base5 : List Str := ["a", "ab", "x", "boxes", "box"]
structure Nice (bs : List (Str × Nat)) (ins : List Str) : Prop where
  few : bs.length ≤ 2
  nd : (bs.map (·.1)).Nodup
  box : ∀ b ∈ bs, 1 ≤ b.2 ∧ b.2 ≤ 5 ∧ b.1 ∈ base5
  sub : ∀ x ∈ ins, x ∈ bs.map (·.1)
  fewI : ins.length ≤ 2
  ndI : ins.Nodup
theorem cut_to (l : List D) (n : Nat) (h : n ≤ l.length) : cutD l none (some (n : Int)) = l.take n := by
  unfold cutD
  have h1 : HT.sIx l.length 0 none = 0 := rfl
  have h2 : HT.sIx l.length l.length (some (n : Int)) = n := by
    have : ¬ ((n : Int) < 0) := by omega
    simp [HT.sIx, this]
    omega
  rw [h1, h2]
  simp
theorem cut_from (l : List D) (n : Nat) : cutD l (some (n : Int)) none = l.drop n := by
  unfold cutD
  have h1 : HT.sIx l.length 0 (some (n : Int)) = min n l.length := by
    have : ¬ ((n : Int) < 0) := by omega
    simp [HT.sIx, this]
  have h2 : HT.sIx l.length l.length none = l.length := rfl
  rw [h1, h2]
  by_cases h : n ≤ l.length
  · rw [Nat.min_eq_left h, List.take_of_length_le (by simp)]
  · rw [Nat.min_eq_right (by omega), List.drop_of_length_le (Nat.le_refl _), List.drop_of_length_le (by omega)]
    simp
theorem step_map {α : Type} (f : α → D) (l : List α) (s : Int) : ∃ m : List α, stepD (l.map f) s = m.map f ∧ m.Perm l := by
  unfold stepD
  by_cases h : s = 1
  · rw [if_pos h]; exact ⟨l, rfl, .refl _⟩
  · rw [if_neg h]; exact ⟨l.reverse, by rw [List.map_reverse], List.reverse_perm l⟩
theorem nice_of {x y : Str} {ss : List Nat} {c : Nat} {ins : List Str} (hxy : x ≠ y) (hx : x ∈ base5) (hy : y ∈ base5) (h2 : ss.length ≤ 2) (hs : ∀ s ∈ ss, 1 ≤ s ∧ s ≤ 5) (hi : ins.Perm (([x, y].take ss.length).drop c)) : Nice ([x, y].zip ss) ins := by
  have e1 : (([x, y].zip ss).map (·.1)) = [x, y].take ss.length := by
    match ss, h2 with
    | [], _ => rfl
    | [_], _ => rfl
    | [_, _], _ => rfl
  have nd2 : ([x, y] : List Str).Nodup := by simp [hxy]
  refine ⟨by rw [List.length_zip]; simp; omega, by rw [e1]; exact nd2.sublist (List.take_sublist _ _), fun b hb => ?_, fun z hz => ?_, ?_, ?_⟩
  · have h1 := List.of_mem_zip hb
    refine ⟨(hs _ h1.2).1, (hs _ h1.2).2, ?_⟩
    have := h1.1
    simp at this
    rcases this with h | h
    · rw [h]; exact hx
    · rw [h]; exact hy
  · rw [e1]
    exact List.mem_of_mem_drop (hi.mem_iff.mp hz)
  · rw [hi.length_eq]
    simp
    omega
  · exact hi.nodup_iff.mpr ((nd2.sublist (List.take_sublist _ _)).sublist (List.drop_sublist _ _))
theorem wo_none {C : Addr} {X : Cx} {ρ : List Sl} {P : Option Int → Prop} (h : P none) : Wo C X none ρ P := h
theorem mod2_step (x : Int) : 1 - 2 * (x % 2) = 1 ∨ 1 - 2 * (x % 2) = -1 := by omega
section
variable {Pg : Program} {w : World} {K : PySem.W.Frag} {mg : Str → Option Value} {base : Heap} {C : Addr}
def bxD (bs : List (Str × Nat)) : D := .lst (bs.map PrT.encB)
def wfBoxes : List D → (D → Prop) → Prop := fun ds P => ∃ (n : Int), ds = [.int n] ∧ ∀ bs ins, Nice bs ins → P (.tup [bxD bs, .lst (ins.map D.str)])
theorem ok_boxes (B : Bl mg) {f : Addr} {fd : FuncData} (F : Fun K "_law_boxes" "_law_boxes" sLawBoxes f fd) : FnOk Pg w K mg base CX0 1 f fd ["number"] (spD K C wfBoxes) := by
  refine fn_ok F scLawBoxes (fun ds P h => by obtain ⟨_, rfl, _⟩ := h; rfl) fun cdv A outer s H E hr ds P h => ?_
  obtain ⟨n, rfl, pp⟩ := h
  (refine ws_seq ?_)
  refine ws_set 1 scLawBoxes.nd ?_
  (refine w_ixD ?_; refine WN.w (wn_lst ?_); refine wa_cons ?_; refine WN.w (wn_lst ?_); refine wa_cons ?_; refine w_int ?_; refine wa_nil ?_; refine And.intro (sz rfl) ?_; refine wa_cons ?_; refine WN.w (wn_lst ?_); refine wa_cons ?_; refine w_int ?_; refine wa_cons ?_; refine w_int ?_; refine wa_nil ?_; refine And.intro (sz rfl) ?_; refine wa_cons ?_; refine WN.w (wn_lst ?_); refine wa_nil ?_; refine And.intro (sz rfl) ?_; refine wa_cons ?_; refine WN.w (wn_lst ?_); refine wa_cons ?_; refine w_int ?_; refine wa_nil ?_; refine And.intro (sz rfl) ?_; refine wa_cons ?_; refine WN.w (wn_lst ?_); refine wa_cons ?_; refine w_int ?_; refine wa_cons ?_; refine w_int ?_; refine wa_nil ?_; refine And.intro (sz rfl) ?_; refine wa_cons ?_; refine WN.w (wn_lst ?_); refine wa_cons ?_; refine w_int ?_; refine wa_nil ?_; refine And.intro (sz rfl) ?_; refine wa_cons ?_; refine WN.w (wn_lst ?_); refine wa_cons ?_; refine w_int ?_; refine wa_cons ?_; refine w_int ?_; refine wa_nil ?_; refine And.intro (sz rfl) ?_; refine wa_cons ?_; refine WN.w (wn_lst ?_); refine wa_cons ?_; refine w_int ?_; refine wa_nil ?_; refine And.intro (sz rfl) ?_; refine wa_nil ?_; refine And.intro (sz rfl) ?_; refine Exists.intro _ (And.intro rfl ?_); refine w_mod ?_; refine w_var 0 rfl ?_; refine Exists.intro _ (And.intro rfl ?_); refine w_int ?_; refine Exists.intro _ (And.intro rfl ?_); refine And.intro (by decide +kernel) ?_; refine Exists.intro _ (And.intro rfl ?_))
  obtain ⟨d, hd, hm⟩ := atI_in (ds := [.lst [.int 2], .lst [.int 2, .int 3], .lst [], .lst [.int 3], .lst [.int 2, .int 2], .lst [.int 5], .lst [.int 1, .int 3], .lst [.int 4]]) (i := n % 8) (by omega) (by simp; omega)
  obtain ⟨ss, rfl, hs2, hs⟩ : ∃ ss : List Nat, d = .lst (ss.map fun s : Nat => D.int s) ∧ ss.length ≤ 2 ∧ ∀ s ∈ ss, 1 ≤ s ∧ s ≤ 5 := by
    simp at hm
    rcases hm with rfl | rfl | rfl | rfl | rfl | rfl | rfl | rfl
    · exact ⟨[2], rfl, by decide, by decide⟩
    · exact ⟨[2, 3], rfl, by decide, by decide⟩
    · exact ⟨[], rfl, by decide, by decide⟩
    · exact ⟨[3], rfl, by decide, by decide⟩
    · exact ⟨[2, 2], rfl, by decide, by decide⟩
    · exact ⟨[5], rfl, by decide, by decide⟩
    · exact ⟨[1, 3], rfl, by decide, by decide⟩
    · exact ⟨[4], rfl, by decide, by decide⟩
  refine ⟨_, hd, ?_⟩
  clear hd hm
  (refine ws_seq ?_)
  refine ws_set 2 scLawBoxes.nd ?_
  (refine w_ixD ?_; refine WN.w (wn_lst ?_); refine wa_cons ?_; refine WN.w (wn_lst ?_); refine wa_cons ?_; refine w_str ?_; refine wa_cons ?_; refine w_str ?_; refine wa_nil ?_; refine And.intro (sz rfl) ?_; refine wa_cons ?_; refine WN.w (wn_lst ?_); refine wa_cons ?_; refine w_str ?_; refine wa_cons ?_; refine w_str ?_; refine wa_nil ?_; refine And.intro (sz rfl) ?_; refine wa_cons ?_; refine WN.w (wn_lst ?_); refine wa_cons ?_; refine w_str ?_; refine wa_cons ?_; refine w_str ?_; refine wa_nil ?_; refine And.intro (sz rfl) ?_; refine wa_nil ?_; refine And.intro (sz rfl) ?_; refine Exists.intro _ (And.intro rfl ?_); refine w_mod ?_; refine w_fdiv ?_; refine w_var 0 rfl ?_; refine Exists.intro _ (And.intro rfl ?_); refine w_int ?_; refine Exists.intro _ (And.intro rfl ?_); refine And.intro (And.intro (by decide +kernel) (by decide +kernel)) ?_; refine Exists.intro _ (And.intro rfl ?_); refine w_int ?_; refine Exists.intro _ (And.intro rfl ?_); refine And.intro (by decide +kernel) ?_; refine Exists.intro _ (And.intro rfl ?_))
  obtain ⟨d, hd, hm⟩ := atI_in (ds := [.lst [.str "a", .str "ab"], .lst [.str "x", .str "a"], .lst [.str "boxes", .str "box"]]) (i := n / 8 % 3) (by omega) (by simp; omega)
  obtain ⟨x, y, rfl, hxy, hx, hy⟩ : ∃ x y : Str, d = .lst [.str x, .str y] ∧ x ≠ y ∧ x ∈ base5 ∧ y ∈ base5 := by
    simp at hm
    rcases hm with rfl | rfl | rfl
    · exact ⟨_, _, rfl, by decide +kernel, by decide +kernel, by decide +kernel⟩
    · exact ⟨_, _, rfl, by decide +kernel, by decide +kernel, by decide +kernel⟩
    · exact ⟨_, _, rfl, by decide +kernel, by decide +kernel, by decide +kernel⟩
  refine ⟨_, hd, ?_⟩
  clear hd hm
  (refine ws_seq ?_)
  refine ws_setLc 3 (own := [("k", 4)]) (ts := [4]) rfl scLawBoxes.nd (blkOk_by (N := nLawBoxes) (sc := defScope sLawBoxes) (by decide +kernel)) (by decide) (wi_range1 B.range ?_)
  refine w_len B.len ?_
  (refine w_var 1 rfl ?_; refine Exists.intro _ (And.intro rfl ?_); refine Exists.intro _ (And.intro rfl ?_))
  refine ⟨by simp, by simp; omega, fun i acc => acc = (([x, y].zip ss).take i).map PrT.encB, rfl, fun i d acc hd ha => ?_, fun acc ha => ?_⟩
  · obtain ⟨z, hz, rfl⟩ := get_map hd
    obtain ⟨hk, rfl⟩ := get_range hz
    have hk : z < ss.length := by simpa using hk
    have hk2 : z < [x, y].length := by simp; omega
    subst ha
    intro _ _ _ _ _
    refine wg_name 4 scLawBoxes.nd ?_
    intro _ _ _ _ _
    refine wts_nil (if_t rfl ?_)
    intro _ _ _ _ _
    (refine w_tup ?_; refine wa_cons ?_; refine w_ixN (w_var 2 rfl ⟨_, rfl, ?_⟩); refine w_var 4 rfl ?_; refine Exists.intro _ (And.intro rfl ?_))
    refine ⟨.str [x, y][z], atI_nat (j := z) (by rw [show [D.str x, .str y] = [x, y].map D.str from rfl, List.getElem?_map, List.getElem?_eq_getElem hk2]; rfl), ?_⟩
    (refine wa_cons ?_; refine w_ixN (w_var 1 rfl ⟨_, rfl, ?_⟩); refine w_var 4 rfl ?_; refine Exists.intro _ (And.intro rfl ?_))
    refine ⟨.int ss[z], atI_nat (j := z) (by rw [List.getElem?_map, List.getElem?_eq_getElem hk]; rfl), ?_⟩
    (refine wa_nil ?_; refine And.intro (sz rfl) ?_)
    refine ⟨szt (by simp; omega), ?_⟩
    show _ = (([x, y].zip ss).take (z + 1)).map PrT.encB
    rw [List.take_add_one, List.getElem?_eq_getElem (by rw [List.length_zip]; omega), List.map_append, List.getElem_zip]
    rfl
  subst ha
  refine wss_frz 3 rfl ?_
  (refine ws_seq ?_)
  refine ws_set 5 scLawBoxes.nd ?_
  refine WN.w (wn_slice ?_)
  refine WN.w (wn_slice ?_)
  (refine w_var 2 rfl ?_; refine Exists.intro _ (And.intro rfl ?_))
  refine w_len B.len ?_
  (refine w_var 1 rfl ?_; refine Exists.intro _ (And.intro rfl ?_); refine Exists.intro _ (And.intro rfl ?_); refine Exists.intro _ (And.intro rfl ?_); refine w_mul ?_; refine w_mod ?_; refine w_fdiv ?_; refine w_var 0 rfl ?_; refine Exists.intro _ (And.intro rfl ?_); refine w_int ?_; refine Exists.intro _ (And.intro rfl ?_); refine And.intro (And.intro (by decide +kernel) (by decide +kernel)) ?_; refine Exists.intro _ (And.intro rfl ?_); refine w_int ?_; refine Exists.intro _ (And.intro rfl ?_); refine And.intro (by decide +kernel) ?_; refine Exists.intro _ (And.intro rfl ?_))
  rw [show (ss.map fun s : Nat => D.int s).length = ss.length by simp, cut_to _ _ (by simp; omega)]
  skip
  refine w_intB B.int ?_
  (refine w_lt ?_; refine w_mod ?_; refine w_fdiv ?_; refine w_var 0 rfl ?_; refine Exists.intro _ (And.intro rfl ?_); refine w_int ?_; refine Exists.intro _ (And.intro rfl ?_); refine And.intro (And.intro (by decide +kernel) (by decide +kernel)) ?_; refine Exists.intro _ (And.intro rfl ?_); refine w_int ?_; refine Exists.intro _ (And.intro rfl ?_); refine And.intro (by decide +kernel) ?_; refine Exists.intro _ (And.intro rfl ?_); refine w_int ?_; refine Exists.intro _ (And.intro rfl ?_); refine Exists.intro _ (And.intro rfl ?_); refine Exists.intro _ (And.intro rfl ?_))
  have hv0 : 0 ≤ n / 24 % 3 ∧ n / 24 % 3 < 3 := by omega
  refine And.intro (.inl ⟨by omega, by omega⟩) ?_
  obtain ⟨c, hc⟩ : ∃ c : Nat, n / 24 % 3 * (if decide (n / 24 % 3 < 2) = true then 1 else 0) = (c : Int) := by
    refine ⟨(n / 24 % 3 * (if decide (n / 24 % 3 < 2) = true then 1 else 0)).toNat, ?_⟩
    split <;> omega
  rw [hc]
  refine ⟨_, rfl, ?_⟩
  refine wo_none ?_
  have ec : cutD ([D.str x, .str y].take ss.length) (some (c : Int)) none = (([x, y].take ss.length).drop c).map D.str := by
    rw [cut_from, show [D.str x, .str y] = [x, y].map D.str from rfl, List.map_drop, List.map_take]
  rw [ec]
  refine ws_seq (ws_ret (w_tup (wa_cons (w_var 3 rfl (wa_cons (WN.w (wn_step (w_var 5 rfl ?_))))))))
  (refine Exists.intro _ (And.intro rfl ?_); refine w_sub ?_; refine w_int ?_; refine Exists.intro _ (And.intro rfl ?_); refine w_mul ?_; refine w_int ?_; refine Exists.intro _ (And.intro rfl ?_); refine w_mod ?_; refine w_fdiv ?_; refine w_var 0 rfl ?_; refine Exists.intro _ (And.intro rfl ?_); refine w_int ?_; refine Exists.intro _ (And.intro rfl ?_); refine And.intro (And.intro (by decide +kernel) (by decide +kernel)) ?_; refine Exists.intro _ (And.intro rfl ?_); refine w_int ?_; refine Exists.intro _ (And.intro rfl ?_); refine And.intro (by decide +kernel) ?_; refine Exists.intro _ (And.intro rfl ?_); refine And.intro (Or.inl (And.intro (by decide +kernel) (by decide +kernel))) ?_; refine Exists.intro _ (And.intro rfl ?_); refine Exists.intro _ (And.intro rfl ?_))
  refine ⟨mod2_step _, ?_⟩
  obtain ⟨ins, hi, hp⟩ := step_map D.str (([x, y].take ss.length).drop c) (1 - 2 * (n / 72 % 2))
  rw [hi]
  (refine wa_nil ?_; refine And.intro (sz rfl) ?_)
  have eb : ([x, y].zip ss).take ((List.range (ss.length : Int).toNat).map fun i : Nat => D.int i).length = [x, y].zip ss := by
    rw [List.take_of_length_le]
    rw [List.length_zip]
    simp
    omega
  rw [eb]
  exact pp _ _ (nice_of hxy hx hy hs2 hs hp)
end
end TW
set_option Elab.async false
set_option linter.all false
set_option maxRecDepth 100000
set_option maxHeartbeats 4000000
namespace TW
open PySem L2 PyProof.Rows
theorem WS.mono {C : Addr} {X : Cx} {st : Stmt} {ρ : List Sl} {O O' : EndD} (h : WS C X st ρ O') (k1 : ∀ r, O'.nx r → O.nx r) (k2 : ∀ d, O'.rt d → O.rt d) (k3 : ∀ r, O'.bk r → O.bk r) (k4 : ∀ r, O'.ct r → O.ct r) : WS C X st ρ O :=
  ⟨toPS h.ps fun D σ H ⟨Hb0, H0, Hb, S, k⟩ => ⟨Hb0, H0, Hb, S, ⟨fun σ Hb H ρ S q => k.nx σ Hb H ρ S (k1 ρ q), fun v Hb H d g s hv q => k.rt v Hb H d g s hv (k2 d q), fun σ Hb H ρ S q => k.bk σ Hb H ρ S (k3 ρ q), fun σ Hb H ρ S q => k.ct σ Hb H ρ S (k4 ρ q)⟩⟩⟩
/-- a statement, what holds behind it, the rest -/
theorem ws_mid {C : Addr} {X : Cx} {st : Stmt} {sts : List Stmt} {ρ : List Sl} {O : EndD} (Q : List Sl → Prop) (h : WS C X st ρ { nx := Q, rt := O.rt, bk := O.bk, ct := O.ct }) (k : ∀ r, Q r → WSs C X sts r O) : WSs C X (st :: sts) ρ O :=
  ws_seq (h.mono k (fun _ q => q) (fun _ q => q) fun _ q => q)
structure Prog4 (p : PrT) : Prop where
  nice : Nice p.boxes p.inputs
  some : p.nodes ≠ []
  few : p.nodes.length ≤ 4
  node : ∀ n ∈ p.nodes, n.ok p.names p.nodes.length
theorem base5_ok : ∀ x ∈ base5, PyData.strOk x = true := by decide +kernel
theorem row7 {row : List Int} {b : Int} (h : NumsIn row 7 b) : ∃ r0 r1 r2 r3 r4 r5 r6, row = [r0, r1, r2, r3, r4, r5, r6] := by
  match row, h.1 with
  | [a, b, c, d, e, f, g], _ => exact ⟨a, b, c, d, e, f, g, rfl⟩
theorem row2 {row : List Int} {b : Int} (h : NumsIn row 2 b) : ∃ r0 r1, row = [r0, r1] := by
  match row, h.1 with
  | [a, b], _ => exact ⟨a, b, rfl⟩
theorem ints_of (ns : List Int) : ∃ cs : List Int, cutD (ns.map D.int) (some 2) (some 6) = cs.map D.int ∧ cs.length ≤ 4 := by
  unfold cutD
  refine ⟨(ns.drop (HT.sIx (ns.map D.int).length 0 (some 2))).take (HT.sIx (ns.map D.int).length (ns.map D.int).length (some 6) - HT.sIx (ns.map D.int).length 0 (some 2)), ?_, ?_⟩
  · rw [List.map_take, List.map_drop]
  · rw [List.length_take, show (some (2 : Int)) = some ((2 : Nat) : Int) from rfl, show (some (6 : Int)) = some ((6 : Nat) : Int) from rfl, HT.sIx_nat, HT.sIx_nat]
    omega
section
variable {Pg : Program} {w : World} {K : PySem.W.Frag} {mg : Str → Option Value} {base : Heap} {C : Addr}
def wfProg : List D → (D → Prop) → Prop := fun ds P => ∃ (ns : List Int), ds = [.ro (ns.map D.int), .int 4] ∧ ∀ p : PrT, Prog4 p → P p.enc
theorem ok_prog (B : Bl mg) (Gc : Df Pg w K mg base C 1 "_law_cell_at" ["script", "k"] wfCell) (Gn : Df Pg w K mg base C 1 "_law_numbers" ["cell", "many", "base"] wfNums) (Gb : Df Pg w K mg base C 1 "_law_boxes" ["number"] wfBoxes) (Gd : Df Pg w K mg base C 3 "_law_node" ["row", "names", "many"] wfNode)
    {f : Addr} {fd : FuncData} (F : Fun K "_law_program" "_law_program" sLawProgram f fd) : FnOk Pg w K mg base CX0 4 f fd ["script", "most"] (spD K C wfProg) := by
  refine fn_ok F scLawProgram (fun ds P h => by obtain ⟨_, rfl, _⟩ := h; rfl) fun cdv A outer s H E hr ds P h => ?_
  obtain ⟨ns, rfl, pp⟩ := h
  (refine ws_seq ?_)
  refine ws_set 2 scLawProgram.nd (w_call Gn hr ?_)
  (refine wa_cons ?_)
  refine w_call Gc hr ?_
  (refine wa_cons ?_; refine w_var 0 rfl ?_; refine wa_cons ?_; refine w_int ?_; refine wa_nil ?_)
  refine ⟨ns, 0, rfl, fun c0 => ?_⟩
  (refine wa_cons ?_; refine w_int ?_; refine wa_cons ?_; refine w_int ?_; refine wa_nil ?_)
  refine ⟨c0, 2, 5040, rfl, by decide, by decide, by decide, fun row hrow => ?_⟩
  obtain ⟨h0, h1, rfl⟩ := row2 hrow
  (refine ws_seq ?_)
  refine ws_asg (ts := [3, 4]) (w_call Gb hr ?_)
  (refine wa_cons ?_; refine w_ixN (w_var 2 rfl ⟨_, rfl, ?_⟩); refine w_int ?_; refine Exists.intro _ (And.intro rfl ?_); refine Exists.intro _ (And.intro rfl ?_); refine wa_nil ?_; refine Exists.intro _ (And.intro rfl ?_))
  refine fun bs ins nc => ?_
  refine wg_tup rfl (wgs_cons (wg_name 3 scLawProgram.nd (wgs_cons (wg_name 4 scLawProgram.nd (wgs_nil ?_))))) rfl
  (refine ws_seq ?_)
  refine ws_setLc 5 (own := [("name", 6), ("size", 7)]) (ts := [6, 7]) rfl scLawProgram.nd (blkOk_by (N := nLawProgram) (sc := defScope sLawProgram) (by decide +kernel)) (by decide) (wi_list ?_)
  (refine w_var 3 rfl ?_)
  refine ⟨_, .inl rfl, fun i acc => acc = (bs.take i).map fun b => D.str b.1, rfl, fun i d acc hd ha => ?_, fun acc ha => ?_⟩
  · obtain ⟨b, hb, rfl⟩ := get_map hd
    have hil : i < bs.length := (List.getElem?_eq_some_iff.mp hb).1
    have := nc.few
    subst ha
    intro _ _ _ _ _
    refine wg_tup rfl (wgs_cons (wg_name 6 scLawProgram.nd (wgs_cons (wg_name 7 scLawProgram.nd (wgs_nil ?_))))) rfl
    intro _ _ _ _ _
    refine wts_nil (if_t rfl ?_)
    intro _ _ _ _ _
    (refine w_var 6 rfl ?_)
    refine ⟨szt (by simp; omega), ?_⟩
    show _ = (bs.take (i + 1)).map fun b => D.str b.1
    rw [List.take_add_one, hb, List.map_append]
    rfl
  subst ha
  rw [List.length_map, List.take_length]
  refine wss_frz 5 rfl ?_
  (refine ws_seq ?_)
  refine ws_set 8 scLawProgram.nd (WN.w (wn_slice ?_))
  (refine w_var 0 rfl ?_; refine Exists.intro _ (And.intro rfl ?_); refine w_int ?_; refine Exists.intro _ (And.intro rfl ?_); refine w_add ?_; refine w_int ?_; refine Exists.intro _ (And.intro rfl ?_); refine w_var 1 rfl ?_; refine Exists.intro _ (And.intro rfl ?_); refine Exists.intro _ (And.intro rfl ?_))
  obtain ⟨cs, hcs, hcl⟩ := ints_of ns
  have hcs' : cutD (ns.map D.int) (some 2) (some (2 + 4)) = cs.map D.int := hcs
  dsimp only
  rw [hcs']
  have hbs : (bs.map fun b => D.str b.1) = (bs.map (·.1)).map D.str := by rw [List.map_map]; rfl
  rw [hbs]
  refine ws_mid (fun ρ' => ∃ (cs : List Int) (a b : Sl), cs ≠ [] ∧ cs.length ≤ 4 ∧ ρ' = [.im (.ro (ns.map D.int)), .im (.int 4), .im (encW [h0, h1]), .im (bxD bs), .im (.lst (ins.map D.str)), .im (.lst ((bs.map (·.1)).map D.str)), .no, .no, .im (encW cs), a, b, .no, .no]) ?_ ?_
  · refine ws_if ?_
    refine wt_eqD 1 hr.units ?_
    (refine w_var 8 rfl ?_)
    refine WN.w (wn_lst ?_)
    (refine wa_nil ?_; refine And.intro (sz rfl) ?_)
    refine ⟨by decide, by simp [layN], by simp [layN], fun b hb => ?_⟩
    have e : (D.lst (cs.map D.int) = D.lst []) ↔ cs = [] := by simp
    rw [e] at hb
    refine if_2 (fun h => ?_) fun h => ?_
    · (refine ws_seq ?_)
      refine ws_set 9 scLawProgram.nd ?_
      (refine w_mod ?_)
      refine w_call Gc hr ?_
      (refine wa_cons ?_; refine w_var 0 rfl ?_; refine wa_cons ?_; refine w_int ?_; refine wa_nil ?_)
      refine ⟨ns, 0, rfl, fun c1 => ?_⟩
      (refine Exists.intro _ (And.intro rfl ?_); refine w_pow ?_; refine w_int ?_; refine Exists.intro _ (And.intro rfl ?_); refine w_int ?_; refine Exists.intro _ (And.intro rfl ?_); refine And.intro (And.intro (by decide +kernel) (by decide +kernel)) ?_; refine Exists.intro _ (And.intro rfl ?_); refine And.intro (by decide +kernel) ?_)
      generalize c1 % _ = far
      refine ws_seq (ws_setLc 8 (own := [("k", 10)]) (ts := [10]) rfl scLawProgram.nd (blkOk_by (N := nLawProgram) (sc := defScope sLawProgram) (by decide +kernel)) (by decide) (wi_range1 B.range ?_))
      (refine w_add ?_; refine w_int ?_; refine Exists.intro _ (And.intro rfl ?_); refine w_mod ?_; refine w_ixN (w_var 2 rfl ⟨_, rfl, ?_⟩); refine w_int ?_; refine Exists.intro _ (And.intro rfl ?_); refine Exists.intro _ (And.intro rfl ?_); refine Exists.intro _ (And.intro rfl ?_); refine w_var 1 rfl ?_; refine Exists.intro _ (And.intro rfl ?_); refine And.intro (by decide +kernel) ?_; refine Exists.intro _ (And.intro rfl ?_); refine Exists.intro _ (And.intro rfl ?_))
      have m1 := Int.emod_nonneg h1 (show (4 : Int) ≠ 0 by decide)
      have m2 := Int.emod_lt_of_pos h1 (show (0 : Int) < 4 by decide)
      refine ⟨by omega, by omega, fun i acc => ∃ cs : List Int, acc = cs.map D.int ∧ cs.length = i, ⟨[], rfl, rfl⟩, fun i d acc hd ha => ?_, fun acc ha => ?_⟩
      · obtain ⟨cs, rfl, hl⟩ := ha
        obtain ⟨z, hz, rfl⟩ := get_map hd
        obtain ⟨hk, rfl⟩ := get_range hz
        intro _ _ _ _ _
        refine wg_name 10 scLawProgram.nd ?_
        intro _ _ _ _ _
        refine wts_nil (if_t rfl ?_)
        intro _ _ _ _ _
        (refine w_add ?_; refine w_var 9 rfl ?_; refine Exists.intro _ (And.intro rfl ?_); refine w_mul ?_; refine w_int ?_; refine Exists.intro _ (And.intro rfl ?_); refine w_var 10 rfl ?_; refine Exists.intro _ (And.intro rfl ?_); refine And.intro (Or.inl (And.intro (by decide +kernel) (by decide +kernel))) ?_; refine Exists.intro _ (And.intro rfl ?_))
        refine ⟨szt (by simp; omega), cs ++ [far + 211 * (z : Int)], by simp, by simp [hl]⟩
      · obtain ⟨cs, rfl, hl⟩ := ha
        refine wss_frz 8 rfl ?_
        refine ws_nil ⟨cs, .im (.int far), .no, ?_, ?_, rfl⟩
        · intro z
          rw [z] at hl
          simp at hl
          omega
        · rw [hl]
          simp
          omega
    · refine ws_nil ⟨cs, .no, .no, ?_, hcl, rfl⟩
      intro z
      rw [hb.mpr z] at h
      cases h
  rintro ρ' ⟨cs, a, b, hne, hc4, rfl⟩
  (refine ws_seq ?_)
  refine ws_own 11 scLawProgram.nd (wn_lst ?_)
  (refine wa_nil ?_; refine And.intro (sz rfl) ?_; refine ws_seq ?_)
  refine ws_for (ts := [12]) PassesOwn.never rfl (wi_list ?_)
  (refine w_var 8 rfl ?_)
  refine ⟨_, .inl rfl, fun i ρ' => ∃ (nds : List NdT) (c : Sl), ρ' = [.im (.ro (ns.map D.int)), .im (.int 4), .im (encW [h0, h1]), .im (bxD bs), .im (.lst (ins.map D.str)), .im (.lst ((bs.map (·.1)).map D.str)), .no, .no, .im (encW cs), a, b, .ow (.lst (nds.map NdT.enc)), c] ∧ nds.length = i ∧ ∀ n ∈ nds, n.ok (bs.map (·.1)) cs.length, ⟨[], _, rfl, rfl, by simp⟩, fun i d ρ' hd hi => ?_, fun ρ' hi => ?_⟩
  · obtain ⟨nds, c, rfl, hl, hok⟩ := hi
    obtain ⟨cell, hce, rfl⟩ := get_map hd
    have hil : i < cs.length := (List.getElem?_eq_some_iff.mp hce).1
    refine wg_name 12 scLawProgram.nd ?_
    (refine ws_seq ?_)
    refine ws_append 11 rfl ?_
    refine w_call Gd hr ?_
    (refine wa_cons ?_)
    refine w_call Gn hr ?_
    (refine wa_cons ?_; refine w_var 12 rfl ?_; refine wa_cons ?_; refine w_int ?_; refine wa_cons ?_; refine w_int ?_; refine wa_nil ?_)
    refine ⟨cell, 7, 720, rfl, by decide, by decide, by decide, fun row hrow => ?_⟩
    obtain ⟨r0, r1, r2, r3, r4, r5, r6, rfl⟩ := row7 hrow
    (refine wa_cons ?_; refine w_var 5 rfl ?_; refine wa_cons ?_)
    refine w_len B.len ?_
    (refine w_var 8 rfl ?_; refine Exists.intro _ (And.intro rfl ?_); refine wa_nil ?_)
    refine ⟨r0, r1, r2, r3, r4, r5, r6, bs.map (·.1), cs.length, by simp, by simpa using nc.few, fun x hx => ?_, by omega, fun n hn => ?_⟩
    · obtain ⟨b, hb, rfl⟩ := List.mem_map.mp hx
      exact base5_ok _ (nc.box b hb).2.2
    refine ⟨szt (by simp; omega), ws_nil ⟨nds ++ [n], .im (.int cell), ?_, by simp [hl], fun x hx => ?_⟩⟩
    · simp
    · rcases List.mem_append.mp hx with hx | hx
      · exact hok x hx
      · simp at hx
        subst hx
        exact hn
  · obtain ⟨nds, c, rfl, hl, hok⟩ := hi
    refine wss_frz 11 rfl ?_
    (refine ws_seq ?_; refine ws_ret ?_; refine w_tup ?_; refine wa_cons ?_; refine w_var 3 rfl ?_; refine wa_cons ?_; refine w_var 4 rfl ?_; refine wa_cons ?_; refine w_var 11 rfl ?_; refine wa_nil ?_; refine And.intro (sz rfl) ?_)
    have hl2 : nds.length = cs.length := by simpa using hl
    refine pp ⟨bs, ins, nds⟩ ⟨nc, fun z => ?_, by show nds.length ≤ 4; omega, fun n hn => ?_⟩
    · have z' : nds = [] := z
      rw [z'] at hl2
      exact hne (List.length_eq_zero_iff.mp hl2.symm)
    · show n.ok (bs.map (·.1)) nds.length
      rw [hl2]
      exact hok n hn
end
end TW
set_option Elab.async false
set_option linter.all false
set_option maxRecDepth 100000
set_option maxHeartbeats 4000000
namespace TW
open PySem L2 PyProof.Rows
def SumT.ren (f : Str → Str) : SumT → SumT
  | .num n => .num n
  | .leaf t x => .leaf t (f x)
  | .plus a b => .plus (a.ren f) (b.ren f)
  | .less a b => .less (a.ren f) (b.ren f)
def CndT.ren (f : Str → Str) : CndT → CndT
  | .yes => .yes
  | .no c => .no (c.ren f)
  | .both a b => .both (a.ren f) (b.ren f)
  | .same a b => .same (a.ren f) (b.ren f)
  | .under a b => .under (a.ren f) (b.ren f)
def Thing.ren (f : Str → Str) : Thing → Thing
  | .su s => .su (s.ren f)
  | .co c => .co (c.ren f)
def calD (ns : List Str) (f : Str → Str) : D := .dk (ns.map fun n => .inr n) (ns.map fun n => .str (f n))
theorem look_cal {ns : List Str} {f : Str → Str} {x : Str} (h : x ∈ ns) : look (ns.map (fun n => (Sum.inr n : Key))) (ns.map fun n => D.str (f n)) (.inr x) = some (.str (f x)) := by
  induction ns with
  | nil => cases h
  | cons n ns ih =>
    show (if (Sum.inr n : Key) = .inr x then some (D.str (f n)) else look _ _ _) = _
    by_cases e : n = x
    · subst e
      rw [if_pos rfl]
    · rw [if_neg (fun z => e (Sum.inr.inj z))]
      exact ih (by simpa [Ne.symm e] using h)
def qE : Sum D Thing → D
  | .inl d => d
  | .inr t => t.enc
def qR (f : Str → Str) : Sum D Thing → D
  | .inl d => d
  | .inr t => (t.ren f).enc
theorem Thing.enc_tup (t : Thing) : isTup t.enc = true ∧ isData t.enc = true := by
  cases t with
  | su s => cases s <;> exact ⟨rfl, rfl⟩
  | co c => cases c <;> exact ⟨rfl, rfl⟩
def qOk (ns : List Str) (n : Nat) : Sum D Thing → Prop
  | .inl d => isData d = true ∧ isTup d = false
  | .inr t => t.dep + 1 ≤ n ∧ t.all (isB ns)
section
variable {Pg : Program} {w : World} {K : PySem.W.Frag} {mg : Str → Option Value} {base : Heap} {C : Addr}
def wfRen (n : Nat) : List D → (D → Prop) → Prop := fun ds P => ∃ (t : Thing) (ns : List Str) (g : Str → Str), ds = [t.enc, calD ns g] ∧ t.dep ≤ n ∧ t.all (isB ns) ∧ P (t.ren g).enc
theorem ok_ren (B : Bl mg) {f : Addr} {fd : FuncData} (F : Fun K "_law_renamed" "_law_renamed" sLawRenamed f fd) (mgf : mg "_law_renamed" = some (.ref f)) (b : Binds K fd ["thing", "called"] []) : ∀ n, FnOk Pg w K mg base CX0 (n + 1) f fd ["thing", "called"] (spD K C (wfRen n)) := by
  intro n
  induction n using Nat.strongRecOn with
  | ind n ih =>
    refine fn_ok F scLawRenamed (fun ds P h => by obtain ⟨_, _, _, rfl, _⟩ := h; rfl) fun cdv A outer s H E hr ds P h => ?_
    obtain ⟨t, ns, g, rfl, hn, ha, p⟩ := h
    have G : ∀ k, k < n → Df Pg w K mg base C (k + 1) "_law_renamed" ["thing", "called"] (wfRen k) := fun k hk => ⟨f, fd, mgf, F.kp, b, ih k hk⟩
    have walk : ∀ (tag : Str) (qs : List (Sum D Thing)), t.enc = .tup (qs.map qE) → qs[0]? = some (.inl (.str tag)) → tag ≠ "box" → (t.ren g).enc = .tup (qs.map (qR g)) → qs.length ≤ 5 → (∀ q ∈ qs, qOk ns n q) →
        WSs C (cxOf CX0 Pg w K mg base nLawRenamed "_law_renamed" (defScope sLawRenamed) f cdv A outer s H E).nox (defBody sLawRenamed) ([t.enc, calD ns g].map Sl.im ++ List.replicate (nLawRenamed.length - [t.enc, calD ns g].length) Sl.no) { nx := fun _ => P .non, rt := P } := by
      intro tag qs he h0 n1 hR hl hq
      rw [he]
      (refine ws_seq ?_; refine ws_if ?_; refine wt_eqc ?_; refine w_ixN (w_var 0 rfl ⟨_, rfl, ?_⟩); refine w_int ?_; refine Exists.intro _ (And.intro rfl ?_))
      refine ⟨.str tag, atI_nat (j := 0) (by rw [List.getElem?_map, h0]; rfl), ?_⟩
      (refine w_str ?_; refine And.intro rfl ?_)
      refine if_f (by simp [sEq, n1]) ?_
      (refine ws_nil ?_; refine ws_seq ?_; refine ws_ret ?_)
      refine w_tuple B.tuple bt_tuple (WN.w (wn_lc (own := [("part", 2)]) (ts := [2]) rfl scLawRenamed.nd (blkOk_by (N := nLawRenamed) (sc := defScope sLawRenamed) (by decide +kernel)) (by decide) (wi_tup ?_)))
      (refine w_var 0 rfl ?_; refine Exists.intro _ (And.intro rfl ?_))
      refine ⟨fun i acc => acc = (qs.take i).map (qR g), rfl, fun i d acc hd hacc => ?_, fun acc hacc => ?_⟩
      · obtain ⟨q, hqi, rfl⟩ := get_map hd
        have hil : i < qs.length := (List.getElem?_eq_some_iff.mp hqi).1
        have hqo := hq q (List.mem_of_getElem? hqi)
        have fin : (qs.take i).map (qR g) ++ [qR g q] = (qs.take (i + 1)).map (qR g) := by rw [List.take_add_one, hqi, List.map_append]; rfl
        have hsz : ((qs.take i).map (qR g)).length < sizeLine := szt (by simp; omega)
        subst hacc
        intro _ _ _ _ _
        refine wg_name 2 scLawRenamed.nd ?_
        intro _ _ _ _ _
        refine wts_nil (if_t rfl ?_)
        intro _ _ _ _ _
        cases q with
        | inl d =>
          (refine w_ifExp ?_)
          refine wt_val (w_isTup B.isi B.tuple bt_isi bt_tuple ?_)
          (refine w_var 2 rfl ?_)
          refine ⟨hqo.1, _, rfl, if_f hqo.2 ?_⟩
          (refine w_var 2 rfl ?_)
          exact ⟨hsz, fin⟩
        | inr t' =>
          (refine w_ifExp ?_)
          refine wt_val (w_isTup B.isi B.tuple bt_isi bt_tuple ?_)
          (refine w_var 2 rfl ?_)
          refine ⟨t'.enc_tup.2, _, rfl, if_t t'.enc_tup.1 ?_⟩
          skip
          have hlt : n - 1 < n := by have := hqo.1; omega
          refine w_call (G (n - 1) hlt) hr ?_ (by have := hqo.1; omega)
          (refine wa_cons ?_; refine w_var 2 rfl ?_; refine wa_cons ?_; refine w_var 1 rfl ?_; refine wa_nil ?_)
          exact ⟨t', ns, g, rfl, by have := hqo.1; omega, hqo.2, hsz, fin⟩
      · subst hacc
        rw [List.length_map, List.take_length]
        refine ⟨_, rfl, ?_⟩
        rw [hR] at p
        exact p
    cases t with
    | su s =>
      cases s with
      | num i => exact walk "number" [.inl (.str "number"), .inl (.int i)] rfl rfl (by decide +kernel) rfl (by simp) (by simp [qOk, isData, isTup])
      | plus x y =>
        have hd : max x.dep y.dep + 1 ≤ n := hn
        exact walk "plus" [.inl (.str "plus"), .inr (.su x), .inr (.su y)] rfl rfl (by decide +kernel) rfl (by simp) (by
          simp only [List.mem_cons, List.not_mem_nil, or_false]
          rintro q (rfl | rfl | rfl)
          · exact ⟨rfl, rfl⟩
          · exact ⟨by show x.dep + 1 ≤ n; omega, ha.1⟩
          · exact ⟨by show y.dep + 1 ≤ n; omega, ha.2⟩)
      | less x y =>
        have hd : max x.dep y.dep + 1 ≤ n := hn
        exact walk "less" [.inl (.str "less"), .inr (.su x), .inr (.su y)] rfl rfl (by decide +kernel) rfl (by simp) (by
          simp only [List.mem_cons, List.not_mem_nil, or_false]
          rintro q (rfl | rfl | rfl)
          · exact ⟨rfl, rfl⟩
          · exact ⟨by show x.dep + 1 ≤ n; omega, ha.1⟩
          · exact ⟨by show y.dep + 1 ≤ n; omega, ha.2⟩)
      | leaf tg x =>
        obtain ⟨rfl, hx⟩ := ha
        (refine ws_seq ?_; refine ws_if ?_; refine wt_eqc ?_; refine w_ixN (w_var 0 rfl ⟨_, rfl, ?_⟩); refine w_int ?_; refine Exists.intro _ (And.intro rfl ?_); refine Exists.intro _ (And.intro rfl ?_); refine w_str ?_; refine And.intro rfl ?_; refine ws_seq ?_; refine ws_ret ?_; refine w_tup ?_; refine wa_cons ?_; refine w_str ?_; refine wa_cons ?_)
        refine w_dgetK (hu_of hr) ?_
        (refine w_var 1 rfl ?_)
        refine ⟨_, _, rfl, ?_⟩
        (refine w_ixN (w_var 0 rfl ⟨_, rfl, ?_⟩); refine w_int ?_; refine Exists.intro _ (And.intro rfl ?_); refine Exists.intro _ (And.intro rfl ?_))
        refine ⟨.inr x, _, rfl, look_cal hx, ?_⟩
        (refine wa_nil ?_; refine And.intro (sz rfl) ?_)
        exact p
    | co c =>
      cases c with
      | yes => exact walk "yes" [.inl (.str "yes")] rfl rfl (by decide +kernel) rfl (by decide) (by simp [qOk, isData, isTup])
      | no x =>
        have hd : x.dep + 1 ≤ n := hn
        exact walk "not" [.inl (.str "not"), .inr (.co x)] rfl rfl (by decide +kernel) rfl (by simp) (by
          simp only [List.mem_cons, List.not_mem_nil, or_false]
          rintro q (rfl | rfl)
          · exact ⟨rfl, rfl⟩
          · exact ⟨hd, ha⟩)
      | both x y =>
        have hd : max x.dep y.dep + 1 ≤ n := hn
        exact walk "both" [.inl (.str "both"), .inr (.co x), .inr (.co y)] rfl rfl (by decide +kernel) rfl (by simp) (by
          simp only [List.mem_cons, List.not_mem_nil, or_false]
          rintro q (rfl | rfl | rfl)
          · exact ⟨rfl, rfl⟩
          · exact ⟨by show x.dep + 1 ≤ n; omega, ha.1⟩
          · exact ⟨by show y.dep + 1 ≤ n; omega, ha.2⟩)
      | same x y =>
        have hd : max x.dep y.dep + 1 ≤ n := hn
        exact walk "same" [.inl (.str "same"), .inr (.su x), .inr (.su y)] rfl rfl (by decide +kernel) rfl (by simp) (by
          simp only [List.mem_cons, List.not_mem_nil, or_false]
          rintro q (rfl | rfl | rfl)
          · exact ⟨rfl, rfl⟩
          · exact ⟨by show x.dep + 1 ≤ n; omega, ha.1⟩
          · exact ⟨by show y.dep + 1 ≤ n; omega, ha.2⟩)
      | under x y =>
        have hd : max x.dep y.dep + 1 ≤ n := hn
        exact walk "under" [.inl (.str "under"), .inr (.su x), .inr (.su y)] rfl rfl (by decide +kernel) rfl (by simp) (by
          simp only [List.mem_cons, List.not_mem_nil, or_false]
          rintro q (rfl | rfl | rfl)
          · exact ⟨rfl, rfl⟩
          · exact ⟨by show x.dep + 1 ≤ n; omega, ha.1⟩
          · exact ⟨by show y.dep + 1 ≤ n; omega, ha.2⟩)
end
end TW
set_option Elab.async false
set_option linter.all false
set_option maxRecDepth 100000
set_option maxHeartbeats 4000000
namespace TW
open PySem L2 PyProof.Rows
theorem SumT.ren_dep (f : Str → Str) : ∀ s : SumT, (s.ren f).dep = s.dep
  | .num _ => rfl
  | .leaf _ _ => rfl
  | .plus a b => by simp only [SumT.ren, SumT.dep, SumT.ren_dep f a, SumT.ren_dep f b]
  | .less a b => by simp only [SumT.ren, SumT.dep, SumT.ren_dep f a, SumT.ren_dep f b]
theorem CndT.ren_dep (f : Str → Str) : ∀ s : CndT, (s.ren f).dep = s.dep
  | .yes => rfl
  | .no c => by simp only [CndT.ren, CndT.dep, CndT.ren_dep f c]
  | .both a b => by simp only [CndT.ren, CndT.dep, CndT.ren_dep f a, CndT.ren_dep f b]
  | .same a b => by simp only [CndT.ren, CndT.dep, SumT.ren_dep f a, SumT.ren_dep f b]
  | .under a b => by simp only [CndT.ren, CndT.dep, SumT.ren_dep f a, SumT.ren_dep f b]
theorem isB_ren {ns : List Str} {f : Str → Str} {t x : Str} (h : isB ns t x) : isB (ns.map f) t (f x) := ⟨h.1, List.mem_map_of_mem h.2⟩
theorem SumT.ren_all {ns : List Str} (f : Str → Str) : ∀ {s : SumT}, s.all (isB ns) → (s.ren f).all (isB (ns.map f))
  | .num _, _ => trivial
  | .leaf _ _, h => isB_ren h
  | .plus a b, h => ⟨SumT.ren_all f h.1, SumT.ren_all f h.2⟩
  | .less a b, h => ⟨SumT.ren_all f h.1, SumT.ren_all f h.2⟩
theorem CndT.ren_all {ns : List Str} (f : Str → Str) : ∀ {s : CndT}, s.all (isB ns) → (s.ren f).all (isB (ns.map f))
  | .yes, _ => trivial
  | .no c, h => CndT.ren_all (s := c) f h
  | .both a b, h => ⟨CndT.ren_all f h.1, CndT.ren_all f h.2⟩
  | .same a b, h => ⟨SumT.ren_all f h.1, SumT.ren_all f h.2⟩
  | .under a b, h => ⟨SumT.ren_all f h.1, SumT.ren_all f h.2⟩
section
variable {Pg : Program} {w : World} {K : PySem.W.Frag} {mg : Str → Option Value} {base : Heap} {C : Addr}
def wfNodeAs : List D → (D → Prop) → Prop := fun ds P => ∃ (n : NdT) (ns : List Str) (g : Str → Str) (pls : List Nat) (m2 : Nat), ds = [n.enc, calD ns g, encN pls] ∧ n.ok ns pls.length ∧ (∀ x ∈ pls, x < m2) ∧ ∀ n' : NdT, n'.ok (ns.map g) m2 → P n'.enc
theorem ok_nodeas (Gr : Df Pg w K mg base C 9 "_law_renamed" ["thing", "called"] (wfRen 8)) {f : Addr} {fd : FuncData} (F : Fun K "_law_node_as" "_law_node_as" sLawNodeAs f fd) : FnOk Pg w K mg base CX0 10 f fd ["node", "called", "places"] (spD K C wfNodeAs) := by
  refine fn_ok F scLawNodeAs (fun ds P h => by obtain ⟨_, _, _, _, _, rfl, _⟩ := h; rfl) fun cdv A outer s H E hr ds P h => ?_
  obtain ⟨n, ns, g, pls, m2, rfl, hn, hp, pp⟩ := h
  have pick : ∀ k, k < pls.length → ∃ z, atI (pls.map fun n : Nat => D.int n) (k : Int) = some (.int (z : Nat)) ∧ z < m2 := fun k hk => ⟨pls[k], atI_nat (by rw [List.getElem?_map, List.getElem?_eq_getElem hk]; rfl), hp _ (List.getElem_mem hk)⟩
  cases n with
  | fin =>
    (refine ws_seq ?_; refine ws_if ?_; refine wt_eqc ?_; refine w_ixN (w_var 0 rfl ⟨_, rfl, ?_⟩); refine w_int ?_; refine Exists.intro _ (And.intro rfl ?_); refine Exists.intro _ (And.intro rfl ?_); refine w_str ?_; refine And.intro rfl ?_; refine ws_nil ?_; refine ws_seq ?_; refine ws_if ?_; refine wt_eqc ?_; refine w_ixN (w_var 0 rfl ⟨_, rfl, ?_⟩); refine w_int ?_; refine Exists.intro _ (And.intro rfl ?_); refine Exists.intro _ (And.intro rfl ?_); refine w_str ?_; refine And.intro rfl ?_; refine ws_nil ?_; refine ws_seq ?_; refine ws_if ?_; refine wt_eqc ?_; refine w_ixN (w_var 0 rfl ⟨_, rfl, ?_⟩); refine w_int ?_; refine Exists.intro _ (And.intro rfl ?_); refine Exists.intro _ (And.intro rfl ?_); refine w_str ?_; refine And.intro rfl ?_; refine ws_nil ?_; refine ws_seq ?_; refine ws_ret ?_; refine w_var 0 rfl ?_)
    exact pp .fin trivial
  | say t k =>
    obtain ⟨h1, h2, h3⟩ := hn
    skip
    (refine ws_seq ?_; refine ws_if ?_; refine wt_eqc ?_; refine w_ixN (w_var 0 rfl ⟨_, rfl, ?_⟩); refine w_int ?_; refine Exists.intro _ (And.intro rfl ?_); refine Exists.intro _ (And.intro rfl ?_); refine w_str ?_; refine And.intro rfl ?_; refine ws_nil ?_; refine ws_seq ?_; refine ws_if ?_; refine wt_eqc ?_; refine w_ixN (w_var 0 rfl ⟨_, rfl, ?_⟩); refine w_int ?_; refine Exists.intro _ (And.intro rfl ?_); refine Exists.intro _ (And.intro rfl ?_); refine w_str ?_; refine And.intro rfl ?_; refine ws_seq ?_; refine ws_ret ?_; refine w_tup ?_; refine wa_cons ?_; refine w_str ?_; refine wa_cons ?_)
    refine w_call Gr hr ?_
    (refine wa_cons ?_; refine w_ixN (w_var 0 rfl ⟨_, rfl, ?_⟩); refine w_int ?_; refine Exists.intro _ (And.intro rfl ?_); refine Exists.intro _ (And.intro rfl ?_); refine wa_cons ?_; refine w_var 1 rfl ?_; refine wa_nil ?_)
    refine ⟨.su t, ns, g, rfl, h2, h1, ?_⟩
    obtain ⟨z, hz, hz2⟩ := pick k h3
    (refine wa_cons ?_; refine w_ixN (w_var 2 rfl ⟨_, rfl, ?_⟩); refine w_ixN (w_var 0 rfl ⟨_, rfl, ?_⟩); refine w_int ?_; refine Exists.intro _ (And.intro rfl ?_); refine Exists.intro _ (And.intro rfl ?_); refine Exists.intro _ (And.intro rfl ?_))
    refine ⟨_, hz, ?_⟩
    (refine wa_nil ?_; refine And.intro (sz rfl) ?_)
    exact pp (.say (t.ren g) z) ⟨SumT.ren_all g h1, by rw [SumT.ren_dep]; exact h2, hz2⟩
  | put x t k =>
    obtain ⟨h0, h1, h2, h3⟩ := hn
    (refine ws_seq ?_; refine ws_if ?_; refine wt_eqc ?_; refine w_ixN (w_var 0 rfl ⟨_, rfl, ?_⟩); refine w_int ?_; refine Exists.intro _ (And.intro rfl ?_); refine Exists.intro _ (And.intro rfl ?_); refine w_str ?_; refine And.intro rfl ?_; refine ws_seq ?_; refine ws_ret ?_; refine w_tup ?_; refine wa_cons ?_; refine w_str ?_; refine wa_cons ?_)
    refine w_dgetK (hu_of hr) ?_
    (refine w_var 1 rfl ?_)
    refine ⟨_, _, rfl, ?_⟩
    (refine w_ixN (w_var 0 rfl ⟨_, rfl, ?_⟩); refine w_int ?_; refine Exists.intro _ (And.intro rfl ?_); refine Exists.intro _ (And.intro rfl ?_))
    refine ⟨.inr x, _, rfl, look_cal h0, ?_⟩
    (refine wa_cons ?_)
    refine w_call Gr hr ?_
    (refine wa_cons ?_; refine w_ixN (w_var 0 rfl ⟨_, rfl, ?_⟩); refine w_int ?_; refine Exists.intro _ (And.intro rfl ?_); refine Exists.intro _ (And.intro rfl ?_); refine wa_cons ?_; refine w_var 1 rfl ?_; refine wa_nil ?_)
    refine ⟨.su t, ns, g, rfl, h2, h1, ?_⟩
    obtain ⟨z, hz, hz2⟩ := pick k h3
    (refine wa_cons ?_; refine w_ixN (w_var 2 rfl ⟨_, rfl, ?_⟩); refine w_ixN (w_var 0 rfl ⟨_, rfl, ?_⟩); refine w_int ?_; refine Exists.intro _ (And.intro rfl ?_); refine Exists.intro _ (And.intro rfl ?_); refine Exists.intro _ (And.intro rfl ?_))
    refine ⟨_, hz, ?_⟩
    (refine wa_nil ?_; refine And.intro (sz rfl) ?_)
    exact pp (.put (g x) (t.ren g) z) ⟨List.mem_map_of_mem h0, SumT.ren_all g h1, by rw [SumT.ren_dep]; exact h2, hz2⟩
  | test t k l =>
    obtain ⟨h1, h2, h3, h4⟩ := hn
    (refine ws_seq ?_; refine ws_if ?_; refine wt_eqc ?_; refine w_ixN (w_var 0 rfl ⟨_, rfl, ?_⟩); refine w_int ?_; refine Exists.intro _ (And.intro rfl ?_); refine Exists.intro _ (And.intro rfl ?_); refine w_str ?_; refine And.intro rfl ?_; refine ws_nil ?_; refine ws_seq ?_; refine ws_if ?_; refine wt_eqc ?_; refine w_ixN (w_var 0 rfl ⟨_, rfl, ?_⟩); refine w_int ?_; refine Exists.intro _ (And.intro rfl ?_); refine Exists.intro _ (And.intro rfl ?_); refine w_str ?_; refine And.intro rfl ?_; refine ws_nil ?_; refine ws_seq ?_; refine ws_if ?_; refine wt_eqc ?_; refine w_ixN (w_var 0 rfl ⟨_, rfl, ?_⟩); refine w_int ?_; refine Exists.intro _ (And.intro rfl ?_); refine Exists.intro _ (And.intro rfl ?_); refine w_str ?_; refine And.intro rfl ?_; refine ws_seq ?_; refine ws_ret ?_; refine w_tup ?_; refine wa_cons ?_; refine w_str ?_; refine wa_cons ?_)
    refine w_call Gr hr ?_
    (refine wa_cons ?_; refine w_ixN (w_var 0 rfl ⟨_, rfl, ?_⟩); refine w_int ?_; refine Exists.intro _ (And.intro rfl ?_); refine Exists.intro _ (And.intro rfl ?_); refine wa_cons ?_; refine w_var 1 rfl ?_; refine wa_nil ?_)
    refine ⟨.co t, ns, g, rfl, h2, h1, ?_⟩
    obtain ⟨z, hz, hz2⟩ := pick k h3
    (refine wa_cons ?_; refine w_ixN (w_var 2 rfl ⟨_, rfl, ?_⟩); refine w_ixN (w_var 0 rfl ⟨_, rfl, ?_⟩); refine w_int ?_; refine Exists.intro _ (And.intro rfl ?_); refine Exists.intro _ (And.intro rfl ?_); refine Exists.intro _ (And.intro rfl ?_))
    refine ⟨_, hz, ?_⟩
    obtain ⟨y, hy, hy2⟩ := pick l h4
    (refine wa_cons ?_; refine w_ixN (w_var 2 rfl ⟨_, rfl, ?_⟩); refine w_ixN (w_var 0 rfl ⟨_, rfl, ?_⟩); refine w_int ?_; refine Exists.intro _ (And.intro rfl ?_); refine Exists.intro _ (And.intro rfl ?_); refine Exists.intro _ (And.intro rfl ?_))
    refine ⟨_, hy, ?_⟩
    (refine wa_nil ?_; refine And.intro (sz rfl) ?_)
    exact pp (.test (t.ren g) z y) ⟨CndT.ren_all g h1, by rw [CndT.ren_dep]; exact h2, hz2, hy2⟩
def wfSkip : List D → (D → Prop) → Prop := fun ds P => ∃ (bs : List (Str × Nat)) (g : Str → Str) (i : Int) (af m2 : Nat), ds = [bxD bs, calD (bs.map (·.1)) g, .int i, .int af] ∧ bs.length ≤ 2 ∧ (∀ b ∈ bs, PyData.strOk b.1 = true) ∧ af < m2 ∧ ∀ n' : NdT, n'.ok ((bs.map (·.1)).map g) m2 → P n'.enc
theorem ok_skip (B : Bl mg) {f : Addr} {fd : FuncData} (F : Fun K "_law_skip" "_law_skip" sLawSkip f fd) : FnOk Pg w K mg base CX0 1 f fd ["boxes", "called", "number", "after"] (spD K C wfSkip) := by
  refine fn_ok F scLawSkip (fun ds P h => by obtain ⟨_, _, _, _, _, rfl, _⟩ := h; rfl) fun cdv A outer s H E hr ds P h => ?_
  obtain ⟨bs, g, i, af, m2, rfl, hl, hs, hm, pp⟩ := h
  refine ws_seq (ws_if (WT.mono (P := fun b => bs = [] → b = true) ?_ fun b hb => ?_))
  · (refine WW.wt (ww_or ?_))
    refine wt_eqD 2 hr.units ?_
    (refine w_var 0 rfl ?_)
    refine WN.w (wn_lst ?_)
    (refine wa_nil ?_; refine And.intro (sz rfl) ?_)
    refine ⟨by decide, by simp [bxD, PrT.encB, layN]; exact fun a b h => hs (a, b) h, by simp [layN], fun b hb => ?_⟩
    have e : (bxD bs = D.lst []) ↔ bs = [] := by simp [bxD]
    rw [e] at hb
    refine if_2 (fun h _ => rfl) fun h => ?_
    (refine ww_or1 ?_; refine wt_eqc ?_; refine w_mod ?_; refine w_var 2 rfl ?_; refine Exists.intro _ (And.intro rfl ?_); refine w_int ?_; refine Exists.intro _ (And.intro rfl ?_); refine And.intro (by decide +kernel) ?_; refine w_int ?_; refine And.intro rfl ?_)
    intro z
    rw [hb.mpr z] at h
    cases h
  refine if_2 (fun h => ?_) fun h => ?_
  · (refine ws_seq ?_; refine ws_ret ?_; refine w_tup ?_; refine wa_cons ?_; refine w_str ?_; refine wa_cons ?_; refine w_tup ?_; refine wa_cons ?_; refine w_str ?_; refine wa_nil ?_; refine And.intro (sz rfl) ?_; refine wa_cons ?_; refine w_var 3 rfl ?_; refine wa_cons ?_; refine w_mod ?_; refine w_fdiv ?_; refine w_var 2 rfl ?_; refine Exists.intro _ (And.intro rfl ?_); refine w_int ?_; refine Exists.intro _ (And.intro rfl ?_); refine And.intro (And.intro (by decide +kernel) (by decide +kernel)) ?_; refine Exists.intro _ (And.intro rfl ?_); refine w_add ?_; refine w_var 3 rfl ?_; refine Exists.intro _ (And.intro rfl ?_); refine w_int ?_; refine Exists.intro _ (And.intro rfl ?_); refine Exists.intro _ (And.intro rfl ?_))
    refine And.intro (by omega) ?_
    obtain ⟨z, hz, hz2⟩ := md_nat (x := i / 2) (many := af + 1) (by omega)
    have hz' : i / 2 % ((af : Int) + 1) = z := hz
    rw [hz']
    (refine wa_nil ?_; refine And.intro (sz rfl) ?_)
    exact pp (.test .yes af z) ⟨trivial, by decide, hm, by omega⟩
  · have hne : bs ≠ [] := fun z => by rw [hb z] at h; cases h
    (refine ws_nil ?_; refine ws_seq ?_)
    refine ws_set 4 scLawSkip.nd (w_dgetK (hu_of hr) ?_)
    (refine w_var 1 rfl ?_)
    refine ⟨_, _, rfl, ?_⟩
    (refine w_ixS ?_; refine w_ixN (w_var 0 rfl ⟨_, rfl, ?_⟩); refine w_mod ?_; refine w_fdiv ?_; refine w_var 2 rfl ?_; refine Exists.intro _ (And.intro rfl ?_); refine w_int ?_; refine Exists.intro _ (And.intro rfl ?_); refine And.intro (And.intro (by decide +kernel) (by decide +kernel)) ?_; refine Exists.intro _ (And.intro rfl ?_))
    refine w_len B.len ?_
    (refine w_var 0 rfl ?_; refine Exists.intro _ (And.intro rfl ?_); refine Exists.intro _ (And.intro rfl ?_))
    have hpos : 0 < bs.length := List.length_pos_iff.mpr hne
    refine And.intro (by simp; omega) ?_
    obtain ⟨d, hd, hm2⟩ := atI_md (ds := bs.map PrT.encB) (x := i / 2) (by simpa using hne)
    obtain ⟨b, hb, rfl⟩ := List.mem_map.mp hm2
    refine ⟨_, rfl, _, hd, ?_⟩
    have hx : b.1 ∈ bs.map (·.1) := List.mem_map_of_mem hb
    (refine Exists.intro _ (And.intro rfl ?_); refine w_int ?_; refine Exists.intro _ (And.intro rfl ?_); refine Exists.intro _ (And.intro rfl ?_))
    refine ⟨.inr b.1, _, rfl, look_cal hx, ?_⟩
    (refine ws_seq ?_; refine ws_ret ?_; refine w_tup ?_; refine wa_cons ?_; refine w_str ?_; refine wa_cons ?_; refine w_var 4 rfl ?_; refine wa_cons ?_; refine w_tup ?_; refine wa_cons ?_; refine w_str ?_; refine wa_cons ?_; refine w_var 4 rfl ?_; refine wa_nil ?_; refine And.intro (sz rfl) ?_; refine wa_cons ?_; refine w_var 3 rfl ?_; refine wa_nil ?_; refine And.intro (sz rfl) ?_)
    exact pp (.put (g b.1) (.leaf "box" (g b.1)) af) ⟨List.mem_map_of_mem hx, ⟨rfl, List.mem_map_of_mem hx⟩, by simp [SumT.dep], hm⟩
end
end TW
set_option Elab.async false
set_option linter.all false
set_option maxRecDepth 100000
set_option maxHeartbeats 4000000
namespace TW
open PySem L2 PyProof.Rows
def knownN (n1 n2 : List Str) (t x : Str) : Prop := (t = "mine" ∧ x ∈ n1) ∨ (t = "yours" ∧ x ∈ n2)
/-- an entry as the law makes them -/
structure PreE (n1 n2 : List Str) (m1 m2 d : Nat) (e : EntT) : Prop where
  p : e.p < m1
  q : e.q < m2
  c : e.c.all (knownN n1 n2)
  cd : e.c.dep ≤ d
  who : e.who ∈ whoL
  w : e.wait.all (knownN n1 n2)
  wd : e.wait.dep ≤ d
def PrT.resz (p : PrT) (k : Nat) : PrT := ⟨p.boxes.map fun b => (b.1, b.2 + k * if b.1 ∈ p.inputs then 0 else 1), p.inputs, p.nodes⟩
section
variable {Pg : Program} {w : World} {K : PySem.W.Frag} {mg : Str → Option Value} {base : Heap} {C : Addr}
def wfSame : List D → (D → Prop) → Prop := fun ds P => ∃ (bs : List (Str × Nat)) (g : Str → Str), ds = [bxD bs, calD (bs.map (·.1)) g] ∧ bs.length ≤ 2 ∧ ∀ c : CndT, c.dep ≤ 4 → c.all (knownN (bs.map (·.1)) ((bs.map (·.1)).map g)) → P c.enc
theorem ok_same {f : Addr} {fd : FuncData} (F : Fun K "_law_all_same" "_law_all_same" sLawAllSame f fd) : FnOk Pg w K mg base CX0 1 f fd ["boxes", "called"] (spD K C wfSame) := by
  refine fn_ok F scLawAllSame (fun ds P h => by obtain ⟨_, _, rfl, _⟩ := h; rfl) fun cdv A outer s H E hr ds P h => ?_
  obtain ⟨bs, g, rfl, hl, pp⟩ := h
  (refine ws_seq ?_)
  refine ws_set 2 scLawAllSame.nd ?_
  (refine w_tup ?_; refine wa_cons ?_; refine w_str ?_; refine wa_nil ?_; refine And.intro (sz rfl) ?_; refine ws_seq ?_)
  refine ws_for (ts := [3, 4]) PassesOwn.never rfl (wi_list ?_)
  (refine w_var 0 rfl ?_)
  refine ⟨_, .inl rfl, fun i ρ' => ∃ (c : CndT) (a b : Sl), ρ' = [.im (bxD bs), .im (calD (bs.map (·.1)) g), .im c.enc, a, b] ∧ c.dep ≤ i + 1 ∧ c.all (knownN (bs.map (·.1)) ((bs.map (·.1)).map g)), ⟨.yes, _, _, rfl, by simp [CndT.dep], trivial⟩, fun i d ρ' hd hi => ?_, fun ρ' hi => ?_⟩
  · obtain ⟨c, a, b, rfl, hc, ha⟩ := hi
    obtain ⟨bx, hb, rfl⟩ := get_map hd
    have hx : bx.1 ∈ bs.map (·.1) := List.mem_map_of_mem (List.mem_of_getElem? hb)
    refine wg_tup rfl (wgs_cons (wg_name 3 scLawAllSame.nd (wgs_cons (wg_name 4 scLawAllSame.nd (wgs_nil ?_))))) rfl
    (refine ws_seq ?_)
    refine ws_set 2 scLawAllSame.nd ?_
    (refine w_tup ?_; refine wa_cons ?_; refine w_str ?_; refine wa_cons ?_; refine w_tup ?_; refine wa_cons ?_; refine w_str ?_; refine wa_cons ?_; refine w_tup ?_; refine wa_cons ?_; refine w_str ?_; refine wa_cons ?_; refine w_var 3 rfl ?_; refine wa_nil ?_; refine And.intro (sz rfl) ?_; refine wa_cons ?_; refine w_tup ?_; refine wa_cons ?_; refine w_str ?_; refine wa_cons ?_)
    refine w_dgetK (hu_of hr) ?_
    (refine w_var 1 rfl ?_)
    refine ⟨_, _, rfl, ?_⟩
    (refine w_var 3 rfl ?_)
    refine ⟨.inr bx.1, _, rfl, look_cal hx, ?_⟩
    (refine wa_nil ?_; refine And.intro (sz rfl) ?_; refine wa_nil ?_; refine And.intro (sz rfl) ?_; refine wa_cons ?_; refine w_var 2 rfl ?_; refine wa_nil ?_; refine And.intro (sz rfl) ?_; refine ws_nil ?_)
    exact ⟨.both (.same (.leaf "mine" bx.1) (.leaf "yours" (g bx.1))) c, _, _, rfl, by simp [CndT.dep, SumT.dep]; omega, ⟨⟨.inl ⟨rfl, hx⟩, .inr ⟨rfl, List.mem_map_of_mem hx⟩⟩, ha⟩⟩
  · obtain ⟨c, a, b, rfl, hc, ha⟩ := hi
    (refine ws_seq ?_; refine ws_ret ?_; refine w_var 2 rfl ?_)
    rw [List.length_map] at hc
    exact pp c (by omega) ha
def wfBoxesOf : List D → (D → Prop) → Prop := fun ds P => ∃ (p q : PrT), ds = [p.enc, q.enc] ∧ p.boxes.length ≤ 2 ∧ q.boxes.length ≤ 2 ∧ P (.lst ((p.names.map (SumT.leaf "mine") ++ q.names.map (SumT.leaf "yours")).map SumT.enc))
theorem ok_boxesof {f : Addr} {fd : FuncData} (F : Fun K "_law_boxes_of" "_law_boxes_of" sLawBoxesOf f fd) : FnOk Pg w K mg base CX0 1 f fd ["one", "other"] (spD K C wfBoxesOf) := by
  refine fn_ok F scLawBoxesOf (fun ds P h => by obtain ⟨_, _, rfl, _⟩ := h; rfl) fun cdv A outer s H E hr ds P h => ?_
  obtain ⟨p, q, rfl, h1, h2, pp⟩ := h
  (refine ws_seq ?_)
  refine ws_setLc 2 (own := [("name", 3), ("size", 4)]) (ts := [3, 4]) rfl scLawBoxesOf.nd (blkOk_by (N := nLawBoxesOf) (sc := defScope sLawBoxesOf) (by decide +kernel)) (by decide) (wi_list ?_)
  (refine w_ixN (w_var 0 rfl ⟨_, rfl, ?_⟩); refine w_int ?_; refine Exists.intro _ (And.intro rfl ?_); refine Exists.intro _ (And.intro rfl ?_))
  refine ⟨_, .inl rfl, fun i acc => acc = (p.boxes.take i).map fun b => (SumT.leaf "mine" b.1).enc, rfl, fun i d acc hd ha => ?_, fun acc ha => ?_⟩
  · obtain ⟨b, hb, rfl⟩ := get_map hd
    have hil : i < p.boxes.length := (List.getElem?_eq_some_iff.mp hb).1
    subst ha
    intro _ _ _ _ _
    refine wg_tup rfl (wgs_cons (wg_name 3 scLawBoxesOf.nd (wgs_cons (wg_name 4 scLawBoxesOf.nd (wgs_nil ?_))))) rfl
    intro _ _ _ _ _
    refine wts_nil (if_t rfl ?_)
    intro _ _ _ _ _
    (refine w_tup ?_; refine wa_cons ?_; refine w_str ?_; refine wa_cons ?_; refine w_var 3 rfl ?_; refine wa_nil ?_; refine And.intro (sz rfl) ?_)
    refine ⟨szt (by simp; omega), ?_⟩
    show _ = (p.boxes.take (i + 1)).map fun b => (SumT.leaf "mine" b.1).enc
    rw [List.take_add_one, hb, List.map_append]
    rfl
  subst ha
  rw [List.length_map, List.take_length]
  refine wss_frz 2 rfl ?_
  (refine ws_seq ?_; refine ws_ret ?_)
  refine WN.w (wn_cat ?_)
  (refine w_var 2 rfl ?_; refine Exists.intro _ (And.intro rfl ?_))
  refine WN.w (wn_lc (own := [("name", 3), ("size", 4)]) (ts := [3, 4]) rfl scLawBoxesOf.nd (blkOk_by (N := nLawBoxesOf) (sc := defScope sLawBoxesOf) (by decide +kernel)) (by decide) (wi_list ?_))
  (refine w_ixN (w_var 1 rfl ⟨_, rfl, ?_⟩); refine w_int ?_; refine Exists.intro _ (And.intro rfl ?_); refine Exists.intro _ (And.intro rfl ?_))
  refine ⟨_, .inl rfl, fun i acc => acc = (q.boxes.take i).map fun b => (SumT.leaf "yours" b.1).enc, rfl, fun i d acc hd ha => ?_, fun acc ha => ?_⟩
  · obtain ⟨b, hb, rfl⟩ := get_map hd
    have hil : i < q.boxes.length := (List.getElem?_eq_some_iff.mp hb).1
    subst ha
    intro _ _ _ _ _
    refine wg_tup rfl (wgs_cons (wg_name 3 scLawBoxesOf.nd (wgs_cons (wg_name 4 scLawBoxesOf.nd (wgs_nil ?_))))) rfl
    intro _ _ _ _ _
    refine wts_nil (if_t rfl ?_)
    intro _ _ _ _ _
    (refine w_tup ?_; refine wa_cons ?_; refine w_str ?_; refine wa_cons ?_; refine w_var 3 rfl ?_; refine wa_nil ?_; refine And.intro (sz rfl) ?_)
    refine ⟨szt (by simp; omega), ?_⟩
    show _ = (q.boxes.take (i + 1)).map fun b => (SumT.leaf "yours" b.1).enc
    rw [List.take_add_one, hb, List.map_append]
    rfl
  subst ha
  rw [List.length_map, List.take_length]
  refine ⟨_, rfl, szl (by simp; omega), ?_⟩
  have e : (p.boxes.map fun b => (SumT.leaf "mine" b.1).enc) ++ (q.boxes.map fun b => (SumT.leaf "yours" b.1).enc) = (p.names.map (SumT.leaf "mine") ++ q.names.map (SumT.leaf "yours")).map SumT.enc := by
    simp only [PrT.names, List.map_append, List.map_map]
    rfl
  rw [e]
  exact pp
def wfResz : List D → (D → Prop) → Prop := fun ds P => ∃ (p : PrT) (i : Int), ds = [p.enc, .int i] ∧ p.boxes.length ≤ 2 ∧ p.inputs.length ≤ 2 ∧ ∀ k, k ≤ 2 → P (p.resz k).enc
theorem ok_resz (B : Bl mg) {f : Addr} {fd : FuncData} (F : Fun K "_law_resized" "_law_resized" sLawResized f fd) : FnOk Pg w K mg base CX0 1 f fd ["program", "number"] (spD K C wfResz) := by
  refine fn_ok F scLawResized (fun ds P h => by obtain ⟨_, _, rfl, _⟩ := h; rfl) fun cdv A outer s H E hr ds P h => ?_
  obtain ⟨p, i, rfl, h2, h3, pp⟩ := h
  (refine ws_seq ?_)
  refine ws_asg (ts := [2, 3, 4]) ?_
  (refine w_var 0 rfl ?_)
  refine wg_tup rfl (wgs_cons (wg_name 2 scLawResized.nd (wgs_cons (wg_name 3 scLawResized.nd (wgs_cons (wg_name 4 scLawResized.nd (wgs_nil ?_))))))) rfl
  (refine ws_seq ?_; refine ws_ret ?_; refine w_tup ?_; refine wa_cons ?_)
  refine WN.w (wn_lc (own := [("name", 5), ("size", 6)]) (ts := [5, 6]) rfl scLawResized.nd (blkOk_by (N := nLawResized) (sc := defScope sLawResized) (by decide +kernel)) (by decide) (wi_list ?_))
  (refine w_var 2 rfl ?_)
  obtain ⟨k, hk, hk2⟩ := md_nat (x := i) (many := 3) (by decide)
  have hk' : i % 3 = (k : Int) := hk
  refine ⟨_, .inl rfl, fun j acc => acc = (p.boxes.take j).map fun b => PrT.encB (b.1, b.2 + k * if b.1 ∈ p.inputs then 0 else 1), rfl, fun j d acc hd ha => ?_, fun acc ha => ?_⟩
  · obtain ⟨b, hb, rfl⟩ := get_map hd
    have hil : j < p.boxes.length := (List.getElem?_eq_some_iff.mp hb).1
    subst ha
    intro _ _ _ _ _
    refine wg_tup rfl (wgs_cons (wg_name 5 scLawResized.nd (wgs_cons (wg_name 6 scLawResized.nd (wgs_nil ?_))))) rfl
    intro _ _ _ _ _
    refine wts_nil (if_t rfl ?_)
    intro _ _ _ _ _
    (refine w_tup ?_; refine wa_cons ?_; refine w_var 5 rfl ?_; refine wa_cons ?_; refine w_add ?_; refine w_var 6 rfl ?_; refine Exists.intro _ (And.intro rfl ?_); refine w_mul ?_; refine w_mod ?_; refine w_var 1 rfl ?_; refine Exists.intro _ (And.intro rfl ?_); refine w_int ?_; refine Exists.intro _ (And.intro rfl ?_); refine And.intro (by decide +kernel) ?_; refine Exists.intro _ (And.intro rfl ?_))
    refine w_intB B.int ?_
    refine w_niS ?_
    (refine w_var 5 rfl ?_; refine w_var 3 rfl ?_)
    refine ⟨b.1, p.inputs, rfl, rfl, ?_⟩
    (refine Exists.intro _ (And.intro rfl ?_); refine Exists.intro _ (And.intro rfl ?_))
    rw [hk']
    refine ⟨.inl ⟨by omega, by omega⟩, ?_⟩
    (refine Exists.intro _ (And.intro rfl ?_); refine wa_nil ?_; refine And.intro (sz rfl) ?_)
    refine ⟨szt (by simp; omega), ?_⟩
    show _ = (p.boxes.take (j + 1)).map fun b => PrT.encB (b.1, b.2 + k * if b.1 ∈ p.inputs then 0 else 1)
    rw [List.take_add_one, hb, List.map_append]
    have e : (k : Int) * (if (!decide (b.1 ∈ p.inputs)) = true then 1 else 0) = ((k * if b.1 ∈ p.inputs then 0 else 1 : Nat) : Int) := by
      by_cases h : b.1 ∈ p.inputs <;> simp [h]
    rw [e]
    rfl
  subst ha
  rw [List.length_map, List.take_length]
  (refine wa_cons ?_; refine w_var 3 rfl ?_; refine wa_cons ?_; refine w_var 4 rfl ?_; refine wa_nil ?_; refine And.intro (sz rfl) ?_)
  have := pp k (by omega)
  have e : (p.resz k).enc = .tup [.lst (p.boxes.map fun b => PrT.encB (b.1, b.2 + k * if b.1 ∈ p.inputs then 0 else 1)), .lst (p.inputs.map D.str), .lst (p.nodes.map NdT.enc)] := by
    unfold PrT.resz PrT.enc
    rw [List.map_map]
    rfl
  rw [e] at this
  exact this
def wfGood : List D → (D → Prop) → Prop := fun ds P => ∃ (p : PrT) (g : Str → Str) (pls bhs : List Nat) (m2 : Nat), ds = [p.enc, calD p.names g, encN pls, encN bhs] ∧ p.boxes.length ≤ 2 ∧ p.nodes.length ≤ 4 ∧ pls.length = p.nodes.length ∧ bhs.length = p.nodes.length ∧ (∀ x ∈ pls, x < m2) ∧ (∀ x ∈ bhs, x < m2) ∧
  ∀ es : List EntT, es.length ≤ 8 → (∀ e ∈ es, PreE p.names (p.names.map g) p.nodes.length m2 4 e) → P (encE es)
theorem ok_good (B : Bl mg) (Gs : Df Pg w K mg base C 1 "_law_all_same" ["boxes", "called"] wfSame) {f : Addr} {fd : FuncData} (F : Fun K "_law_good_paper" "_law_good_paper" sLawGoodPaper f fd) : FnOk Pg w K mg base CX0 2 f fd ["program", "called", "places", "behind"] (spD K C wfGood) := by
  refine fn_ok F scLawGoodPaper (fun ds P h => by obtain ⟨_, _, _, _, _, rfl, _⟩ := h; rfl) fun cdv A outer s H E hr ds P h => ?_
  obtain ⟨p, g, pls, bhs, m2, rfl, hb2, hn4, hpl, hbl, hp, hbh, pp⟩ := h
  (refine ws_seq ?_)
  refine ws_set 4 scLawGoodPaper.nd (w_call Gs hr ?_)
  (refine wa_cons ?_; refine w_ixN (w_var 0 rfl ⟨_, rfl, ?_⟩); refine w_int ?_; refine Exists.intro _ (And.intro rfl ?_); refine Exists.intro _ (And.intro rfl ?_); refine wa_cons ?_; refine w_var 1 rfl ?_; refine wa_nil ?_)
  refine ⟨p.boxes, g, rfl, hb2, fun c hc ha => ?_⟩
  (refine ws_seq ?_)
  refine ws_own 5 scLawGoodPaper.nd (wn_lst ?_)
  (refine wa_nil ?_; refine And.intro (sz rfl) ?_; refine ws_seq ?_)
  refine ws_for (ts := [6]) PassesOwn.never rfl (wi_range1 B.range ?_)
  refine w_len B.len ?_
  (refine w_var 2 rfl ?_; refine Exists.intro _ (And.intro rfl ?_); refine Exists.intro _ (And.intro rfl ?_))
  refine ⟨by simp, by simp; omega, fun i ρ' => ∃ (es : List EntT) (a b : Sl), ρ' = [.im p.enc, .im (calD p.names g), .im (encN pls), .im (encN bhs), .im c.enc, .ow (encE es), a, b] ∧ es.length ≤ 2 * i ∧ ∀ e ∈ es, PreE p.names (p.names.map g) p.nodes.length m2 4 e, ⟨[], _, _, rfl, by simp, by simp⟩, fun i d ρ' hd hi => ?_, fun ρ' hi => ?_⟩
  · obtain ⟨es, a, b, rfl, hl, he⟩ := hi
    obtain ⟨z, hz, rfl⟩ := get_map hd
    obtain ⟨hk, rfl⟩ := get_range hz
    have hz4 : z < p.nodes.length := by rw [← hpl]; simpa using hk
    obtain ⟨n, r, hn, henc, _⟩ := node_tag hz4
    have pick : ∀ (ls : List Nat), ls.length = p.nodes.length → (∀ x ∈ ls, x < m2) → ∃ y, atI (ls.map fun n : Nat => D.int n) (z : Int) = some (.int (y : Nat)) ∧ y < m2 := fun ls h1 h2 => ⟨ls[z]'(by omega), atI_nat (by rw [List.getElem?_map, List.getElem?_eq_getElem (by omega)]; rfl), h2 _ (List.getElem_mem _)⟩
    obtain ⟨y, hy, hy2⟩ := pick pls hpl hp
    obtain ⟨v, hv, hv2⟩ := pick bhs hbl hbh
    refine wg_name 6 scLawGoodPaper.nd ?_
    (refine ws_seq ?_)
    refine ws_set 7 scLawGoodPaper.nd ?_
    (refine w_ixD ?_; refine WN.w (wn_lst ?_); refine wa_cons ?_; refine w_str ?_; refine wa_cons ?_; refine w_str ?_; refine wa_nil ?_; refine And.intro (sz rfl) ?_; refine Exists.intro _ (And.intro rfl ?_))
    refine w_intB B.int ?_
    (refine w_eqc ?_; refine w_ixS ?_; refine w_ixS ?_; refine w_ixN (w_var 0 rfl ⟨_, rfl, ?_⟩); refine w_int ?_; refine Exists.intro _ (And.intro rfl ?_); refine Exists.intro _ (And.intro rfl ?_); refine Exists.intro _ (And.intro rfl ?_); refine w_var 6 rfl ?_; refine Exists.intro _ (And.intro rfl ?_))
    refine ⟨n.enc, atI_nat (by rw [List.getElem?_map, hn]; rfl), ?_⟩
    rw [henc]
    (refine Exists.intro _ (And.intro rfl ?_); refine w_int ?_; refine Exists.intro _ (And.intro rfl ?_); refine Exists.intro _ (And.intro (atI_nat (j := 0) rfl) ?_); refine w_str ?_; refine And.intro rfl ?_; refine Exists.intro _ (And.intro rfl ?_); refine Exists.intro _ (And.intro rfl ?_))
    obtain ⟨who, hw, hwm⟩ : ∃ who : Str, atI [D.str "both", .str "end"] (if sEq (.str n.tag) (.str "end") = true then 1 else 0) = some (.str who) ∧ who ∈ whoL := by
      cases sEq (.str n.tag) (.str "end") with
      | true => exact ⟨"end", rfl, by decide +kernel⟩
      | false => exact ⟨"both", rfl, by decide +kernel⟩
    refine ⟨_, hw, ?_⟩
    clear hw
    (refine ws_seq ?_)
    refine ws_append 5 rfl ?_
    (refine w_tup ?_; refine wa_cons ?_; refine w_var 6 rfl ?_; refine wa_cons ?_; refine w_ixN (w_var 2 rfl ⟨_, rfl, ?_⟩); refine w_var 6 rfl ?_; refine Exists.intro _ (And.intro rfl ?_))
    refine ⟨_, hy, ?_⟩
    (refine wa_cons ?_; refine w_var 4 rfl ?_; refine wa_cons ?_; refine w_var 7 rfl ?_; refine wa_cons ?_; refine w_tup ?_; refine wa_cons ?_; refine w_str ?_; refine wa_cons ?_; refine w_int ?_; refine wa_nil ?_; refine And.intro (sz rfl) ?_; refine wa_nil ?_; refine And.intro (sz rfl) ?_)
    refine ⟨szt (by simp; omega), ?_⟩
    have e1 : PreE p.names (p.names.map g) p.nodes.length m2 4 ⟨z, y, c, who, .num 0⟩ := ⟨hz4, hy2, ha, hc, hwm, trivial, by simp [SumT.dep]⟩
    have e2 : PreE p.names (p.names.map g) p.nodes.length m2 4 ⟨z, v, c, "yours", .num 1⟩ := ⟨hz4, hv2, ha, hc, (show ("yours" : Str) ∈ whoL by decide +kernel), trivial, by simp [SumT.dep]⟩
    have he1 : ∀ e ∈ es ++ [⟨z, y, c, who, .num 0⟩], PreE p.names (p.names.map g) p.nodes.length m2 4 e := fun e h => by
      rcases List.mem_append.mp h with h | h
      · exact he e h
      · simp at h; subst h; exact e1
    (refine ws_seq ?_; refine ws_if ?_)
    refine wt_ne ?_
    (refine w_ixN (w_var 3 rfl ⟨_, rfl, ?_⟩); refine w_var 6 rfl ?_; refine Exists.intro _ (And.intro rfl ?_))
    refine ⟨_, hv, ?_⟩
    (refine w_ixN (w_var 2 rfl ⟨_, rfl, ?_⟩); refine w_var 6 rfl ?_; refine Exists.intro _ (And.intro rfl ?_))
    refine ⟨_, hy, ?_⟩
    refine ⟨rfl, if_2 (fun _ => ?_) fun _ => ?_⟩
    · (refine ws_seq ?_)
      refine ws_append 5 rfl ?_
      (refine w_tup ?_; refine wa_cons ?_; refine w_var 6 rfl ?_; refine wa_cons ?_; refine w_ixN (w_var 3 rfl ⟨_, rfl, ?_⟩); refine w_var 6 rfl ?_; refine Exists.intro _ (And.intro rfl ?_))
      refine ⟨_, hv, ?_⟩
      (refine wa_cons ?_; refine w_var 4 rfl ?_; refine wa_cons ?_; refine w_str ?_; refine wa_cons ?_; refine w_tup ?_; refine wa_cons ?_; refine w_str ?_; refine wa_cons ?_; refine w_int ?_; refine wa_nil ?_; refine And.intro (sz rfl) ?_; refine wa_nil ?_; refine And.intro (sz rfl) ?_)
      refine ⟨szt (by simp; omega), ws_nil (ws_nil ⟨es ++ [⟨z, y, c, who, .num 0⟩] ++ [⟨z, v, c, "yours", .num 1⟩], .im (.int z), .im (.str who), ?_, by simp; omega, fun e h => ?_⟩)⟩
      · simp [encE, EntT.enc, SumT.enc]
      · rcases List.mem_append.mp h with h | h
        · exact he1 e h
        · simp at h; subst h; exact e2
    · refine ws_nil (ws_nil ⟨es ++ [⟨z, y, c, who, .num 0⟩], .im (.int z), .im (.str who), ?_, by simp; omega, he1⟩)
      simp [encE, EntT.enc, SumT.enc]
  · obtain ⟨es, a, b, rfl, hl, he⟩ := hi
    refine wss_frz 5 rfl ?_
    (refine ws_seq ?_; refine ws_ret ?_; refine w_var 5 rfl ?_)
    refine pp es ?_ he
    simp at hl
    omega
end
end TW
set_option Elab.async false
set_option linter.all false
set_option maxRecDepth 100000
set_option maxHeartbeats 40000000
namespace TW
open PySem L2 PyProof.Rows
section
variable {C : Addr} {X : Cx} {ρ : List Sl} {a b : Expr} {p pos : Pos} {P : D → Prop}
theorem w_max (hc : X.calm = true) (hm : X.mg "max" = none) (hb : bootBuiltins "max" = some (.builtin "max")) (h : W C X a ρ fun x => IntsTo C X b ρ x fun i j => P (.int (if j > i then j else i)))
    (hg : Gl X "max" := by rfl) (hs : starEach [a, b] X.env = (false, eval a X.env) :: starEach [b] X.env := by rfl) (hs2 : starEach [b] X.env = (false, eval b X.env) :: starEach [] X.env := by rfl) (hpl : (backTo pos (starEach [b] X.env)).any (·.1) = false := by rfl) : W C X (.Call (.Name "max" p) [a, b] [] pos) ρ P :=
  w_blt (call_max2 hc) hm hb (wa_cons (h.mono fun x ⟨i, hx, h2⟩ => wa_cons (h2.mono fun y ⟨j, hy, p⟩ => wa_nil fun Hb H vs Q s hvs k => by
    obtain ⟨v, v', rfl, h1, h3⟩ := two_da hvs
    subst hx hy
    cases h1
    cases h3
    exact ⟨i, j, rfl, k _ Hb H _ (Grow.refl _ _) s (.int _) p⟩) hs2) hs) hg (by decide) (by decide) hs hpl
end
theorem cut_mapTo (f : EntT → D) (es : List EntT) (n : Nat) (h : n ≤ es.length) : cutD (es.map f) none (some (n : Int)) = (es.take n).map f := by
  rw [cut_to _ _ (by simpa using h), List.map_take]
theorem cut_mapFrom (f : EntT → D) (es : List EntT) (n : Nat) : cutD (es.map f) (some (n : Int)) none = (es.drop n).map f := by
  rw [cut_from, List.map_drop]
theorem PreE.up {n1 n2 : List Str} {m1 m2 d d' : Nat} {e : EntT} (h : PreE n1 n2 m1 m2 d e) (l : d ≤ d') : PreE n1 n2 m1 m2 d' e := ⟨h.p, h.q, h.c, Nat.le_trans h.cd l, h.who, h.w, Nat.le_trans h.wd l⟩
theorem wo_some {C : Addr} {X : Cx} {ρ : List Sl} {e : Expr} {P : Option Int → Prop} (h : W C X e ρ fun d => ∃ i, d = .int i ∧ P (some i)) : Wo C X (some e) ρ P := h
section
variable {C : Addr} {X : Cx} {ρ : List Sl} {a b : Expr} {pos p2 p3 p4 : Pos} {P : D → Prop} {es : List EntT} {n : Nat} {k : Nat}
theorem w_upto (hl : n ≤ es.length) (h : W C X a ρ fun x => x = encE es ∧ W C X b ρ fun y => y = .int n ∧ P (encE (es.take n))) : WN C X (.Subscript a (.Slice none (some b) none p2) pos) ρ P :=
  wn_slice (h.mono fun x ⟨hx, h2⟩ => ⟨es.map EntT.enc, by rw [hx]; rfl, wo_none (wo_some (h2.mono fun y ⟨hy, p⟩ => ⟨_, hy, by rw [show cutD (es.map EntT.enc) none (some (n : Int)) = (es.take n).map EntT.enc from cut_mapTo _ _ _ hl]; exact p⟩))⟩)
theorem w_from (h : W C X a ρ fun x => x = encE es ∧ W C X b ρ fun y => y = .int n ∧ P (encE (es.drop n))) : WN C X (.Subscript a (.Slice (some b) none none p2) pos) ρ P :=
  wn_slice (h.mono fun x ⟨hx, h2⟩ => ⟨es.map EntT.enc, by rw [hx]; rfl, wo_some (h2.mono fun y ⟨hy, p⟩ => ⟨_, hy, wo_none (by rw [show cutD (es.map EntT.enc) (some (n : Int)) none = (es.drop n).map EntT.enc from cut_mapFrom _ _ _]; exact p)⟩)⟩)
theorem w_from1 (h : W C X a ρ fun x => x = encE es ∧ W C X b ρ fun y => y = .int n ∧ P (encE (es.drop (n + 1)))) : WN C X (.Subscript a (.Slice (some (.BinOp b .Add (.Constant (.int 1) k p4) p3)) none none p2) pos) ρ P :=
  w_from (h.mono fun x ⟨hx, h2⟩ => ⟨hx, w_add (h2.mono fun y ⟨hy, p⟩ => ⟨_, hy, w_int ⟨_, rfl, by exact_mod_cast rfl, p⟩⟩)⟩)
end
section
variable {Pg : Program} {w : World} {K : PySem.W.Frag} {mg : Str → Option Value} {base : Heap} {C : Addr}
def wfSpoilt : List D → (D → Prop) → Prop := fun ds P => ∃ (es : List EntT) (r0 r1 r2 r3 r4 : Int) (ls : List SumT) (n1 n2 : List Str) (m1 m2 d : Nat), ds = [encE es, encW [r0, r1, r2, r3, r4], .lst (ls.map SumT.enc)] ∧ es ≠ [] ∧ es.length ≤ 20 ∧ ls.length ≤ 4 ∧ (∀ s ∈ ls, s.dep = 0 ∧ s.all (knownN n1 n2)) ∧ 1 ≤ d ∧ (∀ e ∈ es, PreE n1 n2 m1 m2 d e) ∧
  ∀ es' : List EntT, es'.length ≤ es.length + 1 → (∀ e ∈ es', PreE n1 n2 m1 m2 (d + 1) e) → P (encE es')
theorem wss_cast {C : Addr} {X : Cx} {sts : List Stmt} {ρ : List Sl} {O : EndD} (ρ' : List Sl) (h : ρ = ρ') (k : WSs C X sts ρ' O) : WSs C X sts ρ O := h ▸ k
abbrev spRho (es : List EntT) (r0 r1 r2 r3 r4 : Int) (ls : List SumT) (at' : Nat) (e : EntT) (ss : List SumT) (s t : SumT) (wd : CndT) (way : Int) (x : Sl) : List Sl :=
  [.im (encE es), .im (encW [r0, r1, r2, r3, r4]), .im (.lst (ls.map SumT.enc)), .im (.int at'), .im (.int e.p), .im (.int e.q), .im e.c.enc, .im (.str e.who), .im e.wait.enc, .im (.lst (ss.map SumT.enc)), .im s.enc, .im t.enc, .im wd.enc, .im (.int way), x]
theorem spoilt_fin (B : Bl mg) {f : Addr} {cdv : Value} {A : Around} {outer : List Env} {sh : Shared} {H : Hp} {E : XK} {P : D → Prop} {es : List EntT} {r0 r1 r2 r3 r4 : Int} {ls : List SumT} {n1 n2 : List Str} {m1 m2 d at' : Nat} {e : EntT} {ss : List SumT} {s t : SumT} {wd : CndT} {way : Int}
    (hl : es.length ≤ 20) (hes : ∀ e ∈ es, PreE n1 n2 m1 m2 d e) (hE : PreE n1 n2 m1 m2 d e) (he : es[at']? = some e) (hat2 : at' < es.length) (s1 : s.dep = 0) (s2 : s.all (knownN n1 n2)) (t1 : t.dep = 0) (t2 : t.all (knownN n1 n2)) (hd1 : 1 ≤ d) (hw1 : wd.dep ≤ d + 1) (hw2 : wd.all (knownN n1 n2))
    (pp : ∀ es' : List EntT, es'.length ≤ es.length + 1 → (∀ e ∈ es', PreE n1 n2 m1 m2 (d + 1) e) → P (encE es')) :
    WSs C (cxOf CX0 Pg w K mg base nLawSpoilt "_law_spoilt" (defScope sLawSpoilt) f cdv A outer sh H E).nox ((defBody sLawSpoilt).drop 7) (spRho es r0 r1 r2 r3 r4 ls at' e ss s t wd way .no) { nx := fun _ => P .non, rt := P } := by
  have hE' := hE.up (Nat.le_succ d)
  have hes' : ∀ x ∈ es, PreE n1 n2 m1 m2 (d + 1) x := fun x hx => (hes x hx).up (Nat.le_succ d)
  have tk : ∀ k, ∀ x ∈ es.take k, PreE n1 n2 m1 m2 (d + 1) x := fun k x hx => hes' x (List.mem_of_mem_take hx)
  have dr : ∀ k, ∀ x ∈ es.drop k, PreE n1 n2 m1 m2 (d + 1) x := fun k x hx => hes' x (List.mem_of_mem_drop hx)
  have ltk : (es.take at').length = at' := by rw [List.length_take]; omega
  have ldr : (es.drop (at' + 1)).length = es.length - (at' + 1) := List.length_drop
  have ldr0 : (es.drop at').length = es.length - at' := List.length_drop
  have lt0 := (List.getElem?_eq_some_iff.mp he).1
  (refine ws_seq ?_; refine ws_if ?_; refine wt_eqc ?_; refine w_var 13 rfl ?_; refine w_int ?_; refine And.intro rfl ?_)
  refine if_2 (fun _ => ?_) fun _ => ?_
  · (refine ws_seq ?_; refine ws_ret ?_)
    refine WN.w (wn_cat (WN.w (w_upto (es := es) (n := at') (by omega) (w_var 0 rfl ⟨rfl, w_var 3 rfl ⟨rfl, ?_⟩⟩))))
    refine ⟨_, rfl, WN.w (w_from1 (es := es) (n := at') (w_var 0 rfl ⟨rfl, w_var 3 rfl ⟨rfl, ?_⟩⟩))⟩
    refine ⟨_, rfl, szl (by rw [List.length_map, List.length_map]; omega), ?_⟩
    rw [← List.map_append]
    refine pp (es.take at' ++ es.drop (at' + 1)) (by rw [List.length_append]; omega) fun x hx => (List.mem_append.mp hx).elim (tk _ x) (dr _ x)
  (refine ws_nil ?_; refine ws_seq ?_)
  refine ws_set 14 scLawSpoilt.nd ?_
  (refine w_tup ?_; refine wa_cons ?_; refine w_var 4 rfl ?_; refine wa_cons ?_; refine w_var 5 rfl ?_; refine wa_cons ?_; refine w_var 6 rfl ?_; refine wa_cons ?_; refine w_ixD ?_; refine WN.w (wn_lst ?_); refine wa_cons ?_; refine w_str ?_; refine wa_cons ?_; refine w_str ?_; refine wa_cons ?_; refine w_str ?_; refine wa_cons ?_; refine w_str ?_; refine wa_nil ?_; refine And.intro (sz rfl) ?_; refine Exists.intro _ (And.intro rfl ?_); refine w_mod ?_; refine w_ixN (w_var 1 rfl ⟨_, rfl, ?_⟩); refine w_int ?_; refine Exists.intro _ (And.intro rfl ?_); refine Exists.intro _ (And.intro rfl ?_); refine Exists.intro _ (And.intro rfl ?_); refine w_int ?_; refine Exists.intro _ (And.intro rfl ?_); refine And.intro (by decide +kernel) ?_; refine Exists.intro _ (And.intro rfl ?_))
  obtain ⟨dw, hdw, hmw⟩ := atI_in (ds := [D.str "mine", .str "yours", .str "both", .str "end"]) (i := r3 % 4) (by omega) (by simp; omega)
  obtain ⟨who, rfl, hwho⟩ : ∃ z : Str, dw = .str z ∧ z ∈ whoL := by
    simp at hmw
    rcases hmw with rfl | rfl | rfl | rfl <;> exact ⟨_, rfl, by decide +kernel⟩
  refine ⟨_, hdw, ?_⟩
  clear hdw hmw
  (refine wa_cons ?_; refine w_var 8 rfl ?_; refine wa_nil ?_; refine And.intro (sz rfl) ?_)
  have he0 : PreE n1 n2 m1 m2 (d + 1) ⟨e.p, e.q, e.c, who, e.wait⟩ := ⟨hE'.p, hE'.q, hE'.c, hE'.cd, hwho, hE'.w, hE'.wd⟩
  generalize hg : (EntT.mk e.p e.q e.c who e.wait) = e0 at he0
  refine wss_cast (spRho es r0 r1 r2 r3 r4 ls at' e ss s t wd way (.im e0.enc)) (by rw [← hg]; rfl) ?_
  refine ws_mid (fun ρ' => ∃ e' : EntT, PreE n1 n2 m1 m2 (d + 1) e' ∧ ρ' = spRho es r0 r1 r2 r3 r4 ls at' e ss s t wd way (.im e'.enc)) ?_ ?_
  · (refine ws_if ?_; refine wt_eqc ?_; refine w_var 13 rfl ?_; refine w_int ?_; refine And.intro rfl ?_)
    refine if_2 (fun _ => ?_) fun _ => ws_nil ⟨e0, he0, rfl⟩
    (refine ws_seq ?_)
    refine ws_set 14 scLawSpoilt.nd ?_
    (refine w_tup ?_; refine wa_cons ?_; refine w_var 4 rfl ?_; refine wa_cons ?_; refine w_var 5 rfl ?_; refine wa_cons ?_; refine w_var 6 rfl ?_; refine wa_cons ?_; refine w_var 7 rfl ?_; refine wa_cons ?_; refine w_ixD ?_; refine WN.w (wn_lst ?_); refine wa_cons ?_; refine w_tup ?_; refine wa_cons ?_; refine w_str ?_; refine wa_cons ?_; refine w_mod ?_; refine w_ixN (w_var 1 rfl ⟨_, rfl, ?_⟩); refine w_int ?_; refine Exists.intro _ (And.intro rfl ?_); refine Exists.intro _ (And.intro rfl ?_); refine Exists.intro _ (And.intro rfl ?_); refine w_int ?_; refine Exists.intro _ (And.intro rfl ?_); refine And.intro (by decide +kernel) ?_; refine wa_nil ?_; refine And.intro (sz rfl) ?_; refine wa_cons ?_; refine w_tup ?_; refine wa_cons ?_; refine w_str ?_; refine wa_cons ?_; refine w_var 10 rfl ?_; refine wa_cons ?_; refine w_var 11 rfl ?_; refine wa_nil ?_; refine And.intro (sz rfl) ?_; refine wa_cons ?_; refine w_var 10 rfl ?_; refine wa_nil ?_; refine And.intro (sz rfl) ?_; refine Exists.intro _ (And.intro rfl ?_); refine w_mod ?_; refine w_fdiv ?_; refine w_ixN (w_var 1 rfl ⟨_, rfl, ?_⟩); refine w_int ?_; refine Exists.intro _ (And.intro rfl ?_); refine Exists.intro _ (And.intro rfl ?_); refine Exists.intro _ (And.intro rfl ?_); refine w_int ?_; refine Exists.intro _ (And.intro rfl ?_); refine And.intro (And.intro (by decide +kernel) (by decide +kernel)) ?_; refine Exists.intro _ (And.intro rfl ?_); refine w_int ?_; refine Exists.intro _ (And.intro rfl ?_); refine And.intro (by decide +kernel) ?_; refine Exists.intro _ (And.intro rfl ?_))
    obtain ⟨dw, hdw, hmw⟩ := atI_in (ds := [(SumT.num (r3 % 3)).enc, (SumT.less s t).enc, s.enc]) (i := r2 / 4 % 3) (by omega) (by simp; omega)
    obtain ⟨wt, rfl, hw3, hw4⟩ : ∃ z : SumT, dw = z.enc ∧ z.dep ≤ d + 1 ∧ z.all (knownN n1 n2) := by
      simp at hmw
      rcases hmw with rfl | rfl | rfl
      · exact ⟨_, rfl, by simp [SumT.dep], trivial⟩
      · exact ⟨_, rfl, by simp [SumT.dep]; omega, s2, t2⟩
      · exact ⟨_, rfl, by omega, s2⟩
    refine ⟨_, hdw, ?_⟩
    clear hdw hmw
    (refine wa_nil ?_; refine And.intro (sz rfl) ?_; refine ws_nil ?_)
    exact ⟨⟨e.p, e.q, e.c, e.who, wt⟩, ⟨hE'.p, hE'.q, hE'.c, hE'.cd, hE'.who, hw4, hw3⟩, rfl⟩
  rintro ρ' ⟨e1, he1, rfl⟩
  refine ws_mid (fun ρ' => ∃ e' : EntT, PreE n1 n2 m1 m2 (d + 1) e' ∧ ρ' = spRho es r0 r1 r2 r3 r4 ls at' e ss s t wd way (.im e'.enc)) ?_ ?_
  · (refine ws_if ?_; refine wt_eqc ?_; refine w_var 13 rfl ?_; refine w_int ?_; refine And.intro rfl ?_)
    refine if_2 (fun _ => ?_) fun _ => ws_nil ⟨e1, he1, rfl⟩
    (refine ws_seq ?_)
    refine ws_set 14 scLawSpoilt.nd ?_
    (refine w_tup ?_; refine wa_cons ?_; refine w_var 4 rfl ?_; refine wa_cons ?_; refine w_var 5 rfl ?_; refine wa_cons ?_; refine w_var 12 rfl ?_; refine wa_cons ?_; refine w_var 7 rfl ?_; refine wa_cons ?_; refine w_var 8 rfl ?_; refine wa_nil ?_; refine And.intro (sz rfl) ?_; refine ws_nil ?_)
    exact ⟨⟨e.p, e.q, wd, e.who, e.wait⟩, ⟨hE'.p, hE'.q, hw2, hw1, hE'.who, hE'.w, hE'.wd⟩, rfl⟩
  clear he1 e1
  rintro ρ' ⟨e1, he1, rfl⟩
  have hpos : 0 < es.length := by omega
  obtain ⟨v, hv, hv2⟩ := md_nat (x := r2) hpos
  have hev : es[v]? = some es[v] := List.getElem?_eq_getElem hv2
  have hEv := hes' es[v] (List.getElem_mem hv2)
  generalize es[v] = ev at hev hEv
  refine ws_mid (fun ρ' => ∃ e' : EntT, PreE n1 n2 m1 m2 (d + 1) e' ∧ ρ' = spRho es r0 r1 r2 r3 r4 ls at' e ss s t wd way (.im e'.enc)) ?_ ?_
  · (refine ws_if ?_; refine wt_eqc ?_; refine w_var 13 rfl ?_; refine w_int ?_; refine And.intro rfl ?_)
    refine if_2 (fun _ => ?_) fun _ => ws_nil ⟨e1, he1, rfl⟩
    (refine ws_seq ?_)
    refine ws_set 14 scLawSpoilt.nd ?_
    (refine w_tup ?_; refine wa_cons ?_; refine w_ixS ?_; refine w_ixN (w_var 0 rfl ⟨_, rfl, ?_⟩); refine w_mod ?_; refine w_ixN (w_var 1 rfl ⟨_, rfl, ?_⟩); refine w_int ?_; refine Exists.intro _ (And.intro rfl ?_); refine Exists.intro _ (And.intro rfl ?_); refine Exists.intro _ (And.intro rfl ?_))
    refine w_len B.len ?_
    (refine w_var 0 rfl ?_; refine Exists.intro _ (And.intro rfl ?_); refine Exists.intro _ (And.intro rfl ?_))
    rw [List.length_map]
    refine ⟨by omega, ?_⟩
    rw [hv]
    refine ⟨_, rfl, ev.enc, atI_nat (by rw [List.getElem?_map, hev]; rfl), ?_⟩
    (refine Exists.intro _ (And.intro rfl ?_); refine w_int ?_; refine Exists.intro _ (And.intro rfl ?_); refine Exists.intro _ (And.intro rfl ?_); refine wa_cons ?_; refine w_var 5 rfl ?_; refine wa_cons ?_; refine w_var 6 rfl ?_; refine wa_cons ?_; refine w_var 7 rfl ?_; refine wa_cons ?_; refine w_var 8 rfl ?_; refine wa_nil ?_; refine And.intro (sz rfl) ?_)
    exact ws_nil ⟨⟨ev.p, e.q, e.c, e.who, e.wait⟩, ⟨hEv.p, hE'.q, hE'.c, hE'.cd, hE'.who, hE'.w, hE'.wd⟩, rfl⟩
  clear he1 e1
  rintro ρ' ⟨e1, he1, rfl⟩
  refine ws_mid (fun ρ' => ∃ e' : EntT, PreE n1 n2 m1 m2 (d + 1) e' ∧ ρ' = spRho es r0 r1 r2 r3 r4 ls at' e ss s t wd way (.im e'.enc)) ?_ ?_
  · (refine ws_if ?_; refine wt_eqc ?_; refine w_var 13 rfl ?_; refine w_int ?_; refine And.intro rfl ?_)
    refine if_2 (fun _ => ?_) fun _ => ws_nil ⟨e1, he1, rfl⟩
    (refine ws_seq ?_)
    refine ws_set 14 scLawSpoilt.nd ?_
    (refine w_tup ?_; refine wa_cons ?_; refine w_var 4 rfl ?_; refine wa_cons ?_; refine w_ixS ?_; refine w_ixN (w_var 0 rfl ⟨_, rfl, ?_⟩); refine w_mod ?_; refine w_ixN (w_var 1 rfl ⟨_, rfl, ?_⟩); refine w_int ?_; refine Exists.intro _ (And.intro rfl ?_); refine Exists.intro _ (And.intro rfl ?_); refine Exists.intro _ (And.intro rfl ?_))
    refine w_len B.len ?_
    (refine w_var 0 rfl ?_; refine Exists.intro _ (And.intro rfl ?_); refine Exists.intro _ (And.intro rfl ?_))
    rw [List.length_map]
    refine ⟨by omega, ?_⟩
    rw [hv]
    refine ⟨_, rfl, ev.enc, atI_nat (by rw [List.getElem?_map, hev]; rfl), ?_⟩
    (refine Exists.intro _ (And.intro rfl ?_); refine w_int ?_; refine Exists.intro _ (And.intro rfl ?_); refine Exists.intro _ (And.intro rfl ?_); refine wa_cons ?_; refine w_var 6 rfl ?_; refine wa_cons ?_; refine w_var 7 rfl ?_; refine wa_cons ?_; refine w_var 8 rfl ?_; refine wa_nil ?_; refine And.intro (sz rfl) ?_)
    exact ws_nil ⟨⟨e.p, ev.q, e.c, e.who, e.wait⟩, ⟨hE'.p, hEv.q, hE'.c, hE'.cd, hE'.who, hE'.w, hE'.wd⟩, rfl⟩
  clear he1 e1
  rintro ρ' ⟨e1, he1, rfl⟩
  (refine ws_seq ?_; refine ws_if ?_; refine wt_eqc ?_; refine w_var 13 rfl ?_; refine w_int ?_; refine And.intro rfl ?_)
  refine if_2 (fun _ => ?_) fun _ => ?_
  · (refine ws_seq ?_; refine ws_ret ?_)
    refine WN.w (wn_cat (WN.w (wn_cat (WN.w (w_upto (es := es) (n := at') (by omega) (w_var 0 rfl ⟨rfl, w_var 3 rfl ⟨rfl, ?_⟩⟩))))))
    refine ⟨_, rfl, ?_⟩
    (refine WN.w (wn_lst ?_); refine wa_cons ?_; refine w_tup ?_; refine wa_cons ?_; refine w_var 4 rfl ?_; refine wa_cons ?_; refine w_var 5 rfl ?_; refine wa_cons ?_; refine w_var 12 rfl ?_; refine wa_cons ?_; refine w_var 7 rfl ?_; refine wa_cons ?_; refine w_tup ?_; refine wa_cons ?_; refine w_str ?_; refine wa_cons ?_; refine w_var 8 rfl ?_; refine wa_cons ?_; refine w_tup ?_; refine wa_cons ?_; refine w_str ?_; refine wa_cons ?_; refine w_mod ?_; refine w_ixN (w_var 1 rfl ⟨_, rfl, ?_⟩); refine w_int ?_; refine Exists.intro _ (And.intro rfl ?_); refine Exists.intro _ (And.intro rfl ?_); refine Exists.intro _ (And.intro rfl ?_); refine w_int ?_; refine Exists.intro _ (And.intro rfl ?_); refine And.intro (by decide +kernel) ?_; refine wa_nil ?_; refine And.intro (sz rfl) ?_; refine wa_nil ?_; refine And.intro (sz rfl) ?_; refine wa_nil ?_; refine And.intro (sz rfl) ?_; refine wa_nil ?_; refine And.intro (sz rfl) ?_; refine Exists.intro _ (And.intro rfl ?_))
    refine ⟨szl (by simp; omega), ?_⟩
    refine ⟨_, rfl, WN.w (w_from (es := es) (n := at') (w_var 0 rfl ⟨rfl, w_var 3 rfl ⟨rfl, ?_⟩⟩))⟩
    refine ⟨_, rfl, szl (by simp; omega), ?_⟩
    have hnew : PreE n1 n2 m1 m2 (d + 1) ⟨e.p, e.q, wd, e.who, .plus e.wait (.num (r1 % 2))⟩ := ⟨hE'.p, hE'.q, hw2, hw1, hE'.who, ⟨hE'.w, trivial⟩, by simp [SumT.dep]; exact hE.wd⟩
    have := pp (es.take at' ++ [⟨e.p, e.q, wd, e.who, .plus e.wait (.num (r1 % 2))⟩] ++ es.drop at') (by simp; omega) fun x hx => by
      rcases List.mem_append.mp hx with hx | hx
      · rcases List.mem_append.mp hx with hx | hx
        · exact tk _ x hx
        · simp at hx; subst hx; exact hnew
      · exact dr _ x hx
    simp only [encE, List.map_append] at this
    exact this
  (refine ws_nil ?_; refine ws_seq ?_; refine ws_if ?_; refine wt_eqc ?_; refine w_var 13 rfl ?_; refine w_int ?_; refine And.intro rfl ?_)
  refine if_2 (fun _ => ?_) fun _ => ?_
  · (refine ws_seq ?_; refine ws_ret ?_)
    refine WN.w (wn_cat (WN.w (wn_cat (WN.w (w_upto (es := es) (n := at') (by omega) (w_var 0 rfl ⟨rfl, w_var 3 rfl ⟨rfl, ?_⟩⟩))))))
    refine ⟨_, rfl, WN.w (w_from1 (es := es) (n := at') (w_var 0 rfl ⟨rfl, w_var 3 rfl ⟨rfl, ?_⟩⟩))⟩
    refine ⟨_, rfl, szl (by simp; omega), ?_⟩
    refine ⟨_, rfl, WN.w (wn_lst ?_)⟩
    (refine wa_cons ?_; refine w_ixN (w_var 0 rfl ⟨_, rfl, ?_⟩); refine w_var 3 rfl ?_; refine Exists.intro _ (And.intro rfl ?_))
    refine ⟨e.enc, atI_nat (by rw [List.getElem?_map, he]; rfl), ?_⟩
    (refine wa_nil ?_; refine And.intro (sz rfl) ?_; refine Exists.intro _ (And.intro rfl ?_))
    refine ⟨szl (by simp; omega), ?_⟩
    have := pp (es.take at' ++ es.drop (at' + 1) ++ [e]) (by simp; omega) fun x hx => by
      rcases List.mem_append.mp hx with hx | hx
      · rcases List.mem_append.mp hx with hx | hx
        · exact tk _ x hx
        · exact dr _ x hx
      · simp at hx; subst hx; exact hE'
    simp only [encE, List.map_append] at this
    exact this
  (refine ws_nil ?_; refine ws_seq ?_; refine ws_ret ?_)
  refine WN.w (wn_cat (WN.w (wn_cat (WN.w (w_upto (es := es) (n := at') (by omega) (w_var 0 rfl ⟨rfl, w_var 3 rfl ⟨rfl, ?_⟩⟩))))))
  refine ⟨_, rfl, ?_⟩
  (refine WN.w (wn_lst ?_); refine wa_cons ?_; refine w_var 14 rfl ?_; refine wa_nil ?_; refine And.intro (sz rfl) ?_; refine Exists.intro _ (And.intro rfl ?_))
  refine ⟨szl (by simp; omega), ?_⟩
  refine ⟨_, rfl, WN.w (w_from1 (es := es) (n := at') (w_var 0 rfl ⟨rfl, w_var 3 rfl ⟨rfl, ?_⟩⟩))⟩
  refine ⟨_, rfl, szl (by simp; omega), ?_⟩
  have := pp (es.take at' ++ [e1] ++ es.drop (at' + 1)) (by simp; omega) fun x hx => by
    rcases List.mem_append.mp hx with hx | hx
    · rcases List.mem_append.mp hx with hx | hx
      · exact tk _ x hx
      · simp at hx; subst hx; exact he1
    · exact dr _ x hx
  simp only [encE, List.map_append] at this
  exact this
end
end TW
set_option Elab.async false
set_option linter.all false
set_option maxRecDepth 100000
set_option maxHeartbeats 40000000
namespace TW
open PySem L2 PyProof.Rows
section
variable {Pg : Program} {w : World} {K : PySem.W.Frag} {mg : Str → Option Value} {base : Heap} {C : Addr}
theorem ok_spoilt (B : Bl mg) {f : Addr} {fd : FuncData} (F : Fun K "_law_spoilt" "_law_spoilt" sLawSpoilt f fd) : FnOk Pg w K mg base CX0 1 f fd ["paper", "row", "boxes"] (spD K C wfSpoilt) := by
  refine fn_ok F scLawSpoilt (fun ds P h => by obtain ⟨_, _, _, _, _, _, _, _, _, _, _, _, rfl, _⟩ := h; rfl) fun cdv A outer s H E hr ds P h => ?_
  obtain ⟨es, r0, r1, r2, r3, r4, ls, n1, n2, m1, m2, d, rfl, hne, hl, hll, hls, hd1, hes, pp⟩ := h
  have hpos : 0 < es.length := List.length_pos_iff.mpr hne
  (refine ws_seq ?_)
  refine ws_set 3 scLawSpoilt.nd ?_
  (refine w_mod ?_; refine w_ixN (w_var 1 rfl ⟨_, rfl, ?_⟩); refine w_int ?_; refine Exists.intro _ (And.intro rfl ?_); refine Exists.intro _ (And.intro rfl ?_); refine Exists.intro _ (And.intro rfl ?_))
  refine w_max rfl B.max bt_max ?_
  (refine w_int ?_; refine Exists.intro _ (And.intro rfl ?_))
  refine w_len B.len ?_
  (refine w_var 0 rfl ?_; refine Exists.intro _ (And.intro rfl ?_); refine Exists.intro _ (And.intro rfl ?_); refine Exists.intro _ (And.intro rfl ?_))
  have hmax : (if ((es.map EntT.enc).length : Int) > 1 then ((es.map EntT.enc).length : Int) else 1) = (es.length : Int) := by
    rw [List.length_map]
    split <;> omega
  rw [hmax]
  refine ⟨by omega, ?_⟩
  obtain ⟨at', hat, hat2⟩ := md_nat (x := r0) hpos
  rw [hat]
  have he : es[at']? = some es[at'] := List.getElem?_eq_getElem hat2
  generalize es[at'] = e at he
  have hem := List.mem_of_getElem? he
  have hE := hes e hem
  (refine ws_seq ?_)
  refine ws_asg (ts := [4, 5, 6, 7, 8]) ?_
  (refine w_ixN (w_var 0 rfl ⟨_, rfl, ?_⟩); refine w_var 3 rfl ?_; refine Exists.intro _ (And.intro rfl ?_))
  refine ⟨e.enc, atI_nat (by rw [List.getElem?_map, he]; rfl), ?_⟩
  refine wg_tup rfl (wgs_cons (wg_name 4 scLawSpoilt.nd (wgs_cons (wg_name 5 scLawSpoilt.nd (wgs_cons (wg_name 6 scLawSpoilt.nd (wgs_cons (wg_name 7 scLawSpoilt.nd (wgs_cons (wg_name 8 scLawSpoilt.nd (wgs_nil ?_))))))))))) rfl
  (refine ws_seq ?_)
  refine ws_set 9 scLawSpoilt.nd (WN.w (wn_cat ?_))
  (refine WN.w (wn_lst ?_); refine wa_cons ?_; refine w_tup ?_; refine wa_cons ?_; refine w_str ?_; refine wa_cons ?_; refine w_mod ?_; refine w_ixN (w_var 1 rfl ⟨_, rfl, ?_⟩); refine w_int ?_; refine Exists.intro _ (And.intro rfl ?_); refine Exists.intro _ (And.intro rfl ?_); refine Exists.intro _ (And.intro rfl ?_); refine w_int ?_; refine Exists.intro _ (And.intro rfl ?_); refine And.intro (by decide +kernel) ?_; refine wa_nil ?_; refine And.intro (sz rfl) ?_; refine wa_nil ?_; refine And.intro (sz rfl) ?_; refine Exists.intro _ (And.intro rfl ?_); refine w_var 2 rfl ?_; refine Exists.intro _ (And.intro rfl ?_))
  refine ⟨szl (by simp; omega), ?_⟩
  have hsome : [D.tup [.str "number", .int (r1 % 4)]] ++ ls.map SumT.enc = (SumT.num (r1 % 4) :: ls).map SumT.enc := by simp [SumT.enc]
  rw [hsome]
  have hall : ∀ s ∈ SumT.num (r1 % 4) :: ls, s.dep = 0 ∧ s.all (knownN n1 n2) := fun s hs => by
    rcases List.mem_cons.mp hs with rfl | hs
    · exact ⟨rfl, trivial⟩
    · exact hls s hs
  have hne2 : SumT.num (r1 % 4) :: ls ≠ [] := by simp
  generalize SumT.num (r1 % 4) :: ls = ss at hall hne2
  clear hsome
  have pick : ∀ x : Int, ∃ s ∈ ss, atI (ss.map SumT.enc) (x % ((ss.map SumT.enc).length : Int)) = some s.enc := fun x => by
    obtain ⟨d, hd, hm⟩ := atI_md (ds := ss.map SumT.enc) (x := x) (by simpa using hne2)
    obtain ⟨s, hs, rfl⟩ := List.mem_map.mp hm
    exact ⟨s, hs, hd⟩
  have hpos2 : 0 < ((ss.map SumT.enc).length : Int) := by have := List.length_pos_iff.mpr hne2; simp; omega
  (refine ws_seq ?_)
  refine ws_set 10 scLawSpoilt.nd ?_
  (refine w_ixN (w_var 9 rfl ⟨_, rfl, ?_⟩); refine w_mod ?_; refine w_fdiv ?_; refine w_ixN (w_var 1 rfl ⟨_, rfl, ?_⟩); refine w_int ?_; refine Exists.intro _ (And.intro rfl ?_); refine Exists.intro _ (And.intro rfl ?_); refine Exists.intro _ (And.intro rfl ?_); refine w_int ?_; refine Exists.intro _ (And.intro rfl ?_); refine And.intro (And.intro (by decide +kernel) (by decide +kernel)) ?_; refine Exists.intro _ (And.intro rfl ?_))
  refine w_len B.len ?_
  (refine w_var 9 rfl ?_; refine Exists.intro _ (And.intro rfl ?_); refine Exists.intro _ (And.intro rfl ?_))
  refine ⟨hpos2, ?_⟩
  obtain ⟨s, hs, es1⟩ := pick (r1 / 4)
  refine ⟨_, rfl, _, es1, ?_⟩
  (refine ws_seq ?_)
  refine ws_set 11 scLawSpoilt.nd ?_
  (refine w_ixN (w_var 9 rfl ⟨_, rfl, ?_⟩); refine w_mod ?_; refine w_ixN (w_var 1 rfl ⟨_, rfl, ?_⟩); refine w_int ?_; refine Exists.intro _ (And.intro rfl ?_); refine Exists.intro _ (And.intro rfl ?_); refine Exists.intro _ (And.intro rfl ?_))
  refine w_len B.len ?_
  (refine w_var 9 rfl ?_; refine Exists.intro _ (And.intro rfl ?_); refine Exists.intro _ (And.intro rfl ?_))
  refine ⟨hpos2, ?_⟩
  obtain ⟨t, ht, et⟩ := pick r2
  refine ⟨_, rfl, _, et, ?_⟩
  obtain ⟨s1, s2⟩ := hall s hs
  obtain ⟨t1, t2⟩ := hall t ht
  clear es1 et hpos2 pick
  (refine ws_seq ?_)
  refine ws_set 12 scLawSpoilt.nd ?_
  (refine w_ixD ?_; refine WN.w (wn_lst ?_); refine wa_cons ?_; refine w_tup ?_; refine wa_cons ?_; refine w_str ?_; refine wa_nil ?_; refine And.intro (sz rfl) ?_; refine wa_cons ?_; refine w_tup ?_; refine wa_cons ?_; refine w_str ?_; refine wa_cons ?_; refine w_var 6 rfl ?_; refine wa_nil ?_; refine And.intro (sz rfl) ?_; refine wa_cons ?_; refine w_tup ?_; refine wa_cons ?_; refine w_str ?_; refine wa_cons ?_; refine w_var 6 rfl ?_; refine wa_cons ?_; refine w_tup ?_; refine wa_cons ?_; refine w_str ?_; refine wa_cons ?_; refine w_var 10 rfl ?_; refine wa_cons ?_; refine w_var 11 rfl ?_; refine wa_nil ?_; refine And.intro (sz rfl) ?_; refine wa_nil ?_; refine And.intro (sz rfl) ?_; refine wa_nil ?_; refine And.intro (sz rfl) ?_; refine Exists.intro _ (And.intro rfl ?_); refine w_mod ?_; refine w_ixN (w_var 1 rfl ⟨_, rfl, ?_⟩); refine w_int ?_; refine Exists.intro _ (And.intro rfl ?_); refine Exists.intro _ (And.intro rfl ?_); refine Exists.intro _ (And.intro rfl ?_); refine w_int ?_; refine Exists.intro _ (And.intro rfl ?_); refine And.intro (by decide +kernel) ?_; refine Exists.intro _ (And.intro rfl ?_))
  obtain ⟨dw, hdw, hmw⟩ := atI_in (ds := [CndT.yes.enc, (CndT.no e.c).enc, (CndT.both e.c (.same s t)).enc]) (i := r3 % 3) (by omega) (by simp; omega)
  obtain ⟨wd, rfl, hw1, hw2⟩ : ∃ c : CndT, dw = c.enc ∧ c.dep ≤ d + 1 ∧ c.all (knownN n1 n2) := by
    have := hE.cd
    simp at hmw
    rcases hmw with rfl | rfl | rfl
    · exact ⟨_, rfl, by simp [CndT.dep], trivial⟩
    · exact ⟨_, rfl, by simp [CndT.dep]; omega, hE.c⟩
    · exact ⟨_, rfl, by simp [CndT.dep]; omega, hE.c, s2, t2⟩
  refine ⟨_, hdw, ?_⟩
  clear hdw hmw
  (refine ws_seq ?_)
  refine ws_set 13 scLawSpoilt.nd ?_
  (refine w_mod ?_; refine w_ixN (w_var 1 rfl ⟨_, rfl, ?_⟩); refine w_int ?_; refine Exists.intro _ (And.intro rfl ?_); refine Exists.intro _ (And.intro rfl ?_); refine Exists.intro _ (And.intro rfl ?_); refine w_int ?_; refine Exists.intro _ (And.intro rfl ?_); refine And.intro (by decide +kernel) ?_)
  generalize r4 % 9 = way
  exact spoilt_fin B hl hes hE he hat2 s1 s2 t1 t2 hd1 hw1 hw2 pp
end
end TW
set_option Elab.async false
set_option linter.all false
set_option maxRecDepth 100000
set_option maxHeartbeats 40000000
namespace TW
open PySem L2 PyProof.Rows
/-- what the made-over program is -/
structure OverOk (p : PrT) (g : Str → Str) (q : PrT) : Prop where
  boxes : q.boxes.Perm (p.boxes.map fun b => (g b.1, b.2))
  inputs : q.inputs = p.inputs
  some : q.nodes ≠ []
  few : q.nodes.length ≤ 5
  node : ∀ n ∈ q.nodes, n.ok (p.names.map g) q.nodes.length
abbrev ovRho (p : PrT) (row : List Int) (g : Str → Str) (sk : Nat) (o pls bhs : List Nat) (a b l k fo tu : Sl) : List Sl :=
  [.im p.enc, .im (encW row), .im (bxD p.boxes), .im (.lst (p.inputs.map D.str)), .im (.lst (p.nodes.map NdT.enc)), .im (calD p.names g), a, b, .im (.int p.nodes.length), .im (.int sk), l, k, .im (encN o), .im (encN pls), .im (encN bhs), fo, tu]
section
variable {Pg : Program} {w : World} {K : PySem.W.Frag} {mg : Str → Option Value} {base : Heap} {C : Addr}
theorem over_fin (B : Bl mg) (Ga : Df Pg w K mg base C 10 "_law_node_as" ["node", "called", "places"] wfNodeAs) (Gk : Df Pg w K mg base C 1 "_law_skip" ["boxes", "called", "number", "after"] wfSkip)
    {f : Addr} {cdv : Value} {A : Around} {outer : List Env} {sh : Shared} {H : Hp} {E : XK} (hr : Room 10 (A.deeper (envOfC "_law_made_over" (defScope sLawMadeOver) sh.heap.objs.size f cdv))) {P : D → Prop} {p : PrT} {r0 r1 r2 r3 r4 r5 : Int} {rs : List Int} {g : Str → Str} {sk m2 : Nat} {o pls bhs : List Nat} {a b l k : Sl}
    (hp : Prog4 p) (ho : o.Perm (List.range m2)) (hm2 : m2 = if sk < p.nodes.length then p.nodes.length + 1 else p.nodes.length) (lp : pls.length = p.nodes.length) (lb : bhs.length = p.nodes.length) (bp : ∀ x ∈ pls, x < m2) (bb : ∀ x ∈ bhs, x < m2)
    (pp : ∀ q : PrT, OverOk p g q → q.nodes.length = m2 → P (.tup [q.enc, calD p.names g, encN pls, encN bhs])) :
    WSs C (cxOf CX0 Pg w K mg base nLawMadeOver "_law_made_over" (defScope sLawMadeOver) f cdv A outer sh H E).nox ((defBody sLawMadeOver).drop 12) (ovRho p (r0 :: r1 :: r2 :: r3 :: r4 :: r5 :: rs) g sk o pls bhs a b l k .no .no) { nx := fun _ => P .non, rt := P } := by
  have hm4 := hp.few
  have hm1 : 0 < p.nodes.length := List.length_pos_iff.mpr hp.some
  have hm2' : m2 ≤ 5 ∧ 0 < m2 := by rw [hm2]; split <;> omega
  have hol : o.length = m2 := by rw [ho.length_eq, List.length_range]
  (refine ws_seq ?_)
  refine ws_own 15 scLawMadeOver.nd (wn_lst ?_)
  (refine wa_nil ?_; refine And.intro (sz rfl) ?_; refine ws_seq ?_)
  refine ws_for (ts := [11]) PassesOwn.never rfl (wi_list ?_)
  (refine w_var 12 rfl ?_)
  refine ⟨_, .inl rfl, fun i ρ' => ∃ (nds : List NdT) (k : Sl), ρ' = ovRho p (r0 :: r1 :: r2 :: r3 :: r4 :: r5 :: rs) g sk o pls bhs a b l k (.ow (.lst (nds.map NdT.enc))) .no ∧ nds.length = i ∧ ∀ n ∈ nds, n.ok (p.names.map g) m2, ⟨[], _, rfl, rfl, by simp⟩, fun i d ρ' hd hi => ?_, fun ρ' hi => ?_⟩
  · obtain ⟨nds, k', rfl, hl, hok⟩ := hi
    obtain ⟨z, hz, rfl⟩ := get_map hd
    have hzm : z < m2 := by have := ho.mem_iff.mp (List.mem_of_getElem? hz); simpa using this
    have hil : i < m2 := by rw [← hol]; exact (List.getElem?_eq_some_iff.mp hz).1
    have more : ∀ n : NdT, n.ok (p.names.map g) m2 → ∀ x ∈ nds ++ [n], x.ok (p.names.map g) m2 := fun n hn x hx => by
      rcases List.mem_append.mp hx with hx | hx
      · exact hok x hx
      · simp at hx; subst hx; exact hn
    refine wg_name 11 scLawMadeOver.nd ?_
    (refine ws_seq ?_; refine ws_if ?_; refine wt_lt ?_; refine w_var 11 rfl ?_; refine Exists.intro _ (And.intro rfl ?_); refine w_var 8 rfl ?_; refine Exists.intro _ (And.intro rfl ?_))
    refine if_2 (fun h => ?_) fun h => ?_
    · have hzn : z < p.nodes.length := by simpa using h
      have hn : p.nodes[z]? = some p.nodes[z] := List.getElem?_eq_getElem hzn
      have hno := hp.node _ (List.getElem_mem hzn)
      generalize p.nodes[z] = n at hn hno
      (refine ws_seq ?_)
      refine ws_append 15 rfl (w_call Ga hr ?_)
      (refine wa_cons ?_; refine w_ixN (w_var 4 rfl ⟨_, rfl, ?_⟩); refine w_var 11 rfl ?_; refine Exists.intro _ (And.intro rfl ?_))
      refine ⟨n.enc, atI_nat (by rw [List.getElem?_map, hn]; rfl), ?_⟩
      (refine wa_cons ?_; refine w_var 5 rfl ?_; refine wa_cons ?_; refine w_var 14 rfl ?_; refine wa_nil ?_)
      refine ⟨n, p.names, g, bhs, m2, rfl, by rw [lb]; exact hno, bb, fun n' hn' => ?_⟩
      exact ⟨szt (by simp; omega), ws_nil (ws_nil ⟨nds ++ [n'], .im (.int z), by simp, by simp [hl], more n' hn'⟩)⟩
    · have hzn : ¬ z < p.nodes.length := by simpa using h
      have hsk : sk < p.nodes.length := by
        refine Classical.byContradiction fun q => ?_
        rw [if_neg q] at hm2
        omega
      (refine ws_seq ?_)
      refine ws_append 15 rfl (w_call Gk hr ?_)
      (refine wa_cons ?_; refine w_var 2 rfl ?_; refine wa_cons ?_; refine w_var 5 rfl ?_; refine wa_cons ?_; refine w_ixN (w_var 1 rfl ⟨_, rfl, ?_⟩); refine w_int ?_; refine Exists.intro _ (And.intro rfl ?_); refine Exists.intro _ (And.intro (atI_nat (j := 4) rfl) ?_); refine wa_cons ?_; refine w_ixN (w_var 13 rfl ⟨_, rfl, ?_⟩); refine w_var 9 rfl ?_; refine Exists.intro _ (And.intro rfl ?_))
      have hy : pls[sk]? = some pls[sk] := List.getElem?_eq_getElem (by omega)
      have hy2 := bp _ (List.getElem_mem (show sk < pls.length by omega))
      refine ⟨.int (pls[sk] : Nat), atI_nat (by rw [List.getElem?_map, hy]; rfl), ?_⟩
      (refine wa_nil ?_)
      refine ⟨p.boxes, g, r4, pls[sk], m2, rfl, hp.nice.few, fun b hb => base5_ok _ (hp.nice.box b hb).2.2, hy2, fun n' hn' => ?_⟩
      exact ⟨szt (by simp; omega), ws_nil (ws_nil ⟨nds ++ [n'], .im (.int z), by simp, by simp [hl], more n' hn'⟩)⟩
  · obtain ⟨nds, k', rfl, hl, hok⟩ := hi
    refine wss_frz 15 rfl ?_
    refine ws_seq (ws_set 16 scLawMadeOver.nd (WN.w (wn_step (WN.w (wn_lc (own := [("name", 6), ("size", 7)]) (ts := [6, 7]) rfl scLawMadeOver.nd (blkOk_by (N := nLawMadeOver) (sc := defScope sLawMadeOver) (by decide +kernel)) (by decide) (wi_list (w_var 2 rfl ?_)))))))
    refine ⟨_, .inl rfl, fun i acc => acc = ((p.boxes.map fun b => (g b.1, b.2)).take i).map PrT.encB, rfl, fun i d acc hd ha => ?_, fun acc ha => ?_⟩
    · obtain ⟨bx, hb, rfl⟩ := get_map hd
      have hil : i < p.boxes.length := (List.getElem?_eq_some_iff.mp hb).1
      have hx : bx.1 ∈ p.names := List.mem_map_of_mem (List.mem_of_getElem? hb)
      have := hp.nice.few
      subst ha
      intro _ _ _ _ _
      refine wg_tup rfl (wgs_cons (wg_name 6 scLawMadeOver.nd (wgs_cons (wg_name 7 scLawMadeOver.nd (wgs_nil ?_))))) rfl
      intro _ _ _ _ _
      refine wts_nil (if_t rfl ?_)
      intro _ _ _ _ _
      (refine w_tup ?_; refine wa_cons ?_)
      refine w_dgetK (hu_of hr) ?_
      (refine w_var 5 rfl ?_)
      refine ⟨_, _, rfl, ?_⟩
      (refine w_var 6 rfl ?_)
      refine ⟨.inr bx.1, _, rfl, look_cal hx, ?_⟩
      (refine wa_cons ?_; refine w_var 7 rfl ?_; refine wa_nil ?_; refine And.intro (sz rfl) ?_)
      refine ⟨szt (by simp; omega), ?_⟩
      show _ = ((p.boxes.map fun b => (g b.1, b.2)).take (i + 1)).map PrT.encB
      rw [List.take_add_one, List.getElem?_map, hb, List.map_append]
      rfl
    · subst ha
      refine ⟨_, rfl, ?_⟩
      (refine w_sub ?_; refine w_int ?_; refine Exists.intro _ (And.intro rfl ?_); refine w_mul ?_; refine w_int ?_; refine Exists.intro _ (And.intro rfl ?_); refine w_mod ?_; refine w_ixN (w_var 1 rfl ⟨_, rfl, ?_⟩); refine w_int ?_; refine Exists.intro _ (And.intro rfl ?_); refine Exists.intro _ (And.intro (atI_nat (j := 5) rfl) ?_); refine Exists.intro _ (And.intro rfl ?_); refine w_int ?_; refine Exists.intro _ (And.intro rfl ?_); refine And.intro (by decide +kernel) ?_; refine Exists.intro _ (And.intro rfl ?_); refine And.intro (Or.inl (And.intro (by decide +kernel) (by decide +kernel))) ?_; refine Exists.intro _ (And.intro rfl ?_); refine Exists.intro _ (And.intro rfl ?_))
      refine ⟨mod2_step _, ?_⟩
      rw [List.take_of_length_le (by simp)]
      obtain ⟨bs', hi, hpm⟩ := step_map PrT.encB (p.boxes.map fun b => (g b.1, b.2)) (1 - 2 * (r5 % 2))
      rw [hi]
      (refine ws_seq ?_; refine ws_ret ?_; refine w_tup ?_; refine wa_cons ?_; refine w_tup ?_; refine wa_cons ?_; refine w_var 16 rfl ?_; refine wa_cons ?_)
      refine WN.w (wn_list B.list bt_list ?_)
      (refine w_var 3 rfl ?_; refine Exists.intro _ (And.intro rfl ?_); refine wa_cons ?_; refine w_var 15 rfl ?_; refine wa_nil ?_; refine And.intro (sz rfl) ?_; refine wa_cons ?_; refine w_var 5 rfl ?_; refine wa_cons ?_; refine w_var 13 rfl ?_; refine wa_cons ?_; refine w_var 14 rfl ?_; refine wa_nil ?_; refine And.intro (sz rfl) ?_)
      have hl2 : nds.length = m2 := by simpa [hol] using hl
      have q := pp ⟨bs', p.inputs, nds⟩ ⟨hpm, rfl, fun z => by
        have z' : nds = [] := z
        rw [z'] at hl2
        simp at hl2
        omega, by show nds.length ≤ 5; omega, fun n hn => by
        show n.ok _ nds.length
        rw [hl2]
        exact hok n hn⟩ hl2
      exact q
end
end TW
set_option Elab.async false
set_option linter.all false
set_option maxRecDepth 100000
set_option maxHeartbeats 40000000
namespace TW
open PySem L2 PyProof.Rows
def oI (o : List Nat) : List Int := o.map fun n : Nat => (n : Int)
theorem encN_oI (o : List Nat) : encN o = .lst ((oI o).map D.int) := by
  unfold encN oI
  rw [List.map_map]
  rfl
theorem mem_oI {o : List Nat} {n : Nat} : (n : Int) ∈ oI o ↔ n ∈ o := by
  unfold oI
  rw [List.mem_map]
  constructor
  · rintro ⟨a, ha, e⟩
    have : a = n := by exact_mod_cast e
    rw [← this]; exact ha
  · exact fun h => ⟨n, h, rfl⟩
theorem place_lt {o : List Nat} {n : Nat} (h : n ∈ o) : placeOf (oI o) (n : Int) < o.length := by
  have := (List.getElem?_eq_some_iff.mp (placeOf_get (mem_oI.mpr h)).1).1
  simpa [oI] using this
section
variable {Pg : Program} {w : World} {K : PySem.W.Frag} {mg : Str → Option Value} {base : Heap} {C : Addr}
theorem over_mid (B : Bl mg) (Ga : Df Pg w K mg base C 10 "_law_node_as" ["node", "called", "places"] wfNodeAs) (Gk : Df Pg w K mg base C 1 "_law_skip" ["boxes", "called", "number", "after"] wfSkip)
    {f : Addr} {cdv : Value} {A : Around} {outer : List Env} {sh : Shared} {H : Hp} {E : XK} (hr : Room 10 (A.deeper (envOfC "_law_made_over" (defScope sLawMadeOver) sh.heap.objs.size f cdv))) {P : D → Prop} {p : PrT} {r0 r1 r2 r3 r4 r5 : Int} {rs : List Int} {g : Str → Str} {sk : Nat} {o : List Nat} {a b l k : Sl}
    (hp : Prog4 p) (ho : o.Perm (List.range p.nodes.length))
    (pp : ∀ (q : PrT) (pls bhs : List Nat), OverOk p g q → pls.length = p.nodes.length → bhs.length = p.nodes.length → (∀ x ∈ pls, x < q.nodes.length) → (∀ x ∈ bhs, x < q.nodes.length) → P (.tup [q.enc, calD p.names g, encN pls, encN bhs])) :
    WSs C (cxOf CX0 Pg w K mg base nLawMadeOver "_law_made_over" (defScope sLawMadeOver) f cdv A outer sh H E).nox ((defBody sLawMadeOver).drop 8)
      [.im p.enc, .im (encW (r0 :: r1 :: r2 :: r3 :: r4 :: r5 :: rs)), .im (bxD p.boxes), .im (.lst (p.inputs.map D.str)), .im (.lst (p.nodes.map NdT.enc)), .im (calD p.names g), a, b, .im (.int p.nodes.length), .im (.int sk), l, k, .ow (.lst ((oI o).map D.int)), .no, .no, .no, .no] { nx := fun _ => P .non, rt := P } := by
  have hm4 := hp.few
  have hm1 : 0 < p.nodes.length := List.length_pos_iff.mpr hp.some
  have hol : o.length = p.nodes.length := by rw [ho.length_eq, List.length_range]
  obtain ⟨m2, hm2⟩ : ∃ m2, m2 = if sk < p.nodes.length then p.nodes.length + 1 else p.nodes.length := ⟨_, rfl⟩
  refine ws_mid (fun ρ' => ∃ o : List Nat, o.Perm (List.range m2) ∧ ρ' = [.im p.enc, .im (encW (r0 :: r1 :: r2 :: r3 :: r4 :: r5 :: rs)), .im (bxD p.boxes), .im (.lst (p.inputs.map D.str)), .im (.lst (p.nodes.map NdT.enc)), .im (calD p.names g), a, b, .im (.int p.nodes.length), .im (.int sk), l, k, .ow (.lst ((oI o).map D.int)), .no, .no, .no, .no]) ?_ ?_
  · (refine ws_if ?_; refine wt_lt ?_; refine w_var 9 rfl ?_; refine Exists.intro _ (And.intro rfl ?_); refine w_var 8 rfl ?_; refine Exists.intro _ (And.intro rfl ?_))
    refine if_2 (fun h => ?_) fun h => ?_
    · have hsk : sk < p.nodes.length := by simpa using h
      have hin : sk ∈ o := ho.mem_iff.mpr (by simpa using hsk)
      have hpl := place_lt hin
      (refine ws_seq ?_)
      refine ws_insert 12 rfl ?_
      refine w_add (w_indexOw 12 rfl ?_)
      (refine w_var 9 rfl ?_; refine Exists.intro _ (And.intro rfl ?_))
      refine ⟨mem_oI.mpr hin, ?_⟩
      (refine Exists.intro _ (And.intro rfl ?_); refine w_mul ?_; refine w_mod ?_; refine w_ixN (w_var 1 rfl ⟨_, rfl, ?_⟩); refine w_int ?_; refine Exists.intro _ (And.intro rfl ?_); refine Exists.intro _ (And.intro (atI_nat (j := 3) rfl) ?_); refine Exists.intro _ (And.intro rfl ?_); refine w_int ?_; refine Exists.intro _ (And.intro rfl ?_); refine And.intro (by decide +kernel) ?_; refine Exists.intro _ (And.intro rfl ?_))
      refine w_intB B.int (w_gt ?_)
      (refine w_var 9 rfl ?_; refine Exists.intro _ (And.intro rfl ?_); refine w_int ?_; refine Exists.intro _ (And.intro rfl ?_); refine Exists.intro _ (And.intro rfl ?_); refine Exists.intro _ (And.intro rfl ?_))
      have hv := Int.emod_nonneg r3 (show (2 : Int) ≠ 0 by decide)
      have hv2 := Int.emod_lt_of_pos r3 (show (0 : Int) < 2 by decide)
      refine And.intro (.inl ⟨by omega, by omega⟩) ?_
      obtain ⟨u, hu, hu2⟩ : ∃ u : Nat, r3 % 2 * (if decide ((0 : Int) < (sk : Int)) = true then 1 else 0) = (u : Int) ∧ u ≤ 1 := by
        refine ⟨(r3 % 2 * (if decide ((0 : Int) < (sk : Int)) = true then 1 else 0)).toNat, ?_, ?_⟩ <;> split <;> omega
      rw [hu]
      refine ⟨_, rfl, ?_⟩
      have hps : ((placeOf (oI o) (sk : Int) : Nat) : Int) + (u : Int) = ((placeOf (oI o) (sk : Int) + u : Nat) : Int) := by omega
      refine ⟨_, congrArg D.int hps, szt (by simp [oI]; omega), by omega, by omega, ?_⟩
      (refine w_var 8 rfl ?_; refine ws_nil ?_)
      generalize placeOf (oI o) (sk : Int) + u = ps at hps
      refine ⟨o.take ps ++ [p.nodes.length] ++ o.drop ps, ?_, ?_⟩
      · rw [hm2, if_pos hsk, List.range_succ]
        refine List.Perm.trans ?_ (List.Perm.append_right _ ho)
        refine List.Perm.trans (List.Perm.append_right _ List.perm_append_comm) ?_
        rw [List.append_assoc, List.take_append_drop]
        exact List.perm_append_comm
      · simp [oI, List.map_take, List.map_drop]
    · have hsk : ¬ sk < p.nodes.length := by simpa using h
      rw [if_neg hsk] at hm2
      exact ws_nil ⟨o, by rw [hm2]; exact ho, rfl⟩
  rintro ρ' ⟨o, ho, rfl⟩
  refine wss_frz 12 rfl ?_
  have hol : o.length = m2 := by rw [ho.length_eq, List.length_range]
  have hsub : ∀ k, k < p.nodes.length → k ∈ o := fun k hk => ho.mem_iff.mpr (by rw [List.mem_range, hm2]; split <;> omega)
  (refine ws_seq ?_)
  refine ws_setLc 13 (own := [("k", 11)]) (ts := [11]) rfl scLawMadeOver.nd (blkOk_by (N := nLawMadeOver) (sc := defScope sLawMadeOver) (by decide +kernel)) (by decide) (wi_range1 B.range ?_)
  (refine w_var 8 rfl ?_; refine Exists.intro _ (And.intro rfl ?_))
  refine ⟨by omega, by omega, fun i acc => acc = ((List.range i).map fun k : Nat => placeOf (oI o) (k : Int)).map fun n : Nat => D.int n, rfl, fun i d acc hd ha => ?_, fun acc ha => ?_⟩
  · obtain ⟨z, hz, rfl⟩ := get_map hd
    obtain ⟨hk, rfl⟩ := get_range hz
    have hz2 : z < p.nodes.length := by simpa using hk
    subst ha
    intro _ _ _ _ _
    refine wg_name 11 scLawMadeOver.nd ?_
    intro _ _ _ _ _
    refine wts_nil (if_t rfl ?_)
    intro _ _ _ _ _
    refine w_indexI ?_
    (refine w_var 12 rfl ?_; refine Exists.intro _ (And.intro rfl ?_); refine w_var 11 rfl ?_; refine Exists.intro _ (And.intro rfl ?_))
    refine ⟨mem_oI.mpr (hsub _ hz2), szt (by simp; omega), ?_⟩
    show _ = ((List.range (z + 1)).map fun k : Nat => placeOf (oI o) (k : Int)).map fun n : Nat => D.int n
    rw [List.range_succ, List.map_append, List.map_append]
    rfl
  subst ha
  refine wss_frz 13 rfl ?_
  obtain ⟨pls, hpls⟩ : ∃ pls, pls = (List.range p.nodes.length).map fun k : Nat => placeOf (oI o) (k : Int) := ⟨_, rfl⟩
  have lp : pls.length = p.nodes.length := by rw [hpls]; simp
  have bp : ∀ x ∈ pls, x < m2 := fun x hx => by
    rw [hpls] at hx
    obtain ⟨k, hk, rfl⟩ := List.mem_map.mp hx
    rw [← hol]
    exact place_lt (hsub k (by simpa using hk))
  have elist : (((List.range (((List.range ((p.nodes.length : Int)).toNat).map fun i : Nat => D.int i).length)).map fun k : Nat => placeOf (oI o) (k : Int)).map fun n : Nat => D.int n) = pls.map fun n : Nat => D.int n := by
    rw [hpls]
    simp
  rw [elist]
  (refine ws_seq ?_)
  refine ws_own 14 scLawMadeOver.nd (wn_list B.list bt_list ?_)
  (refine w_var 13 rfl ?_; refine Exists.intro _ (And.intro rfl ?_))
  refine ws_mid (fun ρ' => ∃ bhs : List Nat, bhs.length = p.nodes.length ∧ (∀ x ∈ bhs, x < m2) ∧ ρ' = [.im p.enc, .im (encW (r0 :: r1 :: r2 :: r3 :: r4 :: r5 :: rs)), .im (bxD p.boxes), .im (.lst (p.inputs.map D.str)), .im (.lst (p.nodes.map NdT.enc)), .im (calD p.names g), a, b, .im (.int p.nodes.length), .im (.int sk), l, k, .im (.lst ((oI o).map D.int)), .im (encN pls), .ow (encN bhs), .no, .no]) ?_ ?_
  · (refine ws_if ?_; refine wt_lt ?_; refine w_var 9 rfl ?_; refine Exists.intro _ (And.intro rfl ?_); refine w_var 8 rfl ?_; refine Exists.intro _ (And.intro rfl ?_))
    refine if_2 (fun h => ?_) fun h => ?_
    · have hsk : sk < p.nodes.length := by simpa using h
      have hin : p.nodes.length ∈ o := ho.mem_iff.mpr (by rw [List.mem_range, hm2, if_pos hsk]; omega)
      have hpl := place_lt hin
      (refine ws_seq ?_)
      refine ws_setItem 14 rfl (w_indexI ?_)
      (refine w_var 12 rfl ?_; refine Exists.intro _ (And.intro rfl ?_); refine w_var 8 rfl ?_; refine Exists.intro _ (And.intro rfl ?_))
      refine ⟨mem_oI.mpr hin, ?_⟩
      (refine w_var 9 rfl ?_)
      have hix : ixN (pls.map fun n : Nat => D.int n).length (sk : Int) = some sk := by
        unfold ixN
        rw [if_pos (by omega), if_pos (by rw [List.length_map, lp]; omega)]
        rfl
      refine ⟨_, sk, rfl, hix, ws_nil ⟨pls.set sk (placeOf (oI o) (p.nodes.length : Int)), by simpa using lp, fun x hx => ?_, ?_⟩⟩
      · rcases List.mem_or_eq_of_mem_set hx with hx | hx
        · exact bp x hx
        · rw [hx, ← hol]; exact hpl
      · simp [encN, List.map_set]
    · exact ws_nil ⟨pls, lp, bp, rfl⟩
  rintro ρ' ⟨bhs, lb, bb, rfl⟩
  refine wss_frz 14 rfl ?_
  refine wss_cast (ovRho p (r0 :: r1 :: r2 :: r3 :: r4 :: r5 :: rs) g sk o pls bhs a b l k .no .no) (by rw [← encN_oI]; rfl) ?_
  exact over_fin B Ga Gk hr hp ho hm2 lp lb bp bb fun q hq hl => pp q pls bhs hq lp lb (by rw [hl]; exact bp) (by rw [hl]; exact bb)
end
end TW
set_option Elab.async false
set_option linter.all false
set_option maxRecDepth 100000
set_option maxHeartbeats 40000000
namespace TW
open PySem L2 PyProof.Rows
theorem erase_perm {α : Type} : ∀ {l : List α} {n : Nat} {y : α}, l[n]? = some y → (y :: l.eraseIdx n).Perm l
  | [], _, _, h => by simp at h
  | x :: l, 0, y, h => by simp at h; subst h; exact List.Perm.refl _
  | x :: l, n + 1, y, h => by
    have ih := erase_perm (l := l) (n := n) (y := y) (by simpa using h)
    rw [List.eraseIdx_cons_succ]
    exact List.Perm.trans (List.Perm.swap x y _) (List.Perm.cons x ih)
theorem map_erase {α β : Type} (f : α → β) : ∀ (l : List α) (n : Nat), (l.map f).eraseIdx n = (l.eraseIdx n).map f
  | [], _ => rfl
  | x :: l, 0 => rfl
  | x :: l, n + 1 => by rw [List.map_cons, List.eraseIdx_cons_succ, List.eraseIdx_cons_succ, List.map_cons, map_erase f l n]
theorem base5_len : ∀ x ∈ base5, x.length ≤ 10 := by decide +kernel
def zIf (ins : List Str) (b : Bool) (x : Str) : Str := if x ∉ ins ∧ b = true then x ++ "z" else x
theorem dput_at {ks : List Key} {ds : List D} {k : Key} {d d' : D} (h : k ∉ ks) (hl : ks.length = ds.length) : dput (ks ++ [k]) (ds ++ [d]) k d' = (ks ++ [k], ds ++ [d']) := by
  unfold dput
  rw [if_pos (by simp), List.zip_append hl, List.map_append]
  have : (ks.zip ds).map (fun p => if p.1 = k then d' else p.2) = ds := by
    have e := List.map_congr_left (l := ks.zip ds) (f := fun p => if p.1 = k then d' else p.2) (g := Prod.snd) (fun p hp => if_neg fun z => h (by rw [← z]; exact (List.of_mem_zip hp).1))
    rw [e, List.map_snd_zip (by omega)]
  rw [this]
  simp
section
variable {Pg : Program} {w : World} {K : PySem.W.Frag} {mg : Str → Option Value} {base : Heap} {C : Addr}
def wfOver : List D → (D → Prop) → Prop := fun ds P => ∃ (p : PrT) (r0 r1 r2 r3 r4 r5 : Int) (rs : List Int), ds = [p.enc, encW (r0 :: r1 :: r2 :: r3 :: r4 :: r5 :: rs)] ∧ Prog4 p ∧
  ∀ (q : PrT) (b : Bool) (pls bhs : List Nat), OverOk p (zIf p.inputs b) q → pls.length = p.nodes.length → bhs.length = p.nodes.length → (∀ x ∈ pls, x < q.nodes.length) → (∀ x ∈ bhs, x < q.nodes.length) → P (.tup [q.enc, calD p.names (zIf p.inputs b), encN pls, encN bhs])
theorem ok_over (B : Bl mg) (Ga : Df Pg w K mg base C 10 "_law_node_as" ["node", "called", "places"] wfNodeAs) (Gk : Df Pg w K mg base C 1 "_law_skip" ["boxes", "called", "number", "after"] wfSkip)
    {f : Addr} {fd : FuncData} (F : Fun K "_law_made_over" "_law_made_over" sLawMadeOver f fd) : FnOk Pg w K mg base CX0 11 f fd ["program", "row"] (spD K C wfOver) := by
  refine fn_ok F scLawMadeOver (fun ds P h => by obtain ⟨_, _, _, _, _, _, _, _, rfl, _⟩ := h; rfl) fun cdv A outer s H E hr ds P h => ?_
  obtain ⟨p, r0, r1, r2, r3, r4, r5, rs, rfl, hp, pp⟩ := h
  have hm4 := hp.few
  have hm1 : 0 < p.nodes.length := List.length_pos_iff.mpr hp.some
  have hb2 := hp.nice.few
  (refine ws_seq ?_)
  refine ws_asg (ts := [2, 3, 4]) ?_
  (refine w_var 0 rfl ?_)
  refine wg_tup rfl (wgs_cons (wg_name 2 scLawMadeOver.nd (wgs_cons (wg_name 3 scLawMadeOver.nd (wgs_cons (wg_name 4 scLawMadeOver.nd (wgs_nil ?_))))))) rfl
  (refine ws_seq ?_)
  refine ws_own 5 scLawMadeOver.nd (wn_dnewK ?_)
  (refine ws_seq ?_)
  refine ws_for (ts := [6, 7]) PassesOwn.never rfl (wi_list ?_)
  (refine w_var 2 rfl ?_)
  obtain ⟨bz, hbz⟩ : ∃ bz : Bool, bz = decide (r0 % 2 = 1) := ⟨_, rfl⟩
  refine ⟨_, .inl rfl, fun i ρ' => ∃ (a b : Sl), ρ' = [.im p.enc, .im (encW (r0 :: r1 :: r2 :: r3 :: r4 :: r5 :: rs)), .im (bxD p.boxes), .im (.lst (p.inputs.map D.str)), .im (.lst (p.nodes.map NdT.enc)), .ow (.dk ((p.names.take i).map fun n => .inr n) ((p.names.take i).map fun n => .str (zIf p.inputs bz n))), a, b, .no, .no, .no, .no, .no, .no, .no, .no, .no], ⟨_, _, rfl⟩, fun i d ρ' hd hi => ?_, fun ρ' hi => ?_⟩
  · obtain ⟨a, b, rfl⟩ := hi
    obtain ⟨bx, hb, rfl⟩ := get_map hd
    have hb' := hb
    have hil : i < p.boxes.length := (List.getElem?_eq_some_iff.mp hb).1
    have hni : p.names[i]? = some bx.1 := by simp [PrT.names, hb]
    have hnew : (Sum.inr bx.1 : Key) ∉ (p.names.take i).map (fun n => (Sum.inr n : Key)) := fun z => by
      obtain ⟨n, hn, e⟩ := List.mem_map.mp z
      cases e
      obtain ⟨j, hj⟩ := List.getElem?_of_mem hn
      have hj2 : j < i := by have := (List.getElem?_eq_some_iff.mp hj).1; rw [List.length_take] at this; omega
      rw [List.getElem?_take, if_pos hj2] at hj
      obtain ⟨x1, y1⟩ := List.getElem?_eq_some_iff.mp hj
      obtain ⟨x2, y2⟩ := List.getElem?_eq_some_iff.mp hni
      have := (List.getElem_inj hp.nice.nd).mp (y1.trans y2.symm)
      omega
    refine wg_tup rfl (wgs_cons (wg_name 6 scLawMadeOver.nd (wgs_cons (wg_name 7 scLawMadeOver.nd (wgs_nil ?_))))) rfl
    (refine ws_seq ?_)
    refine ws_dputK 5 (hu_of hr) rfl ?_
    (refine w_var 6 rfl ?_; refine w_var 6 rfl ?_)
    refine ⟨.inr bx.1, rfl, szt (by simp; omega), ?_⟩
    rw [dput_new hnew]
    have htk1 : (p.names.take (i + 1)).map (fun n => (Sum.inr n : Key)) = (p.names.take i).map (fun n => (Sum.inr n : Key)) ++ [.inr bx.1] := by rw [List.take_add_one, hni, List.map_append]; rfl
    have htk2 : ∀ f : Str → D, (p.names.take (i + 1)).map f = (p.names.take i).map f ++ [f bx.1] := fun f => by rw [List.take_add_one, hni, List.map_append]; rfl
    refine ws_seq (ws_if (WT.mono (P := fun b => (b = true ↔ bx.1 ∉ p.inputs ∧ bz = true)) ?_ fun b hb => ?_))
    · (refine WW.wt (ww_and ?_))
      refine wt_niS ?_
      (refine w_var 6 rfl ?_; refine w_var 3 rfl ?_)
      refine ⟨bx.1, p.inputs, rfl, rfl, ?_⟩
      refine if_2 (fun h => ?_) fun h => ?_
      · have hni : bx.1 ∉ p.inputs := by simpa using h
        (refine ww_and1 ?_; refine wt_eqc ?_; refine w_mod ?_; refine w_ixN (w_var 1 rfl ⟨_, rfl, ?_⟩); refine w_int ?_; refine Exists.intro _ (And.intro rfl ?_); refine Exists.intro _ (And.intro (atI_nat (j := 0) rfl) ?_); refine Exists.intro _ (And.intro rfl ?_); refine w_int ?_; refine Exists.intro _ (And.intro rfl ?_); refine And.intro (by decide +kernel) ?_; refine w_int ?_; refine And.intro rfl ?_)
        rw [hbz]
        exact ⟨fun z => ⟨hni, z⟩, fun z => z.2⟩
      · have hin : bx.1 ∈ p.inputs := by simpa using h
        exact ⟨fun z => absurd z Bool.false_ne_true, fun z => absurd hin z.1⟩
    refine if_2 (fun h => ?_) fun h => ?_
    · have hz : zIf p.inputs bz bx.1 = bx.1 ++ "z" := if_pos (hb.mp h)
      (refine ws_seq ?_)
      refine ws_dputK 5 (hu_of hr) rfl ?_
      refine w_addS ?_
      (refine w_var 6 rfl ?_; refine Exists.intro _ (And.intro rfl ?_); refine w_str ?_; refine Exists.intro _ (And.intro rfl ?_))
      refine ⟨szl (by have := base5_len _ (hp.nice.box bx (List.mem_of_getElem? hb')).2.2; have e : ("z" : Str).length = 1 := by decide +kernel
                      omega), ?_⟩
      (refine w_var 6 rfl ?_)
      refine ⟨.inr bx.1, rfl, szt (by simp; omega), ws_nil (ws_nil ⟨.im (.str bx.1), .im (.int bx.2), ?_⟩)⟩
      rw [dput_at hnew (by simp), htk1, htk2, hz]
      rfl
    · have hz : zIf p.inputs bz bx.1 = bx.1 := if_neg fun z => by rw [hb.mpr z] at h; cases h
      refine ws_nil (ws_nil ⟨.im (.str bx.1), .im (.int bx.2), ?_⟩)
      rw [htk1, htk2, hz]
      rfl
  · obtain ⟨a, b, rfl⟩ := hi
    refine wss_frz 5 rfl ?_
    rw [List.length_map, List.take_of_length_le (by simp [PrT.names])]
    (refine ws_seq ?_)
    refine ws_set 8 scLawMadeOver.nd (w_len B.len ?_)
    (refine w_var 4 rfl ?_; refine Exists.intro _ (And.intro rfl ?_); refine ws_seq ?_)
    rw [List.length_map]
    refine ws_set 9 scLawMadeOver.nd ?_
    (refine w_mod ?_; refine w_ixN (w_var 1 rfl ⟨_, rfl, ?_⟩); refine w_int ?_; refine Exists.intro _ (And.intro rfl ?_); refine Exists.intro _ (And.intro (atI_nat (j := 1) rfl) ?_); refine Exists.intro _ (And.intro rfl ?_); refine w_mul ?_; refine w_int ?_; refine Exists.intro _ (And.intro rfl ?_); refine w_var 8 rfl ?_; refine Exists.intro _ (And.intro rfl ?_); refine And.intro (Or.inl (And.intro (by decide +kernel) (by decide +kernel))) ?_; refine Exists.intro _ (And.intro rfl ?_))
    refine ⟨by omega, ?_⟩
    obtain ⟨sk, hsk, hsk2⟩ := md_nat (x := r1) (many := 2 * p.nodes.length) (by omega)
    have hsk' : r1 % (2 * (p.nodes.length : Int)) = (sk : Int) := by
      rw [← hsk]
      congr 1
    rw [hsk']
    (refine ws_seq ?_)
    refine ws_setLc 10 (own := [("k", 11)]) (ts := [11]) rfl scLawMadeOver.nd (blkOk_by (N := nLawMadeOver) (sc := defScope sLawMadeOver) (by decide +kernel)) (by decide) (wi_range2 B.range ?_)
    (refine w_int ?_; refine Exists.intro _ (And.intro rfl ?_); refine w_var 8 rfl ?_; refine Exists.intro _ (And.intro rfl ?_))
    refine ⟨by omega, fun i acc => acc = (oI ((List.range i).map (1 + ·))).map D.int, rfl, fun i d acc hd ha => ?_, fun acc ha => ?_⟩
    · obtain ⟨z, hz, rfl⟩ := get_map hd
      obtain ⟨hk, rfl⟩ := get_range hz
      subst ha
      intro _ _ _ _ _
      refine wg_name 11 scLawMadeOver.nd ?_
      intro _ _ _ _ _
      refine wts_nil (if_t rfl ?_)
      intro _ _ _ _ _
      (refine w_var 11 rfl ?_)
      refine ⟨szt (by simp [oI]; omega), ?_⟩
      show _ = (oI ((List.range (z + 1)).map (1 + ·))).map D.int
      simp [oI, List.range_succ]
    subst ha
    have elf : ((List.range ((p.nodes.length : Int) - 1).toNat).map fun k : Nat => D.int (1 + (k : Int))).length = p.nodes.length - 1 := by simp
    rw [elf]
    (refine ws_seq ?_)
    refine ws_own 12 scLawMadeOver.nd (wn_lst ?_)
    (refine wa_cons ?_; refine w_int ?_; refine wa_nil ?_; refine And.intro (sz rfl) ?_; refine ws_seq ?_)
    refine ws_for (ts := [11]) PassesOwn.never rfl (wi_range1 B.range ?_)
    (refine w_sub ?_; refine w_var 8 rfl ?_; refine Exists.intro _ (And.intro rfl ?_); refine w_int ?_; refine Exists.intro _ (And.intro rfl ?_); refine Exists.intro _ (And.intro rfl ?_))
    refine ⟨by omega, by omega, fun i ρ' => ∃ (o lf : List Nat) (k : Sl), ρ' = [.im p.enc, .im (encW (r0 :: r1 :: r2 :: r3 :: r4 :: r5 :: rs)), .im (bxD p.boxes), .im (.lst (p.inputs.map D.str)), .im (.lst (p.nodes.map NdT.enc)), .im (calD p.names (zIf p.inputs bz)), a, b, .im (.int p.nodes.length), .im (.int sk), .ow (.lst ((oI lf).map D.int)), k, .ow (.lst ((oI o).map D.int)), .no, .no, .no, .no] ∧ lf.length + i = p.nodes.length - 1 ∧ (o ++ lf).Perm (List.range p.nodes.length), ⟨[0], _, _, rfl, by simp, ?_⟩, fun i d ρ' hd hi => ?_, fun ρ' hi => ?_⟩
    · obtain ⟨n, hn⟩ : ∃ n, p.nodes.length = n + 1 := ⟨p.nodes.length - 1, by omega⟩
      rw [hn, List.range_succ_eq_map]
      have : (List.range (n + 1 - 1)).map (1 + ·) = (List.range n).map Nat.succ := by
        rw [Nat.add_sub_cancel]
        exact List.map_congr_left fun x _ => Nat.add_comm 1 x
      rw [this]
      exact List.Perm.refl _
    · obtain ⟨o, lf, k, rfl, hl, hpm⟩ := hi
      obtain ⟨z, hz, rfl⟩ := get_map hd
      obtain ⟨hk, rfl⟩ := get_range hz
      have hlen : (o ++ lf).length = p.nodes.length := by rw [hpm.length_eq, List.length_range]
      rw [List.length_append] at hlen
      have hpos : 0 < lf.length := by omega
      refine wg_name 11 scLawMadeOver.nd ?_
      (refine ws_seq ?_)
      refine ws_appendPop 12 10 (by decide) rfl rfl ?_
      (refine w_mod ?_; refine w_fdiv ?_; refine w_ixN (w_var 1 rfl ⟨_, rfl, ?_⟩); refine w_int ?_; refine Exists.intro _ (And.intro rfl ?_); refine Exists.intro _ (And.intro (atI_nat (j := 2) rfl) ?_); refine Exists.intro _ (And.intro rfl ?_); refine w_add ?_; refine w_var 11 rfl ?_; refine Exists.intro _ (And.intro rfl ?_); refine w_int ?_; refine Exists.intro _ (And.intro rfl ?_); refine Exists.intro _ (And.intro rfl ?_))
      refine And.intro ⟨by omega, by omega⟩ ?_
      (refine Exists.intro _ (And.intro rfl ?_))
      refine w_lenOw 10 rfl B.len ?_
      (refine Exists.intro _ (And.intro rfl ?_))
      have hln : ((oI lf).map D.int).length = lf.length := by simp [oI]
      rw [hln]
      refine ⟨by omega, ?_⟩
      obtain ⟨v, hv, hv2⟩ := md_nat (x := r2 / ((z : Int) + 1)) hpos
      rw [hv]
      have hvz : lf[v]? = some lf[v] := List.getElem?_eq_getElem hv2
      have hpe := erase_perm hvz
      generalize lf[v] = y at hvz hpe
      refine ⟨(v : Int), v, .int (y : Nat), rfl, szt (by simp [oI]; omega), by omega, by omega, by omega, by simp [oI, hvz], ws_nil ⟨o ++ [y], lf.eraseIdx v, .im (.int z), ?_, ?_, ?_⟩⟩
      · simp [oI, map_erase]
      · rw [List.length_eraseIdx_of_lt hv2]
        omega
      · refine List.Perm.trans ?_ hpm
        rw [List.append_assoc]
        exact List.Perm.append_left _ hpe
    · obtain ⟨o, lf, k, rfl, hl, hpm⟩ := hi
      have hl0 : lf = [] := by
        refine List.length_eq_zero_iff.mp ?_
        rw [List.length_map, List.length_range] at hl
        omega
      subst hl0
      rw [List.append_nil] at hpm
      exact over_mid B Ga Gk hr hp hpm fun q pls bhs hq h1 h2 h3 h4 => pp q bz pls bhs hq h1 h2 h3 h4
end
end TW
set_option Elab.async false
set_option linter.all false
set_option maxRecDepth 100000
set_option maxHeartbeats 4000000
/-! The plain law: entries of a place, order. -/
namespace TW
open PySem L2 PyProof.Rows
abbrev MY := List Int × List Int
/-- where some entry of a place counts -/
def anyL (a b : PrT) (es : List EntT) (pl : Nat × Nat) : List MY := (combos a.sizes).flatMap fun m => ((combos b.sizes).filter fun y => (cntM a b es pl m y).isSome).map fun y => (m, y)
def toldL (a b : PrT) (es : List EntT) (pl : Nat × Nat) (n : Nat) : List MY := (List.range n).flatMap fun i => if (places es)[i]? = some pl then entW a b es pl i else []
def myLt (x y : MY) : Prop := x.1 < y.1 ∨ (x.1 = y.1 ∧ x.2 < y.2)
theorem prod_sorted {xs : List (List Int)} {f : List Int → List (List Int)} (hx : xs.Pairwise (· < ·)) (hf : ∀ m, (f m).Pairwise (· < ·)) : (xs.flatMap fun m => (f m).map fun y => (m, y)).Pairwise myLt := by
  rw [List.pairwise_flatMap]
  refine ⟨fun m _ => ?_, hx.imp fun {a b} hab x h1 y h2 => ?_⟩
  · rw [List.pairwise_map]
    exact (hf m).imp fun h => .inr ⟨rfl, h⟩
  · obtain ⟨z, _, rfl⟩ := List.mem_map.mp h1
    obtain ⟨w, _, rfl⟩ := List.mem_map.mp h2
    exact .inl hab
theorem anyL_sorted (a b : PrT) (es : List EntT) (pl : Nat × Nat) : (anyL a b es pl).Pairwise myLt := prod_sorted (combos_sorted _) fun m => (combos_sorted _).sublist List.filter_sublist
theorem entW_sorted (a b : PrT) (es : List EntT) (pl : Nat × Nat) (n : Nat) : (entW a b es pl n).Pairwise myLt := prod_sorted (f := fun m => (combos b.sizes).filter fun y => decide (cntM a b es pl m y = some n)) (combos_sorted _) fun m => (combos_sorted _).sublist List.filter_sublist
theorem myLt_ne {x y : MY} (h : myLt x y) : x ≠ y := by
  rintro rfl
  rcases h with h | ⟨_, h⟩
  · exact List.lt_irrefl _ h
  · exact List.lt_irrefl _ h
theorem mem_entW {a b : PrT} {es : List EntT} {pl : Nat × Nat} {n : Nat} {z : MY} : z ∈ entW a b es pl n ↔ z.1 ∈ combos a.sizes ∧ z.2 ∈ combos b.sizes ∧ cntM a b es pl z.1 z.2 = some n := by
  obtain ⟨m, y⟩ := z
  unfold entW rowE
  simp only [List.mem_flatMap, List.mem_map, List.mem_filter, decide_eq_true_eq]
  constructor
  · rintro ⟨m', hm, y', ⟨hy, hc⟩, e⟩
    cases e
    exact ⟨hm, hy, hc⟩
  · rintro ⟨h1, h2, h3⟩
    exact ⟨m, h1, y, ⟨h2, h3⟩, rfl⟩
theorem mem_anyL {a b : PrT} {es : List EntT} {pl : Nat × Nat} {z : MY} : z ∈ anyL a b es pl ↔ z.1 ∈ combos a.sizes ∧ z.2 ∈ combos b.sizes ∧ (cntM a b es pl z.1 z.2).isSome = true := by
  obtain ⟨m, y⟩ := z
  unfold anyL
  simp only [List.mem_flatMap, List.mem_map, List.mem_filter]
  constructor
  · rintro ⟨m', hm, y', ⟨hy, hc⟩, e⟩
    cases e
    exact ⟨hm, hy, hc⟩
  · rintro ⟨h1, h2, h3⟩
    exact ⟨m, h1, y, ⟨h2, h3⟩, rfl⟩
theorem sorted_nodup {l : List MY} (h : l.Pairwise myLt) : l.Nodup := h.imp myLt_ne
theorem mem_toldL {a b : PrT} {es : List EntT} {pl : Nat × Nat} {n : Nat} {z : MY} : z ∈ toldL a b es pl n ↔ z.1 ∈ combos a.sizes ∧ z.2 ∈ combos b.sizes ∧ ∃ i, i < n ∧ (places es)[i]? = some pl ∧ cntM a b es pl z.1 z.2 = some i := by
  unfold toldL
  simp only [List.mem_flatMap, List.mem_range]
  constructor
  · rintro ⟨i, hi, hz⟩
    by_cases hp : (places es)[i]? = some pl
    · rw [if_pos hp] at hz
      obtain ⟨h1, h2, h3⟩ := mem_entW.mp hz
      exact ⟨h1, h2, i, hi, hp, h3⟩
    · rw [if_neg hp] at hz
      cases hz
  · rintro ⟨h1, h2, i, hi, hp, h3⟩
    exact ⟨i, hi, by rw [if_pos hp]; exact mem_entW.mpr ⟨h1, h2, h3⟩⟩
theorem toldL_nodup (a b : PrT) (es : List EntT) (pl : Nat × Nat) (n : Nat) : (toldL a b es pl n).Nodup := by
  unfold toldL
  rw [List.nodup_iff_pairwise_ne, List.pairwise_flatMap]
  refine ⟨fun i _ => ?_, List.nodup_range.imp_of_mem fun {i j} _ _ hij x hx y hy e => ?_⟩
  · by_cases hp : (places es)[i]? = some pl
    · rw [if_pos hp]; exact sorted_nodup (entW_sorted a b es pl i)
    · rw [if_neg hp]; exact List.Pairwise.nil
  · by_cases hp : (places es)[i]? = some pl
    · by_cases hq : (places es)[j]? = some pl
      · rw [if_pos hp] at hx
        rw [if_pos hq] at hy
        have h1 := (mem_entW.mp hx).2.2
        have h2 := (mem_entW.mp hy).2.2
        rw [e, h2] at h1
        exact hij (Option.some.inj h1).symm
      · rw [if_neg hq] at hy; cases hy
    · rw [if_neg hp] at hx; cases hx
theorem cnt_place {a b : PrT} {es : List EntT} {pl : Nat × Nat} {m y : List Int} {i : Nat} (h : cntM a b es pl m y = some i) : i < es.length ∧ (places es)[i]? = some pl := by
  obtain ⟨e, he, hp, _⟩ := cnt_mem h
  exact ⟨(List.getElem?_eq_some_iff.mp he).1, by simp [places, he, hp]⟩
theorem told_perm (a b : PrT) (es : List EntT) (pl : Nat × Nat) : (toldL a b es pl es.length).Perm (anyL a b es pl) := by
  refine (List.perm_ext_iff_of_nodup (toldL_nodup ..) (sorted_nodup (anyL_sorted ..))).mpr fun z => ?_
  rw [mem_toldL, mem_anyL]
  constructor
  · rintro ⟨h1, h2, i, _, _, h3⟩
    exact ⟨h1, h2, by rw [h3]; rfl⟩
  · rintro ⟨h1, h2, h3⟩
    cases hc : cntM a b es pl z.1 z.2 with
    | none => rw [hc] at h3; cases h3
    | some i => exact ⟨h1, h2, i, (cnt_place hc).1, (cnt_place hc).2, rfl⟩
end TW
set_option Elab.async false
set_option linter.all false
set_option maxRecDepth 100000
set_option maxHeartbeats 4000000
/-! The order of pairs of worths. -/
namespace TW
open PySem L2 PyProof.Rows PySem.W
theorem toPy_my (z : MY) : toPy (encMY z) = .tuple [.list (z.1.map .int), .list (z.2.map .int)] := by
  have e : ∀ l : List Int, toPys (l.map D.int) = l.map .int := fun l => by
    induction l with
    | nil => rfl
    | cons x l ih => rw [List.map_cons, toPys, ih]; rfl
  simp only [encMY, encW, toPy, toPys, e]
theorem eqv_ints : ∀ xs ys : List Int, (PyData.eqvAll (xs.map .int) (ys.map .int) = true ↔ xs = ys)
  | [], [] => by simp [PyData.eqvAll]
  | [], _ :: _ => by simp [PyData.eqvAll]
  | _ :: _, [] => by simp [PyData.eqvAll]
  | x :: xs, y :: ys => by
    have := eqv_ints xs ys
    simp [PyData.eqvAll, PyData.eqv, this]
theorem alike_l (xs ys : List Int) : alike (.list (xs.map .int)) (.list (ys.map .int)) = true := by
  rw [alike]
  exact alike_ints xs ys
theorem lt_l (xs ys : List Int) : dataLt (.list (xs.map .int)) (.list (ys.map .int)) = decide (xs < ys) := by
  rw [dataLt_list]
  exact dataLt_ints xs ys
theorem lt_my (x y : MY) : dataLt (toPy (encMY x)) (toPy (encMY y)) = true ↔ myLt x y := by
  rw [toPy_my, toPy_my, dataLt_pair (alike_l _ _) (alike_l _ _), lt_l, lt_l]
  have h1 := eqv_ints x.1 y.1
  have h2 := eqv_ints x.2 y.2
  have e : ∀ xs ys : List PyData, PyData.eqv (.list xs) (.list ys) = PyData.eqvAll xs ys := fun xs ys => by rw [PyData.eqv]
  rw [e, e]
  unfold myLt
  by_cases a : x.1 = y.1
  · rw [if_pos (h1.mpr a)]
    by_cases b : x.2 = y.2
    · rw [if_pos (h2.mpr b)]
      simp [a, b, List.lt_irrefl]
    · rw [if_neg (fun z => b (h2.mp z))]
      simp [a, List.lt_irrefl]
  · rw [if_neg (fun z => a (h1.mp z))]
    simp [a]
theorem ll_tri (x y : List Int) : x < y ∨ x = y ∨ y < x := by
  by_cases h : x < y
  · exact .inl h
  · by_cases h2 : y < x
    · exact .inr (.inr h2)
    · exact .inr (.inl (List.le_antisymm (List.not_lt.mp h2) (List.not_lt.mp h)))
theorem my_asym {x y : MY} (h : myLt x y) (k : myLt y x) : False := by
  rcases h with h | ⟨h1, h2⟩
  · rcases k with k | ⟨k1, _⟩
    · exact List.lt_irrefl _ (List.lt_trans h k)
    · rw [k1] at h; exact List.lt_irrefl _ h
  · rcases k with k | ⟨_, k2⟩
    · rw [h1] at k; exact List.lt_irrefl _ k
    · exact List.lt_irrefl _ (List.lt_trans h2 k2)
theorem my_tri (x y : MY) : myLt x y ∨ x = y ∨ myLt y x := by
  rcases ll_tri x.1 y.1 with h | h | h
  · exact .inl (.inl h)
  · rcases ll_tri x.2 y.2 with k | k | k
    · exact .inl (.inr ⟨h, k⟩)
    · exact .inr (.inl (Prod.ext h k))
    · exact .inr (.inr (.inr ⟨h.symm, k⟩))
  · exact .inr (.inr (.inl h))
/-- sorted of a permutation of a list in order is that list -/
theorem sort_my {l s : List MY} (hp : l.Perm s) (hs : s.Pairwise myLt) : (l.map encMY).mergeSort (dataLe false toPy) = s.map encMY := by
  let r : MY → MY → Bool := fun x y => !dataLt (toPy (encMY y)) (toPy (encMY x))
  have e := sort_maps (r := r) (s := dataLe false toPy) (l := l) encMY (fun a _ b _ => rfl)
  rw [← e]
  have hr : ∀ x y, r x y = true ↔ ¬ myLt y x := fun x y => by
    show (!dataLt (toPy (encMY y)) (toPy (encMY x))) = true ↔ _
    rw [Bool.not_eq_true', ← lt_my]
    simp
  have ht : TotalLe r := ⟨fun a b c h1 h2 => by
    rw [hr] at h1 h2 ⊢
    intro h
    rcases my_tri a b with k | k | k
    · rcases my_tri b c with q | q | q
      · refine my_asym h ?_
        rcases k with k | ⟨k1, k2⟩
        · rcases q with q | ⟨q1, q2⟩
          · exact .inl (List.lt_trans k q)
          · exact .inl (by rw [← q1]; exact k)
        · rcases q with q | ⟨q1, q2⟩
          · exact .inl (by rw [k1]; exact q)
          · exact .inr ⟨k1.trans q1, List.lt_trans k2 q2⟩
      · rw [← q] at h; exact h1 h
      · exact h2 q
    · rw [k] at h; exact h2 h
    · exact h1 k, fun a b => by
    rw [hr, hr]
    rcases my_tri a b with k | k | k
    · exact .inl fun z => my_asym k z
    · exact .inl fun z => by rw [k] at z; exact my_asym z z
    · exact .inr fun z => my_asym k z⟩
  congr 1
  refine List.Perm.eq_of_pairwise (le := fun x y => r x y = true) (fun a b _ _ h1 h2 => ?_) (sort_pairwise ht l) (hs.imp fun h => ?_) ((List.mergeSort_perm l r).trans hp)
  · rw [hr] at h1 h2
    rcases my_tri a b with k | k | k
    · exact absurd k h2
    · exact k
    · exact absurd k h1
  · rw [hr]
    exact fun z => my_asym h z
end TW
set_option Elab.async false
set_option linter.all false
set_option maxRecDepth 100000
set_option maxHeartbeats 4000000
/-! The plain law: an entry split in two. -/
namespace TW
open PySem L2 PyProof.Rows
/-- whether an entry is at the place and holds -/
def meets (a b : PrT) (pl : Nat × Nat) (m y : List Int) (e : EntT) : Bool := decide (e.pl = pl) && e.c.eval (mAt a b m y)
def cntE (a b : PrT) (es : List EntT) (pl : Nat × Nat) (m y : List Int) : Option EntT := es.find? (meets a b pl m y)
theorem find_range {α : Type} (p : α → Bool) : ∀ (l : List α), ((List.range l.length).find? fun i => (l[i]?).any p).bind (l[·]?) = l.find? p
  | [] => rfl
  | x :: l => by
    rw [List.length_cons, List.range_succ_eq_map, List.find?_cons]
    by_cases h : p x = true
    · simp [h]
    · have ih := find_range p l
      rw [List.find?_map]
      simp only [Bool.not_eq_true] at h
      simp [h, ← ih, Function.comp_def]
      cases (List.range l.length).find? (fun x => (l[x]?).any p) with
      | none => rfl
      | some i => simp
theorem cnt_find (a b : PrT) (es : List EntT) (pl : Nat × Nat) (m y : List Int) : cntM a b es pl m y = (List.range es.length).find? fun i => (es[i]?).any (meets a b pl m y) := by
  unfold cntM numsAt idxs
  rw [List.find?_filter]
  congr 1
  funext i
  cases h : es[i]? with
  | none => simp [places, h]
  | some e => simp [places, h, meets]
theorem cnt_ent (a b : PrT) (es : List EntT) (pl : Nat × Nat) (m y : List Int) : (cntM a b es pl m y).bind (es[·]?) = cntE a b es pl m y := by
  rw [cnt_find]
  exact find_range (meets a b pl m y) es
/-- e1, e2 split e -/
structure Split (e e1 e2 : EntT) : Prop where
  pl1 : e1.pl = e.pl
  pl2 : e2.pl = e.pl
  w1 : e1.who = e.who ∧ e1.wait = e.wait
  w2 : e2.who = e.who ∧ e2.wait = e.wait
  ev : ∀ f, e.c.eval f = (e1.c.eval f || e2.c.eval f)
def tail2 (e : EntT) : Str × SumT := (e.who, e.wait)
theorem cntE_split {a b : PrT} {A B : List EntT} {e e1 e2 : EntT} (s : Split e e1 e2) (pl : Nat × Nat) (m y : List Int) : (cntE a b (A ++ [e1, e2] ++ B) pl m y).map tail2 = (cntE a b (A ++ [e] ++ B) pl m y).map tail2 := by
  unfold cntE
  rw [List.find?_append, List.find?_append, List.find?_append, List.find?_append]
  cases A.find? (meets a b pl m y) with
  | some x => rfl
  | none =>
    have h1 : meets a b pl m y e = (meets a b pl m y e1 || meets a b pl m y e2) := by
      unfold meets
      rw [s.pl1, s.pl2, s.ev]
      cases decide (e.pl = pl) <;> simp
    have t1 : tail2 e1 = tail2 e := by simp [tail2, s.w1]
    have t2 : tail2 e2 = tail2 e := by simp [tail2, s.w2]
    cases q1 : meets a b pl m y e1 <;> cases q2 : meets a b pl m y e2 <;> simp [h1, q1, q2, t1, t2]
/-- the same, told of (who, wait) alone -/
def wellT (p q : PrT) (es : List EntT) (t : Str × SumT) (z : Plc) : Bool :=
  decide (0 ≤ t.2.eval (mAt p q z.2.2.1 z.2.2.2)) &&
    if t.1 = "end" then endAt p z.1 && endAt q z.2.1
    else match behM p q t.1 z with
      | none => false
      | some y => match (cntE p q es (y.1, y.2.1) y.2.2.1 y.2.2.2).map tail2 with
        | none => false
        | some l => decide (t.1 = "both") || decide (l.2.eval (mAt p q y.2.2.1 y.2.2.2) < t.2.eval (mAt p q z.2.2.1 z.2.2.2))
theorem wellM_T (p q : PrT) (es : List EntT) (e : EntT) (z : Plc) : wellM p q es e z = wellT p q es (tail2 e) z := by
  unfold wellM wellT tail2
  congr 1
  by_cases h : e.who = "end"
  · simp [h]
  · simp only [if_neg h]
    cases behM p q e.who z with
    | none => rfl
    | some y =>
      have hb := cnt_ent p q es (y.1, y.2.1) y.2.2.1 y.2.2.2
      cases hc : cntM p q es (y.1, y.2.1) y.2.2.1 y.2.2.2 with
      | none =>
        rw [hc] at hb
        simp [← hb, hc]
      | some n =>
        obtain ⟨l, hl, _⟩ := cnt_mem hc
        rw [hc] at hb
        simp only [Option.bind_some, hl] at hb
        simp [hl, ← hb, hc]
theorem wellAt_T (p q : PrT) (es : List EntT) (pl : Nat × Nat) (m y : List Int) : wellAt p q es pl m y = match (cntE p q es pl m y).map tail2 with
    | none => true
    | some t => wellT p q es t (pl.1, pl.2, m, y) := by
  have hb := cnt_ent p q es pl m y
  unfold wellAt
  cases hc : cntM p q es pl m y with
  | none =>
    rw [hc] at hb
    simp [← hb]
  | some n =>
    obtain ⟨l, hl, _⟩ := cnt_mem hc
    rw [hc] at hb
    simp only [Option.bind_some, hl] at hb
    simp [hl, ← hb, wellM_T]
theorem mem_by {es : List EntT} {pl : Nat × Nat} : pl ∈ (byP es).1 ↔ ∃ e ∈ es, e.pl = pl := by
  rw [(byP_inv es).mem]
  have : (places es).take es.length = places es := List.take_of_length_le (by simp [places])
  rw [this]
  unfold places
  rw [List.mem_map]
theorem isSome_E (p q : PrT) (es : List EntT) (pl : Nat × Nat) (m y : List Int) : (cntM p q es pl m y).isSome = ((cntE p q es pl m y).map tail2).isSome := by
  have hb := cnt_ent p q es pl m y
  cases hc : cntM p q es pl m y with
  | none =>
    rw [hc] at hb
    simp [← hb]
  | some n =>
    obtain ⟨l, hl, _⟩ := cnt_mem hc
    rw [hc] at hb
    simp only [Option.bind_some, hl] at hb
    simp [← hb]
theorem shows_congr {p q : PrT} {es es' : List EntT} (h : ∀ pl m y, (cntE p q es pl m y).map tail2 = (cntE p q es' pl m y).map tail2) (hm : ∀ pl, pl ∈ (byP es).1 ↔ pl ∈ (byP es').1) : showsM p q es ↔ showsM p q es' := by
  have hT : ∀ t z, wellT p q es t z = wellT p q es' t z := fun t z => by
    unfold wellT
    simp only [h]
  have hA : ∀ pl m y, wellAt p q es pl m y = wellAt p q es' pl m y := fun pl m y => by
    rw [wellAt_T, wellAt_T, h]
    cases (cntE p q es' pl m y).map tail2 with
    | none => rfl
    | some t => exact hT t _
  unfold showsM
  simp only [isSome_E, h, hA, hm]
theorem split_shows {p q : PrT} {A B : List EntT} {e e1 e2 : EntT} (s : Split e e1 e2) : showsM p q (A ++ [e1, e2] ++ B) ↔ showsM p q (A ++ [e] ++ B) := by
  refine shows_congr (fun pl m y => cntE_split s pl m y) fun pl => ?_
  rw [mem_by, mem_by]
  constructor
  · rintro ⟨x, hx, e3⟩
    simp only [List.mem_append, List.mem_cons, List.not_mem_nil, or_false] at hx
    rcases hx with (hx | rfl | rfl) | hx
    · exact ⟨x, by simp [hx], e3⟩
    · exact ⟨e, by simp, by rw [← s.pl1]; exact e3⟩
    · exact ⟨e, by simp, by rw [← s.pl2]; exact e3⟩
    · exact ⟨x, by simp [hx], e3⟩
  · rintro ⟨x, hx, e3⟩
    simp only [List.mem_append, List.mem_cons, List.not_mem_nil, or_false] at hx
    rcases hx with (hx | rfl) | hx
    · exact ⟨x, by simp [hx], e3⟩
    · exact ⟨e1, by simp, by rw [s.pl1]; exact e3⟩
    · exact ⟨x, by simp [hx], e3⟩
end TW
set_option Elab.async false
set_option linter.all false
set_option maxRecDepth 100000
set_option maxHeartbeats 4000000
/-! The plain law: the worths of split entries, of an entry behind one that always holds, an empty paper. -/
namespace TW
open PySem L2 PyProof.Rows PySem.W
theorem cnt_iff (a b : PrT) (es : List EntT) (pl : Nat × Nat) (m y : List Int) (n : Nat) : cntM a b es pl m y = some n ↔ (∃ e, es[n]? = some e ∧ meets a b pl m y e = true) ∧ ∀ i, i < n → ∀ x, es[i]? = some x → meets a b pl m y x = false := by
  rw [cnt_find, List.find?_range_eq_some]
  constructor
  · rintro ⟨h1, h2, h3⟩
    cases he : es[n]? with
    | none => rw [he] at h1; cases h1
    | some e =>
      rw [he] at h1
      refine ⟨⟨e, rfl, h1⟩, fun i hi x hx => ?_⟩
      have := h3 i hi
      rw [hx] at this
      simpa using this
  · rintro ⟨⟨e, he, h1⟩, h2⟩
    refine ⟨by rw [he]; exact h1, List.mem_range.mpr (List.getElem?_eq_some_iff.mp he).1, fun i hi => ?_⟩
    cases hx : es[i]? with
    | none => rfl
    | some x => simpa using h2 i hi x hx
theorem cnt_none (a b : PrT) (pl : Nat × Nat) (m y : List Int) : cntM a b [] pl m y = none := by
  rw [cnt_find]
  rfl
theorem any_meets (a b : PrT) (es : List EntT) (pl : Nat × Nat) (m y : List Int) : (cntM a b es pl m y).isSome = es.any (meets a b pl m y) := by
  have hb := cnt_ent a b es pl m y
  have h1 : (cntE a b es pl m y).isSome = es.any (meets a b pl m y) := by
    unfold cntE
    rw [Bool.eq_iff_iff, List.find?_isSome, List.any_eq_true]
  rw [← h1]
  cases hc : cntM a b es pl m y with
  | none =>
    rw [hc] at hb
    rw [← hb]
    rfl
  | some n =>
    obtain ⟨l, hl, _⟩ := cnt_mem hc
    rw [hc] at hb
    simp only [Option.bind_some, hl] at hb
    rw [← hb]
    rfl
/-- the worths of two entries that split one -/
theorem part_perm {a b : PrT} {A B : List EntT} {e e1 e2 : EntT} (s : Split e e1 e2) (pl : Nat × Nat) : (entW a b (A ++ [e1, e2] ++ B) pl A.length ++ entW a b (A ++ [e1, e2] ++ B) pl (A.length + 1)).Perm (entW a b (A ++ [e] ++ B) pl A.length) := by
  have g1 : (A ++ [e1, e2] ++ B)[A.length]? = some e1 := by simp
  have g2 : (A ++ [e1, e2] ++ B)[A.length + 1]? = some e2 := by simp
  have g0 : (A ++ [e] ++ B)[A.length]? = some e := by simp
  have ga : ∀ i, i < A.length → (A ++ [e1, e2] ++ B)[i]? = A[i]? := fun i hi => by
    rw [List.append_assoc, List.getElem?_append_left hi]
  have gb : ∀ i, i < A.length → (A ++ [e] ++ B)[i]? = A[i]? := fun i hi => by
    rw [List.append_assoc, List.getElem?_append_left hi]
  have hm : ∀ m y, meets a b pl m y e = (meets a b pl m y e1 || meets a b pl m y e2) := fun m y => by
    unfold meets
    rw [s.pl1, s.pl2, s.ev]
    cases decide (e.pl = pl) <;> simp
  refine (List.perm_ext_iff_of_nodup (List.nodup_append.mpr ⟨sorted_nodup (entW_sorted ..), sorted_nodup (entW_sorted ..), fun x hx z hz e => ?_⟩) (sorted_nodup (entW_sorted ..))).mpr fun z => ?_
  · have h1 := (mem_entW.mp hx).2.2
    have h2 := (mem_entW.mp hz).2.2
    rw [e, h2] at h1
    have := Option.some.inj h1
    omega
  rw [List.mem_append, mem_entW, mem_entW, mem_entW, cnt_iff, cnt_iff, cnt_iff, g1, g2, g0]
  constructor
  · rintro (⟨h1, h2, ⟨x, hx, hx2⟩, h3⟩ | ⟨h1, h2, ⟨x, hx, hx2⟩, h3⟩)
    · cases hx
      refine ⟨h1, h2, ⟨e, rfl, by rw [hm, hx2]; rfl⟩, fun i hi x hx => h3 i hi x (by rw [ga i hi, ← gb i hi]; exact hx)⟩
    · cases hx
      refine ⟨h1, h2, ⟨e, rfl, by rw [hm, hx2]; simp⟩, fun i hi x hx => h3 i (by omega) x (by rw [ga i hi, ← gb i hi]; exact hx)⟩
  · rintro ⟨h1, h2, ⟨x, hx, hx2⟩, h3⟩
    cases hx
    have h4 : ∀ i, i < A.length → ∀ x, (A ++ [e1, e2] ++ B)[i]? = some x → meets a b pl z.1 z.2 x = false := fun i hi x hx => h3 i hi x (by rw [gb i hi, ← ga i hi]; exact hx)
    cases q1 : meets a b pl z.1 z.2 e1 with
    | true => exact .inl ⟨h1, h2, ⟨e1, rfl, q1⟩, h4⟩
    | false =>
      rw [hm, q1, Bool.false_or] at hx2
      refine .inr ⟨h1, h2, ⟨e2, rfl, hx2⟩, fun i hi x hx => ?_⟩
      rcases Nat.lt_or_eq_of_le (Nat.lt_succ_iff.mp hi) with h | rfl
      · exact h4 i h x hx
      · rw [g1] at hx
        cases hx
        exact q1
theorem part_sort {a b : PrT} {A B : List EntT} {e e1 e2 : EntT} (s : Split e e1 e2) (pl : Nat × Nat) : ((entW a b (A ++ [e1, e2] ++ B) pl A.length ++ entW a b (A ++ [e1, e2] ++ B) pl (A.length + 1)).map encMY).mergeSort (dataLe false toPy) = (entW a b (A ++ [e] ++ B) pl A.length).map encMY := sort_my (part_perm s pl) (entW_sorted ..)
theorem told_sort (a b : PrT) (es : List EntT) (pl : Nat × Nat) : ((toldL a b es pl es.length).map encMY).mergeSort (dataLe false toPy) = (anyL a b es pl).map encMY := sort_my (told_perm ..) (anyL_sorted ..)
/-- an entry behind one of its place that always holds -/
theorem behind_yes {a b : PrT} {es : List EntT} {x z : EntT} {pl : Nat × Nat} (hp : x.pl = pl) (hc : ∀ f, x.c.eval f = true) : entW a b (es ++ [x, z]) pl (es.length + 1) = [] := by
  rw [List.eq_nil_iff_forall_not_mem]
  intro w hw
  have h1 := (mem_entW.mp hw).2.2
  rw [cnt_iff] at h1
  have := h1.2 es.length (by omega) x (by simp)
  unfold meets at this
  rw [hc, hp] at this
  simp at this
theorem lay_my (z : MY) : layN 8 (encMY z) = true := by
  simp [encMY, encW, layN]
theorem alike_my (x y : MY) : alike (toPy (encMY x)) (toPy (encMY y)) = true := by
  rw [toPy_my, toPy_my]
  simp [alike, alikeAll, alike_ints]
theorem all_my (l : List MY) : AllAlike ((l.map encMY).map toPy) := by
  intro d hd d' hd'
  simp only [List.map_map, List.mem_map] at hd hd'
  obtain ⟨x, _, rfl⟩ := hd
  obtain ⟨y, _, rfl⟩ := hd'
  exact alike_my x y
theorem sable_my (l : List MY) : Sortable ((l.map encMY).map toPy) := by
  refine .inl fun d hd => ?_
  simp only [List.map_map, List.mem_map] at hd
  obtain ⟨x, _, rfl⟩ := hd
  exact ⟨_, _, toPy_my x⟩
theorem encMY_inj {x y : MY} (h : encMY x = encMY y) : x = y := by
  have e : ∀ a b : List Int, encW a = encW b → a = b := fun a b h => by
    unfold encW at h
    have h := D.lst.inj h
    exact (List.map_inj_right fun x y h => D.int.inj h).mp h
  unfold encMY at h
  have h := D.tup.inj h
  simp only [List.cons.injEq, and_true] at h
  exact Prod.ext (e _ _ h.1) (e _ _ h.2)
theorem entW_len {a b : PrT} (oa : a.Ok) (ob : b.Ok) (es : List EntT) (pl : Nat × Nat) (n : Nat) : (entW a b es pl n).length ≤ 10000 := by
  have h := flat_len (l := combos a.sizes) (f := fun m => rowE a b es pl n m (combos b.sizes)) (k := 100) fun m _ => Nat.le_trans (rowE_len ..) ob.combos_len
  have := oa.combos_len
  unfold entW
  omega
theorem anyL_len {a b : PrT} (oa : a.Ok) (ob : b.Ok) (es : List EntT) (pl : Nat × Nat) : (anyL a b es pl).length ≤ 10000 := by
  have h := flat_len (l := combos a.sizes) (f := fun m => ((combos b.sizes).filter fun y => (cntM a b es pl m y).isSome).map fun y => (m, y)) (k := 100) fun m _ => by
    rw [List.length_map]
    exact Nat.le_trans (List.length_filter_le _ _) ob.combos_len
  have := oa.combos_len
  unfold anyL
  omega
theorem toldL_succ (a b : PrT) (es : List EntT) (pl : Nat × Nat) (n : Nat) : toldL a b es pl (n + 1) = toldL a b es pl n ++ if (places es)[n]? = some pl then entW a b es pl n else [] := by
  unfold toldL
  rw [List.range_succ, List.flatMap_append, List.flatMap_singleton]
theorem toldL_len {a b : PrT} (oa : a.Ok) (ob : b.Ok) (es : List EntT) (pl : Nat × Nat) (n : Nat) : (toldL a b es pl n).length ≤ n * 10000 := by
  have h := flat_len (l := List.range n) (f := fun i => if (places es)[i]? = some pl then entW a b es pl i else []) (k := 10000) fun i _ => by
    split
    · exact entW_len oa ob es pl i
    · exact Nat.zero_le _
  rw [List.length_range] at h
  exact h
theorem told_once {a b : PrT} {es : List EntT} {pl : Nat × Nat} {n k : Nat} {x : MY} (h : (toldL a b es pl n)[k]? = some x) : x ∉ (toldL a b es pl n).take k := by
  intro z
  obtain ⟨j, hj⟩ := List.getElem?_of_mem z
  have hj2 : j < k := by have := (List.getElem?_eq_some_iff.mp hj).1; rw [List.length_take] at this; omega
  rw [List.getElem?_take, if_pos hj2] at hj
  obtain ⟨x1, y1⟩ := List.getElem?_eq_some_iff.mp hj
  obtain ⟨x2, y2⟩ := List.getElem?_eq_some_iff.mp h
  have := (List.getElem_inj (toldL_nodup a b es pl n)).mp (y1.trans y2.symm)
  omega
theorem combos_ne {ss : List Nat} (h : ∀ s ∈ ss, 1 ≤ s) : combos ss ≠ [] := by
  have : ∀ (ss : List Nat) (init : List (List Int)), init ≠ [] → (∀ s ∈ ss, 1 ≤ s) → ss.foldl cstep init ≠ [] := fun ss => by
    induction ss with
    | nil => intro init h _; exact h
    | cons s ss ih =>
      intro init hi hs
      refine ih _ (fun e => ?_) fun x hx => hs x (by simp [hx])
      have h1 := cstep_len init s
      rw [e] at h1
      have h2 := hs s (by simp)
      have h3 : 0 < init.length := List.length_pos_iff.mpr hi
      have := Nat.mul_pos h3 h2
      simp at h1
      omega
  exact this ss [[]] (by simp) h
theorem empty_shows {p q : PrT} (ok : p.Ok) : ¬ showsM p q [] := by
  rintro ⟨h, _⟩
  have hn : combos p.isizes ≠ [] := combos_ne fun s hs => by
    unfold PrT.isizes at hs
    obtain ⟨x, hx, rfl⟩ := List.mem_map.mp hs
    obtain ⟨z, hz, h1⟩ := ok.sizeN (ok.ins x hx)
    rw [hz]
    simp
    omega
  obtain ⟨i, hi⟩ := List.exists_mem_of_ne_nil _ hn
  have := h i hi
  rw [cnt_none] at this
  cases this
end TW
set_option Elab.async false
set_option linter.all false
set_option maxRecDepth 100000
set_option maxHeartbeats 4000000
/-! The program made over is one that the walker takes. -/
namespace TW
open PySem L2 PyProof.Rows
theorem NdT.ok_mono {ns ns' : List Str} {m : Nat} (h : ∀ x ∈ ns, x ∈ ns') : ∀ {n : NdT}, n.ok ns m → n.ok ns' m
  | .put _ s _, k => ⟨h _ k.1, s.all_mono (fun _ _ z => ⟨z.1, h _ z.2⟩) k.2.1, k.2.2.1, k.2.2.2⟩
  | .say s _, k => ⟨s.all_mono (fun _ _ z => ⟨z.1, h _ z.2⟩) k.1, k.2.1, k.2.2⟩
  | .test c _ _, k => ⟨c.all_mono (fun _ _ z => ⟨z.1, h _ z.2⟩) k.1, k.2.1, k.2.2.1, k.2.2.2⟩
  | .fin, _ => trivial
theorem Prog4.ok {p : PrT} (h : Prog4 p) : p.Ok where
  few := h.nice.few
  nd := h.nice.nd
  pos b hb := by have := h.nice.box b hb; omega
  lay x hx := by
    obtain ⟨b, hb, rfl⟩ := List.mem_map.mp hx
    exact base5_ok _ (h.nice.box b hb).2.2
  ins := h.nice.sub
  fewI := h.nice.fewI
  ndI := h.nice.ndI
  some := h.some
  fewN := by have := h.few; omega
  node := h.node
theorem z_apart : ∀ x ∈ base5, ∀ y ∈ base5, x ≠ y → x ++ "z" ≠ y ++ "z" := by decide +kernel
theorem z_new : ∀ x ∈ base5, ∀ y ∈ base5, x ++ "z" ≠ y := by decide +kernel
theorem z_ok : ∀ x ∈ base5, PyData.strOk (x ++ "z") = true := by decide +kernel
theorem zIf_inj {ins : List Str} {b : Bool} {x y : Str} (hx : x ∈ base5) (hy : y ∈ base5) (h : zIf ins b x = zIf ins b y) : x = y := by
  unfold zIf at h
  by_cases e : x = y
  · exact e
  · split at h <;> split at h
    · exact absurd h (z_apart x hx y hy e)
    · exact absurd h (z_new x hx y hy)
    · exact absurd h.symm (z_new y hy x hx)
    · exact h
theorem zIf_ok {ins : List Str} {b : Bool} {x : Str} (hx : x ∈ base5) : PyData.strOk (zIf ins b x) = true := by
  unfold zIf
  split
  · exact z_ok x hx
  · exact base5_ok x hx
theorem val_box : ∀ {bs : List (Str × Nat)} {x : Str} {s : Nat}, (bs.map (·.1)).Nodup → (x, s) ∈ bs → val (bs.map (·.1)) (bs.map fun b => (b.2 : Int)) x = s
  | [], _, _, _, h => by cases h
  | c :: bs, x, s, hn, h => by
    rw [List.map_cons, List.nodup_cons] at hn
    show (if c.1 = x then (c.2 : Int) else val (bs.map (·.1)) (bs.map fun b => (b.2 : Int)) x) = s
    rcases List.mem_cons.mp h with h | h
    · rw [← h, if_pos rfl]
    · rw [if_neg fun e => hn.1 (by rw [e]; exact List.mem_map_of_mem (f := (·.1)) h)]
      exact val_box hn.2 h
theorem resz_names (q : PrT) (k : Nat) : (q.resz k).names = q.names := by
  unfold PrT.resz PrT.names
  rw [List.map_map]
  rfl
section
variable {p q : PrT} {b : Bool}
theorem over_names (h : OverOk p (zIf p.inputs b) q) : q.names.Perm (p.names.map (zIf p.inputs b)) := by
  have := h.boxes.map (·.1)
  rw [List.map_map] at this
  unfold PrT.names
  rw [List.map_map]
  exact this
theorem over_nd (hp : Prog4 p) (h : OverOk p (zIf p.inputs b) q) : q.names.Nodup := by
  refine (over_names h).nodup_iff.mpr ?_
  rw [List.nodup_iff_pairwise_ne, List.pairwise_map]
  refine hp.nice.nd.imp_of_mem fun {x y} hx hy hn e => ?_
  obtain ⟨c, hc, rfl⟩ := List.mem_map.mp hx
  obtain ⟨d, hd, rfl⟩ := List.mem_map.mp hy
  exact hn (zIf_inj (hp.nice.box c hc).2.2 (hp.nice.box d hd).2.2 e)
theorem over_in (hp : Prog4 p) (h : OverOk p (zIf p.inputs b) q) {x : Str} (hx : x ∈ p.inputs) : ∃ s : Nat, (x, s) ∈ p.boxes ∧ (x, s) ∈ q.boxes := by
  obtain ⟨c, hc, rfl⟩ := List.mem_map.mp (hp.nice.sub x hx)
  refine ⟨c.2, hc, h.boxes.mem_iff.mpr (List.mem_map.mpr ⟨c, hc, ?_⟩)⟩
  have : zIf p.inputs b c.1 = c.1 := if_neg fun z => z.1 hx
  rw [this]
theorem over_ok (hp : Prog4 p) (h : OverOk p (zIf p.inputs b) q) {k : Nat} (hk : k ≤ 2) : (q.resz k).Ok where
  few := by
    have := h.boxes.length_eq
    have h2 := hp.nice.few
    rw [List.length_map] at this
    show (List.map _ q.boxes).length ≤ 2
    rw [List.length_map]
    omega
  nd := by rw [resz_names]; exact over_nd hp h
  pos c hc := by
    obtain ⟨d, hd, rfl⟩ := List.mem_map.mp hc
    obtain ⟨e, he, rfl⟩ := List.mem_map.mp (h.boxes.mem_iff.mp hd)
    have := hp.nice.box e he
    refine ⟨by show 1 ≤ e.2 + _; omega, ?_⟩
    show e.2 + k * (if _ then 0 else 1) ≤ 10
    split <;> omega
  lay x hx := by
    rw [resz_names] at hx
    obtain ⟨y, hy, rfl⟩ := List.mem_map.mp ((over_names h).mem_iff.mp hx)
    obtain ⟨c, hc, rfl⟩ := List.mem_map.mp hy
    exact zIf_ok (hp.nice.box c hc).2.2
  ins x hx := by
    rw [resz_names]
    have hx' : x ∈ p.inputs := by rw [← h.inputs]; exact hx
    obtain ⟨s, _, hs⟩ := over_in hp h hx'
    exact List.mem_map_of_mem (f := (·.1)) hs
  fewI := by show q.inputs.length ≤ 2; rw [h.inputs]; exact hp.nice.fewI
  ndI := by show q.inputs.Nodup; rw [h.inputs]; exact hp.nice.ndI
  some := h.some
  fewN := by have := h.few; show q.nodes.length ≤ 8; omega
  node n hn := by
    rw [resz_names]
    exact NdT.ok_mono (fun x hx => (over_names h).mem_iff.mpr hx) (h.node n hn)
theorem over_pair (hp : Prog4 p) (h : OverOk p (zIf p.inputs b) q) (k : Nat) : p.pair (q.resz k) := by
  unfold PrT.pair
  have e : (q.resz k).inputs = p.inputs := h.inputs
  rw [e]
  refine List.map_congr_left fun x hx => ?_
  obtain ⟨s, h1, h2⟩ := over_in hp h hx
  have e1 := val_box hp.nice.nd h1
  have e2 : val (q.resz k).names ((q.resz k).boxes.map fun b => (b.2 : Int)) x = s := by
    refine val_box (bs := (q.resz k).boxes) (by have := over_nd hp h; rw [← resz_names q k] at this; exact this) ?_
    refine List.mem_map.mpr ⟨(x, s), h2, ?_⟩
    have : x ∈ q.inputs := by rw [h.inputs]; exact hx
    simp [this]
  rw [show val p.names (p.boxes.map fun b => (b.2 : Int)) x = s from e1, e2]
theorem over_known (h : OverOk p (zIf p.inputs b) q) (k : Nat) {t x : Str} (hk : knownN p.names (p.names.map (zIf p.inputs b)) t x) : known2 p (q.resz k) t x := by
  rcases hk with hk | hk
  · exact .inl hk
  · exact .inr ⟨hk.1, by rw [resz_names]; exact (over_names h).mem_iff.mpr hk.2⟩
theorem over_ent (h : OverOk p (zIf p.inputs b) q) (k : Nat) {d : Nat} (hd : d ≤ 12) {e : EntT} (he : PreE p.names (p.names.map (zIf p.inputs b)) p.nodes.length q.nodes.length d e) : e.Ok p (q.resz k) where
  p := he.p
  q := he.q
  c := e.c.all_mono (fun _ _ z => over_known h k z) he.c
  cd := Nat.le_trans he.cd hd
  who := he.who
  w := e.wait.all_mono (fun _ _ z => over_known h k z) he.w
  wd := Nat.le_trans he.wd hd
end
end TW
set_option Elab.async false
set_option linter.all false
set_option maxRecDepth 100000
set_option maxHeartbeats 40000000
namespace TW
open PySem L2 PyProof.Rows
section
variable {Pg : Program} {w : World} {K : PySem.W.Frag} {mg : Str → Option Value} {base : Heap} {C : Addr}
def wfPlaced : List D → (D → Prop) → Prop := fun ds P => ∃ (p q : PrT) (es : List EntT) (pl : Nat × Nat), ds = [p.enc, q.enc, encE es, plD pl] ∧ p.Ok ∧ q.Ok ∧ p.pair q ∧ PapOk p q es ∧ P (.lst ((anyL p q es pl).map encMY))
theorem ok_placed (B : Bl mg) (Ge : Df Pg w K mg base C 16 "entry_worths" ["one", "other", "paper", "number"] wfEntW) {f : Addr} {fd : FuncData} (F : Fun K "_law_placed" "_law_placed" sLawPlaced f fd) : FnOk Pg w K mg base CX0 17 f fd ["one", "other", "paper", "place"] (spD K C wfPlaced) := by
  refine fn_ok F scLawPlaced (fun ds P h => by obtain ⟨_, _, _, _, rfl, _⟩ := h; rfl) fun cdv A outer s H E hr ds P h => ?_
  obtain ⟨p, q, es, pl, rfl, ok, ok2, pq, po, pp⟩ := h
  have hl30 := po.1
  (refine ws_seq ?_)
  refine ws_set 4 scLawPlaced.nd (WN.w (wn_lst ?_))
  (refine wa_nil ?_; refine And.intro (sz rfl) ?_; refine ws_seq ?_)
  refine ws_for (ts := [5]) PassesOwn.never rfl (wi_range1 B.range ?_)
  refine w_len B.len ?_
  (refine w_var 2 rfl ?_; refine Exists.intro _ (And.intro rfl ?_); refine Exists.intro _ (And.intro rfl ?_))
  refine ⟨by simp, by simp; omega, fun i ρ' => ∃ a, ρ' = [.im p.enc, .im q.enc, .im (encE es), .im (plD pl), .im (.lst ((toldL p q es pl i).map encMY)), a, .no], ⟨_, rfl⟩, fun i d ρ' hd hi => ?_, fun ρ' hi => ?_⟩
  · obtain ⟨a, rfl⟩ := hi
    obtain ⟨z, hz, rfl⟩ := get_map hd
    obtain ⟨hk, rfl⟩ := get_range hz
    have hzl : z < es.length := by simpa using hk
    have he : es[z]? = some es[z] := List.getElem?_eq_getElem hzl
    generalize es[z] = e at he
    have hpl : (places es)[z]? = some e.pl := by simp [places, he]
    refine wg_name 5 scLawPlaced.nd ?_
    (refine ws_seq ?_; refine ws_if ?_)
    refine wt_eqD 1 hr.units ?_
    refine w_sliceT ?_
    (refine w_ixN (w_var 2 rfl ⟨_, rfl, ?_⟩); refine w_var 5 rfl ?_; refine Exists.intro _ (And.intro rfl ?_))
    refine ⟨e.enc, atI_nat (by rw [List.getElem?_map, he]; rfl), ?_⟩
    (refine Exists.intro _ (And.intro rfl ?_); refine w_int ?_; refine Exists.intro _ (And.intro rfl ?_))
    refine And.intro (by simp [HT.sIx]) ?_
    (refine w_var 3 rfl ?_)
    refine ⟨by decide, rfl, rfl, fun b hb => ?_⟩
    have hb2 : b = true ↔ e.pl = pl := by
      rw [hb]
      have : cutD [D.int e.p, D.int e.q, e.c.enc, D.str e.who, e.wait.enc] none (some 2) = [D.int e.p, D.int e.q] := rfl
      show D.tup (cutD [D.int e.p, D.int e.q, e.c.enc, D.str e.who, e.wait.enc] none (some 2)) = plD pl ↔ _
      rw [this]
      obtain ⟨x, y⟩ := pl
      simp [plD, EntT.pl]
      omega
    have hsu := toldL_succ p q es pl z
    have hlen := toldL_len ok ok2 es pl z
    have hle := entW_len ok ok2 es pl z
    refine if_2 (fun h => ?_) fun h => ?_
    · have hq := hb2.mp h
      rw [hpl, hq, if_pos rfl] at hsu
      (refine ws_seq ?_)
      refine ws_set 4 scLawPlaced.nd (WN.w (wn_cat ?_))
      (refine w_var 4 rfl ?_; refine Exists.intro _ (And.intro rfl ?_))
      refine w_call Ge hr ?_
      (refine wa_cons ?_; refine w_var 0 rfl ?_; refine wa_cons ?_; refine w_var 1 rfl ?_; refine wa_cons ?_; refine w_var 2 rfl ?_; refine wa_cons ?_; refine w_var 5 rfl ?_; refine wa_nil ?_)
      refine ⟨p, q, es, z, e, rfl, ok, ok2, pq, po, he, ?_⟩
      refine ⟨_, rfl, Nat.le_of_lt (szM (by rw [hq, List.length_map, List.length_map]; omega)), ws_nil (ws_nil ⟨.im (.int z), ?_⟩)⟩
      rw [hsu, List.map_append, hq]
      rfl
    · have hq : ¬ e.pl = pl := fun z => by rw [hb2.mpr z] at h; cases h
      rw [hpl, if_neg (fun z => hq (Option.some.inj z)), List.append_nil] at hsu
      refine ws_nil (ws_nil ⟨.im (.int z), ?_⟩)
      rw [hsu]
      rfl
  · obtain ⟨a, rfl⟩ := hi
    rw [List.length_map, List.length_range]
    have hlen : (toldL p q es pl es.length).length ≤ 300000 := Nat.le_trans (toldL_len ok ok2 es pl es.length) (by omega)
    have hto := told_sort p q es pl
    have hnd := @told_once p q es pl es.length
    show WSs _ _ _ _ _
    have hll : (List.map EntT.enc es).length = es.length := List.length_map _
    rw [show (↑(List.map EntT.enc es).length : Int).toNat = es.length from by rw [hll]; rfl]
    generalize toldL p q es pl es.length = ts at hlen hto hnd
    (refine ws_seq ?_; refine ws_if ?_)
    refine wt_neD 1 hr.units ?_
    refine WN.w (wn_lc (own := [("k", 6)]) (ts := [6]) rfl scLawPlaced.nd (blkOk_by (N := nLawPlaced) (sc := defScope sLawPlaced) (by decide +kernel)) (by decide) (wi_range1 B.range ?_))
    refine w_len B.len ?_
    (refine w_var 4 rfl ?_; refine Exists.intro _ (And.intro rfl ?_); refine Exists.intro _ (And.intro rfl ?_))
    refine ⟨by omega, by simp; omega, fun i acc => acc = [], rfl, fun i d acc hd ha => ?_, fun acc ha => ?_⟩
    · subst ha
      obtain ⟨z, hz, rfl⟩ := get_map hd
      obtain ⟨hk, rfl⟩ := get_range hz
      intro _ _ _ _ _
      refine wg_name 6 scLawPlaced.nd ?_
      intro _ _ _ _ _
      refine wts_one ?_
      refine wt_inD 8 (u65 hr) ?_
      have hk2 : z < ts.length := by simpa using hk
      have hx : ts[z]? = some ts[z] := List.getElem?_eq_getElem hk2
      generalize ts[z] = x at hx
      have hno := hnd hx
      (refine w_ixN (w_var 4 rfl ⟨_, rfl, ?_⟩); refine w_var 6 rfl ?_; refine Exists.intro _ (And.intro rfl ?_))
      refine ⟨_, atI_nat (by rw [List.getElem?_map, hx]; rfl), ?_⟩
      refine WN.w (wn_slice ?_)
      (refine w_var 4 rfl ?_; refine Exists.intro _ (And.intro rfl ?_); refine w_var 6 rfl ?_; refine Exists.intro _ (And.intro rfl ?_); refine Exists.intro _ (And.intro rfl ?_))
      rw [cut_to _ _ (by rw [List.length_map]; omega)]
      refine ⟨by decide, lay_my x, fun d hd => ?_, fun b hb => ?_⟩
      · obtain ⟨y, _, rfl⟩ := List.mem_map.mp (List.mem_of_mem_take hd)
        exact lay_my y
      · have hf : b = false := by
          cases b with
          | false => rfl
          | true =>
            have := hb.mp rfl
            rw [← List.map_take] at this
            obtain ⟨y, hy, e⟩ := List.mem_map.mp this
            rw [encMY_inj e] at hy
            exact absurd hy hno
        exact if_f hf rfl
    · subst ha
      skip
      refine WN.w (wn_lst ?_)
      (refine wa_nil ?_; refine And.intro (sz rfl) ?_)
      refine ⟨by decide, rfl, rfl, fun b hb => ?_⟩
      have hf : b = false := by
        cases b with
        | false => rfl
        | true => exact absurd rfl (hb.mp rfl)
      refine if_f hf ?_
      (refine ws_nil ?_; refine ws_seq ?_; refine ws_ret ?_)
      refine WN.w (wn_sortD (u16 hr) B.sorted bt_sorted ?_)
      (refine w_var 4 rfl ?_; refine Exists.intro _ (And.intro rfl ?_))
      refine ⟨fun x hx => ?_, all_my ts, sable_my ts, ?_, ?_⟩
      · obtain ⟨y, _, rfl⟩ := List.mem_map.mp hx
        exact lay_my y
      · exact Nat.le_of_lt (szM (by rw [List.length_map]; omega))
      · rw [hto]
        exact pp
end
end TW
set_option Elab.async false
set_option linter.all false
set_option maxRecDepth 100000
set_option maxHeartbeats 40000000
namespace TW
open PySem L2 PyProof.Rows
def rowA (a b : PrT) (es : List EntT) (pl : Nat × Nat) (m : List Int) (ys : List (List Int)) : List MY := (ys.filter fun y => (cntM a b es pl m y).isSome).map fun y => (m, y)
theorem rowA_len (a b : PrT) (es : List EntT) (pl : Nat × Nat) (m : List Int) (ys : List (List Int)) : (rowA a b es pl m ys).length ≤ ys.length := by
  unfold rowA
  rw [List.length_map]
  exact List.length_filter_le _ _
theorem rowA_take {a b : PrT} {es : List EntT} {pl : Nat × Nat} {m y : List Int} {ys : List (List Int)} {j : Nat} (h : ys[j]? = some y) : rowA a b es pl m (ys.take (j + 1)) = rowA a b es pl m (ys.take j) ++ if (cntM a b es pl m y).isSome = true then [(m, y)] else [] := by
  unfold rowA
  rw [List.take_add_one, h, Option.toList_some, List.filter_append, List.map_append]
  cases e : (cntM a b es pl m y).isSome <;> simp [e]
def condsAt (es : List EntT) (pl : Nat × Nat) : List CndT := (es.filter fun e => decide (e.pl = pl)).map EntT.c
theorem conds_any (a b : PrT) (es : List EntT) (pl : Nat × Nat) (m y : List Int) : (((condsAt es pl).map fun c => c.eval (mAt a b m y)).any fun x => x) = (cntM a b es pl m y).isSome := by
  rw [any_meets]
  unfold condsAt
  rw [List.map_map, List.any_map, List.any_filter]
  rfl
theorem condsAt_take {es : List EntT} {pl : Nat × Nat} {i : Nat} {e : EntT} (h : es[i]? = some e) : condsAt (es.take (i + 1)) pl = condsAt (es.take i) pl ++ if e.pl = pl then [e.c] else [] := by
  unfold condsAt
  rw [List.take_add_one, h, Option.toList_some, List.filter_append, List.map_append]
  by_cases e : e.pl = pl <;> simp [e]
theorem condsAt_len (es : List EntT) (pl : Nat × Nat) : (condsAt es pl).length ≤ es.length := by
  unfold condsAt
  rw [List.length_map]
  exact List.length_filter_le _ _
theorem mem_condsAt {es : List EntT} {pl : Nat × Nat} {c : CndT} (h : c ∈ condsAt es pl) : ∃ e ∈ es, e.c = c := by
  unfold condsAt at h
  obtain ⟨e, he, rfl⟩ := List.mem_map.mp h
  exact ⟨e, (List.mem_filter.mp he).1, rfl⟩
section
variable {Pg : Program} {w : World} {K : PySem.W.Frag} {mg : Str → Option Value} {base : Heap} {C : Addr}
theorem ok_any (B : Bl mg) (Gw : Df Pg w K mg base C 1 "_law_worths" ["program"] wfEvery) (Gh : Df Pg w K mg base C 16 "holds_between" ["one", "other", "mine", "yours", "condition"] wfHoldsB) {f : Addr} {fd : FuncData} (F : Fun K "_law_any" "_law_any" sLawAny f fd) : FnOk Pg w K mg base CX0 17 f fd ["one", "other", "paper", "place"] (spD K C wfPlaced) := by
  refine fn_ok F scLawAny (fun ds P h => by obtain ⟨_, _, _, _, rfl, _⟩ := h; rfl) fun cdv A outer s H E hr ds P h => ?_
  obtain ⟨p, q, es, pl, rfl, ok, ok2, pq, po, pp⟩ := h
  have hl30 := po.1
  (refine ws_seq ?_)
  refine ws_setLc 4 (own := [("entry", 5)]) (ts := [5]) rfl scLawAny.nd (blkOk_by (N := nLawAny) (sc := defScope sLawAny) (by decide +kernel)) (by decide) (wi_list ?_)
  (refine w_var 2 rfl ?_)
  refine ⟨_, .inl rfl, fun i acc => acc = (condsAt (es.take i) pl).map CndT.enc, rfl, fun i d acc hd ha => ?_, fun acc ha => ?_⟩
  · obtain ⟨e, he, rfl⟩ := get_map hd
    have hil : i < es.length := (List.getElem?_eq_some_iff.mp he).1
    have htk := condsAt_take (pl := pl) he
    have hcl := condsAt_len (es.take i) pl
    rw [List.length_take] at hcl
    subst ha
    intro _ _ _ _ _
    refine wg_name 5 scLawAny.nd ?_
    intro _ _ _ _ _
    refine wts_one ?_
    refine wt_eqD 1 hr.units ?_
    refine w_sliceT ?_
    (refine w_var 5 rfl ?_; refine Exists.intro _ (And.intro rfl ?_); refine w_int ?_; refine Exists.intro _ (And.intro rfl ?_))
    refine And.intro (by simp [HT.sIx]) ?_
    (refine w_var 3 rfl ?_)
    refine ⟨by decide, rfl, rfl, fun b hb => ?_⟩
    have hb2 : b = true ↔ e.pl = pl := by
      rw [hb]
      have : cutD [D.int e.p, D.int e.q, e.c.enc, D.str e.who, e.wait.enc] none (some 2) = [D.int e.p, D.int e.q] := rfl
      show D.tup (cutD [D.int e.p, D.int e.q, e.c.enc, D.str e.who, e.wait.enc] none (some 2)) = plD pl ↔ _
      rw [this]
      obtain ⟨x, y⟩ := pl
      simp [plD, EntT.pl]
      omega
    refine if_2 (fun h => ?_) fun h => ?_
    · rw [if_pos (hb2.mp h)] at htk
      intro _ _ _ _ _
      (refine w_ixN (w_var 5 rfl ⟨_, rfl, ?_⟩); refine w_int ?_; refine Exists.intro _ (And.intro rfl ?_); refine Exists.intro _ (And.intro rfl ?_))
      refine ⟨szt (by simp; omega), ?_⟩
      show _ = (condsAt (es.take (i + 1)) pl).map CndT.enc
      rw [htk, List.map_append]
      rfl
    · rw [if_neg (fun z => by rw [hb2.mpr z] at h; cases h), List.append_nil] at htk
      rw [htk]
  subst ha
  rw [List.length_map, List.take_length]
  refine wss_frz 4 rfl ?_
  have hcl := condsAt_len es pl
  have hcm := @mem_condsAt es pl
  have hca := conds_any p q es pl
  generalize condsAt es pl = cs at hcl hcm hca
  refine wss_cast [.im p.enc, .im q.enc, .im (encE es), .im (plD pl), .im (.lst (cs.map CndT.enc)), .no, .no, .no, .no, .no] rfl ?_
  refine ws_seq ?_
  refine ws_own 6 scLawAny.nd (wn_lst ?_)
  (refine wa_nil ?_; refine And.intro (sz rfl) ?_; refine ws_seq ?_)
  refine ws_for (ts := [7]) PassesOwn.never rfl (wi_list (w_call Gw hr ?_))
  (refine wa_cons ?_; refine w_var 0 rfl ?_; refine wa_nil ?_; refine Exists.intro _ (And.intro rfl ?_))
  refine ⟨ok.few, fun b hb => (ok.pos b hb).2, _, .inl rfl, fun i ρ' => ∃ a b, ρ' = [.im p.enc, .im q.enc, .im (encE es), .im (plD pl), .im (.lst (cs.map CndT.enc)), .no, .ow (.lst ((((combos p.sizes).take i).flatMap fun m => rowA p q es pl m (combos q.sizes)).map encMY)), a, b, .no], ⟨_, _, rfl⟩, fun i d ρ' hd hi => ?_, fun ρ' hi => ?_⟩
  · obtain ⟨a, b, rfl⟩ := hi
    obtain ⟨m, hm, rfl⟩ := get_map hd
    have hmf := ok.combos_fits (List.mem_of_getElem? hm)
    have hil : i < 100 := Nat.lt_of_lt_of_le (List.getElem?_eq_some_iff.mp hm).1 ok.combos_len
    have hpre : (((combos p.sizes).take i).flatMap fun m => rowA p q es pl m (combos q.sizes)).length ≤ 10000 := by
      refine Nat.le_trans (flat_len (k := 100) fun m _ => Nat.le_trans (rowA_len ..) ok2.combos_len) ?_
      rw [List.length_take]
      omega
    refine wg_name 7 scLawAny.nd ?_
    (refine ws_seq ?_)
    refine ws_for (ts := [8]) PassesOwn.never rfl (wi_list (w_call Gw hr ?_))
    (refine wa_cons ?_; refine w_var 1 rfl ?_; refine wa_nil ?_; refine Exists.intro _ (And.intro rfl ?_))
    refine ⟨ok2.few, fun b hb => (ok2.pos b hb).2, _, .inl rfl, fun j ρ' => ∃ b, ρ' = [.im p.enc, .im q.enc, .im (encE es), .im (plD pl), .im (.lst (cs.map CndT.enc)), .no, .ow (.lst ((((combos p.sizes).take i).flatMap fun m => rowA p q es pl m (combos q.sizes)).map encMY ++ (rowA p q es pl m ((combos q.sizes).take j)).map encMY)), .im (encW m), b, .no], ⟨b, by simp [rowA]⟩, fun j d ρ' hd hj => ?_, fun ρ' hj => ?_⟩
    · obtain ⟨b, rfl⟩ := hj
      obtain ⟨y, hy, rfl⟩ := get_map hd
      have hyf := ok2.combos_fits (List.mem_of_getElem? hy)
      have hjl : j < 100 := Nat.lt_of_lt_of_le (List.getElem?_eq_some_iff.mp hy).1 ok2.combos_len
      have hrl : (rowA p q es pl m ((combos q.sizes).take j)).length ≤ 100 := by
        refine Nat.le_trans (rowA_len ..) ?_
        rw [List.length_take]
        omega
      have htk := rowA_take (a := p) (b := q) (es := es) (pl := pl) (m := m) hy
      refine wg_name 8 scLawAny.nd ?_
      (refine ws_seq ?_; refine ws_if ?_)
      refine wt_val (w_any rfl B.any bt_any ?_)
      refine WN.w (wn_lc (own := [("some", 9)]) (ts := [9]) rfl scLawAny.nd (blkOk_by (N := nLawAny) (sc := defScope sLawAny) (by decide +kernel)) (by decide) (wi_list ?_))
      (refine w_var 4 rfl ?_)
      refine ⟨_, .inl rfl, fun i acc => acc = ((cs.take i).map fun c => c.eval (mAt p q m y)).map D.bl, rfl, fun k d acc hd ha => ?_, fun acc ha => ?_⟩
      · obtain ⟨c, hc, rfl⟩ := get_map hd
        have hkl : k < cs.length := (List.getElem?_eq_some_iff.mp hc).1
        subst ha
        intro _ _ _ _ _
        refine wg_name 9 scLawAny.nd ?_
        intro _ _ _ _ _
        refine wts_nil (if_t rfl ?_)
        intro _ _ _ _ _
        refine w_call Gh hr ?_
        (refine wa_cons ?_; refine w_var 0 rfl ?_; refine wa_cons ?_; refine w_var 1 rfl ?_; refine wa_cons ?_; refine w_var 7 rfl ?_; refine wa_cons ?_; refine w_var 8 rfl ?_; refine wa_cons ?_; refine w_var 9 rfl ?_; refine wa_nil ?_)
        obtain ⟨e, he, hec⟩ := hcm (List.mem_of_getElem? hc)
        have heo := po.2 e he
        refine ⟨p, q, m, y, c, rfl, ok, ok2, pq, hmf, hyf, by rw [← hec]; exact heo.cd, by rw [← hec]; exact heo.c, szt (by simp; omega), ?_⟩
        show _ = ((cs.take (k + 1)).map fun c => c.eval (mAt p q m y)).map D.bl
        rw [List.take_add_one, hc, List.map_append, List.map_append]
        rfl
      · subst ha
        rw [List.length_map, List.take_length]
        refine ⟨_, rfl, ?_⟩
        rw [hca]
        refine ⟨_, rfl, if_2 (fun hc => ?_) fun hc => ?_⟩
        · rw [if_pos hc] at htk
          (refine ws_seq ?_)
          refine ws_append 6 rfl ?_
          (refine w_tup ?_; refine wa_cons ?_; refine w_var 7 rfl ?_; refine wa_cons ?_; refine w_var 8 rfl ?_; refine wa_nil ?_; refine And.intro (sz rfl) ?_)
          refine ⟨szM (by rw [List.length_append, List.length_map, List.length_map]; omega), ws_nil (ws_nil ⟨.im (encW y), ?_⟩)⟩
          rw [htk]
          simp [encMY, encW]
        · rw [if_neg (by rw [hc]; exact Bool.false_ne_true), List.append_nil] at htk
          refine ws_nil (ws_nil ⟨.im (encW y), ?_⟩)
          rw [htk]
          rfl
    · obtain ⟨b, rfl⟩ := hj
      refine ws_nil ⟨.im (encW m), b, ?_⟩
      rw [take_flatMap hm, List.map_append, List.length_map, List.take_length]
  · obtain ⟨a, b, rfl⟩ := hi
    refine wss_frz 6 rfl ?_
    (refine ws_seq ?_; refine ws_ret ?_; refine w_var 6 rfl ?_)
    rw [List.length_map, List.take_length]
    exact pp
end
end TW
set_option Elab.async false
set_option linter.all false
set_option maxRecDepth 100000
set_option maxHeartbeats 40000000
namespace TW
open PySem L2 PyProof.Rows
section
variable {C : Addr} {X : Cx} {ρ : List Sl} {a b : Expr} {pos : Pos} {P : D → Prop}
theorem rd_eqB {K : PySem.W.Frag} {i j : Bool} {P : D → Prop} (h : P (.bl (i == j))) : RD K C rEq (.bl i) (.bl j) P := by
  intro Hb H v u Q s hv hu k
  cases hv
  cases hu
  refine ⟨rfl, ?_⟩
  rw [dec_bl]
  exact k _ Hb H _ (Grow.refl _ _) s (.bl _) h
theorem w_eqB (h : W C X a ρ fun x => ∃ i, x = .bl i ∧ W C X b ρ fun y => ∃ j, y = .bl j ∧ P (.bl (i == j))) : W C X (.Compare a [.Eq] [b] pos) ρ P :=
  w_cmpR op_eq (nomark _) (h.mono fun x ⟨i, hx, hy⟩ => hy.mono fun y ⟨j, hj, p⟩ => by subst hx hj; exact rd_eqB p)
end
theorem lay_mys (l : List MY) : layN 3 (.lst (l.map encMY)) = true := by
  simp [layN, encMY, encW]
section
variable {Pg : Program} {w : World} {K : PySem.W.Frag} {mg : Str → Option Value} {base : Heap} {C : Addr}
theorem law_fin2 (B : Bl mg) (Ge : Df Pg w K mg base C 16 "entry_worths" ["one", "other", "paper", "number"] wfEntW) (Gs : Df Pg w K mg base C 17 "paper_shows" ["one", "other", "paper"] wfShows)
    {f : Addr} {cdv : Value} {A : Around} {outer : List Env} {sh : Shared} {H : Hp} {E : XK} (hr : Room 17 (A.deeper (envOfC "law" (defScope sLaw) sh.heap.objs.size f cdv))) {P : D → Prop} {p q : PrT} {e e1 e2 : EntT} {L R : List EntT} {x0 x2 x4 x5 x6 x8 x9 x10 x11 x18 x19 x20 : Sl}
    (ok : p.Ok) (ok2 : q.Ok) (pq : p.pair q) (sp : Split e e1 e2) (po : PapOk p q (L ++ [e] ++ R)) (po2 : PapOk p q (L ++ [e1, e2] ++ R)) (hl : (L ++ [e] ++ R).length ≤ 20) (pp : P (.bl true)) :
    WSs C (cxOf CX0 Pg w K mg base nLaw "law" (defScope sLaw) f cdv A outer sh H E).nox ((defBody sLaw).drop 16) [x0, .im p.enc, x2, .im q.enc, x4, x5, x6, .im (encE (L ++ [e] ++ R)), x8, x9, x10, x11, .im (.int L.length), .im (.int e.p), .im (.int e.q), .im e.c.enc, .im (.str e.who), .im e.wait.enc, x18, x19, x20, .im (encE (L ++ [e1, e2] ++ R)), .no, .no] { nx := fun _ => P .non, rt := P } := by
  have ge : (L ++ [e] ++ R)[L.length]? = some e := by simp
  have g1 : (L ++ [e1, e2] ++ R)[L.length]? = some e1 := by simp
  have g2 : (L ++ [e1, e2] ++ R)[L.length + 1]? = some e2 := by simp
  have heo := po.2 e (List.mem_of_getElem? ge)
  have hso := part_sort (a := p) (b := q) (A := L) (B := R) sp e.pl
  have hss := split_shows (p := p) (q := q) (A := L) (B := R) sp
  have l1 := entW_len ok ok2 (L ++ [e1, e2] ++ R) e.pl L.length
  have l2 := entW_len ok ok2 (L ++ [e1, e2] ++ R) e.pl (L.length + 1)
  generalize hpt : L ++ [e1, e2] ++ R = pt at g1 g2 po2 hso hss l1 l2
  generalize hes : L ++ [e] ++ R = es at ge po hl hso hss
  (refine ws_seq ?_)
  refine ws_set 22 scLaw.nd (WN.w (wn_cat (w_call Ge hr ?_)))
  (refine wa_cons ?_; refine w_var 1 rfl ?_; refine wa_cons ?_; refine w_var 3 rfl ?_; refine wa_cons ?_; refine w_var 21 rfl ?_; refine wa_cons ?_; refine w_var 12 rfl ?_; refine wa_nil ?_)
  refine ⟨p, q, pt, L.length, e1, rfl, ok, ok2, pq, po2, g1, ?_⟩
  refine ⟨_, rfl, ?_⟩
  refine w_call Ge hr ?_
  (refine wa_cons ?_; refine w_var 1 rfl ?_; refine wa_cons ?_; refine w_var 3 rfl ?_; refine wa_cons ?_; refine w_var 21 rfl ?_; refine wa_cons ?_; refine w_add ?_; refine w_var 12 rfl ?_; refine Exists.intro _ (And.intro rfl ?_); refine w_int ?_; refine Exists.intro _ (And.intro rfl ?_); refine wa_nil ?_)
  refine ⟨p, q, pt, L.length + 1, e2, rfl, ok, ok2, pq, po2, g2, ?_⟩
  rw [sp.pl1, sp.pl2]
  refine ⟨_, rfl, Nat.le_of_lt (szM (by rw [List.length_map, List.length_map]; omega)), ?_⟩
  rw [← List.map_append]
  have l3 : (entW p q pt e.pl L.length ++ entW p q pt e.pl (L.length + 1)).length ≤ 20000 := by rw [List.length_append]; omega
  generalize entW p q pt e.pl L.length ++ entW p q pt e.pl (L.length + 1) = ts at hso l3
  (refine ws_seq ?_; refine ws_if ?_)
  refine wt_neD 3 hr.units ?_
  refine WN.w (wn_sortD (u16 hr) B.sorted bt_sorted ?_)
  (refine w_var 22 rfl ?_; refine Exists.intro _ (And.intro rfl ?_))
  refine ⟨fun x hx => ?_, all_my ts, sable_my ts, Nat.le_of_lt (szM (by rw [List.length_map]; omega)), ?_⟩
  · obtain ⟨y, _, rfl⟩ := List.mem_map.mp hx
    exact lay_my y
  rw [hso]
  refine w_call Ge hr ?_
  (refine wa_cons ?_; refine w_var 1 rfl ?_; refine wa_cons ?_; refine w_var 3 rfl ?_; refine wa_cons ?_; refine w_var 7 rfl ?_; refine wa_cons ?_; refine w_var 12 rfl ?_; refine wa_nil ?_)
  refine ⟨p, q, es, L.length, e, rfl, ok, ok2, pq, po, ge, ?_⟩
  refine ⟨by decide, lay_mys _, lay_mys _, fun b hb => ?_⟩
  have hbf : b = false := by
    cases b with
    | false => rfl
    | true => exact absurd rfl (hb.mp rfl)
  refine if_f hbf ?_
  (refine ws_nil ?_; refine ws_seq ?_)
  refine ws_set 23 scLaw.nd (WN.w (wn_lst ?_))
  (refine wa_cons ?_; refine w_tup ?_; refine wa_cons ?_; refine w_var 13 rfl ?_; refine wa_cons ?_; refine w_var 14 rfl ?_; refine wa_cons ?_; refine w_tup ?_; refine wa_cons ?_; refine w_str ?_; refine wa_nil ?_; refine And.intro (sz rfl) ?_; refine wa_cons ?_; refine w_var 16 rfl ?_; refine wa_cons ?_; refine w_var 17 rfl ?_; refine wa_nil ?_; refine And.intro (sz rfl) ?_; refine wa_cons ?_; refine w_tup ?_; refine wa_cons ?_; refine w_var 13 rfl ?_; refine wa_cons ?_; refine w_var 14 rfl ?_; refine wa_cons ?_; refine w_tup ?_; refine wa_cons ?_; refine w_str ?_; refine wa_nil ?_; refine And.intro (sz rfl) ?_; refine wa_cons ?_; refine w_str ?_; refine wa_cons ?_; refine w_tup ?_; refine wa_cons ?_; refine w_str ?_; refine wa_cons ?_; refine w_int ?_; refine wa_nil ?_; refine And.intro (sz rfl) ?_; refine wa_nil ?_; refine And.intro (sz rfl) ?_; refine wa_nil ?_; refine And.intro (sz rfl) ?_)
  obtain ⟨y1, hy1⟩ : ∃ y : EntT, y = ⟨e.p, e.q, .yes, e.who, e.wait⟩ := ⟨_, rfl⟩
  obtain ⟨y2, hy2⟩ : ∃ y : EntT, y = ⟨e.p, e.q, .yes, "end", .num 5⟩ := ⟨_, rfl⟩
  have o1 : y1.Ok p q := by rw [hy1]; exact ⟨heo.p, heo.q, trivial, Nat.zero_le _, heo.who, heo.w, heo.wd⟩
  have o2 : y2.Ok p q := by rw [hy2]; exact ⟨heo.p, heo.q, trivial, Nat.zero_le _, (show ("end" : Str) ∈ whoL by decide +kernel), trivial, Nat.zero_le _⟩
  have hby := @behind_yes p q es y1 y2 e.pl (by rw [hy1]; rfl) (fun f => by rw [hy1]; rfl)
  have hp2 : y2.pl = e.pl := by rw [hy2]; rfl
  have hw2 : D.lst [.tup [.int e.p, .int e.q, .tup [.str "yes"], .str e.who, e.wait.enc], .tup [.int e.p, .int e.q, .tup [.str "yes"], .str "end", .tup [.str "number", .int 5]]] = encE [y1, y2] := by
    rw [hy1, hy2]
    rfl
  rw [hw2]
  (refine ws_seq ?_; refine ws_if ?_)
  refine wt_neD 3 hr.units (w_call Ge hr ?_)
  (refine wa_cons ?_; refine w_var 1 rfl ?_; refine wa_cons ?_; refine w_var 3 rfl ?_; refine wa_cons ?_)
  refine WN.w (wn_cat ?_)
  (refine w_var 7 rfl ?_; refine Exists.intro _ (And.intro rfl ?_); refine w_var 23 rfl ?_; refine Exists.intro _ (And.intro rfl ?_))
  refine ⟨szl (by rw [List.length_map, List.length_map]; simp only [List.length_cons, List.length_nil]; omega), ?_⟩
  rw [← List.map_append]
  (refine wa_cons ?_; refine w_add ?_)
  refine w_len B.len ?_
  (refine w_var 7 rfl ?_; refine Exists.intro _ (And.intro rfl ?_); refine Exists.intro _ (And.intro rfl ?_); refine w_int ?_; refine Exists.intro _ (And.intro rfl ?_); refine wa_nil ?_)
  refine ⟨p, q, es ++ [y1, y2], es.length + 1, y2, by simp [encE], ok, ok2, pq, ⟨by simp; omega, fun x hx => ?_⟩, by simp, ?_⟩
  · rcases List.mem_append.mp hx with hx | hx
    · exact po.2 x hx
    · simp at hx
      rcases hx with rfl | rfl
      · exact o1
      · exact o2
  rw [hp2, hby]
  skip
  refine WN.w (wn_lst ?_)
  (refine wa_nil ?_; refine And.intro (sz rfl) ?_)
  refine ⟨by decide, rfl, rfl, fun b hb => ?_⟩
  have hbf : b = false := by
    cases b with
    | false => rfl
    | true => exact absurd rfl (hb.mp rfl)
  refine if_f hbf ?_
  (refine ws_nil ?_; refine ws_seq ?_; refine ws_ret ?_)
  refine w_eqB (w_call Gs hr ?_)
  (refine wa_cons ?_; refine w_var 1 rfl ?_; refine wa_cons ?_; refine w_var 3 rfl ?_; refine wa_cons ?_; refine w_var 21 rfl ?_; refine wa_nil ?_)
  refine ⟨p, q, pt, rfl, ok, ok2, pq, po2, fun b1 h1 => ⟨b1, rfl, w_call Gs hr ?_⟩⟩
  (refine wa_cons ?_; refine w_var 1 rfl ?_; refine wa_cons ?_; refine w_var 3 rfl ?_; refine wa_cons ?_; refine w_var 7 rfl ?_; refine wa_nil ?_)
  refine ⟨p, q, es, rfl, ok, ok2, pq, po, fun b2 h2 => ⟨b2, rfl, ?_⟩⟩
  have h12 : (b1 == b2) = true := by
    rw [beq_iff_eq, Bool.eq_iff_iff, h1, h2]
    exact hss
  rw [h12]
  exact pp
end
end TW
set_option Elab.async false
set_option linter.all false
set_option maxRecDepth 100000
set_option maxHeartbeats 40000000
namespace TW
open PySem L2 PyProof.Rows
theorem at24 {rs : List Int} (h : rs.length = 24) (k : Nat) (hk : k < 24) : ∃ r : Int, atI (rs.map D.int) (k : Int) = some (.int r) :=
  ⟨rs[k], atI_nat (by rw [List.getElem?_map, List.getElem?_eq_getElem (by omega)]; rfl)⟩
theorem split_at {es : List EntT} {n : Nat} {e : EntT} (h : es[n]? = some e) : ∃ L R, es = L ++ [e] ++ R ∧ L.length = n := by
  have h1 := List.take_append_drop (n + 1) es
  rw [List.take_add_one, h] at h1
  exact ⟨es.take n, es.drop (n + 1), h1.symm, by rw [List.length_take]; have := (List.getElem?_eq_some_iff.mp h).1; omega⟩
section
variable {Pg : Program} {w : World} {K : PySem.W.Frag} {mg : Str → Option Value} {base : Heap} {C : Addr}
theorem law_fin1 (B : Bl mg) (Ge : Df Pg w K mg base C 16 "entry_worths" ["one", "other", "paper", "number"] wfEntW) (Gs : Df Pg w K mg base C 17 "paper_shows" ["one", "other", "paper"] wfShows)
    {f : Addr} {cdv : Value} {A : Around} {outer : List Env} {sh : Shared} {H : Hp} {E : XK} (hr : Room 17 (A.deeper (envOfC "law" (defScope sLaw) sh.heap.objs.size f cdv))) {P : D → Prop} {p q : PrT} {es : List EntT} {rs : List Int} {ls : List SumT} {x0 x4 x5 x6 x9 x10 x11 : Sl}
    (ok : p.Ok) (ok2 : q.Ok) (pq : p.pair q) (hne : es ≠ []) (hl : es.length ≤ 10) (hE : ∀ e ∈ es, e.Ok p q ∧ e.c.dep ≤ 6) (h24 : rs.length = 24) (hls : ls.length ≤ 4 ∧ ∀ s ∈ ls, s.dep = 0 ∧ s.all (known2 p q)) (pp : P (.bl true)) :
    WSs C (cxOf CX0 Pg w K mg base nLaw "law" (defScope sLaw) f cdv A outer sh H E).nox ((defBody sLaw).drop 9) [x0, .im p.enc, .im (encW rs), .im q.enc, x4, x5, x6, .im (encE es), .im (.lst (ls.map SumT.enc)), x9, x10, x11, .no, .no, .no, .no, .no, .no, .no, .no, .no, .no, .no, .no] { nx := fun _ => P .non, rt := P } := by
  obtain ⟨r16, h16⟩ := at24 h24 16 (by decide)
  obtain ⟨r17, h17⟩ := at24 h24 17 (by decide)
  obtain ⟨r18, h18⟩ := at24 h24 18 (by decide)
  obtain ⟨r19, h19⟩ := at24 h24 19 (by decide)
  obtain ⟨r20, h20⟩ := at24 h24 20 (by decide)
  have hpos : 0 < es.length := List.length_pos_iff.mpr hne
  (refine ws_seq ?_)
  refine ws_set 12 scLaw.nd ?_
  (refine w_mod ?_; refine w_ixN (w_var 2 rfl ⟨_, rfl, ?_⟩); refine w_int ?_; refine Exists.intro _ (And.intro rfl ?_))
  refine ⟨_, h16, ?_⟩
  (refine Exists.intro _ (And.intro rfl ?_))
  refine w_len B.len ?_
  (refine w_var 7 rfl ?_; refine Exists.intro _ (And.intro rfl ?_); refine Exists.intro _ (And.intro rfl ?_))
  have hln : (es.map EntT.enc).length = es.length := List.length_map _
  rw [hln]
  refine ⟨by omega, ?_⟩
  obtain ⟨at', hat, hat2⟩ := md_nat (x := r16) hpos
  have hat' : r16 % (es.length : Int) = (at' : Int) := hat
  rw [hat']
  have he := List.getElem?_eq_getElem hat2
  generalize es[at'] = e at he
  obtain ⟨L, R, hes, hL⟩ := split_at he
  have hE0 := hE e (List.mem_of_getElem? he)
  refine ws_seq (ws_asg (ts := [13, 14, 15, 16, 17]) ?_)
  (refine w_ixN (w_var 7 rfl ⟨_, rfl, ?_⟩); refine w_var 12 rfl ?_; refine Exists.intro _ (And.intro rfl ?_))
  refine ⟨e.enc, atI_nat (by rw [List.getElem?_map, he]; rfl), ?_⟩
  refine wg_tup rfl (wgs_cons (wg_name 13 scLaw.nd (wgs_cons (wg_name 14 scLaw.nd (wgs_cons (wg_name 15 scLaw.nd (wgs_cons (wg_name 16 scLaw.nd (wgs_cons (wg_name 17 scLaw.nd (wgs_nil ?_))))))))))) rfl
  refine wss_cast [x0, .im p.enc, .im (encW rs), .im q.enc, x4, x5, x6, .im (encE es), .im (.lst (ls.map SumT.enc)), x9, x10, x11, .im (.int at'), .im (.int e.p), .im (.int e.q), .im e.c.enc, .im (.str e.who), .im e.wait.enc, .no, .no, .no, .no, .no, .no] rfl ?_
  (refine ws_seq ?_)
  refine ws_set 18 scLaw.nd (WN.w (wn_cat ?_))
  (refine WN.w (wn_lst ?_); refine wa_cons ?_; refine w_tup ?_; refine wa_cons ?_; refine w_str ?_; refine wa_cons ?_; refine w_mod ?_; refine w_ixN (w_var 2 rfl ⟨_, rfl, ?_⟩); refine w_int ?_; refine Exists.intro _ (And.intro rfl ?_))
  refine ⟨_, h17, ?_⟩
  (refine Exists.intro _ (And.intro rfl ?_); refine w_int ?_; refine Exists.intro _ (And.intro rfl ?_); refine And.intro (by decide +kernel) ?_; refine wa_nil ?_; refine And.intro (sz rfl) ?_; refine wa_nil ?_; refine And.intro (sz rfl) ?_; refine Exists.intro _ (And.intro rfl ?_); refine w_var 8 rfl ?_; refine Exists.intro _ (And.intro rfl ?_))
  refine ⟨szl (by have := hls.1; simp; omega), ?_⟩
  have hsome : [D.tup [.str "number", .int (r17 % 4)]] ++ ls.map SumT.enc = (SumT.num (r17 % 4) :: ls).map SumT.enc := by simp [SumT.enc]
  rw [hsome]
  have hall : ∀ s ∈ SumT.num (r17 % 4) :: ls, s.dep = 0 ∧ s.all (known2 p q) := fun s hs => by
    rcases List.mem_cons.mp hs with rfl | hs
    · exact ⟨rfl, trivial⟩
    · exact hls.2 s hs
  have hne2 : SumT.num (r17 % 4) :: ls ≠ [] := by simp
  generalize SumT.num (r17 % 4) :: ls = ss at hall hne2
  clear hsome
  have pick : ∀ x : Int, ∃ s ∈ ss, atI (ss.map SumT.enc) (x % ((ss.map SumT.enc).length : Int)) = some s.enc := fun x => by
    obtain ⟨d, hd, hm⟩ := atI_md (ds := ss.map SumT.enc) (x := x) (by simpa using hne2)
    obtain ⟨s, hs, rfl⟩ := List.mem_map.mp hm
    exact ⟨s, hs, hd⟩
  have hpos2 : 0 < ((ss.map SumT.enc).length : Int) := by have := List.length_pos_iff.mpr hne2; simp; omega
  obtain ⟨s, hs, es1⟩ := pick r18
  obtain ⟨t, ht, et1⟩ := pick r19
  refine wss_cast [x0, .im p.enc, .im (encW rs), .im q.enc, x4, x5, x6, .im (encE es), .im (.lst (ls.map SumT.enc)), x9, x10, x11, .im (.int at'), .im (.int e.p), .im (.int e.q), .im e.c.enc, .im (.str e.who), .im e.wait.enc, .im (.lst (ss.map SumT.enc)), .no, .no, .no, .no, .no] rfl ?_
  (refine ws_seq ?_)
  refine ws_set 19 scLaw.nd ?_
  (refine w_tup ?_; refine wa_cons ?_; refine w_str ?_; refine wa_cons ?_; refine w_ixN (w_var 18 rfl ⟨_, rfl, ?_⟩); refine w_mod ?_; refine w_ixN (w_var 2 rfl ⟨_, rfl, ?_⟩); refine w_int ?_; refine Exists.intro _ (And.intro rfl ?_))
  refine ⟨_, h18, ?_⟩
  (refine Exists.intro _ (And.intro rfl ?_))
  refine w_len B.len ?_
  (refine w_var 18 rfl ?_; refine Exists.intro _ (And.intro rfl ?_); refine Exists.intro _ (And.intro rfl ?_))
  refine ⟨hpos2, _, rfl, _, es1, ?_⟩
  (refine wa_cons ?_; refine w_ixN (w_var 18 rfl ⟨_, rfl, ?_⟩); refine w_mod ?_; refine w_ixN (w_var 2 rfl ⟨_, rfl, ?_⟩); refine w_int ?_; refine Exists.intro _ (And.intro rfl ?_))
  refine ⟨_, h19, ?_⟩
  (refine Exists.intro _ (And.intro rfl ?_))
  refine w_len B.len ?_
  (refine w_var 18 rfl ?_; refine Exists.intro _ (And.intro rfl ?_); refine Exists.intro _ (And.intro rfl ?_))
  refine ⟨hpos2, _, rfl, _, et1, ?_⟩
  (refine wa_nil ?_; refine And.intro (sz rfl) ?_)
  obtain ⟨mo, hmo, hmd, hma⟩ : ∃ mo : CndT, D.tup [.str "under", s.enc, t.enc] = mo.enc ∧ mo.dep ≤ 1 ∧ mo.all (known2 p q) :=
    ⟨.under s t, rfl, by simp [CndT.dep, (hall s hs).1, (hall t ht).1], (hall s hs).2, (hall t ht).2⟩
  rw [hmo]
  clear hmo es1 et1 pick
  refine wss_cast [x0, .im p.enc, .im (encW rs), .im q.enc, x4, x5, x6, .im (encE es), .im (.lst (ls.map SumT.enc)), x9, x10, x11, .im (.int at'), .im (.int e.p), .im (.int e.q), .im e.c.enc, .im (.str e.who), .im e.wait.enc, .im (.lst (ss.map SumT.enc)), .im mo.enc, .no, .no, .no, .no] rfl ?_
  (refine ws_seq ?_)
  refine ws_own 20 scLaw.nd (wn_lst ?_)
  (refine wa_cons ?_; refine w_tup ?_; refine wa_cons ?_; refine w_var 13 rfl ?_; refine wa_cons ?_; refine w_var 14 rfl ?_; refine wa_cons ?_; refine w_tup ?_; refine wa_cons ?_; refine w_str ?_; refine wa_cons ?_; refine w_var 15 rfl ?_; refine wa_cons ?_; refine w_var 19 rfl ?_; refine wa_nil ?_; refine And.intro (sz rfl) ?_; refine wa_cons ?_; refine w_var 16 rfl ?_; refine wa_cons ?_; refine w_var 17 rfl ?_; refine wa_nil ?_; refine And.intro (sz rfl) ?_; refine wa_nil ?_; refine And.intro (sz rfl) ?_)
  (refine ws_seq ?_)
  refine ws_append 20 rfl ?_
  (refine w_tup ?_; refine wa_cons ?_; refine w_var 13 rfl ?_; refine wa_cons ?_; refine w_var 14 rfl ?_; refine wa_cons ?_; refine w_tup ?_; refine wa_cons ?_; refine w_str ?_; refine wa_cons ?_; refine w_var 15 rfl ?_; refine wa_cons ?_; refine w_tup ?_; refine wa_cons ?_; refine w_str ?_; refine wa_cons ?_; refine w_var 19 rfl ?_; refine wa_nil ?_; refine And.intro (sz rfl) ?_; refine wa_nil ?_; refine And.intro (sz rfl) ?_; refine wa_cons ?_; refine w_var 16 rfl ?_; refine wa_cons ?_; refine w_var 17 rfl ?_; refine wa_nil ?_; refine And.intro (sz rfl) ?_; refine And.intro (sz rfl) ?_)
  obtain ⟨e1, he1⟩ : ∃ y : EntT, y = ⟨e.p, e.q, .both e.c mo, e.who, e.wait⟩ := ⟨_, rfl⟩
  obtain ⟨e2, he2⟩ : ∃ y : EntT, y = ⟨e.p, e.q, .both e.c (.no mo), e.who, e.wait⟩ := ⟨_, rfl⟩
  refine wss_frz 20 rfl ?_
  have hh : D.lst ([D.tup [.int e.p, .int e.q, .tup [.str "both", e.c.enc, mo.enc], .str e.who, e.wait.enc]] ++ [D.tup [.int e.p, .int e.q, .tup [.str "both", e.c.enc, .tup [.str "not", mo.enc]], .str e.who, e.wait.enc]]) = .lst ([e1, e2].map EntT.enc) := by
    rw [he1, he2]
    rfl
  rw [hh]
  refine wss_cast [x0, .im p.enc, .im (encW rs), .im q.enc, x4, x5, x6, .im (encE es), .im (.lst (ls.map SumT.enc)), x9, x10, x11, .im (.int at'), .im (.int e.p), .im (.int e.q), .im e.c.enc, .im (.str e.who), .im e.wait.enc, .im (.lst (ss.map SumT.enc)), .im mo.enc, .im (.lst ([e1, e2].map EntT.enc)), .no, .no, .no] rfl ?_
  have ev : ∀ f, e.c.eval f = (e1.c.eval f || e2.c.eval f) := fun f => by
    rw [he1, he2]
    show e.c.eval f = (e.c.eval f && mo.eval f || e.c.eval f && !mo.eval f)
    cases e.c.eval f <;> cases mo.eval f <;> rfl
  have k1 : e1.Ok p q := by
    have := hE0.2
    rw [he1]
    exact ⟨hE0.1.p, hE0.1.q, ⟨hE0.1.c, hma⟩, by simp [CndT.dep]; omega, hE0.1.who, hE0.1.w, hE0.1.wd⟩
  have k2 : e2.Ok p q := by
    have := hE0.2
    rw [he2]
    exact ⟨hE0.1.p, hE0.1.q, ⟨hE0.1.c, hma⟩, by simp [CndT.dep]; omega, hE0.1.who, hE0.1.w, hE0.1.wd⟩
  have sp12 : Split e e1 e2 := ⟨by rw [he1]; rfl, by rw [he2]; rfl, by rw [he1]; exact ⟨rfl, rfl⟩, by rw [he2]; exact ⟨rfl, rfl⟩, ev⟩
  have sp21 : Split e e2 e1 := ⟨sp12.pl2, sp12.pl1, sp12.w2, sp12.w1, fun f => by rw [ev, Bool.or_comm]⟩
  (refine ws_seq ?_)
  refine ws_set 21 scLaw.nd (WN.w (wn_cat (WN.w (wn_cat (WN.w (w_upto (es := es) (n := at') (by omega) (w_var 7 rfl ⟨rfl, w_var 12 rfl ⟨rfl, ?_⟩⟩)))))))
  refine ⟨_, rfl, WN.w (wn_step (w_var 20 rfl ?_))⟩
  (refine Exists.intro _ (And.intro rfl ?_); refine w_sub ?_; refine w_int ?_; refine Exists.intro _ (And.intro rfl ?_); refine w_mul ?_; refine w_int ?_; refine Exists.intro _ (And.intro rfl ?_); refine w_mod ?_; refine w_ixN (w_var 2 rfl ⟨_, rfl, ?_⟩); refine w_int ?_; refine Exists.intro _ (And.intro rfl ?_))
  refine ⟨_, h20, ?_⟩
  (refine Exists.intro _ (And.intro rfl ?_); refine w_int ?_; refine Exists.intro _ (And.intro rfl ?_); refine And.intro (by decide +kernel) ?_; refine Exists.intro _ (And.intro rfl ?_); refine And.intro (Or.inl (And.intro (by decide +kernel) (by decide +kernel))) ?_; refine Exists.intro _ (And.intro rfl ?_); refine Exists.intro _ (And.intro rfl ?_))
  refine ⟨mod2_step _, ?_⟩
  obtain ⟨A1, A2, hA, hS, hA1, hA2⟩ : ∃ A1 A2 : EntT, stepD ([e1, e2].map EntT.enc) (1 - 2 * (r20 % 2)) = [A1, A2].map EntT.enc ∧ Split e A1 A2 ∧ A1.Ok p q ∧ A2.Ok p q := by
    rcases mod2_step r20 with h | h
    · rw [h]; exact ⟨e1, e2, rfl, sp12, k1, k2⟩
    · rw [h]; exact ⟨e2, e1, rfl, sp21, k2, k1⟩
  rw [hA]
  have lt1 : (es.take at').length ≤ 10 := by rw [List.length_take]; omega
  have lt2 : (es.drop (at' + 1)).length ≤ 10 := by rw [List.length_drop]; omega
  refine ⟨_, rfl, szl (by rw [List.length_map, List.length_map]; simp only [List.length_cons, List.length_nil]; omega), ?_⟩
  refine ⟨_, rfl, WN.w (w_from1 (es := es) (n := at') (w_var 7 rfl ⟨rfl, w_var 12 rfl ⟨rfl, ?_⟩⟩))⟩
  refine ⟨_, rfl, szl (by rw [List.length_append, List.length_map, List.length_map, List.length_map]; simp only [List.length_cons, List.length_nil]; omega), ?_⟩
  rw [← List.map_append, ← List.map_append]
  subst hes
  have e1' : (L ++ [e] ++ R).take at' = L := by rw [← hL]; simp
  have e2' : (L ++ [e] ++ R).drop (at' + 1) = R := by rw [← hL]; simp
  rw [e1', e2']
  have hpo : ∀ x ∈ L ++ [e] ++ R, x.Ok p q := fun x hx => (hE x hx).1
  have hl2 : L.length + 1 + R.length ≤ 10 := by
    have := hl
    rw [List.length_append, List.length_append] at this
    simpa using this
  subst hL
  refine law_fin2 B Ge Gs hr ok ok2 pq hS ⟨by omega, hpo⟩ ⟨?_, fun x hx => ?_⟩ (by omega) pp
  · rw [List.length_append, List.length_append]
    simp only [List.length_cons, List.length_nil]
    omega
  · simp only [List.mem_append, List.mem_cons, List.not_mem_nil, or_false] at hx
    rcases hx with (hx | rfl | rfl) | hx
    · exact hpo x (by simp [hx])
    · exact hA1
    · exact hA2
    · exact hpo x (by simp [hx])
end
end TW
set_option Elab.async false
set_option linter.all false
set_option maxRecDepth 100000
set_option maxHeartbeats 40000000
namespace TW
open PySem L2 PyProof.Rows
theorem SumT.lay {g : Str → Str → Prop} (hg : ∀ t x, g t x → PyData.strOk t = true ∧ PyData.strOk x = true) : ∀ {s : SumT} {n : Nat}, s.all g → s.dep ≤ n → layN (n + 1) s.enc = true
  | .num i, n, _, _ => by simp [SumT.enc, layN]; decide +kernel
  | .leaf t x, n, h, _ => by simp [SumT.enc, layN, hg t x h]
  | .plus a b, 0, _, h => by simp [SumT.dep] at h
  | .plus a b, n + 1, h, hd => by
    have h1 : a.dep ≤ n := by simp [SumT.dep] at hd; omega
    have h2 : b.dep ≤ n := by simp [SumT.dep] at hd; omega
    have := SumT.lay hg h.1 h1
    have := SumT.lay hg h.2 h2
    simp [SumT.enc, layN, *]
    decide +kernel
  | .less a b, 0, _, h => by simp [SumT.dep] at h
  | .less a b, n + 1, h, hd => by
    have h1 : a.dep ≤ n := by simp [SumT.dep] at hd; omega
    have h2 : b.dep ≤ n := by simp [SumT.dep] at hd; omega
    have := SumT.lay hg h.1 h1
    have := SumT.lay hg h.2 h2
    simp [SumT.enc, layN, *]
    decide +kernel
theorem CndT.lay {g : Str → Str → Prop} (hg : ∀ t x, g t x → PyData.strOk t = true ∧ PyData.strOk x = true) : ∀ {s : CndT} {n : Nat}, s.all g → s.dep ≤ n → layN (n + 1) s.enc = true
  | .yes, n, _, _ => by simp [CndT.enc, layN]; decide +kernel
  | .no a, 0, _, h => by simp [CndT.dep] at h
  | .no a, n + 1, h, hd => by
    have h1 : a.dep ≤ n := by simp [CndT.dep] at hd; omega
    have := CndT.lay (s := a) hg h h1
    simp [CndT.enc, layN, *]
    decide +kernel
  | .both a b, 0, _, h => by simp [CndT.dep] at h
  | .both a b, n + 1, h, hd => by
    have h1 : a.dep ≤ n := by simp [CndT.dep] at hd; omega
    have h2 : b.dep ≤ n := by simp [CndT.dep] at hd; omega
    have := CndT.lay hg h.1 h1
    have := CndT.lay hg h.2 h2
    simp [CndT.enc, layN, *]
    decide +kernel
  | .same a b, 0, _, h => by simp [CndT.dep] at h
  | .same a b, n + 1, h, hd => by
    have h1 : a.dep ≤ n := by simp [CndT.dep] at hd; omega
    have h2 : b.dep ≤ n := by simp [CndT.dep] at hd; omega
    have := SumT.lay hg h.1 h1
    have := SumT.lay hg h.2 h2
    simp [CndT.enc, layN, *]
    decide +kernel
  | .under a b, 0, _, h => by simp [CndT.dep] at h
  | .under a b, n + 1, h, hd => by
    have h1 : a.dep ≤ n := by simp [CndT.dep] at hd; omega
    have h2 : b.dep ≤ n := by simp [CndT.dep] at hd; omega
    have := SumT.lay hg h.1 h1
    have := SumT.lay hg h.2 h2
    simp [CndT.enc, layN, *]
    decide +kernel
theorem who_lay : ∀ x ∈ whoL, PyData.strOk x = true := by decide +kernel
theorem EntT.lay {g : Str → Str → Prop} (hg : ∀ t x, g t x → PyData.strOk t = true ∧ PyData.strOk x = true) {e : EntT} (hc : e.c.all g) (hcd : e.c.dep ≤ 12) (hw : e.wait.all g) (hwd : e.wait.dep ≤ 12) (ho : e.who ∈ whoL) : layN 14 e.enc = true := by
  have h1 := CndT.lay hg hc hcd
  have h2 := SumT.lay hg hw hwd
  have h3 := who_lay e.who ho
  simp [EntT.enc, layN, h1, h2, h3]
theorem known2_lay {p q : PrT} (ok : p.Ok) (ok2 : q.Ok) {t x : Str} (h : known2 p q t x) : PyData.strOk t = true ∧ PyData.strOk x = true := by
  rcases h with ⟨rfl, h⟩ | ⟨rfl, h⟩
  · exact ⟨by decide +kernel, ok.lay x h⟩
  · exact ⟨by decide +kernel, ok2.lay x h⟩
theorem ents_lay {g : Str → Str → Prop} (hg : ∀ t x, g t x → PyData.strOk t = true ∧ PyData.strOk x = true) {es : List EntT} (h : ∀ e ∈ es, e.c.all g ∧ e.c.dep ≤ 12 ∧ e.wait.all g ∧ e.wait.dep ≤ 12 ∧ e.who ∈ whoL) : layN 15 (encE es) = true := by
  simp only [encE, layN, List.all_map, List.all_eq_true]
  intro e he
  obtain ⟨h1, h2, h3, h4, h5⟩ := h e he
  exact EntT.lay hg h1 h2 h3 h4 h5
theorem encE_nil {es : List EntT} : encE es = .lst [] ↔ es = [] := by
  simp [encE]
section
variable {Pg : Program} {w : World} {K : PySem.W.Frag} {mg : Str → Option Value} {base : Heap} {C : Addr}
theorem law_mid (B : Bl mg) (Ge : Df Pg w K mg base C 16 "entry_worths" ["one", "other", "paper", "number"] wfEntW) (Gs : Df Pg w K mg base C 17 "paper_shows" ["one", "other", "paper"] wfShows)
    (Gp : Df Pg w K mg base C 17 "_law_placed" ["one", "other", "paper", "place"] wfPlaced) (Ga : Df Pg w K mg base C 17 "_law_any" ["one", "other", "paper", "place"] wfPlaced)
    {f : Addr} {cdv : Value} {A : Around} {outer : List Env} {sh : Shared} {H : Hp} {E : XK} (hr : Room 17 (A.deeper (envOfC "law" (defScope sLaw) sh.heap.objs.size f cdv))) {P : D → Prop} {p q : PrT} {es : List EntT} {rs : List Int} {ls : List SumT} {x0 x4 x5 x6 x9 : Sl}
    (ok : p.Ok) (ok2 : q.Ok) (pq : p.pair q) (hl : es.length ≤ 10) (hE : ∀ e ∈ es, e.Ok p q ∧ e.c.dep ≤ 6) (h24 : rs.length = 24) (hls : ls.length ≤ 4 ∧ ∀ s ∈ ls, s.dep = 0 ∧ s.all (known2 p q)) (pp : P (.bl true)) :
    WSs C (cxOf CX0 Pg w K mg base nLaw "law" (defScope sLaw) f cdv A outer sh H E).nox ((defBody sLaw).drop 7) [x0, .im p.enc, .im (encW rs), .im q.enc, x4, x5, x6, .im (encE es), .im (.lst (ls.map SumT.enc)), x9, .no, .no, .no, .no, .no, .no, .no, .no, .no, .no, .no, .no, .no, .no] { nx := fun _ => P .non, rt := P } := by
  have po : PapOk p q es := ⟨by omega, fun e he => (hE e he).1⟩
  have hlay : layN 15 (encE es) = true := ents_lay (fun t x h => known2_lay ok ok2 h) fun e he => ⟨(po.2 e he).c, (po.2 e he).cd, (po.2 e he).w, (po.2 e he).wd, (po.2 e he).who⟩
  (refine ws_seq ?_; refine ws_if ?_)
  refine wt_eqD 15 hr.units ?_
  (refine w_var 7 rfl ?_)
  refine WN.w (wn_lst ?_)
  (refine wa_nil ?_; refine And.intro (sz rfl) ?_)
  refine ⟨by decide, hlay, rfl, fun b hb => ?_⟩
  rw [encE_nil] at hb
  refine if_2 (fun h => ?_) fun h => ?_
  · have hes := hb.mp h
    subst hes
    (refine ws_seq ?_; refine ws_ret ?_; refine w_not ?_)
    refine w_call Gs hr ?_
    (refine wa_cons ?_; refine w_var 1 rfl ?_; refine wa_cons ?_; refine w_var 3 rfl ?_; refine wa_cons ?_; refine w_var 7 rfl ?_; refine wa_nil ?_)
    refine ⟨p, q, [], rfl, ok, ok2, pq, po, fun c hc => ⟨c, rfl, ?_⟩⟩
    have hcf : c = false := by
      cases c with
      | false => rfl
      | true => exact absurd (hc.mp rfl) (empty_shows ok)
    rw [hcf]
    exact pp
  have hne : es ≠ [] := fun z => by rw [hb.mpr z] at h; cases h
  (refine ws_nil ?_; refine ws_seq ?_)
  refine ws_for (ts := [10]) PassesOwn.never rfl (wi_list (WN.w (wn_sortedSet rfl hr.units B.sorted bt_sorted B.set bt_set ?_)))
  refine WN.w (wn_lc (own := [("entry", 11)]) (ts := [11]) rfl scLaw.nd (blkOk_by (N := nLaw) (sc := defScope sLaw) (by decide +kernel)) (by decide) (wi_list ?_))
  (refine w_var 7 rfl ?_)
  refine ⟨_, .inl rfl, fun i acc => acc = ((places es).take i).map plD, rfl, fun i d acc hd ha => ?_, fun acc ha => ?_⟩
  · obtain ⟨e, he, rfl⟩ := get_map hd
    have hil : i < es.length := (List.getElem?_eq_some_iff.mp he).1
    subst ha
    intro _ _ _ _ _
    refine wg_name 11 scLaw.nd ?_
    intro _ _ _ _ _
    refine wts_nil (if_t rfl ?_)
    intro _ _ _ _ _
    refine w_sliceT ?_
    (refine w_var 11 rfl ?_; refine Exists.intro _ (And.intro rfl ?_); refine w_int ?_; refine Exists.intro _ (And.intro rfl ?_))
    refine And.intro (by simp [HT.sIx]) ?_
    refine ⟨szt (by simp; omega), ?_⟩
    show _ = ((places es).take (i + 1)).map plD
    rw [List.take_add_one, show (places es)[i]? = some e.pl by simp [places, he], List.map_append]
    rfl
  · subst ha
    rw [List.length_map, List.take_of_length_le (by simp [places])]
    refine ⟨places es, rfl, by simp [places]; omega, fun pl hpl => ?_, fun out hol hout => ?_⟩
    · obtain ⟨e, he, rfl⟩ := List.mem_map.mp hpl
      have := (po.2 e he).p
      have := (po.2 e he).q
      have := ok.fewN
      have := ok2.fewN
      exact ⟨by show e.p < 64; omega, by show e.q < 64; omega⟩
    refine ⟨_, .inl rfl, fun i ρ' => ∃ a, ρ' = [x0, .im p.enc, .im (encW rs), .im q.enc, x4, x5, x6, .im (encE es), .im (.lst (ls.map SumT.enc)), x9, a, .no, .no, .no, .no, .no, .no, .no, .no, .no, .no, .no, .no, .no], ⟨_, rfl⟩, fun i d ρ' hd hi => ?_, fun ρ' hi => ?_⟩
    · obtain ⟨a, rfl⟩ := hi
      obtain ⟨pl, hpl, rfl⟩ := get_map hd
      refine wg_name 10 scLaw.nd ?_
      (refine ws_seq ?_; refine ws_if ?_)
      refine wt_neD 3 hr.units (w_call Gp hr ?_)
      (refine wa_cons ?_; refine w_var 1 rfl ?_; refine wa_cons ?_; refine w_var 3 rfl ?_; refine wa_cons ?_; refine w_var 7 rfl ?_; refine wa_cons ?_; refine w_var 10 rfl ?_; refine wa_nil ?_)
      refine ⟨p, q, es, pl, rfl, ok, ok2, pq, po, w_call Ga hr ?_⟩
      (refine wa_cons ?_; refine w_var 1 rfl ?_; refine wa_cons ?_; refine w_var 3 rfl ?_; refine wa_cons ?_; refine w_var 7 rfl ?_; refine wa_cons ?_; refine w_var 10 rfl ?_; refine wa_nil ?_)
      refine ⟨p, q, es, pl, rfl, ok, ok2, pq, po, by decide, lay_mys _, lay_mys _, fun b hb => ?_⟩
      have hbf : b = false := by
        cases b with
        | false => rfl
        | true => exact absurd rfl (hb.mp rfl)
      refine if_f hbf ?_
      exact ws_nil (ws_nil ⟨.im (plD pl), rfl⟩)
    · obtain ⟨a, rfl⟩ := hi
      exact law_fin1 B Ge Gs hr ok ok2 pq hne hl hE h24 hls pp
end
end TW
set_option Elab.async false
set_option linter.all false
set_option maxRecDepth 100000
set_option maxHeartbeats 40000000
namespace TW
open PySem L2 PyProof.Rows
theorem cut5 {rs : List Int} (h : rs.length = 24) {z : Nat} (hz : z < 2) : ∃ s0 s1 s2 s3 s4 : Int, cutD (rs.map D.int) (some (6 + 5 * (z : Int))) (some (11 + 5 * (z : Int))) = [s0, s1, s2, s3, s4].map D.int := by
  match rs, h with
  | [a0, a1, a2, a3, a4, a5, a6, a7, a8, a9, a10, a11, a12, a13, a14, a15, a16, a17, a18, a19, a20, a21, a22, a23], _ =>
    rcases z with _ | _ | z
    · exact ⟨a6, a7, a8, a9, a10, rfl⟩
    · exact ⟨a11, a12, a13, a14, a15, rfl⟩
    · omega
theorem row6 {rs : List Int} (h : rs.length = 24) : ∃ r0 r1 r2 r3 r4 r5 rt, rs = r0 :: r1 :: r2 :: r3 :: r4 :: r5 :: rt := by
  match rs, h with
  | a0 :: a1 :: a2 :: a3 :: a4 :: a5 :: rt, _ => exact ⟨a0, a1, a2, a3, a4, a5, rt, rfl⟩
theorem names_lay {p : PrT} {b : Bool} (hp : Prog4 p) {t x : Str} (h : knownN p.names (p.names.map (zIf p.inputs b)) t x) : PyData.strOk t = true ∧ PyData.strOk x = true := by
  rcases h with ⟨rfl, h⟩ | ⟨rfl, h⟩
  · exact ⟨by decide +kernel, hp.ok.lay x h⟩
  · obtain ⟨y, hy, rfl⟩ := List.mem_map.mp h
    obtain ⟨c, hc, rfl⟩ := List.mem_map.mp hy
    exact ⟨by decide +kernel, zIf_ok (hp.nice.box c hc).2.2⟩
theorem names_len (p : PrT) : p.names.length = p.boxes.length := List.length_map _
section
variable {Pg : Program} {w : World} {K : PySem.W.Frag} {mg : Str → Option Value} {base : Heap} {C : Addr}
def wfLaw : List D → (D → Prop) → Prop := fun ds P => ∃ ns : List Int, ds = [.ro (ns.map D.int)] ∧ P (.bl true)
theorem ok_law (B : Bl mg) (Ge : Df Pg w K mg base C 16 "entry_worths" ["one", "other", "paper", "number"] wfEntW) (Gs : Df Pg w K mg base C 17 "paper_shows" ["one", "other", "paper"] wfShows)
    (Gp : Df Pg w K mg base C 17 "_law_placed" ["one", "other", "paper", "place"] wfPlaced) (Ga : Df Pg w K mg base C 17 "_law_any" ["one", "other", "paper", "place"] wfPlaced)
    (Gg : Df Pg w K mg base C 4 "_law_program" ["script", "most"] wfProg) (Gc : Df Pg w K mg base C 1 "_law_cell_at" ["script", "k"] wfCell) (Gn : Df Pg w K mg base C 1 "_law_numbers" ["cell", "many", "base"] wfNums)
    (Go : Df Pg w K mg base C 11 "_law_made_over" ["program", "row"] wfOver) (Gr : Df Pg w K mg base C 1 "_law_resized" ["program", "number"] wfResz) (Gd : Df Pg w K mg base C 2 "_law_good_paper" ["program", "called", "places", "behind"] wfGood)
    (Gb : Df Pg w K mg base C 1 "_law_boxes_of" ["one", "other"] wfBoxesOf) (Gt : Df Pg w K mg base C 1 "_law_spoilt" ["paper", "row", "boxes"] wfSpoilt)
    {f : Addr} {fd : FuncData} (F : Fun K "law" "law" sLaw f fd) : FnOk Pg w K mg base CX0 18 f fd ["script"] (spD K C wfLaw) := by
  refine fn_ok F scLaw (fun ds P h => by obtain ⟨_, rfl, _⟩ := h; rfl) fun cdv A outer s H E hr ds P h => ?_
  obtain ⟨ns, rfl, pp⟩ := h
  (refine ws_seq ?_)
  refine ws_set 1 scLaw.nd (w_call Gg hr ?_)
  (refine wa_cons ?_; refine w_var 0 rfl ?_; refine wa_cons ?_; refine w_int ?_; refine wa_nil ?_; refine Exists.intro _ (And.intro rfl ?_))
  intro p hp
  (refine ws_seq ?_)
  refine ws_set 2 scLaw.nd (w_call Gn hr ?_)
  (refine wa_cons ?_)
  refine w_call Gc hr ?_
  (refine wa_cons ?_; refine w_var 0 rfl ?_; refine wa_cons ?_; refine w_int ?_; refine wa_nil ?_)
  refine ⟨ns, 1, rfl, fun c0 => ?_⟩
  (refine wa_cons ?_; refine w_int ?_; refine wa_cons ?_; refine w_int ?_; refine wa_nil ?_)
  refine ⟨c0, 24, 840, rfl, by decide, by decide, by decide, fun rs hrs => ?_⟩
  have h24 := hrs.1
  obtain ⟨r0, r1, r2, r3, r4, r5, rt, hr6⟩ := row6 h24
  refine wss_cast [.im (.ro (ns.map D.int)), .im p.enc, .im (encW rs), .no, .no, .no, .no, .no, .no, .no, .no, .no, .no, .no, .no, .no, .no, .no, .no, .no, .no, .no, .no, .no] rfl ?_
  (refine ws_seq ?_)
  refine ws_asg (ts := [3, 4, 5, 6]) (w_call Go hr ?_)
  (refine wa_cons ?_; refine w_var 1 rfl ?_; refine wa_cons ?_; refine w_var 2 rfl ?_; refine wa_nil ?_)
  refine ⟨p, r0, r1, r2, r3, r4, r5, rt, by rw [hr6], hp, fun q bz pls bhs ho h1 h2 h3 h4 => ?_⟩
  refine wg_tup rfl (wgs_cons (wg_name 3 scLaw.nd (wgs_cons (wg_name 4 scLaw.nd (wgs_cons (wg_name 5 scLaw.nd (wgs_cons (wg_name 6 scLaw.nd (wgs_nil ?_))))))))) rfl
  refine wss_cast [.im (.ro (ns.map D.int)), .im p.enc, .im (encW rs), .im q.enc, .im (calD p.names (zIf p.inputs bz)), .im (encN pls), .im (encN bhs), .no, .no, .no, .no, .no, .no, .no, .no, .no, .no, .no, .no, .no, .no, .no, .no, .no] rfl ?_
  (refine ws_seq ?_)
  refine ws_set 3 scLaw.nd (w_call Gr hr ?_)
  (refine wa_cons ?_; refine w_var 3 rfl ?_; refine wa_cons ?_; refine w_fdiv ?_; refine w_ixN (w_var 2 rfl ⟨_, rfl, ?_⟩); refine w_int ?_; refine Exists.intro _ (And.intro rfl ?_))
  obtain ⟨v5, hv5⟩ := at24 h24 5 (by decide)
  have qb : q.boxes.length = p.boxes.length := by
    have := ho.boxes.length_eq
    rw [List.length_map] at this
    exact this
  have hb2 := hp.nice.few
  have qi : q.inputs.length ≤ 2 := by rw [ho.inputs]; exact hp.nice.fewI
  refine ⟨_, hv5, ?_⟩
  (refine Exists.intro _ (And.intro rfl ?_); refine w_int ?_; refine Exists.intro _ (And.intro rfl ?_); refine And.intro (And.intro (by decide +kernel) (by decide +kernel)) ?_; refine wa_nil ?_)
  refine ⟨q, v5 / 2, rfl, by omega, qi, fun k hk => ?_⟩
  have ok := hp.ok
  have ok2 := over_ok hp ho hk
  have pq := over_pair hp ho k
  have rb : (q.resz k).boxes.length = q.boxes.length := by simp [PrT.resz]
  refine wss_cast [.im (.ro (ns.map D.int)), .im p.enc, .im (encW rs), .im (q.resz k).enc, .im (calD p.names (zIf p.inputs bz)), .im (encN pls), .im (encN bhs), .no, .no, .no, .no, .no, .no, .no, .no, .no, .no, .no, .no, .no, .no, .no, .no, .no] rfl ?_
  (refine ws_seq ?_)
  refine ws_set 7 scLaw.nd (w_call Gd hr ?_)
  (refine wa_cons ?_; refine w_var 1 rfl ?_; refine wa_cons ?_; refine w_var 4 rfl ?_; refine wa_cons ?_; refine w_var 5 rfl ?_; refine wa_cons ?_; refine w_var 6 rfl ?_; refine wa_nil ?_)
  refine ⟨p, zIf p.inputs bz, pls, bhs, q.nodes.length, rfl, hb2, hp.few, h1, h2, h3, h4, fun es hl he => ?_⟩
  (refine ws_seq ?_)
  refine ws_set 8 scLaw.nd (w_call Gb hr ?_)
  (refine wa_cons ?_; refine w_var 1 rfl ?_; refine wa_cons ?_; refine w_var 3 rfl ?_; refine wa_nil ?_)
  refine ⟨p, q.resz k, rfl, hb2, by omega, ?_⟩
  have hls : (p.names.map (SumT.leaf "mine") ++ (q.resz k).names.map (SumT.leaf "yours")).length ≤ 4 ∧ ∀ s ∈ p.names.map (SumT.leaf "mine") ++ (q.resz k).names.map (SumT.leaf "yours"), s.dep = 0 ∧ s.all (knownN p.names (p.names.map (zIf p.inputs bz))) := by
    refine ⟨by rw [List.length_append, List.length_map, List.length_map, names_len, names_len]; omega, fun s hs => ?_⟩
    rcases List.mem_append.mp hs with hs | hs
    · obtain ⟨x, hx, rfl⟩ := List.mem_map.mp hs
      exact ⟨rfl, .inl ⟨rfl, hx⟩⟩
    · obtain ⟨x, hx, rfl⟩ := List.mem_map.mp hs
      refine ⟨rfl, .inr ⟨rfl, ?_⟩⟩
      rw [resz_names] at hx
      exact (over_names ho).mem_iff.mp hx
  generalize p.names.map (SumT.leaf "mine") ++ (q.resz k).names.map (SumT.leaf "yours") = ls at hls
  refine wss_cast [.im (.ro (ns.map D.int)), .im p.enc, .im (encW rs), .im (q.resz k).enc, .im (calD p.names (zIf p.inputs bz)), .im (encN pls), .im (encN bhs), .im (encE es), .im (.lst (ls.map SumT.enc)), .no, .no, .no, .no, .no, .no, .no, .no, .no, .no, .no, .no, .no, .no, .no] rfl ?_
  (refine ws_seq ?_)
  refine ws_for (ts := [9]) PassesOwn.never rfl (wi_range1 B.range ?_)
  (refine w_int ?_; refine Exists.intro _ (And.intro rfl ?_))
  refine ⟨by decide, by decide, fun i ρ' => ∃ (es : List EntT) (a : Sl), ρ' = [.im (.ro (ns.map D.int)), .im p.enc, .im (encW rs), .im (q.resz k).enc, .im (calD p.names (zIf p.inputs bz)), .im (encN pls), .im (encN bhs), .im (encE es), .im (.lst (ls.map SumT.enc)), a, .no, .no, .no, .no, .no, .no, .no, .no, .no, .no, .no, .no, .no, .no] ∧ es.length ≤ 8 + i ∧ ∀ e ∈ es, PreE p.names (p.names.map (zIf p.inputs bz)) p.nodes.length q.nodes.length (4 + i) e, ⟨es, _, rfl, hl, he⟩, fun i d ρ' hd hi => ?_, fun ρ' hi => ?_⟩
  · clear he hl es
    obtain ⟨es, a, rfl, hl, he⟩ := hi
    obtain ⟨z, hz, rfl⟩ := get_map hd
    obtain ⟨hk2, rfl⟩ := get_range hz
    have hz2 : z < 2 := by simpa using hk2
    have hlay : layN 15 (encE es) = true := ents_lay (fun t x h => names_lay hp h) fun e h => ⟨(he e h).c, Nat.le_trans (he e h).cd (by omega), (he e h).w, Nat.le_trans (he e h).wd (by omega), (he e h).who⟩
    refine wg_name 9 scLaw.nd ?_
    (refine ws_seq ?_; refine ws_if ?_)
    refine wt_neD 15 hr.units ?_
    (refine w_var 7 rfl ?_)
    refine WN.w (wn_lst ?_)
    (refine wa_nil ?_; refine And.intro (sz rfl) ?_)
    refine ⟨by decide, hlay, rfl, fun b hb => ?_⟩
    rw [Ne, encE_nil] at hb
    refine if_2 (fun h => ?_) fun h => ?_
    · have hne := hb.mp h
      refine ws_seq (ws_set 7 scLaw.nd (w_call Gt hr ?_))
      refine wa_cons (w_var 7 rfl ?_)
      refine wa_cons (WN.w (wn_slice ?_))
      (refine w_var 2 rfl ?_; refine Exists.intro _ (And.intro rfl ?_); refine w_add ?_; refine w_int ?_; refine Exists.intro _ (And.intro rfl ?_); refine w_mul ?_; refine w_int ?_; refine Exists.intro _ (And.intro rfl ?_); refine w_var 9 rfl ?_; refine Exists.intro _ (And.intro rfl ?_); refine And.intro (Or.inl (And.intro (by decide +kernel) (by decide +kernel))) ?_; refine Exists.intro _ (And.intro rfl ?_); refine Exists.intro _ (And.intro rfl ?_); refine w_add ?_; refine w_int ?_; refine Exists.intro _ (And.intro rfl ?_); refine w_mul ?_; refine w_int ?_; refine Exists.intro _ (And.intro rfl ?_); refine w_var 9 rfl ?_; refine Exists.intro _ (And.intro rfl ?_); refine And.intro (Or.inl (And.intro (by decide +kernel) (by decide +kernel))) ?_; refine Exists.intro _ (And.intro rfl ?_); refine Exists.intro _ (And.intro rfl ?_); refine wa_cons ?_; refine w_var 8 rfl ?_; refine wa_nil ?_)
      obtain ⟨s0, s1, s2, s3, s4, hcut⟩ := cut5 h24 hz2
      rw [hcut]
      refine ⟨es, s0, s1, s2, s3, s4, ls, _, _, _, _, 4 + z, rfl, hne, by omega, hls.1, hls.2, by omega, he, fun es' hl' he' => ?_⟩
      exact ws_nil (ws_nil ⟨es', .im (.int z), rfl, by omega, fun e h => (he' e h).up (by omega)⟩)
    · exact ws_nil (ws_nil ⟨es, .im (.int z), rfl, by omega, fun e h => (he e h).up (by omega)⟩)
  · obtain ⟨es, a, rfl, hl, he⟩ := hi
    have hn : ((List.range (2 : Int).toNat).map fun i : Nat => D.int i).length = 2 := rfl
    rw [hn] at hl he
    exact law_mid B Ge Gs Gp Ga hr ok ok2 pq (by omega) (fun e h => ⟨over_ent ho k (by decide) (he e h), (he e h).cd⟩) h24 ⟨hls.1, fun s hs => ⟨(hls.2 s hs).1, s.all_mono (fun _ _ h => over_known ho k h) (hls.2 s hs).2⟩⟩ pp
end
end TW
set_option Elab.async false
set_option linter.all false
set_option maxRecDepth 100000
set_option maxHeartbeats 0
/-! The head: facts by names, the run. -/
namespace TW
open PySem L2 PyProof.Rows
abbrev dd (x : Str) (st : Stmt) : He.DefD := ⟨(x, none), x, x, defArgs st, defBody st, defScope st, [], []⟩
abbrev dm (m q : Str) (st : Stmt) : He.DefD := ⟨("Walker", some m), m, q, defArgs st, defBody st, defScope st, [], []⟩
def fnA : List He.DefD := [dd "names_of" sNamesOf, dd "worth_in" sWorthIn, dd "holds_in" sHoldsIn, dd "need_worths" sNeedWorths, dd "known_by" sKnownBy, dd "step_from" sStepFrom, dd "first_worths" sFirstWorths, dd "every_input" sEveryInput, dd "sizes_of" sSizesOf, dd "need_pair" sNeedPair, dd "boxes_between" sBoxesBetween, dd "names_known" sNamesKnown, dd "side_by_side" sSideBySide, dd "between_worth" sBetweenWorth, dd "between_holds" sBetweenHolds, dd "need_between" sNeedBetween, dd "holds_between" sHoldsBetween, dd "every_worths" sEveryWorths, dd "is_entry" sIsEntry, dd "by_places" sByPlaces, dd "every_place" sEveryPlace, dd "paper_shows" sPaperShows]
def fnB : List He.DefD := [dd "entry_worths" sEntryWorths, dd "_law_cell_at" sLawCellAt, dd "_law_numbers" sLawNumbers, dd "_law_sum" sLawSum, dd "_law_condition" sLawCondition, dd "_law_node" sLawNode, dd "_law_boxes" sLawBoxes, dd "_law_program" sLawProgram, dd "_law_renamed" sLawRenamed, dd "_law_node_as" sLawNodeAs, dd "_law_made_over" sLawMadeOver, dd "_law_skip" sLawSkip, dd "_law_all_same" sLawAllSame, dd "_law_good_paper" sLawGoodPaper, dd "_law_spoilt" sLawSpoilt, dd "_law_boxes_of" sLawBoxesOf, dd "_law_worths" sLawWorths, dd "_law_placed" sLawPlaced, dd "_law_any" sLawAny, dd "_law_resized" sLawResized, dd "law" sLaw]
def fnC : List He.DefD := [dm "__init__" "Walker.__init__" sWalkerInit, dm "counting" "Walker.counting" sWalkerCounting, dm "wait_at" "Walker.wait_at" sWalkerWaitAt, dm "behind" "Walker.behind" sWalkerBehind, dm "is_well" "Walker.is_well" sWalkerIsWell]
def fns : List He.DefD := fnA ++ fnB ++ fnC
def faA : List He.Fa := [.glo "names_of", .glo "worth_in", .glo "holds_in", .glo "need_worths", .glo "known_by", .glo "step_from", .glo "first_worths", .glo "every_input", .glo "sizes_of", .glo "need_pair", .glo "boxes_between", .glo "names_known", .glo "side_by_side", .glo "between_worth", .glo "between_holds", .glo "need_between", .glo "holds_between", .glo "every_worths", .glo "is_entry", .glo "by_places", .glo "every_place", .glo "paper_shows"]
def faB : List He.Fa := [.glo "entry_worths", .glo "_law_cell_at", .glo "_law_numbers", .glo "_law_sum", .glo "_law_condition", .glo "_law_node", .glo "_law_boxes", .glo "_law_program", .glo "_law_renamed", .glo "_law_node_as", .glo "_law_made_over", .glo "_law_skip", .glo "_law_all_same", .glo "_law_good_paper", .glo "_law_spoilt", .glo "_law_boxes_of", .glo "_law_worths", .glo "_law_placed", .glo "_law_any", .glo "_law_resized", .glo "law"]
def faC : List He.Fa := [.meth "Walker" "counting", .meth "Walker" "wait_at", .meth "Walker" "behind", .meth "Walker" "is_well", .mkr "Walker", .cls "Walker", .glo "Walker", .glo "WHO"]
def faD : List He.Fa := [.noat "Walker" "mine_program", .noat "Walker" "yours_program", .noat "Walker" "entries", .noat "Walker" "numbers_there", .free "len", .free "range", .free "zip", .free "dict", .free "int", .free "list", .free "tuple", .free "isinstance", .free "all", .free "any", .free "sorted", .free "set", .free "max"]
def fas : List He.Fa := faA ++ faB ++ faC ++ faD
def whoD : List He.Dv := [.str "mine", .str "yours", .str "both", .str "end"]
abbrev ObW : Type := Bool × He.AlD
def obsW (K : PySem.W.Frag) : ObW := (He.tupB K "WHO" whoD, He.obsD fas fns K)
def obsWG (g : Addr → Option Obj) : ObW := obsW (He.frG g (He.asD g 5))
def hkW : PySem.W.Hook where
  α := ObW
  obs := fun s => obsWG s.heap.get?
  val := fun _ => (true, He.valD fns)
  says := fun _ h => ∃ K : PySem.W.Frag, K.In h ∧ obsW K = (true, He.valD fns)
  of := fun _ _ e => ⟨_, He.frG_in, e⟩
  keeps := fun _ _ _ ⟨K, hK, c⟩ k => ⟨K, PySem.W.Frag.In.keeps hK k, c⟩
def obW (s : PySem.W.SharedT) : ObW := obsWG (HandSHeadRun.getT s)
theorem obW_eq (s : PySem.W.SharedT) : obW s = hkW.obs s.abs := by
  have e : HandSHeadRun.getT s = s.abs.heap.get? := funext fun a => HandSHeadRun.getT_eq s a
  show obsWG (HandSHeadRun.getT s) = obsWG s.abs.heap.get?
  rw [e]
abbrev Rw : PySem.W.OpenRow := PySem.W.OpenLaw.row PySem.Challenge.rw_twinwalk_k23_whole_entries_that_count
def looseA : List Str := ["__name__", "TwinError", "NoProgram", "NoWorths", "NoPair", "names_of", "worth_in", "holds_in", "need_worths", "known_by", "step_from", "first_worths", "every_input", "sizes_of", "need_pair", "boxes_between", "names_known", "side_by_side", "between_worth", "between_holds", "need_between", "holds_between", "WHO", "every_worths", "is_entry"]
def looseB : List Str := ["by_places", "Walker", "every_place", "paper_shows", "entry_worths", "_law_cell_at", "_law_numbers", "_law_sum", "_law_condition", "_law_node", "_law_boxes", "_law_program", "_law_renamed", "_law_node_as", "_law_made_over", "_law_skip", "_law_all_same", "_law_good_paper", "_law_spoilt", "_law_boxes_of", "_law_worths", "_law_placed", "_law_any", "_law_resized"]
def looseN : List Str := looseA ++ looseB
theorem runW (w : World) : HandSHeadRun.RunEq Rw (PySem.W.view Rw.prog [54]) hkW obW 4000 looseN w := by
  intro os
  kernel_rfl
end TW
set_option Elab.async false
set_option linter.all false
set_option maxRecDepth 100000
set_option maxHeartbeats 4000000
/-! All defs keep their promises. -/
namespace TW
open PySem L2 PyProof.Rows
theorem fun_ofD {K : PySem.W.Frag} {x qual : Str} {st : Stmt} {f : Addr} {fd : FuncData} (F : FunD K x qual (defArgs st) (defBody st) (defScope st) [] [] f fd) : Fun K x qual st f fd := by
  obtain ⟨oc, od, dV, kV, doc, pm, an, cdv, ct, osl, rfl, lk, hcd, hD, _⟩ := F.ex
  rcases hD with ⟨_, rfl⟩ | ⟨e, _⟩
  · exact ⟨⟨oc, od, kV, doc, pm, an, cdv, ct, osl, rfl, lk, hcd⟩, F.kp⟩
  · exact absurd rfl e
section
variable {Pg : Program} {w : World} {K : PySem.W.Frag} {mg : Str → Option Value} {base h : Heap} {C : Addr}
theorem mkDf {k : Nat} {x : Str} {st : Stmt} {ps : List Str} {Wf : List D → (D → Prop) → Prop} (X : K.In h) (G : h.Ns mainGlobals mg) (s : He.SaysD fas fns K) (i : Nat) (hf : fas[i]? = some (.glo x)) (hd : fns[i]? = some (dd x st))
    (hb : ∀ {f : Addr} {fd : FuncData}, Fun K x x st f fd → Binds K fd ps []) (ok : ∀ {f : Addr} {fd : FuncData}, Fun K x x st f fd → mg x = some (.ref f) → Binds K fd ps [] → FnOk Pg w K mg base CX0 k f fd ps (spD K C Wf)) : Df Pg w K mg base C k x ps Wf := by
  obtain ⟨fd, F0⟩ := s.def_ i hd
  have hm := He.glo_ok X G (s.fact i hf)
  have F : Fun K x x st (He.ga K x) fd := fun_ofD F0
  exact ⟨⟨_, fd, hm, F.kp, hb F, ok F hm (hb F)⟩⟩
theorem mkDm {k : Nat} {x q : Str} {st : Stmt} {ps : List Str} {Wf : List D → (D → Prop) → Prop} (s : He.SaysD fas fns K) (i j : Nat) (hf : fas[i]? = some (.meth "Walker" x)) (hd : fns[j]? = some (dm x q st))
    (hb : ∀ {f : Addr} {fd : FuncData}, Fun K x q st f fd → Binds K fd ps []) (ok : ∀ {f : Addr} {fd : FuncData}, Fun K x q st f fd → FnOk Pg w K mg base CX0 k f fd ps (spD K (He.ga K "Walker") Wf)) : DfM Pg w K mg base (He.ga K "Walker") k x ps Wf := by
  obtain ⟨fd, F0⟩ := s.def_ j hd
  have F : Fun K x q st (He.ma K (He.ga K "Walker") x) fd := fun_ofD F0
  exact ⟨⟨_, fd, He.meth_ok (s.fact i hf), hb F, ok F⟩⟩
theorem all_ok {f : Addr} (X : K.In h) (G : h.Ns mainGlobals mg) (hfa : mg ("law" : Str) = some (.ref f)) (c : obsW K = (true, He.valD fns)) :
    ∃ fd : FuncData, (∀ (s : Shared) (v : Value), BindsTo s fd ⟨[v], []⟩ [("script", v)]) ∧ ∀ base : Heap, FnOk Pg w K mg base CX0 18 f fd ["script"] (spD K (He.ga K "Walker") wfLaw) := by
  have s : He.SaysD fas fns K := congrArg (fun z : ObW => z.2) c
  have tw : He.tupB K "WHO" whoD = true := congrArg (fun z : ObW => z.1) c
  have T : Wk K (He.ga K "Walker") := ⟨He.cls_ok (s.fact 48 rfl), He.noat_ok (s.fact 51 rfl), He.noat_ok (s.fact 52 rfl), He.noat_ok (s.fact 53 rfl), He.noat_ok (s.fact 54 rfl)⟩
  have W0 : WhoOk K mg := ⟨⟨_, He.glo_ok X G (s.fact 50 rfl), fun H => He.tupB_ok tw H⟩⟩
  have B : Bl mg := ⟨He.free_ok X G (s.fact 55 rfl), He.free_ok X G (s.fact 56 rfl), He.free_ok X G (s.fact 57 rfl), He.free_ok X G (s.fact 58 rfl), He.free_ok X G (s.fact 59 rfl), He.free_ok X G (s.fact 60 rfl), He.free_ok X G (s.fact 61 rfl), He.free_ok X G (s.fact 62 rfl), He.free_ok X G (s.fact 63 rfl), He.free_ok X G (s.fact 64 rfl), He.free_ok X G (s.fact 65 rfl), He.free_ok X G (s.fact 66 rfl), He.free_ok X G (s.fact 67 rfl)⟩
  obtain ⟨fd, F0⟩ := s.def_ 42 (d := dd "law" sLaw) rfl
  have e := hfa.symm.trans (He.glo_ok X G (s.fact 42 (f := .glo "law") rfl))
  cases e
  have bA := FunD.bindsA (ps := ["script"]) F0 fun _ _ _ _ _ _ us hl => match us, hl with | [_], _ => rfl
  have F : Fun K "law" "law" sLaw (He.ga K "law") fd := fun_ofD F0
  refine ⟨fd, fun s v => bA s [v] rfl, fun base => ?_⟩
  have G_names_of : Df Pg w K mg base (He.ga K "Walker") 1 "names_of" ["program"] wfNames := mkDf X G s 0 rfl rfl (fun F => F.binds (ps := ["program"]) fun _ _ _ _ _ _ us hl => match us, hl with | [_], _ => rfl) fun F _ _ => ok_names F
  have G_worth_in : ∀ n, Df Pg w K mg base (He.ga K "Walker") (n + 1) "worth_in" ["known", "told"] (wfWorth n) := fun n => mkDf X G s 1 rfl rfl (fun F => F.binds (ps := ["known", "told"]) fun _ _ _ _ _ _ us hl => match us, hl with | [_, _], _ => rfl) fun F m b => ok_worth F m b n
  have G_holds_in : ∀ n, Df Pg w K mg base (He.ga K "Walker") (n + 2) "holds_in" ["known", "condition"] (wfHolds n) := fun n => mkDf X G s 2 rfl rfl (fun F => F.binds (ps := ["known", "condition"]) fun _ _ _ _ _ _ us hl => match us, hl with | [_, _], _ => rfl) fun F m b => ok_holds G_worth_in F m b n
  have G_need_worths : Df Pg w K mg base (He.ga K "Walker") 1 "need_worths" ["program", "worths"] wfNeedW := mkDf X G s 3 rfl rfl (fun F => F.binds (ps := ["program", "worths"]) fun _ _ _ _ _ _ us hl => match us, hl with | [_, _], _ => rfl) fun F _ _ => ok_needw B F
  have G_known_by : Df Pg w K mg base (He.ga K "Walker") 2 "known_by" ["program", "worths"] wfKnown := mkDf X G s 4 rfl rfl (fun F => F.binds (ps := ["program", "worths"]) fun _ _ _ _ _ _ us hl => match us, hl with | [_, _], _ => rfl) fun F _ _ => ok_known B G_names_of F
  have G_sizes_of : Df Pg w K mg base (He.ga K "Walker") 1 "sizes_of" ["program"] wfSizes := mkDf X G s 8 rfl rfl (fun F => F.binds (ps := ["program"]) fun _ _ _ _ _ _ us hl => match us, hl with | [_], _ => rfl) fun F _ _ => ok_sizes B F
  have G_step_from : Df Pg w K mg base (He.ga K "Walker") 11 "step_from" ["program", "place", "worths"] wfStep := mkDf X G s 5 rfl rfl (fun F => F.binds (ps := ["program", "place", "worths"]) fun _ _ _ _ _ _ us hl => match us, hl with | [_, _, _], _ => rfl) fun F _ _ => ok_step B G_names_of G_need_worths G_known_by (G_worth_in 8) (G_holds_in 8) F
  have G_first_worths : Df Pg w K mg base (He.ga K "Walker") 2 "first_worths" ["program", "inputs"] wfFirst := mkDf X G s 6 rfl rfl (fun F => F.binds (ps := ["program", "inputs"]) fun _ _ _ _ _ _ us hl => match us, hl with | [_, _], _ => rfl) fun F _ _ => ok_first B G_names_of F
  have G_every_worths : Df Pg w K mg base (He.ga K "Walker") 1 "every_worths" ["program"] wfEvery := mkDf X G s 17 rfl rfl (fun F => F.binds (ps := ["program"]) fun _ _ _ _ _ _ us hl => match us, hl with | [_], _ => rfl) fun F _ _ => ok_every B F
  have G_need_pair : Df Pg w K mg base (He.ga K "Walker") 2 "need_pair" ["one", "other"] wfPair := mkDf X G s 9 rfl rfl (fun F => F.binds (ps := ["one", "other"]) fun _ _ _ _ _ _ us hl => match us, hl with | [_, _], _ => rfl) fun F _ _ => ok_pair B G_sizes_of F
  have G_boxes_between : ∀ n, Df Pg w K mg base (He.ga K "Walker") (n + 1) "boxes_between" ["thing"] (wfBtw n) := fun n => mkDf X G s 10 rfl rfl (fun F => F.binds (ps := ["thing"]) fun _ _ _ _ _ _ us hl => match us, hl with | [_], _ => rfl) fun F m b => ok_btw F m b n
  have G_names_known : Df Pg w K mg base (He.ga K "Walker") 14 "names_known" ["one", "other", "thing"] wfKnownN := mkDf X G s 11 rfl rfl (fun F => F.binds (ps := ["one", "other", "thing"]) fun _ _ _ _ _ _ us hl => match us, hl with | [_, _, _], _ => rfl) fun F _ _ => ok_namesknown B (G_boxes_between 12) F
  have G_side_by_side : Df Pg w K mg base (He.ga K "Walker") 1 "side_by_side" ["one", "other", "mine", "yours"] wfSide := mkDf X G s 12 rfl rfl (fun F => F.binds (ps := ["one", "other", "mine", "yours"]) fun _ _ _ _ _ _ us hl => match us, hl with | [_, _, _, _], _ => rfl) fun F _ _ => ok_side B F
  have G_between_worth : ∀ n, Df Pg w K mg base (He.ga K "Walker") (n + 1) "between_worth" ["thing", "boxes"] (wfBWorth n) := fun n => mkDf X G s 13 rfl rfl (fun F => F.binds (ps := ["thing", "boxes"]) fun _ _ _ _ _ _ us hl => match us, hl with | [_, _], _ => rfl) fun F m b => ok_bworth F m b n
  have G_between_holds : ∀ n, Df Pg w K mg base (He.ga K "Walker") (n + 2) "between_holds" ["thing", "boxes"] (wfBHolds n) := fun n => mkDf X G s 14 rfl rfl (fun F => F.binds (ps := ["thing", "boxes"]) fun _ _ _ _ _ _ us hl => match us, hl with | [_, _], _ => rfl) fun F m b => ok_bholds G_between_worth F m b n
  have G_need_between : Df Pg w K mg base (He.ga K "Walker") 15 "need_between" ["one", "other", "mine", "yours", "thing"] wfNeedB := mkDf X G s 15 rfl rfl (fun F => F.binds (ps := ["one", "other", "mine", "yours", "thing"]) fun _ _ _ _ _ _ us hl => match us, hl with | [_, _, _, _, _], _ => rfl) fun F _ _ => ok_needb G_need_pair G_need_worths G_names_known F
  have G_holds_between : Df Pg w K mg base (He.ga K "Walker") 16 "holds_between" ["one", "other", "mine", "yours", "condition"] wfHoldsB := mkDf X G s 16 rfl rfl (fun F => F.binds (ps := ["one", "other", "mine", "yours", "condition"]) fun _ _ _ _ _ _ us hl => match us, hl with | [_, _, _, _, _], _ => rfl) fun F _ _ => ok_holdsb G_need_between G_side_by_side (G_between_holds 12) F
  have G_by_places : Df Pg w K mg base (He.ga K "Walker") 1 "by_places" ["paper"] wfBy := mkDf X G s 19 rfl rfl (fun F => F.binds (ps := ["paper"]) fun _ _ _ _ _ _ us hl => match us, hl with | [_], _ => rfl) fun F _ _ => ok_byplaces B F
  have G_counting : DfM Pg w K mg base (He.ga K "Walker") 15 "counting" ["self", "place"] wfCount := mkDm s 43 44 rfl rfl (fun F => F.binds (ps := ["self", "place"]) fun _ _ _ _ _ _ us hl => match us, hl with | [_, _], _ => rfl) fun F => ok_count B T G_side_by_side (G_between_holds 12) F
  have G_wait_at : DfM Pg w K mg base (He.ga K "Walker") 14 "wait_at" ["self", "number", "place"] wfWait := mkDm s 44 45 rfl rfl (fun F => F.binds (ps := ["self", "number", "place"]) fun _ _ _ _ _ _ us hl => match us, hl with | [_, _, _], _ => rfl) fun F => ok_wait B T G_side_by_side (G_between_worth 12) F
  have G_behind : DfM Pg w K mg base (He.ga K "Walker") 12 "behind" ["self", "who", "place"] wfBehind := mkDm s 45 46 rfl rfl (fun F => F.binds (ps := ["self", "who", "place"]) fun _ _ _ _ _ _ us hl => match us, hl with | [_, _, _], _ => rfl) fun F => ok_behind T G_step_from F
  have G_is_well : DfM Pg w K mg base (He.ga K "Walker") 16 "is_well" ["self", "number", "place"] wfWell := mkDm s 46 47 rfl rfl (fun F => F.binds (ps := ["self", "number", "place"]) fun _ _ _ _ _ _ us hl => match us, hl with | [_, _, _], _ => rfl) fun F => ok_well T G_wait_at G_behind G_counting F
  have M : MkW Pg w K mg base (He.ga K "Walker") := by
    obtain ⟨fd, F0⟩ := s.def_ 43 (d := dm "__init__" "Walker.__init__" sWalkerInit) rfl
    have F : Fun K "__init__" "Walker.__init__" sWalkerInit (He.ma K (He.ga K "Walker") "__init__") fd := fun_ofD F0
    exact ⟨⟨_, fd, He.mkr_ok (s.fact 47 rfl), He.glo_ok X G (s.fact 49 rfl), F.binds (ps := ["self", "one", "other", "paper"]) fun _ _ _ _ _ _ us hl => match us, hl with | [_, _, _, _], _ => rfl, ok_init T G_by_places F⟩⟩
  have G_is_entry : Df Pg w K mg base (He.ga K "Walker") 15 "is_entry" ["one", "other", "entry"] wfEntry := mkDf X G s 18 rfl rfl (fun F => F.binds (ps := ["one", "other", "entry"]) fun _ _ _ _ _ _ us hl => match us, hl with | [_, _, _], _ => rfl) fun F _ _ => ok_entry B W0 G_names_known F
  have G_every_input : Df Pg w K mg base (He.ga K "Walker") 1 "every_input" ["program"] wfInput := mkDf X G s 7 rfl rfl (fun F => F.binds (ps := ["program"]) fun _ _ _ _ _ _ us hl => match us, hl with | [_], _ => rfl) fun F _ _ => ok_input B F
  have G_every_place : Df Pg w K mg base (He.ga K "Walker") 2 "every_place" ["one", "other", "paper"] wfPlaces := mkDf X G s 20 rfl rfl (fun F => F.binds (ps := ["one", "other", "paper"]) fun _ _ _ _ _ _ us hl => match us, hl with | [_, _, _], _ => rfl) fun F _ _ => ok_places B G_by_places G_every_worths F
  have G_paper_shows : Df Pg w K mg base (He.ga K "Walker") 17 "paper_shows" ["one", "other", "paper"] wfShows := mkDf X G s 21 rfl rfl (fun F => F.binds (ps := ["one", "other", "paper"]) fun _ _ _ _ _ _ us hl => match us, hl with | [_, _, _], _ => rfl) fun F _ _ => ok_shows B T M G_need_pair G_is_entry G_every_input G_first_worths G_every_place G_counting G_is_well F
  have G_entry_worths : Df Pg w K mg base (He.ga K "Walker") 16 "entry_worths" ["one", "other", "paper", "number"] wfEntW := mkDf X G s 22 rfl rfl (fun F => F.binds (ps := ["one", "other", "paper", "number"]) fun _ _ _ _ _ _ us hl => match us, hl with | [_, _, _, _], _ => rfl) fun F _ _ => ok_entw B T M G_need_pair G_every_worths G_counting F
  have G__law_cell_at : Df Pg w K mg base (He.ga K "Walker") 1 "_law_cell_at" ["script", "k"] wfCell := mkDf X G s 23 rfl rfl (fun F => F.binds (ps := ["script", "k"]) fun _ _ _ _ _ _ us hl => match us, hl with | [_, _], _ => rfl) fun F _ _ => ok_cell B F
  have G__law_numbers : Df Pg w K mg base (He.ga K "Walker") 1 "_law_numbers" ["cell", "many", "base"] wfNums := mkDf X G s 24 rfl rfl (fun F => F.binds (ps := ["cell", "many", "base"]) fun _ _ _ _ _ _ us hl => match us, hl with | [_, _, _], _ => rfl) fun F _ _ => ok_nums B F
  have G__law_sum : Df Pg w K mg base (He.ga K "Walker") 1 "_law_sum" ["row", "names"] wfSum := mkDf X G s 25 rfl rfl (fun F => F.binds (ps := ["row", "names"]) fun _ _ _ _ _ _ us hl => match us, hl with | [_, _], _ => rfl) fun F _ _ => ok_sum B F
  have G__law_condition : Df Pg w K mg base (He.ga K "Walker") 2 "_law_condition" ["row", "names"] wfCond := mkDf X G s 26 rfl rfl (fun F => F.binds (ps := ["row", "names"]) fun _ _ _ _ _ _ us hl => match us, hl with | [_, _], _ => rfl) fun F _ _ => ok_cond G__law_sum F
  have G__law_node : Df Pg w K mg base (He.ga K "Walker") 3 "_law_node" ["row", "names", "many"] wfNode := mkDf X G s 27 rfl rfl (fun F => F.binds (ps := ["row", "names", "many"]) fun _ _ _ _ _ _ us hl => match us, hl with | [_, _, _], _ => rfl) fun F _ _ => ok_node B G__law_sum G__law_condition F
  have G__law_boxes : Df Pg w K mg base (He.ga K "Walker") 1 "_law_boxes" ["number"] wfBoxes := mkDf X G s 28 rfl rfl (fun F => F.binds (ps := ["number"]) fun _ _ _ _ _ _ us hl => match us, hl with | [_], _ => rfl) fun F _ _ => ok_boxes B F
  have G__law_program : Df Pg w K mg base (He.ga K "Walker") 4 "_law_program" ["script", "most"] wfProg := mkDf X G s 29 rfl rfl (fun F => F.binds (ps := ["script", "most"]) fun _ _ _ _ _ _ us hl => match us, hl with | [_, _], _ => rfl) fun F _ _ => ok_prog B G__law_cell_at G__law_numbers G__law_boxes G__law_node F
  have G__law_renamed : ∀ n, Df Pg w K mg base (He.ga K "Walker") (n + 1) "_law_renamed" ["thing", "called"] (wfRen n) := fun n => mkDf X G s 30 rfl rfl (fun F => F.binds (ps := ["thing", "called"]) fun _ _ _ _ _ _ us hl => match us, hl with | [_, _], _ => rfl) fun F m b => ok_ren B F m b n
  have G__law_node_as : Df Pg w K mg base (He.ga K "Walker") 10 "_law_node_as" ["node", "called", "places"] wfNodeAs := mkDf X G s 31 rfl rfl (fun F => F.binds (ps := ["node", "called", "places"]) fun _ _ _ _ _ _ us hl => match us, hl with | [_, _, _], _ => rfl) fun F _ _ => ok_nodeas (G__law_renamed 8) F
  have G__law_skip : Df Pg w K mg base (He.ga K "Walker") 1 "_law_skip" ["boxes", "called", "number", "after"] wfSkip := mkDf X G s 33 rfl rfl (fun F => F.binds (ps := ["boxes", "called", "number", "after"]) fun _ _ _ _ _ _ us hl => match us, hl with | [_, _, _, _], _ => rfl) fun F _ _ => ok_skip B F
  have G__law_all_same : Df Pg w K mg base (He.ga K "Walker") 1 "_law_all_same" ["boxes", "called"] wfSame := mkDf X G s 34 rfl rfl (fun F => F.binds (ps := ["boxes", "called"]) fun _ _ _ _ _ _ us hl => match us, hl with | [_, _], _ => rfl) fun F _ _ => ok_same F
  have G__law_boxes_of : Df Pg w K mg base (He.ga K "Walker") 1 "_law_boxes_of" ["one", "other"] wfBoxesOf := mkDf X G s 37 rfl rfl (fun F => F.binds (ps := ["one", "other"]) fun _ _ _ _ _ _ us hl => match us, hl with | [_, _], _ => rfl) fun F _ _ => ok_boxesof F
  have G__law_resized : Df Pg w K mg base (He.ga K "Walker") 1 "_law_resized" ["program", "number"] wfResz := mkDf X G s 41 rfl rfl (fun F => F.binds (ps := ["program", "number"]) fun _ _ _ _ _ _ us hl => match us, hl with | [_, _], _ => rfl) fun F _ _ => ok_resz B F
  have G__law_good_paper : Df Pg w K mg base (He.ga K "Walker") 2 "_law_good_paper" ["program", "called", "places", "behind"] wfGood := mkDf X G s 35 rfl rfl (fun F => F.binds (ps := ["program", "called", "places", "behind"]) fun _ _ _ _ _ _ us hl => match us, hl with | [_, _, _, _], _ => rfl) fun F _ _ => ok_good B G__law_all_same F
  have G__law_spoilt : Df Pg w K mg base (He.ga K "Walker") 1 "_law_spoilt" ["paper", "row", "boxes"] wfSpoilt := mkDf X G s 36 rfl rfl (fun F => F.binds (ps := ["paper", "row", "boxes"]) fun _ _ _ _ _ _ us hl => match us, hl with | [_, _, _], _ => rfl) fun F _ _ => ok_spoilt B F
  have G__law_made_over : Df Pg w K mg base (He.ga K "Walker") 11 "_law_made_over" ["program", "row"] wfOver := mkDf X G s 32 rfl rfl (fun F => F.binds (ps := ["program", "row"]) fun _ _ _ _ _ _ us hl => match us, hl with | [_, _], _ => rfl) fun F _ _ => ok_over B G__law_node_as G__law_skip F
  have G__law_worths : Df Pg w K mg base (He.ga K "Walker") 1 "_law_worths" ["program"] wfEvery := mkDf X G s 38 rfl rfl (fun F => F.binds (ps := ["program"]) fun _ _ _ _ _ _ us hl => match us, hl with | [_], _ => rfl) fun F _ _ => ok_lawworths B F
  have G__law_placed : Df Pg w K mg base (He.ga K "Walker") 17 "_law_placed" ["one", "other", "paper", "place"] wfPlaced := mkDf X G s 39 rfl rfl (fun F => F.binds (ps := ["one", "other", "paper", "place"]) fun _ _ _ _ _ _ us hl => match us, hl with | [_, _, _, _], _ => rfl) fun F _ _ => ok_placed B G_entry_worths F
  have G__law_any : Df Pg w K mg base (He.ga K "Walker") 17 "_law_any" ["one", "other", "paper", "place"] wfPlaced := mkDf X G s 40 rfl rfl (fun F => F.binds (ps := ["one", "other", "paper", "place"]) fun _ _ _ _ _ _ us hl => match us, hl with | [_, _, _, _], _ => rfl) fun F _ _ => ok_any B G__law_worths G_holds_between F
  exact ok_law B G_entry_worths G_paper_shows G__law_placed G__law_any G__law_program G__law_cell_at G__law_numbers G__law_made_over G__law_resized G__law_good_paper G__law_boxes_of G__law_spoilt F
end
end TW
set_option Elab.async false
set_option linter.all false
set_option maxRecDepth 100000
set_option maxHeartbeats 0
/-! The law. -/
namespace TW
open PySem L2 PyProof.Rows
theorem bl_true {K : PySem.W.Frag} {C : Addr} {H : Hp} {v : V} {d : D} (h : Dv K C H v d) (e : d = .bl true) : v = .bl true := by
  subst e
  cases h
  rfl
theorem da_ints {K : PySem.W.Frag} {C : Addr} (H : Hp) : ∀ ns : List Int, Da K C H (ns.map V.int) (ns.map D.int)
  | [] => .nil
  | n :: ns => .cons (.int n) (da_ints H ns)
theorem sp_law {K : PySem.W.Frag} {C : Addr} {H : Hp} {a : Addr} {ns : List Int} (hS : SqL K H a (ns.map V.int)) : spD K C wfLaw [.ref a] H (fun v _ => v = .bl true) fun _ _ _ => False :=
  ⟨H, [.ro (ns.map D.int)], fun d => d = .bl true, Same.refl _, .cons (.ro hS (da_ints H ns)) .nil, ⟨ns, rfl, rfl⟩, fun _ _ _ _ _ _ hv p => bl_true hv p⟩
end TW
open PySem PySem.W PySem.Calls PyProof.Rows
theorem PySem.Challenge.cw_twinwalk_k23_whole_entries_that_count_holds : PySem.Challenge.rw_twinwalk_k23_whole_entries_that_count.Holds := by
  w_on; o_law
  refine HandSHeadRun.head_any (r := OpenLaw.row PySem.Challenge.rw_twinwalk_k23_whole_entries_that_count) (q := view (OpenLaw.row PySem.Challenge.rw_twinwalk_k23_whole_entries_that_count).prog [54]) (H := TW.hkW) (ob := TW.obW) (M := 4000) (loose := TW.looseN) (d := HandSHeadRun.topDef (OpenLaw.row PySem.Challenge.rw_twinwalk_k23_whole_entries_that_count).prog 54) (kwd := []) TW.obW_eq
    (by kernel_rfl) (fun s => by kernel_rfl) TW.runW (by kernel_rfl) (by kernel_rfl) (by kernel_rfl) (by rfl) (by first | assumption | decide +kernel) (by decide +kernel) ⟨rfl, rfl, rfl, rfl, rfl, by decide +kernel⟩ ?hw ?hc
  case hw => w_witness2
  case hc =>
    refine L2.walk_ofE (l := PySem.Challenge.rw_twinwalk_k23_whole_entries_that_count) (n := 63) (k := 18) (x := "script") (CX := L2.CX0) rfl (by decide) (by kernel_rfl) ⟨rfl, by decide, by decide⟩ ?F (fun _ _ _ _ z => z)
    intro w mg fa h Y G hmg0
    obtain ⟨K, KX, c⟩ := Y
    have hmg : mg ("law" : PySem.Str) = some (.ref fa) := by
      have e : (HandSHeadRun.topDef (OpenLaw.row PySem.Challenge.rw_twinwalk_k23_whole_entries_that_count).prog 54).name = ("law" : PySem.Str) := by kernel_rfl
      rw [← e]
      exact hmg0
    obtain ⟨fd, hb, hF⟩ := TW.all_ok (Pg := (PySem.Challenge.rw_twinwalk_k23_whole_entries_that_count).prog) (w := w) KX G hmg c
    exact ⟨K, fd, _, KX, hb, fun H a ns hl _ hS => TW.sp_law hS, fun base _ _ => hF base⟩
#print axioms PySem.Challenge.cw_twinwalk_k23_whole_entries_that_count_holds
