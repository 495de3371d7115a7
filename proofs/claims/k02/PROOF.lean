import PyProof.Rows.All
import Wide.All
import OpenK.AllK
import Wide.FinOn
import HandS.ForMost
import HandS.ForExc
import HandS.Wide
import HandS.TupAny
import HandS.TupMul
import HandS.Deep
import HandS.Style
import HandS.IsInst
import KE.SortData
import HandS.WordsDict
import HandS.TupLen
import HandS.Strs
import HandS.ListItems
import HandS.More
import HandS.Conv
import HandS.RaiseMore
import HandS.Zip
import KE.GoesEnum
import HandS.ExcOwn
import PyProof.ExcBaseAll.ValueError
import KE.KUnpackStar
import PyProof.ReprReads
import KE.KEqDict
import PyProof.ReprRoads
import HandS.ExcIs
import PySem.Challenge.RW_treelaws_k02_trees_and_paths
set_option Elab.async false
set_option linter.all false
set_option maxRecDepth 100000
set_option maxHeartbeats 4000000
/-! The pure layer: data, what stands for data, growth of the heap. -/
namespace PL
open PySem L2 PyProof.Rows

inductive D where
  | non | bl (b : Bool) | int (i : Int) | str (x : Str)
  | tup (ds : List D) | lst (ds : List D)
  | dic (kvs : List (Key × D)) | dit (kvs : List (List Key × D))
  | ins (c : Str) (fs : List (Str × D))
  | slst (ds : List D)
  | cst (v : V)
  | opq
  deriving Inhabited

structure RE where
  K : PySem.W.Frag
  ct : Str → Addr

def Dk : HO → Prop
  | .dK _ => True
  | .dT _ => True
  | _ => False
def LeO (o o' : HO) : Prop := o' = o ∨ ∃ u, Dk u ∧ (o = u ∨ ∃ ob, o = .frz ob u) ∧ (o' = u ∨ ∃ ob, o' = .frz ob u)
def Le (F G : Hp) : Prop := ∀ a o, F a = some o → ∃ o', G a = some o' ∧ LeO o o'

theorem Dk.inj {u u' : HO} {o : HO} (d : Dk u) (d' : Dk u') (h : o = u ∨ ∃ ob, o = .frz ob u) (h' : o = u' ∨ ∃ ob, o = .frz ob u') : u = u' := by
  rcases h with rfl | ⟨ob, rfl⟩
  · rcases h' with h' | ⟨ob, rfl⟩
    · exact h'
    · cases d
  · rcases h' with rfl | ⟨ob', h'⟩
    · cases d'
    · cases h'; rfl
theorem LeO.refl (o : HO) : LeO o o := .inl rfl
theorem LeO.trans {a b c : HO} (h : LeO a b) (g : LeO b c) : LeO a c := by
  rcases h with rfl | ⟨u, d, h1, h2⟩
  · exact g
  · rcases g with rfl | ⟨u', d', g1, g2⟩
    · exact .inr ⟨u, d, h1, h2⟩
    · have e := Dk.inj d d' h2 g1
      subst e
      exact .inr ⟨u, d, h1, g2⟩
theorem Le.refl (F : Hp) : Le F F := fun a o h => ⟨o, h, .refl o⟩
theorem Le.trans {F G H : Hp} (h : Le F G) (g : Le G H) : Le F H := fun a o e => by
  obtain ⟨o1, e1, l1⟩ := h a o e
  obtain ⟨o2, e2, l2⟩ := g a o1 e1
  exact ⟨o2, e2, l1.trans l2⟩
theorem Le.sm {F G : Hp} {a : Addr} (h : Le F G) (n : F a ≠ none) : G a ≠ none := by
  cases e : F a with
  | none => exact absurd e n
  | some o =>
    obtain ⟨o', e', _⟩ := h a o e
    rw [e']; simp
theorem Le.nn {F G : Hp} {a : Addr} (h : Le F G) (n : G a = none) : F a = none := by
  cases e : F a with
  | none => rfl
  | some o =>
    obtain ⟨o', e', _⟩ := h a o e
    rw [n] at e'; cases e'
theorem Le.lst {F G : Hp} {a : Addr} {xs : List V} (h : Le F G) (e : Rd F a (.lst xs)) : Rd G a (.lst xs) := by
  rcases e with e | ⟨ob, e⟩
  · obtain ⟨o', e', l⟩ := h a _ e
    rcases l with rfl | ⟨u, d, h1, h2⟩
    · exact .inl e'
    · rcases h1 with h1 | ⟨ob, h1⟩
      · subst h1; cases d
      · cases h1
  · obtain ⟨o', e', l⟩ := h a _ e
    rcases l with rfl | ⟨u, d, h1, h2⟩
    · exact .inr ⟨_, e'⟩
    · rcases h1 with h1 | ⟨ob, h1⟩
      · subst h1; cases d
      · cases h1; cases d
theorem Le.tup {F G : Hp} {a : Addr} {xs : List V} (h : Le F G) (e : Rd F a (.tup xs)) : Rd G a (.tup xs) := by
  rcases e with e | ⟨ob, e⟩
  · obtain ⟨o', e', l⟩ := h a _ e
    rcases l with rfl | ⟨u, d, h1, h2⟩
    · exact .inl e'
    · rcases h1 with h1 | ⟨ob, h1⟩
      · subst h1; cases d
      · cases h1
  · obtain ⟨o', e', l⟩ := h a _ e
    rcases l with rfl | ⟨u, d, h1, h2⟩
    · exact .inr ⟨_, e'⟩
    · rcases h1 with h1 | ⟨ob, h1⟩
      · subst h1; cases d
      · cases h1; cases d
theorem Le.dic {F G : Hp} {a : Addr} {u : HO} (h : Le F G) (d : Dk u) (e : Rd F a u) : Rd G a u := by
  have key : ∀ o, F a = .some o → (o = u ∨ ∃ ob, o = .frz ob u) → Rd G a u := fun o e' w => by
    obtain ⟨o', e2, l⟩ := h a _ e'
    rcases l with rfl | ⟨u', d', h1, h2⟩
    · rcases w with rfl | ⟨ob, rfl⟩
      · exact .inl e2
      · exact .inr ⟨_, e2⟩
    · have q := Dk.inj d' d h1 w
      subst q
      rcases h2 with rfl | ⟨ob, rfl⟩
      · exact .inl e2
      · exact .inr ⟨_, e2⟩
  rcases e with e | ⟨ob, e⟩
  · exact key _ e (.inl rfl)
  · exact key _ e (.inr ⟨_, rfl⟩)
theorem Le.ins {F G : Hp} {a C dx : Addr} {xs : List (Str × V)} (h : Le F G) (e : F a = .some (.ins C dx xs)) : G a = .some (.ins C dx xs) := by
  obtain ⟨o', e', l⟩ := h a _ e
  rcases l with rfl | ⟨u, d, h1, h2⟩
  · exact e'
  · rcases h1 with h1 | ⟨ob, h1⟩
    · subst h1; cases d
    · cases h1
theorem Le.ex {F G : Hp} {a : Addr} {o : HO} (h : Le F G) (e : F a = .some o) (n : ∀ u, Dk u → o ≠ u ∧ ∀ ob, o ≠ .frz ob u) : G a = .some o := by
  obtain ⟨o', e', l⟩ := h a _ e
  rcases l with rfl | ⟨u, d, h1, h2⟩
  · exact e'
  · rcases h1 with h1 | ⟨ob, h1⟩
    · exact absurd h1 (n u d).1
    · exact absurd h1 ((n u d).2 ob)
theorem Le.lstE {F G : Hp} {a : Addr} {xs : List V} (h : Le F G) (e : F a = .some (.lst xs)) : G a = .some (.lst xs) := h.ex e fun u d => ⟨(fun z => by rw [← z] at d; exact d), (fun _ z => by cases z)⟩
theorem Le.tupE {F G : Hp} {a : Addr} {xs : List V} (h : Le F G) (e : F a = .some (.tup xs)) : G a = .some (.tup xs) := h.ex e fun u d => ⟨(fun z => by rw [← z] at d; exact d), (fun _ z => by cases z)⟩
theorem Le.sqL {K : PySem.W.Frag} {F G : Hp} {a : Addr} {xs : List V} (h : Le F G) (e : SqL K F a xs) : SqL K G a xs := e.elim (fun e => .inl (h.lst e)) .inr
theorem Le.sqT {K : PySem.W.Frag} {F G : Hp} {a : Addr} {xs : List V} (h : Le F G) (e : SqT K F a xs) : SqT K G a xs := e.elim (fun e => .inl (h.tup e)) .inr
theorem Le.upd {F : Hp} {a : Addr} {o : HO} (n : F a = none) : Le F (upd F a o) := fun b o' e => ⟨o', by rw [upd_ne (ne_of_none e n)]; exact e, .refl _⟩
theorem Le.upd2 {F H : Hp} {a : Addr} {o : HO} (l : Le F H) : Le (L2.upd F a o) (L2.upd H a o) := fun b o' e => by
  by_cases h : b = a
  · subst h; rw [upd_same] at e; cases e; exact ⟨o, upd_same, .refl _⟩
  · rw [upd_ne h] at e
    obtain ⟨o2, e2, l2⟩ := l b o' e
    exact ⟨o2, by rw [upd_ne h]; exact e2, l2⟩
/-- an object that F does not know may change -/
theorem Le.mut {F H : Hp} {a : Addr} {o : HO} (l : Le F H) (n : F a = none) : Le F (L2.upd H a o) := fun b o' e => by
  obtain ⟨o2, e2, l2⟩ := l b o' e
  exact ⟨o2, by rw [upd_ne (ne_of_none e n)]; exact e2, l2⟩
/-- a freeze of what stands in H -/
theorem Le.frz {F H : Hp} {a : Addr} {o : HO} (l : Le F H) (e : H a = .some o) : Le (L2.upd F a o) H := fun b o' e' => by
  by_cases h : b = a
  · subst h; rw [upd_same] at e'; cases e'; exact ⟨o, e, .refl _⟩
  · rw [upd_ne h] at e'; exact l b o' e'

mutual
inductive Rep (R : RE) (F : Hp) : D → V → Prop
  | non : Rep R F .non .non
  | bl (b : Bool) : Rep R F (.bl b) (.bl b)
  | int (i : Int) : Rep R F (.int i) (.int i)
  | str (x : Str) : Rep R F (.str x) (.str x)
  | tup {a : Addr} {ds : List D} {vs : List V} : F a = some (.tup vs) → RepL R F ds vs → Rep R F (.tup ds) (.ref a)
  | slst {a : Addr} {ds : List D} {vs : List V} : SqL R.K F a vs → RepL R F ds vs → Rep R F (.slst ds) (.ref a)
  | lst {a : Addr} {ds : List D} {vs : List V} : F a = some (.lst vs) → RepL R F ds vs → Rep R F (.lst ds) (.ref a)
  | dic {a : Addr} {kvs : List (Key × D)} {xs : List (Key × V)} : Rd F a (.dK xs) → kvs.map (·.1) = xs.map (·.1) → RepL R F (kvs.map (·.2)) (xs.map (·.2)) → Rep R F (.dic kvs) (.ref a)
  | dit {a : Addr} {kvs : List (List Key × D)} {xs : List (List Key × V)} : Rd F a (.dT xs) → kvs.map (·.1) = xs.map (·.1) → RepL R F (kvs.map (·.2)) (xs.map (·.2)) → Rep R F (.dit kvs) (.ref a)
  | ins {a dx : Addr} {c : Str} {fs : List (Str × D)} {xs : List (Str × V)} : F a = some (.ins (R.ct c) dx xs) → fs.map (·.1) = xs.map (·.1) → RepL R F (fs.map (·.2)) (xs.map (·.2)) → Rep R F (.ins c fs) (.ref a)
  | cst (v : V) : Rep R F (.cst v) v
  | opq {a : Addr} : Rep R F .opq (.ref a)
inductive RepL (R : RE) (F : Hp) : List D → List V → Prop
  | nil : RepL R F [] []
  | cons {d : D} {v : V} {ds : List D} {vs : List V} : Rep R F d v → RepL R F ds vs → RepL R F (d :: ds) (v :: vs)
end

section
variable {R : RE} {F G : Hp}
mutual
theorem Rep.mono (l : Le F G) : ∀ {d : D} {v : V}, Rep R F d v → Rep R G d v
  | _, _, .non => .non
  | _, _, .bl b => .bl b
  | _, _, .int i => .int i
  | _, _, .str x => .str x
  | _, _, .tup h r => .tup (l.tupE h) (RepL.mono l r)
  | _, _, .slst h r => .slst (l.sqL h) (RepL.mono l r)
  | _, _, .lst h r => .lst (l.lstE h) (RepL.mono l r)
  | _, _, .dic h k r => .dic (l.dic trivial h) k (RepL.mono l r)
  | _, _, .dit h k r => .dit (l.dic trivial h) k (RepL.mono l r)
  | _, _, .ins h k r => .ins (l.ins h) k (RepL.mono l r)
  | _, _, .cst v => .cst v
  | _, _, .opq => .opq
theorem RepL.mono (l : Le F G) : ∀ {ds : List D} {vs : List V}, RepL R F ds vs → RepL R G ds vs
  | _, _, .nil => .nil
  | _, _, .cons h r => .cons (Rep.mono l h) (RepL.mono l r)
end
theorem RepL.length : ∀ {ds : List D} {vs : List V}, RepL R F ds vs → ds.length = vs.length
  | _, _, .nil => rfl
  | _, _, .cons _ r => by simp [r.length]
theorem RepL.get : ∀ {ds : List D} {vs : List V} {i : Nat} {d : D}, RepL R F ds vs → ds[i]? = some d → ∃ v, vs[i]? = some v ∧ Rep R F d v
  | _, _, i, d, .nil, h => by simp at h
  | _, _, 0, d, .cons h _, e => by simp at e; subst e; exact ⟨_, rfl, h⟩
  | _, _, i + 1, d, .cons _ r, e => by
    obtain ⟨v, h1, h2⟩ := r.get (i := i) (d := d) (by simpa using e)
    exact ⟨v, by simpa using h1, h2⟩
theorem RepL.getV : ∀ {ds : List D} {vs : List V} {i : Nat} {v : V}, RepL R F ds vs → vs[i]? = some v → ∃ d, ds[i]? = some d ∧ Rep R F d v
  | _, _, i, d, .nil, h => by simp at h
  | _, _, 0, d, .cons h _, e => by simp at e; subst e; exact ⟨_, rfl, h⟩
  | _, _, i + 1, d, .cons _ r, e => by
    obtain ⟨v, h1, h2⟩ := r.getV (i := i) (v := d) (by simpa using e)
    exact ⟨v, by simpa using h1, h2⟩
theorem RepL.append : ∀ {ds ds' : List D} {vs vs' : List V}, RepL R F ds vs → RepL R F ds' vs' → RepL R F (ds ++ ds') (vs ++ vs')
  | _, _, _, _, .nil, s => s
  | _, _, _, _, .cons h r, s => .cons h (r.append s)
theorem RepL.take : ∀ {ds : List D} {vs : List V} (n : Nat), RepL R F ds vs → RepL R F (ds.take n) (vs.take n)
  | _, _, 0, _ => by simpa using .nil
  | _, _, n + 1, .nil => by simpa using .nil
  | _, _, n + 1, .cons h r => .cons h (r.take n)
theorem RepL.drop : ∀ {ds : List D} {vs : List V} (n : Nat), RepL R F ds vs → RepL R F (ds.drop n) (vs.drop n)
  | _, _, 0, r => by simpa using r
  | _, _, n + 1, .nil => by simpa using .nil
  | _, _, n + 1, .cons h r => r.drop n
theorem RepL.set : ∀ {ds : List D} {vs : List V} (n : Nat) {d : D} {v : V}, Rep R F d v → RepL R F ds vs → RepL R F (ds.set n d) (vs.set n v)
  | _, _, _, _, _, _, .nil => by simpa using .nil
  | _, _, 0, _, _, h, .cons _ r => .cons h r
  | _, _, n + 1, _, _, h, .cons g r => .cons g (r.set n h)
theorem RepL.reverse : ∀ {ds : List D} {vs : List V}, RepL R F ds vs → RepL R F ds.reverse vs.reverse
  | _, _, .nil => by simpa using .nil
  | _, _, .cons h r => by simpa using r.reverse.append (.cons h .nil)
theorem RepL.eraseIdx : ∀ {ds : List D} {vs : List V} (n : Nat), RepL R F ds vs → RepL R F (ds.eraseIdx n) (vs.eraseIdx n)
  | _, _, _, .nil => by simpa using .nil
  | _, _, 0, .cons _ r => by simpa using r
  | _, _, n + 1, .cons g r => .cons g (r.eraseIdx n)
end

/-! ### a variable's content -/
inductive LV where
  | un
  | dat (d : D)
  | ml (ds : List D)
  | md (kvs : List (Key × D))
  | mt (kvs : List (List Key × D))
  | mi (c : Str) (fs : List (Str × D))
  deriving Inhabited
def LV.isOwn : LV → Bool
  | .un | .dat _ => false
  | _ => true
inductive LRel (R : RE) (F H : Hp) : LV → V → Prop
  | dat {d : D} {v : V} : Rep R F d v → LRel R F H (.dat d) v
  | ml {a : Addr} {ds : List D} {vs : List V} : F a = none → H a = some (.lst vs) → RepL R F ds vs → LRel R F H (.ml ds) (.ref a)
  | md {a : Addr} {kvs : List (Key × D)} {xs : List (Key × V)} : F a = none → H a = some (.dK xs) → kvs.map (·.1) = xs.map (·.1) → RepL R F (kvs.map (·.2)) (xs.map (·.2)) → LRel R F H (.md kvs) (.ref a)
  | mt {a : Addr} {kvs : List (List Key × D)} {xs : List (List Key × V)} : F a = none → H a = some (.dT xs) → kvs.map (·.1) = xs.map (·.1) → RepL R F (kvs.map (·.2)) (xs.map (·.2)) → LRel R F H (.mt kvs) (.ref a)
  | mi {a dx : Addr} {c : Str} {fs : List (Str × D)} {xs : List (Str × V)} : F a = none → H a = some (.ins (R.ct c) dx xs) → fs.map (·.1) = xs.map (·.1) → RepL R F (fs.map (·.2)) (xs.map (·.2)) → LRel R F H (.mi c fs) (.ref a)
/-- what lv at v owns -/
def Owns (lv : LV) (v : V) (a : Addr) : Prop := lv.isOwn = true ∧ v = .ref a
abbrev LEnv := List LV
def Own (env : LEnv) (σ : L2.St) (a : Addr) : Prop := ∃ (i : Nat) (lv : LV), env[i]? = some lv ∧ lv.isOwn = true ∧ σ[i]? = some (some (V.ref a))
structure ER (R : RE) (F H : Hp) (σ : L2.St) (env : LEnv) : Prop where
  len : σ.length = env.length
  rel : ∀ (i : Nat) (lv : LV), env[i]? = some lv → lv ≠ .un → ∃ v, σ[i]? = some (some v) ∧ LRel R F H lv v
  dis : ∀ (i j : Nat) (lv lv' : LV) (a : Addr), env[i]? = some lv → env[j]? = some lv' → lv.isOwn = true → lv'.isOwn = true → σ[i]? = some (some (.ref a)) → σ[j]? = some (some (.ref a)) → i = j

structure Gr (O : Addr → Prop) (F H : Hp) (O' : Addr → Prop) (F' H' : Hp) : Prop where
  le : Le F F'
  sub : Le F' H'
  keep : ∀ a o, H a = some o → F a = none → ¬ O a → H' a = some o
  old : ∀ a, F' a ≠ none → F a ≠ none ∨ H a = none ∨ O a
  own : ∀ a, O' a → O a ∨ H a = none
  frz : ∀ a ob u, H a = some (.frz ob u) → H' a = some (.frz ob u)
/-- only new things -/
structure Nw (F H F' H' : Hp) : Prop where
  le : Le F F'
  sub : Le F' H'
  keep : ∀ a o, H a = some o → H' a = some o
  old : ∀ a, F' a ≠ none → F a ≠ none ∨ H a = none
section
variable {R : RE} {F H F' H' F1 H1 : Hp} {O O' O1 : Addr → Prop} {σ : L2.St} {env : LEnv} {lv : LV} {v : V} {a : Addr}
theorem Gr.refl (l : Le F H) : Gr O F H O F H := ⟨.refl F, l, fun _ _ h _ _ => h, fun _ h => .inl h, fun _ h => .inl h, fun _ _ _ h => h⟩
theorem Gr.back (l : Le F H) (g : Gr O F H O1 F1 H1) (h : H1 a = none) : H a = none ∨ O a := by
  cases e : H a with
  | none => exact .inl rfl
  | some o =>
    by_cases q : O a
    · exact .inr q
    · by_cases f : F a = none
      · rw [g.keep a o e f q] at h; cases h
      · exact absurd h (g.sub.sm (g.le.sm f))
theorem Gr.trans (l : Le F H) (g : Gr O F H O1 F1 H1) (k : Gr O1 F1 H1 O' F' H') : Gr O F H O' F' H' where
  le := g.le.trans k.le
  sub := k.sub
  keep := fun a o h f n => by
    have h1 := g.keep a o h f n
    refine k.keep a o h1 ?_ ?_
    · cases e : F1 a with
      | none => rfl
      | some o' =>
        rcases g.old a (by rw [e]; simp) with q | q | q
        · exact absurd f q
        · rw [h] at q; cases q
        · exact absurd q n
    · intro q
      rcases g.own a q with q | q
      · exact n q
      · rw [h] at q; cases q
  old := fun a h => by
    rcases k.old a h with q | q | q
    · exact g.old a q
    · rcases g.back l q with q | q
      · exact .inr (.inl q)
      · exact .inr (.inr q)
    · rcases g.own a q with q | q
      · exact .inr (.inr q)
      · exact .inr (.inl q)
  own := fun a h => by
    rcases k.own a h with q | q
    · exact g.own a q
    · rcases g.back l q with q | q
      · exact .inr q
      · exact .inl q
  frz := fun a ob u h => k.frz a ob u (g.frz a ob u h)
theorem Gr.weak {O2 : Addr → Prop} (g : Gr O F H O1 F' H') (h : ∀ a, O2 a → O1 a) : Gr O F H O2 F' H' := ⟨g.le, g.sub, g.keep, g.old, fun a q => g.own a (h a q), g.frz⟩
theorem Gr.more {O2 : Addr → Prop} (g : Gr O F H O1 F' H') (h : ∀ a, O a → O2 a) : Gr O2 F H O1 F' H' :=
  ⟨g.le, g.sub, fun a o e f n => g.keep a o e f fun q => n (h a q), fun a q => (g.old a q).elim .inl fun z => .inr (z.elim .inl fun y => .inr (h a y)), fun a q => (g.own a q).elim (fun z => .inl (h a z)) .inr, g.frz⟩
theorem Nw.refl (l : Le F H) : Nw F H F H := ⟨.refl F, l, fun _ _ h => h, fun _ h => .inl h⟩
theorem Nw.trans (g : Nw F H F1 H1) (k : Nw F1 H1 F' H') : Nw F H F' H' where
  le := g.le.trans k.le
  sub := k.sub
  keep := fun a o h => k.keep a o (g.keep a o h)
  old := fun a h => by
    rcases k.old a h with q | q
    · exact g.old a q
    · refine .inr ?_
      cases e : H a with
      | none => rfl
      | some o => rw [g.keep a o e] at q; cases q
theorem Nw.gr (g : Nw F H F' H') (h : ∀ a, O' a → O a ∨ H a = none) : Gr O F H O' F' H' :=
  ⟨g.le, g.sub, fun a o e _ _ => g.keep a o e, fun a q => (g.old a q).elim .inl fun z => .inr (.inl z), h, fun a ob u e => g.keep a _ e⟩
theorem Nw.fnone (g : Nw F H F' H') (f : F a = none) (h : H a ≠ none) : F' a = none := by
  cases e : F' a with
  | none => rfl
  | some o =>
    rcases g.old a (by rw [e]; simp) with q | q
    · exact absurd f q
    · exact absurd q h
theorem Gr.fnone (g : Gr O F H O' F' H') (f : F a = none) (h : H a ≠ none) (n : ¬ O a) : F' a = none := by
  cases e : F' a with
  | none => rfl
  | some o =>
    rcases g.old a (by rw [e]; simp) with q | q | q
    · exact absurd f q
    · exact absurd q h
    · exact absurd q n
theorem LRel.nw (g : Nw F H F' H') (r : LRel R F H lv v) : LRel R F' H' lv v := by
  cases r with
  | dat r => exact .dat (r.mono g.le)
  | ml f h r => exact .ml (g.fnone f (by rw [h]; simp)) (g.keep _ _ h) (r.mono g.le)
  | md f h k r => exact .md (g.fnone f (by rw [h]; simp)) (g.keep _ _ h) k (r.mono g.le)
  | mt f h k r => exact .mt (g.fnone f (by rw [h]; simp)) (g.keep _ _ h) k (r.mono g.le)
  | mi f h k r => exact .mi (g.fnone f (by rw [h]; simp)) (g.keep _ _ h) k (r.mono g.le)
/-- what is not owned by O stays -/
theorem LRel.gr (g : Gr O F H O' F' H') (n : ∀ a, Owns lv v a → ¬ O a) (r : LRel R F H lv v) : LRel R F' H' lv v := by
  cases r with
  | dat r => exact .dat (r.mono g.le)
  | ml f h r => have q := n _ ⟨rfl, rfl⟩; exact .ml (g.fnone f (by rw [h]; simp) q) (g.keep _ _ h f q) (r.mono g.le)
  | md f h k r => have q := n _ ⟨rfl, rfl⟩; exact .md (g.fnone f (by rw [h]; simp) q) (g.keep _ _ h f q) k (r.mono g.le)
  | mt f h k r => have q := n _ ⟨rfl, rfl⟩; exact .mt (g.fnone f (by rw [h]; simp) q) (g.keep _ _ h f q) k (r.mono g.le)
  | mi f h k r => have q := n _ ⟨rfl, rfl⟩; exact .mi (g.fnone f (by rw [h]; simp) q) (g.keep _ _ h f q) k (r.mono g.le)
theorem LRel.tracked (r : LRel R F H lv v) (o : Owns lv v a) : F a = none ∧ H a ≠ none := by
  obtain ⟨o1, rfl⟩ := o
  cases r with
  | dat r => cases o1
  | ml f h r => exact ⟨f, by rw [h]; simp⟩
  | md f h k r => exact ⟨f, by rw [h]; simp⟩
  | mt f h k r => exact ⟨f, by rw [h]; simp⟩
  | mi f h k r => exact ⟨f, by rw [h]; simp⟩
theorem ER.nw (g : Nw F H F' H') (e : ER R F H σ env) : ER R F' H' σ env :=
  ⟨e.len, fun i lv h n => let ⟨v, h1, h2⟩ := e.rel i lv h n; ⟨v, h1, h2.nw g⟩, e.dis⟩
theorem ER.tracked (e : ER R F H σ env) (o : Own env σ a) : F a = none ∧ H a ≠ none := by
  obtain ⟨i, lv, h1, h2, h3⟩ := o
  obtain ⟨v, q1, q2⟩ := e.rel i lv h1 (by rintro rfl; cases h2)
  rw [h3] at q1; cases q1
  exact q2.tracked ⟨h2, rfl⟩
end
end PL
set_option maxRecDepth 100000
set_option maxHeartbeats 4000000
/-! Operands, argument lists: what they compute. -/
namespace PL
open PySem L2 PyProof.Rows

inductive Rf where
  | tmp (lv : LV)
  | var (i : Nat)
def LV.ok : LV → Bool
  | .un => false
  | _ => true
def Rf.get (r : Rf) (env : LEnv) : Option LV :=
  match r with
  | .tmp lv => if lv.ok then some lv else none
  | .var i => match env[i]? with
    | some lv => if lv.ok then some lv else none
    | none => none
structure Xc where
  cls : Str
  fs : List (Str × D)
inductive OR where
  | val (r : Rf) (env : LEnv)
  | exc (x : Xc) (env : LEnv)
  | bad
abbrev OM := LEnv → OR
inductive AR where
  | val (rs : List Rf) (env : LEnv)
  | exc (x : Xc) (env : LEnv)
  | bad
abbrev AM := LEnv → AR

def RfR (R : RE) (F H : Hp) (σ : L2.St) : Rf → V → Prop
  | .tmp lv, v => lv ≠ .un ∧ LRel R F H lv v
  | .var i, v => σ[i]? = some (some v)
def RfO : Rf → V → Addr → Prop
  | .tmp lv, v, a => Owns lv v a
  | .var _, _, _ => False
inductive RsR (R : RE) (F H : Hp) (σ : L2.St) : List Rf → List V → Prop
  | nil : RsR R F H σ [] []
  | cons {r : Rf} {v : V} {rs : List Rf} {vs : List V} : RfR R F H σ r v → RsR R F H σ rs vs → RsR R F H σ (r :: rs) (v :: vs)
def RsO (rs : List Rf) (vs : List V) (a : Addr) : Prop := ∃ (k : Nat) (r : Rf) (v : V), rs[k]? = some r ∧ vs[k]? = some v ∧ RfO r v a
def RsD (rs : List Rf) (vs : List V) : Prop := ∀ (k k' : Nat) (r r' : Rf) (v v' : V) (a : Addr), rs[k]? = some r → vs[k]? = some v → rs[k']? = some r' → vs[k']? = some v' → RfO r v a → RfO r' v' a → k = k'
/-- an exception: its class, its own dict -/
def XR (R : RE) (F H : Hp) (x : Xc) (cls : Value) (d : Option Addr) : Prop :=
  cls = .ref (R.ct x.cls) ∧ ((x.fs = [] ∧ d = none) ∨ ∃ dd xs, d = some dd ∧ H dd = some (.xd xs) ∧ x.fs.map (·.1) = xs.map (·.1) ∧ RepL R F (x.fs.map (·.2)) (xs.map (·.2)))
abbrev XP := Xc → LEnv → Prop
def XPost (R : RE) (W : WX) (O : Addr → Prop) (σ : L2.St) (F H : Hp) (x : Xc) (env' : LEnv) : Prop :=
  ∀ cls d F' H', ER R F' H' σ env' → XR R F' H' x cls d → Gr O F H (Own env' σ) F' H' → W cls d σ H'
def OPost (R : RE) (W : WX) (O : Addr → Prop) (σ : L2.St) (F H : Hp) (r : OR) (Q : VK) : Prop :=
  match r with
  | .val rf env' => ∀ v F' H', ER R F' H' σ env' → RfR R F' H' σ rf v → (∀ a, RfO rf v a → ¬ Own env' σ a) → Gr O F H (fun a => Own env' σ a ∨ RfO rf v a) F' H' → Q v H'
  | .exc x env' => XPost R W O σ F H x env'
  | .bad => False
def APost (R : RE) (W : WX) (O : Addr → Prop) (σ : L2.St) (F H : Hp) (r : AR) (Q : List V → Hp → Prop) : Prop :=
  match r with
  | .val rs env' => ∀ vs F' H', ER R F' H' σ env' → RsR R F' H' σ rs vs → (∀ a, RsO rs vs a → ¬ Own env' σ a) → RsD rs vs → Gr O F H (fun a => Own env' σ a ∨ RsO rs vs a) F' H' → Q vs H'
  | .exc x env' => XPost R W O σ F H x env'
  | .bad => False
/-- the reading t does what m tells -/
def OS (R : RE) (W : WX) (t : TE) (m : OM) : Prop := ∀ σ F H env Q, ER R F H σ env → Le F H → OPost R W (Own env σ) σ F H (m env) Q → t σ H Q
def AS (R : RE) (W : WX) (t : TA) (m : AM) : Prop := ∀ σ F H env Q, ER R F H σ env → Le F H → APost R W (Own env σ) σ F H (m env) Q → t σ H Q
def OJ (X : Cx) (R : RE) (W : WX) (e : Expr) (m : OM) : Prop := ∃ t, PE X e t ∧ OS R W t m
def AJ (X : Cx) (R : RE) (W : WX) (es : List Expr) (m : AM) : Prop := ∃ t, PA X es t ∧ AS R W t m

section
variable {R : RE} {W : WX} {F H F' H' F1 H1 : Hp} {O O' O1 : Addr → Prop} {σ : L2.St} {env env' env1 : LEnv} {lv : LV} {v : V} {a : Addr} {rf : Rf} {rs : List Rf} {vs : List V}
theorem RfR.nw (g : Nw F H F' H') (r : RfR R F H σ rf v) : RfR R F' H' σ rf v := by
  cases rf with
  | tmp lv => exact ⟨r.1, r.2.nw g⟩
  | var i => exact r
theorem RfR.gr (g : Gr O F H O' F' H') (n : ∀ a, RfO rf v a → ¬ O a) (r : RfR R F H σ rf v) : RfR R F' H' σ rf v := by
  cases rf with
  | tmp lv => exact ⟨r.1, r.2.gr g n⟩
  | var i => exact r
theorem RfR.tracked (r : RfR R F H σ rf v) (o : RfO rf v a) : F a = none ∧ H a ≠ none := by
  cases rf with
  | tmp lv => exact r.2.tracked o
  | var i => exact o.elim
theorem RsR.nw (g : Nw F H F' H') : ∀ {rs : List Rf} {vs : List V}, RsR R F H σ rs vs → RsR R F' H' σ rs vs
  | _, _, .nil => .nil
  | _, _, .cons h r => .cons (h.nw g) (r.nw g)
theorem RsR.gr (g : Gr O F H O' F' H') : ∀ {rs : List Rf} {vs : List V}, (∀ a, RsO rs vs a → ¬ O a) → RsR R F H σ rs vs → RsR R F' H' σ rs vs
  | _, _, _, .nil => .nil
  | _, _, n, .cons h r => .cons (h.gr g fun a q => n a ⟨0, _, _, rfl, rfl, q⟩) (r.gr g fun a ⟨k, r, v, q1, q2, q3⟩ => n a ⟨k + 1, r, v, by simpa using q1, by simpa using q2, q3⟩)
theorem RsR.length : ∀ {rs : List Rf} {vs : List V}, RsR R F H σ rs vs → rs.length = vs.length
  | _, _, .nil => rfl
  | _, _, .cons _ r => by simp [r.length]
theorem RsR.at {k : Nat} {r : Rf} {v : V} : ∀ {rs : List Rf} {vs : List V} {k : Nat}, RsR R F H σ rs vs → rs[k]? = some r → vs[k]? = some v → RfR R F H σ r v
  | _, _, _, .nil, h, _ => by simp at h
  | _, _, 0, .cons h _, e, e' => by simp at e e'; subst e; subst e'; exact h
  | _, _, k + 1, .cons _ q, e, e' => q.at (k := k) (by simpa using e) (by simpa using e')
theorem RsR.tracked (r : RsR R F H σ rs vs) (o : RsO rs vs a) : F a = none ∧ H a ≠ none := by
  obtain ⟨k, r', v', e1, e2, q⟩ := o
  exact (r.at (k := k) e1 e2).tracked q
theorem RsO.cons {r : Rf} {rs : List Rf} {v : V} {vs : List V} : RsO (r :: rs) (v :: vs) a ↔ RfO r v a ∨ RsO rs vs a := by
  constructor
  · rintro ⟨k, r', v', e1, e2, q⟩
    cases k with
    | zero => simp at e1 e2; subst e1; subst e2; exact .inl q
    | succ k => exact .inr ⟨k, r', v', by simpa using e1, by simpa using e2, q⟩
  · rintro (q | ⟨k, r', v', e1, e2, q⟩)
    · exact ⟨0, r, v, rfl, rfl, q⟩
    · exact ⟨k + 1, r', v', by simpa using e1, by simpa using e2, q⟩
theorem RsO.nil : ¬ RsO [] [] a := by rintro ⟨k, r, v, e, _⟩; simp at e

/-! ### argument lists -/
def aNil : AM := fun env => .val [] env
def aCons (m : OM) (ms : AM) : AM := fun env => match m env with
  | .val r env1 => match ms env1 with
    | .val rs env2 => .val (r :: rs) env2
    | .exc x env2 => .exc x env2
    | .bad => .bad
  | .exc x env1 => .exc x env1
  | .bad => .bad
theorem as_nil : AS R W tNil aNil := fun σ F H env Q er l p => p [] F H er .nil (fun _ o => (RsO.nil o).elim) (fun k _ r _ _ _ _ e => by simp at e) ⟨.refl F, l, fun _ _ h _ _ => h, fun _ h => .inl h, fun _ h => h.elim .inl fun z => (RsO.nil z).elim, fun _ _ _ h => h⟩
theorem as_cons {te : TE} {t : TA} {m : OM} {ms : AM} (h1 : OS R W te m) (h2 : AS R W t ms) : AS R W (tCons te t) (aCons m ms) := by
  intro σ F H env Q er l p
  unfold aCons at p
  refine h1 σ F H env _ er l ?_
  cases e1 : m env with
  | bad => rw [e1] at p; exact p.elim
  | exc x env1 => rw [e1] at p; exact p
  | val r env1 =>
    rw [e1] at p
    intro v F1 H1 er1 rr1 d1 g1
    refine h2 σ F1 H1 env1 _ er1 g1.sub ?_
    have g1' : Gr (Own env σ) F H (Own env1 σ) F1 H1 := g1.weak fun a h => .inl h
    cases e2 : ms env1 with
    | bad => simp only [e2] at p; exact p.elim
    | exc x env2 =>
      simp only [e2] at p
      intro cls d F2 H2 er2 x2 g2
      exact p cls d F2 H2 er2 x2 (g1'.trans l g2)
    | val rs env2 =>
      simp only [e2] at p
      intro vs F2 H2 er2 rr2 d2 dd2 g2
      have n1 : ∀ a, RfO r v a → ¬ Own env1 σ a := d1
      have rr1' : RfR R F2 H2 σ r v := rr1.gr g2 n1
      -- the temporary is apart from what came behind
      have ap : ∀ a, RfO r v a → ¬ (Own env2 σ a ∨ RsO rs vs a) := fun a o q => by
        rcases g2.own a q with z | z
        · exact d1 a o z
        · exact (rr1.tracked o).2 z
      refine p (v :: vs) F2 H2 er2 (.cons rr1' rr2) (fun a o => ?_) ?_ ?_
      · rcases RsO.cons.mp o with o | o
        · exact fun q => ap a o (.inl q)
        · exact d2 a o
      · intro k k' r1 r2 v1 v2 a q1 q2 q3 q4 o1 o2
        cases k with
        | zero =>
          cases k' with
          | zero => rfl
          | succ k' =>
            simp at q1 q2; subst q1; subst q2
            exact (ap a o1 (.inr ⟨k', r2, v2, by simpa using q3, by simpa using q4, o2⟩)).elim
        | succ k =>
          cases k' with
          | zero =>
            simp at q3 q4; subst q3; subst q4
            exact (ap a o2 (.inr ⟨k, r1, v1, by simpa using q1, by simpa using q2, o1⟩)).elim
          | succ k' =>
            have := dd2 k k' r1 r2 v1 v2 a (by simpa using q1) (by simpa using q2) (by simpa using q3) (by simpa using q4) o1 o2
            omega
      · have g := g1'.trans l g2
        refine ⟨g.le, g.sub, g.keep, g.old, fun a q => ?_, g.frz⟩
        rcases q with q | q
        · exact g.own a (.inl q)
        · rcases RsO.cons.mp q with q | q
          · exact g1.own a (.inr q)
          · exact g.own a (.inr q)

/-! ### an operation on values: no object is changed, new ones may come -/
def LRelL (R : RE) (F H : Hp) : List LV → List V → Prop := Paired (LRel R F H)
def gets : List Rf → LEnv → Option (List LV)
  | [], _ => some []
  | r :: rs, env => match r.get env with
    | some lv => match gets rs env with
      | some lvs => some (lv :: lvs)
      | none => none
    | none => none
theorem RfR.get {r : Rf} (er : ER R F H σ env) (rr : RfR R F H σ r v) (h : r.get env = some lv) : LRel R F H lv v ∧ lv ≠ .un := by
  cases r with
  | tmp lv' =>
    unfold Rf.get at h
    cases e : lv'.ok with
    | false => simp [e] at h
    | true => simp [e] at h; subst h; exact ⟨rr.2, rr.1⟩
  | var i =>
    unfold Rf.get at h
    simp only at h
    cases e : env[i]? with
    | none => rw [e] at h; cases h
    | some lv' =>
      rw [e] at h
      cases e2 : lv'.ok with
      | false => simp [e2] at h
      | true =>
        simp [e2] at h
        subst h
        have ne : lv' ≠ .un := by rintro rfl; cases e2
        obtain ⟨v', h1, h2⟩ := er.rel i lv' e ne
        have rr' : σ[i]? = some (some v) := rr
        rw [h1] at rr'
        cases rr'
        exact ⟨h2, ne⟩
theorem RsR.gets (er : ER R F H σ env) : ∀ {rs : List Rf} {vs : List V} {lvs : List LV}, RsR R F H σ rs vs → gets rs env = some lvs → LRelL R F H lvs vs
  | [], [], lvs, .nil, h => by cases h; exact .nil
  | r :: rs, v :: vs, lvs, .cons q qs, h => by
    unfold PL.gets at h
    cases e : r.get env with
    | none => rw [e] at h; cases h
    | some lv =>
      rw [e] at h
      cases e2 : PL.gets rs env with
      | none => simp only [e2] at h; cases h
      | some lvs' =>
        simp only [e2] at h
        cases h
        exact .cons (q.get er e).1 (qs.gets er e2)
/-- rr on values is f on what they stand for -/
def RS (R : RE) (rr : List V → Hp → VK → Prop) (f : List LV → Option LV) : Prop :=
  ∀ F H vs lvs z Q, Le F H → LRelL R F H lvs vs → f lvs = some z → (∀ w F' H', Nw F H F' H' → LRel R F' H' z w → (∀ a, Owns z w a → H a = none) → Q w H') → rr vs H Q
def oOp (ms : AM) (f : List LV → Option LV) : OM := fun env => match ms env with
  | .val rs env1 => match gets rs env1 with
    | some lvs => match f lvs with
      | some z => if z.ok then .val (.tmp z) env1 else .bad
      | none => .bad
    | none => .bad
  | .exc x env1 => .exc x env1
  | .bad => .bad
theorem os_op {t : TA} {ms : AM} {rr : List V → Hp → VK → Prop} {f : List LV → Option LV} (h : AS R W t ms) (hr : RS R rr f) : OS R W (fun σ H Q => t σ H fun vs H1 => rr vs H1 Q) (oOp ms f) := by
  intro σ F H env Q er l p
  unfold oOp at p
  refine h σ F H env _ er l ?_
  cases e1 : ms env with
  | bad => rw [e1] at p; exact p.elim
  | exc x env1 => rw [e1] at p; exact p
  | val rs env1 =>
    rw [e1] at p
    intro vs F1 H1 er1 rr1 d1 dd1 g1
    simp only at p
    cases e2 : gets rs env1 with
    | none => simp only [e2] at p; exact p.elim
    | some lvs =>
      simp only [e2] at p
      cases e3 : f lvs with
      | none => simp only [e3] at p; exact p.elim
      | some z =>
        simp only [e3] at p
        cases e4 : z.ok with
        | false => simp [e4] at p; exact p.elim
        | true =>
          simp only [e4, if_true] at p
          refine hr F1 H1 vs lvs z Q g1.sub (rr1.gets er1 e2) e3 fun w F2 H2 nw lr ow => ?_
          have ne : z ≠ .un := by rintro rfl; cases e4
          have g1' : Gr (Own env σ) F H (Own env1 σ) F1 H1 := g1.weak fun a h => .inl h
          refine p w F2 H2 (er1.nw nw) ⟨ne, lr⟩ (fun a o q => (er1.tracked q).2 (ow a o)) ?_
          exact g1'.trans l (nw.gr fun a q => q.elim .inl fun o => .inr (ow a o))
end
end PL
set_option maxRecDepth 100000
set_option maxHeartbeats 4000000
/-! Names, constants, freezing, operators, tests. -/
namespace PL
open PySem L2 PyProof.Rows

section
variable {X : Cx} {R : RE} {W : WX} {pos : Pos} {e a b c : Expr} {es : List Expr} {m ma mb mc : OM} {ms : AM}

/-! ### names and constants -/
def oVar (i : Nat) : OM := fun env => match env[i]? with
  | some lv => if lv.ok then .val (.var i) env else .bad
  | none => .bad
theorem ok_ne {lv : LV} (h : lv.ok = true) : lv ≠ .un := by rintro rfl; cases h
theorem oj_var {i : Nat} {x : Str} (h : PE X (.Name x pos) (tVar i)) : OJ X R W (.Name x pos) (oVar i) := by
  refine ⟨_, h, fun σ F H env Q er l p => ?_⟩
  unfold oVar at p
  cases e : env[i]? with
  | none => simp only [e] at p; exact p.elim
  | some lv =>
    simp only [e] at p
    cases k : lv.ok with
    | false => simp [k] at p; exact p.elim
    | true =>
      simp only [k, if_true] at p
      obtain ⟨v, h1, h2⟩ := er.rel i lv e (ok_ne k)
      exact ⟨v, h1, p v F H er h1 (fun _ o => o.elim) ⟨.refl F, l, fun _ _ h _ _ => h, fun _ h => .inl h, fun _ h => h.elim .inl fun z => z.elim, fun _ _ _ h => h⟩⟩
def oC (d : D) : OM := fun env => .val (.tmp (.dat d)) env
theorem os_c {v : V} {d : D} (h : ∀ F, Rep R F d v) : OS R W (tC v) (oC d) := fun σ F H env Q er l p =>
  p v F H er ⟨by simp, .dat (h F)⟩ (fun _ o => by cases o.1) ⟨.refl F, l, fun _ _ h _ _ => h, fun _ h => .inl h, fun _ h => h.elim .inl (fun z => by cases z.1), fun _ _ _ h => h⟩
theorem oj_int {i : Int} {j} : OJ X R W (.Constant (.int i) j pos) (oC (.int i)) := ⟨_, pe_int, os_c fun _ => .int i⟩
theorem oj_bl {b : Bool} {j} : OJ X R W (.Constant (.bool b) j pos) (oC (.bl b)) := ⟨_, pe_bl, os_c fun _ => .bl b⟩
theorem oj_non {j} : OJ X R W (.Constant .none j pos) (oC .non) := ⟨_, pe_non, os_c fun _ => .non⟩
theorem oj_str {x : Str} {j} : OJ X R W (.Constant (.str x) j pos) (oC (.str x)) := ⟨_, pe_str, os_c fun _ => .str x⟩
/-- a module's constant, a text or an int -/
theorem oj_gstr {x y : Str} {u : Tok} (hg : Gl X x) (hm : X.mg x = some (.str y u)) (h : PE X (.Name x pos) (tC (.str y))) : OJ X R W (.Name x pos) (oC (.str y)) := ⟨_, h, os_c fun _ => .str y⟩
theorem oj_cst {x : Str} {v : V} (h : PE X (.Name x pos) (tC v)) : OJ X R W (.Name x pos) (oC (.cst v)) := ⟨_, h, os_c fun _ => .cst v⟩

/-! ### freezing -/
def LV.frz : LV → Option D
  | .un => none
  | .dat d => some d
  | .ml ds => some (.lst ds)
  | .md kvs => some (.dic kvs)
  | .mt kvs => some (.dit kvs)
  | .mi c fs => some (.ins c fs)
def oFrz (m : OM) : OM := fun env => match m env with
  | .val (.tmp lv) env1 => match lv.frz with
    | some d => .val (.tmp (.dat d)) env1
    | none => .bad
  | .val (.var i) env1 => match env1[i]? with
    | some lv => match lv.frz with
      | some d => .val (.tmp (.dat d)) (env1.set i (.dat d))
      | none => .bad
    | none => .bad
  | .exc x env1 => .exc x env1
  | .bad => .bad
theorem frz_rel {F H : Hp} {lv : LV} {v : V} {d : D} (l : Le F H) (r : LRel R F H lv v) (h : lv.frz = some d) :
    ∃ F', Rep R F' d v ∧ Le F F' ∧ Le F' H ∧ (∀ b, F' b ≠ none → F b ≠ none ∨ Owns lv v b) ∧ (∀ b, ¬ Owns lv v b → F' b = F b) := by
  have core : ∀ {a : Addr} {o : HO}, F a = none → H a = some o → v = .ref a → lv.isOwn = true → (∀ {G : Hp}, Le F G → G a = some o → Rep R G d v) →
      ∃ F', Rep R F' d v ∧ Le F F' ∧ Le F' H ∧ (∀ b, F' b ≠ none → F b ≠ none ∨ Owns lv v b) ∧ (∀ b, ¬ Owns lv v b → F' b = F b) := by
    intro a o f h1 hv ho k
    refine ⟨upd F a o, k (Le.upd f) upd_same, Le.upd f, l.frz h1, fun b q => ?_, fun b q => ?_⟩
    · by_cases e : b = a
      · exact .inr ⟨ho, by rw [hv, e]⟩
      · rw [upd_ne e] at q; exact .inl q
    · exact upd_ne fun e => q ⟨ho, by rw [hv, e]⟩
  cases r with
  | dat r => cases h; exact ⟨F, r, .refl F, l, fun b q => .inl q, fun _ _ => rfl⟩
  | ml f h1 r => cases h; exact core f h1 rfl rfl fun g e => .lst e (r.mono g)
  | md f h1 k r => cases h; exact core f h1 rfl rfl fun g e => .dic (.inl e) k (r.mono g)
  | mt f h1 k r => cases h; exact core f h1 rfl rfl fun g e => .dit (.inl e) k (r.mono g)
  | mi f h1 k r => cases h; exact core f h1 rfl rfl fun g e => .ins e k (r.mono g)
/-- more is frozen, of what is not owned by lv at v -/
theorem LRel.frz {F H F' : Hp} {lv : LV} {v : V} (l : Le F F') (f : ∀ b, Owns lv v b → F' b = F b) (r : LRel R F H lv v) : LRel R F' H lv v := by
  cases r with
  | dat r => exact .dat (r.mono l)
  | ml q h r => exact .ml ((f _ ⟨rfl, rfl⟩).trans q) h (r.mono l)
  | md q h k r => exact .md ((f _ ⟨rfl, rfl⟩).trans q) h k (r.mono l)
  | mt q h k r => exact .mt ((f _ ⟨rfl, rfl⟩).trans q) h k (r.mono l)
  | mi q h k r => exact .mi ((f _ ⟨rfl, rfl⟩).trans q) h k (r.mono l)
theorem Own.set_dat {env : LEnv} {σ : L2.St} {i : Nat} {d : D} {a : Addr} (o : Own (env.set i (.dat d)) σ a) : Own env σ a ∧ ¬ σ[i]? = some (some (.ref a)) ∨ ∃ j lv, j ≠ i ∧ env[j]? = some lv ∧ lv.isOwn = true ∧ σ[j]? = some (some (.ref a)) := by
  obtain ⟨j, lv, h1, h2, h3⟩ := o
  by_cases e : j = i
  · subst e
    rw [List.getElem?_set] at h1
    split at h1
    · split at h1
      · cases h1; cases h2
      · cases h1
    · exact absurd rfl (by assumption)
  · rw [List.getElem?_set_ne (Ne.symm e)] at h1
    exact .inr ⟨j, lv, e, h1, h2, h3⟩
theorem own_set {env : LEnv} {σ : L2.St} {i : Nat} {d : D} {a : Addr} (o : Own (env.set i (.dat d)) σ a) : ∃ j lv, j ≠ i ∧ env[j]? = some lv ∧ lv.isOwn = true ∧ σ[j]? = some (some (.ref a)) := by
  obtain ⟨j, lv, h1, h2, h3⟩ := o
  by_cases e : j = i
  · subst e
    rw [List.getElem?_set] at h1
    split at h1
    · split at h1
      · cases h1; cases h2
      · cases h1
    · exact absurd rfl (by assumption)
  · rw [List.getElem?_set_ne (Ne.symm e)] at h1
    exact ⟨j, lv, e, h1, h2, h3⟩
/-- a variable's content is frozen -/
theorem ER.frz {F H F' : Hp} {σ : L2.St} {env : LEnv} {i : Nat} {lv : LV} {v : V} {d : D} (er : ER R F H σ env) (he : env[i]? = some lv) (hv : σ[i]? = some (some v)) (hr : Rep R F' d v) (l : Le F F') (hk : ∀ b, ¬ Owns lv v b → F' b = F b) :
    ER R F' H σ (env.set i (.dat d)) := by
  refine ⟨by rw [List.length_set]; exact er.len, fun j lv' h n => ?_, fun j k lv1 lv2 b h1 h2 o1 o2 s1 s2 => ?_⟩
  · by_cases e : j = i
    · subst e
      rw [List.getElem?_set] at h
      split at h
      · split at h
        · cases h; exact ⟨v, hv, .dat hr⟩
        · cases h
      · exact absurd rfl (by assumption)
    · rw [List.getElem?_set_ne (Ne.symm e)] at h
      obtain ⟨v', q1, q2⟩ := er.rel j lv' h n
      refine ⟨v', q1, q2.frz l fun b ob => hk b fun ob' => ?_⟩
      obtain ⟨o1, rfl⟩ := ob
      obtain ⟨o2, rfl⟩ := ob'
      exact e (er.dis j i lv' lv b h he o1 o2 q1 hv)
  · have z : ∀ {j : Nat} {lv' : LV}, (env.set i (.dat d))[j]? = some lv' → lv'.isOwn = true → env[j]? = some lv' := fun {j lv'} h o => by
      by_cases e : j = i
      · subst e
        rw [List.getElem?_set] at h
        split at h
        · split at h
          · cases h; cases o
          · cases h
        · exact absurd rfl (by assumption)
      · rw [List.getElem?_set_ne (Ne.symm e)] at h; exact h
    exact er.dis j k lv1 lv2 b (z h1 o1) (z h2 o2) o1 o2 s1 s2
theorem ER.frzT {F H F' : Hp} {σ : L2.St} {env : LEnv} {lv : LV} {v : V} (er : ER R F H σ env) (l : Le F F') (hk : ∀ b, ¬ Owns lv v b → F' b = F b) (hd : ∀ b, Owns lv v b → ¬ Own env σ b) : ER R F' H σ env := by
  refine ⟨er.len, fun j lv' h n => ?_, er.dis⟩
  obtain ⟨v', q1, q2⟩ := er.rel j lv' h n
  refine ⟨v', q1, q2.frz l fun b ob => hk b fun ob' => hd b ob' ⟨j, lv', h, ob.1, by rw [q1, ob.2]⟩⟩
theorem os_frz {t : TE} (h : OS R W t m) : OS R W t (oFrz m) := by
  intro σ F H env Q er l p
  unfold oFrz at p
  refine h σ F H env Q er l ?_
  cases e1 : m env with
  | bad => rw [e1] at p; exact p.elim
  | exc x env1 => rw [e1] at p; exact p
  | val r env1 =>
    rw [e1] at p
    intro v F1 H1 er1 rr d1 g1
    cases r with
    | tmp lv =>
      simp only at p
      cases e2 : lv.frz with
      | none => simp only [e2] at p; exact p.elim
      | some d =>
        simp only [e2] at p
        obtain ⟨F2, r2, l2, s2, n2, k2⟩ := frz_rel g1.sub rr.2 e2
        refine p v F2 H1 (er1.frzT l2 k2 d1) ⟨by simp, .dat r2⟩ (fun _ o => by cases o.1) ?_
        refine ⟨g1.le.trans l2, s2, g1.keep, fun b q => ?_, fun b q => ?_, g1.frz⟩
        · rcases n2 b q with q | q
          · exact g1.old b q
          · rcases g1.own b (.inr q) with q | q
            · exact .inr (.inr q)
            · exact .inr (.inl q)
        · rcases q with q | q
          · exact g1.own b (.inl q)
          · cases q.1
    | var i =>
      simp only at p
      cases e2 : env1[i]? with
      | none => simp only [e2] at p; exact p.elim
      | some lv =>
        simp only [e2] at p
        cases e3 : lv.frz with
        | none => simp only [e3] at p; exact p.elim
        | some d =>
          simp only [e3] at p
          have ne : lv ≠ .un := by rintro rfl; cases e3
          obtain ⟨v', q1, q2⟩ := er1.rel i lv e2 ne
          have rr' : σ[i]? = some (some v) := rr
          rw [q1] at rr'; cases rr'
          obtain ⟨F2, r2, l2, s2, n2, k2⟩ := frz_rel g1.sub q2 e3
          refine p v F2 H1 (er1.frz e2 q1 r2 l2 k2) ⟨by simp, .dat r2⟩ (fun _ o => by cases o.1) ?_
          refine ⟨g1.le.trans l2, s2, g1.keep, fun b q => ?_, fun b q => ?_, g1.frz⟩
          · rcases n2 b q with q | q
            · exact g1.old b q
            · rcases g1.own b (.inl ⟨i, lv, e2, q.1, by rw [q1, q.2]⟩) with q | q
              · exact .inr (.inr q)
              · exact .inr (.inl q)
          · rcases q with q | q
            · obtain ⟨j, lv', _, h1, h2, h3⟩ := own_set q
              exact g1.own b (.inl ⟨j, lv', h1, h2, h3⟩)
            · cases q.1
theorem oj_frz (h : OJ X R W e m) : OJ X R W e (oFrz m) := let ⟨t, h1, h2⟩ := h; ⟨t, h1, os_frz h2⟩

/-! ### argument lists -/
theorem aj_nil : AJ X R W [] aNil := ⟨_, pa_nil, as_nil⟩
theorem aj_cons (h1 : OJ X R W e m) (h2 : AJ X R W es ms) (hs : starEach (e :: es) X.env = (false, eval e X.env) :: starEach es X.env := by rfl) : AJ X R W (e :: es) (aCons m ms) :=
  let ⟨t, p, o⟩ := h1; let ⟨u, q, r⟩ := h2; ⟨tCons t u, pa_cons p q hs, as_cons o r⟩

/-! ### operators -/
def r2L (r : R2) : List V → Hp → VK → Prop := fun vs H Q => match vs with
  | [x, y] => r x y H Q
  | _ => False
def r1L (r : V → Hp → VK → Prop) : List V → Hp → VK → Prop := fun vs H Q => match vs with
  | [x] => r x H Q
  | _ => False
def OpJ (X : Cx) (R : RE) (op : Value → Value → Sem Value) (f : List LV → Option LV) : Prop := ∃ r, OpR X op r ∧ RS R (r2L r) f
def UnJ (X : Cx) (R : RE) (op : Value → Sem Value) (f : List LV → Option LV) : Prop := ∃ r, UnR X op r ∧ RS R (r1L r) f
def CallJ (X : Cx) (R : RE) (fv : Value) (f : List LV → Option LV) : Prop := ∃ r, CallR X fv r ∧ RS R r f
abbrev o2 (ma mb : OM) (f : List LV → Option LV) : OM := oOp (aCons ma (aCons mb aNil)) f
abbrev o1 (ma : OM) (f : List LV → Option LV) : OM := oOp (aCons ma aNil) f
theorem os_op2 {r : R2} {ta tb : TE} {f : List LV → Option LV} (ha : OS R W ta ma) (hb : OS R W tb mb) (h : RS R (r2L r) f) : OS R W (tOp r ta tb) (o2 ma mb f) :=
  os_op (as_cons ha (as_cons hb as_nil)) h
theorem os_op1 {r : V → Hp → VK → Prop} {ta : TE} {f : List LV → Option LV} (ha : OS R W ta ma) (h : RS R (r1L r) f) : OS R W (tUn r ta) (o1 ma f) :=
  os_op (as_cons ha as_nil) h
theorem oj_bin {op : Operator} {f : List LV → Option LV} (ho : OpJ X R (binaryOp op) f) (ha : OJ X R W a ma) (hb : OJ X R W b mb) : OJ X R W (.BinOp a op b pos) (o2 ma mb f) :=
  let ⟨r, h1, h2⟩ := ho; let ⟨ta, a1, a2⟩ := ha; let ⟨tb, b1, b2⟩ := hb; ⟨tOp r ta tb, pe_op h1 a1 b1, os_op2 a2 b2 h2⟩
theorem oj_un {op : UnaryOp} {f : List LV → Option LV} (ho : UnJ X R (unaryOp op) f) (ha : OJ X R W a ma) (h : ∀ r ta, UnR X (unaryOp op) r → PE X a ta → PE X (.UnaryOp op a pos) (tUn r ta)) : OJ X R W (.UnaryOp op a pos) (o1 ma f) :=
  let ⟨r, h1, h2⟩ := ho; let ⟨ta, a1, a2⟩ := ha; ⟨tUn r ta, h r ta h1 a1, os_op1 a2 h2⟩
theorem oj_cmp {op : CmpOp} {f : List LV → Option LV} (ho : OpJ X R (compareOp op) f) (ha : OJ X R W a ma) (hb : OJ X R W b mb) (hm : behindInMarks op b = false) : OJ X R W (.Compare a [op] [b] pos) (o2 ma mb f) :=
  let ⟨r, h1, h2⟩ := ho; let ⟨ta, a1, a2⟩ := ha; let ⟨tb, b1, b2⟩ := hb; ⟨tOp r ta tb, pe_cmpR h1 a1 b1 hm, os_op2 a2 b2 h2⟩
/-- a built-in called by its name -/
theorem oj_callB {f : List LV → Option LV} {x : Str} {p : Pos} {n : String} (hc : CallJ X R (.builtin n) f) (ha : AJ X R W es ms)
    (h : ∀ r t, CallR X (.builtin n) r → PA X es t → PE X (.Call (.Name x p) es [] pos) (tCB r t)) : OJ X R W (.Call (.Name x p) es [] pos) (oOp ms f) :=
  let ⟨r, h1, h2⟩ := hc; let ⟨t, a1, a2⟩ := ha; ⟨tCB r t, h r t h1 a1, os_op a2 h2⟩
theorem oj_callT {f : List LV → Option LV} {x : Str} {p : Pos} {n : String} (hc : CallJ X R (.type n) f) (ha : AJ X R W es ms)
    (h : ∀ r t, CallR X (.type n) r → PA X es t → PE X (.Call (.Name x p) es [] pos) (tCB r t)) : OJ X R W (.Call (.Name x p) es [] pos) (oOp ms f) :=
  let ⟨r, h1, h2⟩ := hc; let ⟨t, a1, a2⟩ := ha; ⟨tCB r t, h r t h1 a1, os_op a2 h2⟩
/-- two rules for one operator -/
theorem OpR.or {op : Value → Value → Sem Value} {r s : R2} (h1 : OpR X op r) (h2 : OpR X op s) : OpR X op (fun x y H Q => r x y H Q ∨ s x y H Q) := by
  intro pins s' σ H x y u v Q I rx ry q
  exact q.elim (h1 pins s' σ H x y u v Q I rx ry) (h2 pins s' σ H x y u v Q I rx ry)
theorem RS.imp {rr rr' : List V → Hp → VK → Prop} {f : List LV → Option LV} (h : RS R rr f) (k : ∀ vs H Q, rr vs H Q → rr' vs H Q) : RS R rr' f :=
  fun F H vs lvs z Q l rl e q => k _ _ _ (h F H vs lvs z Q l rl e q)
def fOr (f g : List LV → Option LV) : List LV → Option LV := fun l => match f l with
  | some z => some z
  | none => g l
theorem RS.or {rr ss : List V → Hp → VK → Prop} {f g : List LV → Option LV} (h1 : RS R rr f) (h2 : RS R ss g) : RS R (fun vs H Q => rr vs H Q ∨ ss vs H Q) (fOr f g) := by
  intro F H vs lvs z Q l rl e k
  unfold fOr at e
  cases q : f lvs with
  | some w =>
    rw [q] at e
    cases e
    exact .inl (h1 F H vs lvs _ Q l rl q k)
  | none =>
    rw [q] at e
    exact .inr (h2 F H vs lvs z Q l rl e k)
theorem OpJ.or {op : Value → Value → Sem Value} {f g : List LV → Option LV} (h1 : OpJ X R op f) (h2 : OpJ X R op g) : OpJ X R op (fOr f g) := by
  obtain ⟨r, a1, a2⟩ := h1
  obtain ⟨s, b1, b2⟩ := h2
  refine ⟨_, OpR.or a1 b1, (RS.or a2 b2).imp fun vs H Q q => ?_⟩
  match vs, q with
  | [x, y], q => exact q
  | [], q => exact q.elim id id
  | [x], q => exact q.elim id id
  | x :: y :: z :: r, q => exact q.elim id id
theorem CallR.or {fv : Value} {r s : List V → Hp → VK → Prop} (h1 : CallR X fv r) (h2 : CallR X fv s) : CallR X fv (fun vs H Q => r vs H Q ∨ s vs H Q) := by
  intro pins s' σ H vs us Q I rx q
  exact q.elim (h1 pins s' σ H vs us Q I rx) (h2 pins s' σ H vs us Q I rx)
theorem CallJ.or {fv : Value} {f g : List LV → Option LV} (h1 : CallJ X R fv f) (h2 : CallJ X R fv g) : CallJ X R fv (fOr f g) := by
  obtain ⟨r, a1, a2⟩ := h1
  obtain ⟨s, b1, b2⟩ := h2
  exact ⟨_, CallR.or a1 b1, RS.or a2 b2⟩
end
end PL
set_option maxRecDepth 100000
set_option maxHeartbeats 4000000
/-! Tests; and, or, not; a if t else b; chains. -/
namespace PL
open PySem L2 PyProof.Rows

inductive TR where
  | val (b : Bool) (env : LEnv)
  | exc (x : Xc) (env : LEnv)
  | bad
abbrev TM := LEnv → TR
def TPost (R : RE) (W : WX) (O : Addr → Prop) (σ : L2.St) (F H : Hp) (r : TR) (Q : Bool → Hp → Prop) : Prop :=
  match r with
  | .val b env' => ∀ F' H', ER R F' H' σ env' → Gr O F H (Own env' σ) F' H' → Q b H'
  | .exc x env' => XPost R W O σ F H x env'
  | .bad => False
def TSd (R : RE) (W : WX) (t : TT) (m : TM) : Prop := ∀ σ F H env Q, ER R F H σ env → Le F H → TPost R W (Own env σ) σ F H (m env) Q → t σ H Q
def TJ (X : Cx) (R : RE) (W : WX) (e : Expr) (m : TM) : Prop := ∃ t, PT X e t ∧ TSd R W t m
def WJ (X : Cx) (R : RE) (W : WX) (e : Expr) (m : TM) : Prop := ∃ t, PW X e t ∧ TSd R W t m

section
variable {X : Cx} {R : RE} {W : WX} {pos : Pos} {e a b c : Expr} {es rest : List Expr} {m ma mb mc : OM} {ms : AM} {ta tb : TM}
/-- an operand whose value is a bool, as a test -/
def tOf (m : OM) : TM := fun env => match m env with
  | .val r env1 => match r.get env1 with
    | some (.dat (.bl b)) => .val b env1
    | _ => .bad
  | .exc x env1 => .exc x env1
  | .bad => .bad
theorem ts_bool {t : TE} (h : OS R W t m) : TSd R W (fun σ H Q => t σ H fun x H' => ∃ k, x = .bl k ∧ Q k H') (tOf m) := by
  intro σ F H env Q er l p
  unfold tOf at p
  refine h σ F H env _ er l ?_
  cases e1 : m env with
  | bad => rw [e1] at p; exact p.elim
  | exc x env1 => rw [e1] at p; exact p
  | val r env1 =>
    rw [e1] at p
    intro v F1 H1 er1 rr d1 g1
    simp only at p
    cases e2 : r.get env1 with
    | none => simp only [e2] at p; exact p.elim
    | some lv =>
      have lr := (rr.get er1 e2).1
      cases lr with
      | dat rp =>
        cases rp with
        | bl k => simp only [e2] at p; exact ⟨k, rfl, p F1 H1 er1 (g1.weak fun a q => .inl q)⟩
        | _ => simp only [e2] at p; exact p.elim
      | _ => simp only [e2] at p; exact p.elim
theorem tj_cmp {op : CmpOp} {f : List LV → Option LV} (ho : OpJ X R (compareOp op) f) (ha : OJ X R W a ma) (hb : OJ X R W b mb) (hm : behindInMarks op b = false) : TJ X R W (.Compare a [op] [b] pos) (tOf (o2 ma mb f)) :=
  let ⟨r, h1, h2⟩ := ho; let ⟨ta, a1, a2⟩ := ha; let ⟨tb, b1, b2⟩ := hb; ⟨_, pt_cmpR h1 a1 b1 hm, ts_bool (os_op2 a2 b2 h2)⟩
/-- an expression whose value is a bool -/
theorem tj_val (h : OJ X R W e m) (he : ∀ whole, isTrue e X.env whole = (do let v ← whole; standAt e.pos; holding [v] (truthy v))) : TJ X R W e (tOf m) :=
  let ⟨t, h1, h2⟩ := h; ⟨_, pt_val h1 he, ts_bool h2⟩
/-- truth -/
def LV.truth : LV → Option Bool
  | .dat .non => some false
  | .dat (.bl b) => some b
  | .dat (.int i) => some (i != 0)
  | .dat (.str x) => if x.length ≤ sizeLine then some ((x.length : Int) != 0) else none
  | .dat (.lst ds) => some !ds.isEmpty
  | .dat (.tup ds) => some !ds.isEmpty
  | .ml ds => some !ds.isEmpty
  | .md kvs => some !kvs.isEmpty
  | _ => none
def tTru (m : OM) : TM := fun env => match m env with
  | .val r env1 => match r.get env1 with
    | some lv => match lv.truth with
      | some b => .val b env1
      | none => .bad
    | none => .bad
  | .exc x env1 => .exc x env1
  | .bad => .bad
theorem RepL.empty {F : Hp} {ds : List D} {vs : List V} (r : RepL R F ds vs) : ds.isEmpty = vs.isEmpty := by cases r <;> rfl
theorem truth_of {F H : Hp} {lv : LV} {v : V} {k : Bool} (l : Le F H) (r : LRel R F H lv v) (h : lv.truth = some k) : TruV R.K v H k := by
  cases r with
  | dat r =>
    cases r with
    | non => cases h; rfl
    | bl b => cases h; rfl
    | int i => cases h; rfl
    | str x =>
      unfold LV.truth at h
      simp only at h
      split at h
      · cases h; exact ⟨by assumption, rfl⟩
      · cases h
    | tup q rs => cases h; exact .inr (.inl ⟨_, .inl (.inl (l.tupE q)), by rw [rs.empty]⟩)
    | lst q rs => cases h; exact .inl ⟨_, .inl (.inl (l.lstE q)), by rw [rs.empty]⟩
    | _ => cases h
  | ml f q rs => cases h; exact .inl ⟨_, .inl (.inl q), by rw [rs.empty]⟩
  | md f q k rs =>
    cases h
    refine .inr (.inr ⟨_, q, ?_⟩)
    have e := congrArg List.isEmpty k
    simp only [List.isEmpty_map] at e
    rw [e]
  | _ => cases h
theorem tj_truth (hK : R.K = X.K) (h : OJ X R W e m) (he : ∀ whole, isTrue e X.env whole = (do let v ← whole; standAt e.pos; holding [v] (truthy v))) : TJ X R W e (tTru m) := by
  obtain ⟨t, h1, h2⟩ := h
  refine ⟨_, pt_truth h1 he, fun σ F H env Q er l p => ?_⟩
  unfold tTru at p
  refine h2 σ F H env _ er l ?_
  cases e1 : m env with
  | bad => rw [e1] at p; exact p.elim
  | exc x env1 => rw [e1] at p; exact p
  | val r env1 =>
    rw [e1] at p
    intro v F1 H1 er1 rr d1 g1
    simp only at p
    cases e2 : r.get env1 with
    | none => simp only [e2] at p; exact p.elim
    | some lv =>
      simp only [e2] at p
      cases e3 : lv.truth with
      | none => simp only [e3] at p; exact p.elim
      | some k =>
        simp only [e3] at p
        exact ⟨k, by rw [← hK]; exact truth_of g1.sub (rr.get er1 e2).1 e3, p F1 H1 er1 (g1.weak fun a q => .inl q)⟩

def tmAnd (ta tb : TM) : TM := fun env => match ta env with
  | .val true env1 => tb env1
  | .val false env1 => .val false env1
  | .exc x env1 => .exc x env1
  | .bad => .bad
def tmOr (ta tb : TM) : TM := fun env => match ta env with
  | .val false env1 => tb env1
  | .val true env1 => .val true env1
  | .exc x env1 => .exc x env1
  | .bad => .bad
def tmNot (ta : TM) : TM := fun env => match ta env with
  | .val b env1 => .val (!b) env1
  | .exc x env1 => .exc x env1
  | .bad => .bad
/-- the rest runs from a grown heap -/
theorem TPost.after {O : Addr → Prop} {σ : L2.St} {F H F1 H1 : Hp} {env1 : LEnv} {r : TR} {Q : Bool → Hp → Prop} (l : Le F H) (g : Gr O F H (Own env1 σ) F1 H1) (p : TPost R W O σ F H r Q) : TPost R W (Own env1 σ) σ F1 H1 r Q := by
  cases r with
  | bad => exact p
  | exc x env' => exact fun cls d F' H' er xr g' => p cls d F' H' er xr (g.trans l g')
  | val b env' => exact fun F' H' er g' => p F' H' er (g.trans l g')
theorem OPost.after {O : Addr → Prop} {σ : L2.St} {F H F1 H1 : Hp} {env1 : LEnv} {r : OR} {Q : VK} (l : Le F H) (g : Gr O F H (Own env1 σ) F1 H1) (p : OPost R W O σ F H r Q) : OPost R W (Own env1 σ) σ F1 H1 r Q := by
  cases r with
  | bad => exact p
  | exc x env' => exact fun cls d F' H' er xr g' => p cls d F' H' er xr (g.trans l g')
  | val rf env' => exact fun v F' H' er rr d g' => p v F' H' er rr d (g.trans l g')
theorem ts_and {t u : TT} (ha : TSd R W t ta) (hb : TSd R W u tb) : TSd R W (tAnd t u) (tmAnd ta tb) := by
  intro σ F H env Q er l p
  unfold tmAnd at p
  refine ha σ F H env _ er l ?_
  cases e1 : ta env with
  | bad => rw [e1] at p; exact p.elim
  | exc x env1 => rw [e1] at p; exact p
  | val k env1 =>
    rw [e1] at p
    intro F1 H1 er1 g1
    cases k with
    | true => rw [if_pos rfl]; exact hb σ F1 H1 env1 Q er1 g1.sub (TPost.after l g1 p)
    | false => rw [if_neg Bool.false_ne_true]; exact p F1 H1 er1 g1
theorem ts_or {t u : TT} (ha : TSd R W t ta) (hb : TSd R W u tb) : TSd R W (tOr t u) (tmOr ta tb) := by
  intro σ F H env Q er l p
  unfold tmOr at p
  refine ha σ F H env _ er l ?_
  cases e1 : ta env with
  | bad => rw [e1] at p; exact p.elim
  | exc x env1 => rw [e1] at p; exact p
  | val k env1 =>
    rw [e1] at p
    intro F1 H1 er1 g1
    cases k with
    | false => rw [if_neg Bool.false_ne_true]; exact hb σ F1 H1 env1 Q er1 g1.sub (TPost.after l g1 p)
    | true => rw [if_pos rfl]; exact p F1 H1 er1 g1
theorem ts_not {t : TT} (ha : TSd R W t ta) : TSd R W (tNot t) (tmNot ta) := by
  intro σ F H env Q er l p
  unfold tmNot at p
  refine ha σ F H env _ er l ?_
  cases e1 : ta env with
  | bad => rw [e1] at p; exact p.elim
  | exc x env1 => rw [e1] at p; exact p
  | val k env1 => rw [e1] at p; exact p
theorem wj_and1 (ha : TJ X R W a ta) : WJ X R W (.BoolOp .And [a] pos) ta := let ⟨t, h1, h2⟩ := ha; ⟨t, pw_and1 h1, h2⟩
theorem wj_or1 (ha : TJ X R W a ta) : WJ X R W (.BoolOp .Or [a] pos) ta := let ⟨t, h1, h2⟩ := ha; ⟨t, pw_or1 h1, h2⟩
theorem wj_and (ha : TJ X R W a ta) (hb : WJ X R W (.BoolOp .And (b :: rest) pos) tb) : WJ X R W (.BoolOp .And (a :: b :: rest) pos) (tmAnd ta tb) :=
  let ⟨t, h1, h2⟩ := ha; let ⟨u, k1, k2⟩ := hb; ⟨_, pw_and h1 k1, ts_and h2 k2⟩
theorem wj_or (ha : TJ X R W a ta) (hb : WJ X R W (.BoolOp .Or (b :: rest) pos) tb) : WJ X R W (.BoolOp .Or (a :: b :: rest) pos) (tmOr ta tb) :=
  let ⟨t, h1, h2⟩ := ha; let ⟨u, k1, k2⟩ := hb; ⟨_, pw_or h1 k1, ts_or h2 k2⟩
theorem tj_w (h : WJ X R W e ta) : TJ X R W e ta := let ⟨t, h1, h2⟩ := h; ⟨t, h1.pt, h2⟩
theorem tj_not (ha : TJ X R W a ta) : TJ X R W (.UnaryOp .Not a pos) (tmNot ta) := let ⟨t, h1, h2⟩ := ha; ⟨_, pt_not h1, ts_not h2⟩

/-- bools as values: x and y, x or y, not x -/
def oBool (t : TM) : OM := fun env => match t env with
  | .val b env1 => .val (.tmp (.dat (.bl b))) env1
  | .exc x env1 => .exc x env1
  | .bad => .bad
def oAnd (ma mb : OM) : OM := fun env => match tOf ma env with
  | .val true env1 => mb env1
  | .val false env1 => .val (.tmp (.dat (.bl false))) env1
  | .exc x env1 => .exc x env1
  | .bad => .bad
def oOr (ma mb : OM) : OM := fun env => match tOf ma env with
  | .val false env1 => mb env1
  | .val true env1 => .val (.tmp (.dat (.bl true))) env1
  | .exc x env1 => .exc x env1
  | .bad => .bad
theorem Gr.tmpd {O : Addr → Prop} {F H F' H' : Hp} {env' : LEnv} {σ : L2.St} {d : D} {v : V} (g : Gr O F H (Own env' σ) F' H') : Gr O F H (fun a => Own env' σ a ∨ RfO (.tmp (.dat d)) v a) F' H' := g.weak fun a q => q.elim id fun z => by cases z.1
theorem os_and {t u : TE} (ha : OS R W t ma) (hb : OS R W u mb) : OS R W (tAndV t u) (oAnd ma mb) := by
  intro σ F H env Q er l p
  unfold oAnd at p
  refine ts_bool ha σ F H env (fun c H1 => if c = true then u σ H1 Q else Q (.bl false) H1) er l ?_
  cases e1 : tOf ma env with
  | bad => rw [e1] at p; exact p.elim
  | exc x env1 => rw [e1] at p; exact p
  | val k env1 =>
    rw [e1] at p
    intro F1 H1 er1 g1
    cases k with
    | true => rw [if_pos rfl]; exact hb σ F1 H1 env1 Q er1 g1.sub (OPost.after l g1 p)
    | false => rw [if_neg Bool.false_ne_true]; exact p _ F1 H1 er1 ⟨by simp, .dat (.bl false)⟩ (fun _ o => by cases o.1) g1.tmpd
theorem os_or {t u : TE} (ha : OS R W t ma) (hb : OS R W u mb) : OS R W (tOrV t u) (oOr ma mb) := by
  intro σ F H env Q er l p
  unfold oOr at p
  refine ts_bool ha σ F H env (fun c H1 => if c = true then Q (.bl true) H1 else u σ H1 Q) er l ?_
  cases e1 : tOf ma env with
  | bad => rw [e1] at p; exact p.elim
  | exc x env1 => rw [e1] at p; exact p
  | val k env1 =>
    rw [e1] at p
    intro F1 H1 er1 g1
    cases k with
    | false => rw [if_neg Bool.false_ne_true]; exact hb σ F1 H1 env1 Q er1 g1.sub (OPost.after l g1 p)
    | true => rw [if_pos rfl]; exact p _ F1 H1 er1 ⟨by simp, .dat (.bl true)⟩ (fun _ o => by cases o.1) g1.tmpd
theorem oj_one {op} (h : OJ X R W a m) : OJ X R W (.BoolOp op [a] pos) m := let ⟨t, h1, h2⟩ := h; ⟨t, pe_one h1, h2⟩
theorem oj_and (ha : OJ X R W a ma) (hb : OJ X R W (.BoolOp .And (b :: rest) pos) mb) : OJ X R W (.BoolOp .And (a :: b :: rest) pos) (oAnd ma mb) :=
  let ⟨t, h1, h2⟩ := ha; let ⟨u, k1, k2⟩ := hb; ⟨_, pe_and h1 k1, os_and h2 k2⟩
theorem oj_or (ha : OJ X R W a ma) (hb : OJ X R W (.BoolOp .Or (b :: rest) pos) mb) : OJ X R W (.BoolOp .Or (a :: b :: rest) pos) (oOr ma mb) :=
  let ⟨t, h1, h2⟩ := ha; let ⟨u, k1, k2⟩ := hb; ⟨_, pe_or h1 k1, os_or h2 k2⟩
def oNot (m : OM) : OM := oBool (tmNot (tOf m))
theorem oj_not (ha : OJ X R W a m) : OJ X R W (.UnaryOp .Not a pos) (oNot m) := by
  obtain ⟨t, h1, h2⟩ := ha
  refine ⟨_, pe_not h1, fun σ F H env Q er l p => ?_⟩
  unfold oNot oBool tmNot at p
  refine ts_bool h2 σ F H env (fun c H1 => Q (.bl (!c)) H1) er l ?_
  cases e1 : tOf m env with
  | bad => rw [e1] at p; exact p.elim
  | exc x env1 => rw [e1] at p; exact p
  | val k env1 =>
    rw [e1] at p
    intro F1 H1 er1 g1
    exact p _ F1 H1 er1 ⟨by simp, .dat (.bl _)⟩ (fun _ o => by cases o.1) g1.tmpd
/-- a if c else b -/
def oIf (t : TM) (ma mb : OM) : OM := fun env => match t env with
  | .val true env1 => ma env1
  | .val false env1 => mb env1
  | .exc x env1 => .exc x env1
  | .bad => .bad
theorem oj_if {t : TM} (hc : TJ X R W c t) (ha : OJ X R W a ma) (hb : OJ X R W b mb) : OJ X R W (.IfExp c a b pos) (oIf t ma mb) := by
  obtain ⟨tc, c1, c2⟩ := hc
  obtain ⟨ua, a1, a2⟩ := ha
  obtain ⟨ub, b1, b2⟩ := hb
  refine ⟨_, pe_ifExp c1 a1 b1, fun σ F H env Q er l p => ?_⟩
  unfold oIf at p
  refine c2 σ F H env _ er l ?_
  cases e1 : t env with
  | bad => rw [e1] at p; exact p.elim
  | exc x env1 => rw [e1] at p; exact p
  | val k env1 =>
    rw [e1] at p
    intro F1 H1 er1 g1
    cases k with
    | true => rw [if_pos rfl]; exact a2 σ F1 H1 env1 Q er1 g1.sub (OPost.after l g1 p)
    | false => rw [if_neg Bool.false_ne_true]; exact b2 σ F1 H1 env1 Q er1 g1.sub (OPost.after l g1 p)

/-- a op1 b op2 c: the first two, then with the middle one the third; the middle is a temporary or a variable that stays -/
def oChain (ma mb mc : OM) (f g : List LV → Option LV) : OM := fun env => match aCons ma (aCons mb aNil) env with
  | .val [ra, rb] env1 => match ra.get env1, rb.get env1 with
    | some la, some lb => match f [la, lb] with
      | some (.dat (.bl true)) => match mc env1 with
        | .val rc env2 => match rb.get env2, rc.get env2 with
          | some lb2, some lc => match g [lb2, lc] with
            | some (.dat (.bl k)) => .val (.tmp (.dat (.bl k))) env2
            | _ => .bad
          | _, _ => .bad
        | .exc x env2 => .exc x env2
        | .bad => .bad
      | some (.dat (.bl false)) => .val (.tmp (.dat (.bl false))) env1
      | _ => .bad
    | _, _ => .bad
  | .val _ _ => .bad
  | .exc x env1 => .exc x env1
  | .bad => .bad
/-- r computes a truth value f, nothing is made -/
def RB (R : RE) (r : R2) (f : List LV → Option LV) : Prop := ∀ F H x y lx ly k Q, Le F H → LRel R F H lx x → LRel R F H ly y → f [lx, ly] = some (.dat (.bl k)) → Q (.bl k) H → r x y H Q
theorem os_chain {r r' : R2} {ua ub uc : TE} {f g : List LV → Option LV} (ha : OS R W ua ma) (hb : OS R W ub mb) (hc : OS R W uc mc) (hr : RB R r f) (hr' : RB R r' g) :
    OS R W (tChain r r' ua ub uc) (oChain ma mb mc f g) := by
  intro σ F H env Q er l p
  unfold oChain at p
  refine as_cons ha (as_cons hb (as_nil (W := W))) σ F H env (fun vs H2 => match vs with
    | [x, y] => r x y H2 fun z H3 => ∃ k, z = .bl k ∧ (if k = true then uc σ H3 fun w' H4 => r' y w' H4 Q else Q (.bl false) H3)
    | _ => False) er l ?_
  cases e1 : aCons ma (aCons mb aNil) env with
  | bad => rw [e1] at p; exact p.elim
  | exc x env1 => rw [e1] at p; exact p
  | val rs env1 =>
    rw [e1] at p
    intro vs F1 H1 er1 rr d1 dd1 g1
    match rs, vs, rr, p, d1, dd1, g1 with
    | [ra, rb], [x, y], .cons qa (.cons qb .nil), p, d1, dd1, g1 =>
      simp only at p ⊢
      have gw : Gr (Own env σ) F H (Own env1 σ) F1 H1 := g1.weak fun a q => .inl q
      cases ea : ra.get env1 with
      | none => simp only [ea] at p; exact p.elim
      | some la =>
        cases eb : rb.get env1 with
        | none => simp only [ea, eb] at p; exact p.elim
        | some lb =>
          simp only [ea, eb] at p
          have ka := (qa.get er1 ea).1
          have kb := (qb.get er1 eb).1
          cases ef : f [la, lb] with
          | none => simp only [ef] at p; exact p.elim
          | some z =>
            match z, ef, p with
            | .dat (.bl true), ef, p =>
              refine hr F1 H1 x y la lb true _ g1.sub ka kb ef ⟨true, rfl, ?_⟩
              rw [if_pos rfl]
              simp only [ef] at p
              refine hc σ F1 H1 env1 _ er1 g1.sub ?_
              cases ec : mc env1 with
              | bad => simp only [ec] at p; exact p.elim
              | exc x' env2 =>
                simp only [ec] at p
                exact fun cls d F' H' er xr g' => p cls d F' H' er xr (gw.trans l g')
              | val rc env2 =>
                simp only [ec] at p
                intro v F2 H2 er2 qc d2 g2
                have qb2 : RfR R F2 H2 σ rb y := qb.gr g2 fun a o => d1 a ⟨1, rb, y, rfl, rfl, o⟩
                cases eb2 : rb.get env2 with
                | none => simp only [eb2] at p; exact p.elim
                | some lb2 =>
                  cases ec2 : rc.get env2 with
                  | none => simp only [eb2, ec2] at p; exact p.elim
                  | some lc =>
                    simp only [eb2, ec2] at p
                    cases eg : g [lb2, lc] with
                    | none => simp only [eg] at p; exact p.elim
                    | some z2 =>
                      match z2, eg, p with
                      | .dat (.bl k), eg, p =>
                        simp only [eg] at p
                        refine hr' F2 H2 y v lb2 lc k Q g2.sub (qb2.get er2 eb2).1 (qc.get er2 ec2).1 eg ?_
                        exact p _ F2 H2 er2 ⟨by simp, .dat (.bl k)⟩ (fun _ o => by cases o.1) (gw.trans l (g2.weak fun a q => .inl q)).tmpd
                      | .un, eg, p => simp only [eg] at p; exact p.elim
                      | .ml _, eg, p => simp only [eg] at p; exact p.elim
                      | .md _, eg, p => simp only [eg] at p; exact p.elim
                      | .mt _, eg, p => simp only [eg] at p; exact p.elim
                      | .mi _ _, eg, p => simp only [eg] at p; exact p.elim
                      | .dat .non, eg, p => simp only [eg] at p; exact p.elim
                      | .dat (.int _), eg, p => simp only [eg] at p; exact p.elim
                      | .dat (.str _), eg, p => simp only [eg] at p; exact p.elim
                      | .dat (.tup _), eg, p => simp only [eg] at p; exact p.elim
                      | .dat (.lst _), eg, p => simp only [eg] at p; exact p.elim
                      | .dat (.dic _), eg, p => simp only [eg] at p; exact p.elim
                      | .dat (.dit _), eg, p => simp only [eg] at p; exact p.elim
                      | .dat (.ins _ _), eg, p => simp only [eg] at p; exact p.elim
                      | .dat (.cst _), eg, p => simp only [eg] at p; exact p.elim
                      | .dat .opq, eg, p => simp only [eg] at p; exact p.elim
                      | .dat (.slst _), eg, p => simp only [eg] at p; exact p.elim
            | .dat (.bl false), ef, p =>
              refine hr F1 H1 x y la lb false _ g1.sub ka kb ef ⟨false, rfl, ?_⟩
              rw [if_neg Bool.false_ne_true]
              simp only [ef] at p
              exact p _ F1 H1 er1 ⟨by simp, .dat (.bl false)⟩ (fun _ o => by cases o.1) gw.tmpd
            | .un, ef, p => simp only [ef] at p; exact p.elim
            | .ml _, ef, p => simp only [ef] at p; exact p.elim
            | .md _, ef, p => simp only [ef] at p; exact p.elim
            | .mt _, ef, p => simp only [ef] at p; exact p.elim
            | .mi _ _, ef, p => simp only [ef] at p; exact p.elim
            | .dat .non, ef, p => simp only [ef] at p; exact p.elim
            | .dat (.int _), ef, p => simp only [ef] at p; exact p.elim
            | .dat (.str _), ef, p => simp only [ef] at p; exact p.elim
            | .dat (.tup _), ef, p => simp only [ef] at p; exact p.elim
            | .dat (.lst _), ef, p => simp only [ef] at p; exact p.elim
            | .dat (.dic _), ef, p => simp only [ef] at p; exact p.elim
            | .dat (.dit _), ef, p => simp only [ef] at p; exact p.elim
            | .dat (.ins _ _), ef, p => simp only [ef] at p; exact p.elim
            | .dat (.cst _), ef, p => simp only [ef] at p; exact p.elim
            | .dat .opq, ef, p => simp only [ef] at p; exact p.elim
            | .dat (.slst _), ef, p => simp only [ef] at p; exact p.elim
    | [], _, _, p, _, _, _ => exact p.elim
    | [_], _, _, p, _, _, _ => exact p.elim
    | _ :: _ :: _ :: _, _, _, p, _, _, _ => exact p.elim
def CmJ (X : Cx) (R : RE) (op : CmpOp) (f : List LV → Option LV) : Prop := ∃ r, OpR X (compareOp op) r ∧ RB R r f
theorem oj_chain {op op' : CmpOp} {f g : List LV → Option LV} (h1 : CmJ X R op f) (h2 : CmJ X R op' g) (ha : OJ X R W a ma) (hb : OJ X R W b mb) (hc : OJ X R W c mc) (hm : lastMarks [op, op'] [b, c] = false) :
    OJ X R W (.Compare a [op, op'] [b, c] pos) (oChain ma mb mc f g) := by
  obtain ⟨r, q1, q2⟩ := h1; obtain ⟨r', q3, q4⟩ := h2; obtain ⟨ua, a1, a2⟩ := ha; obtain ⟨ub, b1, b2⟩ := hb; obtain ⟨uc, c1, c2⟩ := hc
  exact ⟨_, pe_chain q1 q3 a1 b1 c1 hm, os_chain a2 b2 c2 q2 q4⟩
theorem tj_chain {op op' : CmpOp} {f g : List LV → Option LV} (h1 : CmJ X R op f) (h2 : CmJ X R op' g) (ha : OJ X R W a ma) (hb : OJ X R W b mb) (hc : OJ X R W c mc) (hm : lastMarks [op, op'] [b, c] = false) :
    TJ X R W (.Compare a [op, op'] [b, c] pos) (tOf (oChain ma mb mc f g)) := by
  obtain ⟨r, q1, q2⟩ := h1; obtain ⟨r', q3, q4⟩ := h2; obtain ⟨ua, a1, a2⟩ := ha; obtain ⟨ub, b1, b2⟩ := hb; obtain ⟨uc, c1, c2⟩ := hc
  exact ⟨_, pt_chain q1 q3 a1 b1 c1 hm, ts_bool (os_chain a2 b2 c2 q2 q4)⟩
end
end PL
set_option maxRecDepth 100000
set_option maxHeartbeats 4000000
/-! Statements: blocks, names stored, tests, loops. -/
namespace PL
open PySem L2 PyProof.Rows

inductive SR where
  | nx (env : LEnv)
  | rt (lv : LV) (env : LEnv)
  | bk (env : LEnv)
  | ct (env : LEnv)
  | exc (x : Xc) (env : LEnv)
  | bad
abbrev SM := LEnv → SR
/-- the slots that are never stored keep their values -/
def Fix (P : List Nat) (σ σ' : L2.St) : Prop := ∀ i ∈ P, σ'[i]? = σ[i]?
theorem Fix.refl {P : List Nat} {σ : L2.St} : Fix P σ σ := fun _ _ => rfl
theorem Fix.trans {P : List Nat} {σ σ1 σ2 : L2.St} (h : Fix P σ σ1) (k : Fix P σ1 σ2) : Fix P σ σ2 := fun i q => (k i q).trans (h i q)
structure At (R : RE) (P : List Nat) (O : Addr → Prop) (σ : L2.St) (F H : Hp) (env' : LEnv) (σ' : L2.St) (F' H' : Hp) : Prop where
  er : ER R F' H' σ' env'
  gr : Gr O F H (Own env' σ') F' H'
  fx : Fix P σ σ'
def SPost (R : RE) (W : WX) (P : List Nat) (O : Addr → Prop) (σ : L2.St) (F H : Hp) (r : SR) (D : Ends) : Prop :=
  match r with
  | .nx env' => ∀ σ' F' H', At R P O σ F H env' σ' F' H' → D.nx σ' H'
  | .bk env' => ∀ σ' F' H', At R P O σ F H env' σ' F' H' → D.bk σ' H'
  | .ct env' => ∀ σ' F' H', At R P O σ F H env' σ' F' H' → D.ct σ' H'
  | .rt lv env' => ∀ v σ' F' H', ER R F' H' σ' env' → lv ≠ .un → LRel R F' H' lv v → (∀ a, Owns lv v a → ¬ Own env' σ' a) → Gr O F H (fun a => Own env' σ' a ∨ Owns lv v a) F' H' → Fix P σ σ' → D.rt v H'
  | .exc x env' => ∀ cls d σ' F' H', ER R F' H' σ' env' → XR R F' H' x cls d → Gr O F H (Own env' σ') F' H' → Fix P σ σ' → W cls d σ' H'
  | .bad => False
def SSd (R : RE) (W : WX) (P : List Nat) (t : TS) (m : SM) : Prop := ∀ σ F H env D, ER R F H σ env → Le F H → SPost R W P (Own env σ) σ F H (m env) D → t D σ H
def SJ (X : Cx) (R : RE) (W : WX) (P : List Nat) (s : Stmt) (m : SM) : Prop := ∃ t, PS X s t ∧ SSd R W P t m
def BJ (X : Cx) (R : RE) (W : WX) (P : List Nat) (s : List Stmt) (m : SM) : Prop := ∃ t, PSs X s t ∧ SSd R W P t m

section
variable {X : Cx} {R : RE} {W : WX} {P : List Nat} {pos : Pos} {e a b c : Expr} {es rest : List Expr} {m ma mb mc : OM} {ms : AM} {ta tb : TM} {s : Stmt} {ss : List Stmt} {n n1 n2 : SM}
variable {O : Addr → Prop} {σ σ1 : L2.St} {F H F1 H1 : Hp} {env env1 : LEnv}
theorem At.refl (er : ER R F H σ env) (l : Le F H) : At R P (Own env σ) σ F H env σ F H := ⟨er, .refl l, .refl⟩
/-- the rest runs from a later state -/
theorem SPost.after {r : SR} {D : Ends} (l : Le F H) (g : Gr O F H (Own env1 σ1) F1 H1) (f : Fix P σ σ1) (p : SPost R W P O σ F H r D) : SPost R W P (Own env1 σ1) σ1 F1 H1 r D := by
  cases r with
  | bad => exact p
  | nx env' => exact fun σ' F' H' q => p σ' F' H' ⟨q.er, g.trans l q.gr, f.trans q.fx⟩
  | bk env' => exact fun σ' F' H' q => p σ' F' H' ⟨q.er, g.trans l q.gr, f.trans q.fx⟩
  | ct env' => exact fun σ' F' H' q => p σ' F' H' ⟨q.er, g.trans l q.gr, f.trans q.fx⟩
  | rt lv env' => exact fun v σ' F' H' er ne lr d g' f' => p v σ' F' H' er ne lr d (g.trans l g') (f.trans f')
  | exc x env' => exact fun cls d σ' F' H' er xr g' f' => p cls d σ' F' H' er xr (g.trans l g') (f.trans f')
theorem SPost.imp {r : SR} {D D' : Ends} (p : SPost R W P O σ F H r D) (h1 : ∀ σ' H', D.nx σ' H' → D'.nx σ' H') (h2 : ∀ v H', D.rt v H' → D'.rt v H') (h3 : ∀ σ' H', D.bk σ' H' → D'.bk σ' H') (h4 : ∀ σ' H', D.ct σ' H' → D'.ct σ' H') : SPost R W P O σ F H r D' := by
  cases r with
  | bad => exact p
  | nx env' => exact fun σ' F' H' q => h1 _ _ (p σ' F' H' q)
  | bk env' => exact fun σ' F' H' q => h3 _ _ (p σ' F' H' q)
  | ct env' => exact fun σ' F' H' q => h4 _ _ (p σ' F' H' q)
  | rt lv env' => exact fun v σ' F' H' er ne lr d g' f' => h2 _ _ (p v σ' F' H' er ne lr d g' f')
  | exc x env' => exact p
theorem XPost.stm {x : Xc} {env' : LEnv} {D : Ends} (p : SPost R W P O σ F H (.exc x env') D) : XPost R W O σ F H x env' := fun cls d F' H' er xr g => p cls d σ F' H' er xr g .refl

/-! ### blocks -/
def sNil : SM := fun env => .nx env
def sSeq (n1 n2 : SM) : SM := fun env => match n1 env with
  | .nx env1 => n2 env1
  | r => r
theorem bj_nil : BJ X R W P [] sNil := ⟨_, pss_nil, fun σ F H env D er l p => p σ F H (.refl er l)⟩
theorem ss_seq {t u : TS} (h1 : SSd R W P t n1) (h2 : SSd R W P u n2) : SSd R W P (tSeq t u) (sSeq n1 n2) := by
  intro σ F H env D er l p
  unfold sSeq at p
  refine h1 σ F H env { D with nx := u D } er l ?_
  cases e1 : n1 env with
  | bad => rw [e1] at p; exact p.elim
  | nx env1 =>
    rw [e1] at p
    exact fun σ1 F1 H1 q => h2 σ1 F1 H1 env1 D q.er q.gr.sub (SPost.after l q.gr q.fx p)
  | bk env1 => rw [e1] at p; exact p
  | ct env1 => rw [e1] at p; exact p
  | rt lv env1 => rw [e1] at p; exact p
  | exc x env1 => rw [e1] at p; exact p
theorem bj_cons (h1 : SJ X R W P s n1) (h2 : BJ X R W P ss n2) : BJ X R W P (s :: ss) (sSeq n1 n2) :=
  let ⟨t, a1, a2⟩ := h1; let ⟨u, b1, b2⟩ := h2; ⟨_, pss_cons a1 b1, ss_seq a2 b2⟩
theorem bj_one (h1 : SJ X R W P s n1) : BJ X R W P [s] n1 := let ⟨t, a1, a2⟩ := h1; ⟨_, pss_one a1, a2⟩
theorem sj_pass : SJ X R W P (.Pass pos) sNil := ⟨_, ps_pass, fun σ F H env D er l p => p σ F H (.refl er l)⟩
def sBrk : SM := fun env => .bk env
def sCnt : SM := fun env => .ct env
theorem sj_brk : SJ X R W P (.Break pos) sBrk := ⟨_, ps_break, fun σ F H env D er l p => p σ F H (.refl er l)⟩
theorem sj_cnt : SJ X R W P (.Continue pos) sCnt := ⟨_, ps_continue, fun σ F H env D er l p => p σ F H (.refl er l)⟩
/-- an expression, its value dropped -/
def sExpr (m : OM) : SM := fun env => match m env with
  | .val _ env1 => .nx env1
  | .exc x env1 => .exc x env1
  | .bad => .bad
theorem sj_expr (h : OJ X R W e m) (hs : swapsWith e none pos.line X.env = pure false := by rfl) : SJ X R W P (.Expr e pos) (sExpr m) := by
  obtain ⟨t, h1, h2⟩ := h
  refine ⟨_, ps_expr h1 hs, fun σ F H env D er l p => ?_⟩
  unfold sExpr at p
  refine h2 σ F H env _ er l ?_
  cases e1 : m env with
  | bad => rw [e1] at p; exact p.elim
  | exc x env1 => rw [e1] at p; exact XPost.stm p
  | val r env1 => rw [e1] at p; exact fun v F1 H1 er1 rr d g => p σ F1 H1 ⟨er1, g.weak fun a q => .inl q, .refl⟩
/-- return e (e no owned name: freeze it, or sRetV) -/
def sRet (m : OM) : SM := fun env => match m env with
  | .val (.tmp lv) env1 => .rt lv env1
  | .val (.var _) _ => .bad
  | .exc x env1 => .exc x env1
  | .bad => .bad
theorem sj_ret (h : OJ X R W e m) : SJ X R W P (.Return (some e) pos) (sRet m) := by
  obtain ⟨t, h1, h2⟩ := h
  refine ⟨_, ps_ret h1, fun σ F H env D er l p => ?_⟩
  unfold sRet at p
  refine h2 σ F H env _ er l ?_
  cases e1 : m env with
  | bad => rw [e1] at p; exact p.elim
  | exc x env1 => rw [e1] at p; exact XPost.stm p
  | val r env1 =>
    rw [e1] at p
    cases r with
    | tmp lv => exact fun v F1 H1 er1 rr d g => p v σ F1 H1 er1 rr.1 rr.2 d g .refl
    | var i => exact p.elim
def sRetN : SM := fun env => .rt (.dat .non) env
theorem sj_retN : SJ X R W P (.Return none pos) sRetN := ⟨_, ps_retN, fun σ F H env D er l p => p .non σ F H er (by simp) (.dat .non) (fun _ o => by cases o.1) ((Gr.refl l).weak fun a q => q.elim id fun z => by cases z.1) .refl⟩
/-- an owned local is handed out: it is no more the frame's -/
theorem ER.drop {i : Nat} (er : ER R F H σ env) : ER R F H σ (env.set i .un) := by
  have z : ∀ {j : Nat} {lv' : LV}, (env.set i .un)[j]? = some lv' → lv' ≠ .un → env[j]? = some lv' := fun {j lv'} h o => by
    by_cases e : j = i
    · subst e
      rw [List.getElem?_set] at h
      split at h
      · split at h
        · cases h; exact absurd rfl o
        · cases h
      · exact absurd rfl (by assumption)
    · rw [List.getElem?_set_ne (Ne.symm e)] at h; exact h
  refine ⟨by rw [List.length_set]; exact er.len, fun j lv' h n => er.rel j lv' (z h n) n, fun j k lv1 lv2 b h1 h2 o1 o2 s1 s2 => ?_⟩
  exact er.dis j k lv1 lv2 b (z h1 (by rintro rfl; cases o1)) (z h2 (by rintro rfl; cases o2)) o1 o2 s1 s2
theorem own_drop {i : Nat} {x : Addr} (o : Own (env.set i .un) σ x) : ∃ j lv, j ≠ i ∧ env[j]? = some lv ∧ lv.isOwn = true ∧ σ[j]? = some (some (.ref x)) := by
  obtain ⟨j, lv, h1, h2, h3⟩ := o
  by_cases e : j = i
  · subst e
    rw [List.getElem?_set] at h1
    split at h1
    · split at h1
      · cases h1; cases h2
      · cases h1
    · exact absurd rfl (by assumption)
  · rw [List.getElem?_set_ne (Ne.symm e)] at h1
    exact ⟨j, lv, e, h1, h2, h3⟩
def oMove (m : OM) : OM := fun env => match m env with
  | .val (.tmp lv) env1 => .val (.tmp lv) env1
  | .val (.var i) env1 => match env1[i]? with
    | some lv => if lv.ok then .val (.tmp lv) (env1.set i .un) else .bad
    | none => .bad
  | .exc x env1 => .exc x env1
  | .bad => .bad
theorem os_move {t : TE} (h : OS R W t m) : OS R W t (oMove m) := by
  intro σ F H env Q er l p
  unfold oMove at p
  refine h σ F H env Q er l ?_
  cases e1 : m env with
  | bad => rw [e1] at p; exact p.elim
  | exc x env1 => rw [e1] at p; exact p
  | val r env1 =>
    rw [e1] at p
    cases r with
    | tmp lv => exact p
    | var i =>
      simp only at p
      intro v F1 H1 er1 rr d1 g1
      cases e2 : env1[i]? with
      | none => simp only [e2] at p; exact p.elim
      | some lv =>
        simp only [e2] at p
        cases e3 : lv.ok with
        | false => simp [e3] at p; exact p.elim
        | true =>
          simp only [e3, if_true] at p
          obtain ⟨v', q1, q2⟩ := er1.rel i lv e2 (ok_ne e3)
          have rr' : σ[i]? = some (some v) := rr
          rw [q1] at rr'; cases rr'
          refine p v F1 H1 er1.drop ⟨ok_ne e3, q2⟩ (fun x o q => ?_) ?_
          · obtain ⟨j, lv', ne, h1, h2, h3⟩ := own_drop q
            exact ne (er1.dis j i lv' lv x h1 e2 h2 o.1 h3 (by rw [q1, o.2]))
          · refine g1.weak fun x q => .inl ?_
            rcases q with q | q
            · obtain ⟨j, lv', ne, h1, h2, h3⟩ := own_drop q
              exact ⟨j, lv', h1, h2, h3⟩
            · exact ⟨i, lv, e2, q.1, by rw [q1, q.2]⟩
theorem oj_move (h : OJ X R W e m) : OJ X R W e (oMove m) := let ⟨t, h1, h2⟩ := h; ⟨t, h1, os_move h2⟩

/-! ### if -/
def sIf (t : TM) (n1 n2 : SM) : SM := fun env => match t env with
  | .val true env1 => n1 env1
  | .val false env1 => n2 env1
  | .exc x env1 => .exc x env1
  | .bad => .bad
theorem sj_if {t : TM} {sa sb : List Stmt} (hc : TJ X R W c t) (ha : BJ X R W P sa n1) (hb : BJ X R W P sb n2) : SJ X R W P (.If c sa sb pos) (sIf t n1 n2) := by
  obtain ⟨tc, c1, c2⟩ := hc
  obtain ⟨ua, a1, a2⟩ := ha
  obtain ⟨ub, b1, b2⟩ := hb
  refine ⟨_, ps_if c1 a1 b1, fun σ F H env D er l p => ?_⟩
  unfold sIf at p
  refine c2 σ F H env _ er l ?_
  cases e1 : t env with
  | bad => rw [e1] at p; exact p.elim
  | exc x env1 => rw [e1] at p; exact XPost.stm p
  | val k env1 =>
    rw [e1] at p
    intro F1 H1 er1 g1
    cases k with
    | true => rw [if_pos rfl]; exact a2 σ F1 H1 env1 D er1 g1.sub (SPost.after l g1 .refl p)
    | false => rw [if_neg Bool.false_ne_true]; exact b2 σ F1 H1 env1 D er1 g1.sub (SPost.after l g1 .refl p)

/-! ### stores -/
theorem getElem?_set_self' {α : Type} {l : List α} {i : Nat} {x : α} (h : i < l.length) : (l.set i x)[i]? = some x := by rw [List.getElem?_set]; simp [h]
/-- a slot gets a new content -/
theorem ER.set {i : Nat} {lv : LV} {v : V} (er : ER R F H σ env) (ne : lv ≠ .un) (lr : LRel R F H lv v) (d : ∀ x, Owns lv v x → ¬ Own env σ x) : ER R F H (σ.set i (some v)) (env.set i lv) := by
  have z : ∀ {j : Nat} {lv' : LV}, (env.set i lv)[j]? = some lv' → (j = i ∧ lv' = lv ∧ i < env.length) ∨ (j ≠ i ∧ env[j]? = some lv') := fun {j lv'} h => by
    by_cases e : j = i
    · subst e
      rw [List.getElem?_set] at h
      split at h
      · split at h
        · cases h; exact .inl ⟨rfl, rfl, by assumption⟩
        · cases h
      · exact absurd rfl (by assumption)
    · rw [List.getElem?_set_ne (Ne.symm e)] at h; exact .inr ⟨e, h⟩
  refine ⟨by rw [List.length_set, List.length_set]; exact er.len, fun j lv' h n => ?_, fun j k lv1 lv2 b h1 h2 o1 o2 s1 s2 => ?_⟩
  · rcases z h with ⟨rfl, rfl, hl⟩ | ⟨ne', h'⟩
    · exact ⟨v, getElem?_set_self' (by rw [er.len]; exact hl), lr⟩
    · obtain ⟨v', q1, q2⟩ := er.rel j lv' h' n
      exact ⟨v', by rw [List.getElem?_set_ne (Ne.symm ne')]; exact q1, q2⟩
  · rcases z h1 with ⟨e1, f1, l1⟩ | ⟨e1, f1⟩
    · rcases z h2 with ⟨e2, f2, l2⟩ | ⟨e2, f2⟩
      · rw [e1, e2]
      · rw [e1] at s1
        rw [getElem?_set_self' (by rw [er.len]; exact l1)] at s1
        cases s1
        rw [List.getElem?_set_ne (Ne.symm e2)] at s2
        rw [f1] at o1
        exact (d b ⟨o1, rfl⟩ ⟨k, lv2, f2, o2, s2⟩).elim
    · rcases z h2 with ⟨e2, f2, l2⟩ | ⟨e2, f2⟩
      · rw [e2] at s2
        rw [getElem?_set_self' (by rw [er.len]; exact l2)] at s2
        cases s2
        rw [List.getElem?_set_ne (Ne.symm e1)] at s1
        rw [f2] at o2
        exact (d b ⟨o2, rfl⟩ ⟨j, lv1, f1, o1, s1⟩).elim
      · rw [List.getElem?_set_ne (Ne.symm e1)] at s1
        rw [List.getElem?_set_ne (Ne.symm e2)] at s2
        exact er.dis j k lv1 lv2 b f1 f2 o1 o2 s1 s2
theorem own_setv {i : Nat} {lv : LV} {v : V} {x : Addr} (o : Own (env.set i lv) (σ.set i (some v)) x) : Own env σ x ∨ Owns lv v x := by
  obtain ⟨j, lv', h1, h2, h3⟩ := o
  by_cases e : j = i
  · subst e
    rw [List.getElem?_set] at h1 h3
    split at h1
    · split at h1
      · cases h1
        split at h3
        · split at h3
          · cases h3; exact .inr ⟨h2, rfl⟩
          · cases h3
        · exact absurd rfl (by assumption)
      · cases h1
    · exact absurd rfl (by assumption)
  · rw [List.getElem?_set_ne (Ne.symm e)] at h1 h3
    exact .inl ⟨j, lv', h1, h2, h3⟩
theorem Fix.set {i : Nat} {v : V} (h : i ∉ P) : Fix P σ (σ.set i (some v)) := fun j hj => List.getElem?_set_ne (fun (e : i = j) => h (by rw [e]; exact hj))
def sSet (i : Nat) (m : OM) : SM := fun env => match m env with
  | .val (.tmp lv) env1 => .nx (env1.set i lv)
  | .val (.var _) _ => .bad
  | .exc x env1 => .exc x env1
  | .bad => .bad
theorem ss_set {i : Nat} {te : TE} (hP : i ∉ P) (h : OS R W te m) : SSd R W P (tAsg te (gName i)) (sSet i m) := by
  intro σ F H env D er l p
  unfold sSet at p
  refine h σ F H env _ er l ?_
  cases e1 : m env with
  | bad => rw [e1] at p; exact p.elim
  | exc x env1 => rw [e1] at p; exact XPost.stm p
  | val r env1 =>
    rw [e1] at p
    cases r with
    | var j => exact p.elim
    | tmp lv =>
      intro v F1 H1 er1 rr d1 g1
      exact p _ F1 H1 ⟨er1.set rr.1 rr.2 d1, g1.weak fun x o => own_setv o, .set hP⟩
theorem sj_set {i : Nat} {x : Str} {pos' : Pos} (hN : X.N.Nodup) (hi : X.N[i]? = some x) (hx : Loc X.env.scope x) (hP : i ∉ P) (he : OJ X R W e m) (hs : swapsWith e (some (.Name x pos')) pos.line X.env = pure false := by rfl)
    (hf : X.fn x = true ∨ X.env.scope.names.lookup x = some .local := by first | exact .inl rfl | exact .inr rfl | assumption) : SJ X R W P (.Assign [.Name x pos'] e pos) (sSet i m) :=
  let ⟨t, h1, h2⟩ := he; ⟨_, ps_set hN hi hx h1 hs hf, ss_set hP h2⟩

/-! ### targets that take data -/
abbrev GM := D → LEnv → Option LEnv
def GSd (R : RE) (P : List Nat) (t : TG) (g : GM) : Prop := ∀ σ F H env v d env' Q, ER R F H σ env → Le F H → Rep R F d v → g d env = some env' →
  (∀ σ', ER R F H σ' env' → (∀ x, Own env' σ' x → Own env σ x) → Fix P σ σ' → Q σ' H) → t v σ H Q
def GJ (X : Cx) (R : RE) (P : List Nat) (tg : Expr) (g : GM) : Prop := ∃ t, PG X tg t ∧ GSd R P t g
abbrev GMs := List D → LEnv → Option LEnv
def GSds (R : RE) (P : List Nat) (t : TGs) (g : GMs) : Prop := ∀ σ F H env vs ds env' Q, ER R F H σ env → Le F H → RepL R F ds vs → g ds env = some env' →
  (∀ σ', ER R F H σ' env' → (∀ x, Own env' σ' x → Own env σ x) → Fix P σ σ' → Q σ' H) → t vs σ H Q
def GJs (X : Cx) (R : RE) (P : List Nat) (tgs : List Expr) (g : GMs) : Prop := ∃ t, PGs X tgs t ∧ GSds R P t g
def gmName (i : Nat) : GM := fun d env => some (env.set i (.dat d))
theorem own_setd {i : Nat} {d : D} {v : V} {x : Addr} (o : Own (env.set i (.dat d)) (σ.set i (some v)) x) : Own env σ x := (own_setv o).elim id fun z => by cases z.1
theorem gj_name {i : Nat} {x : Str} (hN : X.N.Nodup) (hi : X.N[i]? = some x) (hx : Loc X.env.scope x) (hP : i ∉ P) (hf : X.fn x = true ∨ X.env.scope.names.lookup x = some .local := by first | exact .inl rfl | exact .inr rfl | assumption) :
    GJ X R P (.Name x pos) (gmName i) := by
  refine ⟨_, pg_name hN hi hx hf, fun σ F H env v d env' Q er l rp h q => ?_⟩
  cases h
  exact q _ (er.set (by simp) (.dat rp) fun _ o => by cases o.1) (fun x o => own_setd o) (.set hP)
def gmNil : GMs := fun ds env => match ds with
  | [] => some env
  | _ => none
def gmCons (g : GM) (gs : GMs) : GMs := fun ds env => match ds with
  | d :: r => match g d env with
    | some env1 => gs r env1
    | none => none
  | [] => none
def gmTup (k : Nat) (gs : GMs) : GM := fun d env => match d with
  | .tup ds => if ds.length = k then gs ds env else none
  | _ => none
theorem gjs_nil : GJs X R P [] gmNil := by
  refine ⟨_, pgs_nil, fun σ F H env vs ds env' Q er l rp h q => ?_⟩
  cases rp with
  | nil => cases h; exact ⟨rfl, q σ er (fun _ o => o) .refl⟩
  | cons _ _ => cases h
theorem gjs_cons {g : GM} {gs : GMs} (h1 : GJ X R P e g) (h2 : GJs X R P es gs) (hs : (assignEach (e :: es) X.env).map (·.2) = assign e X.env :: (assignEach es X.env).map (·.2) := by rfl) : GJs X R P (e :: es) (gmCons g gs) := by
  obtain ⟨t, a1, a2⟩ := h1
  obtain ⟨u, b1, b2⟩ := h2
  refine ⟨_, pgs_cons a1 b1 hs, fun σ F H env vs ds env' Q er l rp h q => ?_⟩
  cases rp with
  | nil => cases h
  | cons r rs =>
    unfold gmCons at h
    simp only at h
    rename_i d v ds' vs'
    cases e1 : g d env with
    | none => rw [e1] at h; cases h
    | some env1 =>
      rw [e1] at h
      refine ⟨_, _, rfl, a2 σ F H env _ _ env1 _ er l r e1 fun σ1 er1 o1 f1 => ?_⟩
      exact b2 σ1 F H env1 _ _ env' _ er1 l rs h fun σ2 er2 o2 f2 => q σ2 er2 (fun x o => o1 x (o2 x o)) (f1.trans f2)
theorem gj_tup {k n : Nat} {gs : GMs} (hK : R.K = X.K) (hc : X.calm = true) (h : GJs X R P es gs) (hn : (assignEach es X.env).length = n := by rfl) (hst : (assignEach es X.env).findIdx? (·.1) = none := by rfl) : GJ X R P (.Tuple es k pos) (gmTup n gs) := by
  obtain ⟨t, a1, a2⟩ := h
  refine ⟨_, pg_tup hc a1 hn hst, fun σ F H env v d env' Q er l rp h q => ?_⟩
  unfold gmTup at h
  cases rp with
  | tup sq rs =>
    simp only at h
    split at h
    · rename_i hl
      exact ⟨_, _, rfl, by rw [← hK]; exact .inl (.inl (l.tupE sq)), by rw [← rs.length]; exact hl, a2 σ F H env _ _ env' Q er l rs h q⟩
    · cases h
  | _ => cases h
def sTgt (g : GM) (m : OM) : SM := fun env => match oFrz m env with
  | .val (.tmp (.dat d)) env1 => match g d env1 with
    | some env2 => .nx env2
    | none => .bad
  | .val _ _ => .bad
  | .exc x env1 => .exc x env1
  | .bad => .bad
theorem sj_tgt {tg : Expr} {g : GM} (he : OJ X R W e m) (hg : GJ X R P tg g) (hs : swapsWithSole [tg] e pos.line X.env = pure false := by rfl) (hw : swappedStores [tg] e X.env = pure none := by rfl)
    (h1 : (assignEach [tg] X.env).map (·.2) = [assign tg X.env] := by rfl) : SJ X R W P (.Assign [tg] e pos) (sTgt g m) := by
  obtain ⟨t, a1, a2⟩ := oj_frz he
  obtain ⟨u, b1, b2⟩ := hg
  refine ⟨_, ps_asg a1 b1 hs hw h1, fun σ F H env D er l p => ?_⟩
  unfold sTgt at p
  refine a2 σ F H env _ er l ?_
  cases e1 : oFrz m env with
  | bad => rw [e1] at p; exact p.elim
  | exc x env1 => rw [e1] at p; exact XPost.stm p
  | val r env1 =>
    rw [e1] at p
    intro v F1 H1 er1 rr d1 g1
    match r, rr, p with
    | .tmp (.dat d), rr, p =>
      simp only at p
      cases e2 : g d env1 with
      | none => simp only [e2] at p; exact p.elim
      | some env2 =>
        simp only [e2] at p
        cases rr.2 with
        | dat rp =>
          exact b2 σ F1 H1 env1 v d env2 D.nx er1 g1.sub rp e2 fun σ2 er2 o2 f2 => p σ2 F1 H1 ⟨er2, g1.weak fun x o => .inl (o2 x o), f2⟩
    | .var i, rr, p => exact p.elim
    | .tmp .un, rr, p => exact p.elim
    | .tmp (.ml _), rr, p => exact p.elim
    | .tmp (.md _), rr, p => exact p.elim
    | .tmp (.mt _), rr, p => exact p.elim
    | .tmp (.mi _ _), rr, p => exact p.elim

/-! ### for, over data -/
/-- what is locked stays locked -/
def Fzn (H0 H : Hp) : Prop := ∀ a ob u, H0 a = some (.frz ob u) → H a = some (.frz ob u)
structure Walks (R : RE) (J : It) (F H0 : Hp) (ds : List D) : Prop where
  go : ∀ i G H, Le F G → Le G H → Fzn H0 H → i < ds.length → J.go i H
  stop : ∀ i G H, Le F G → Le G H → Fzn H0 H → ds.length ≤ i → J.stop i H
  yld : ∀ i G H x H', Le F G → Le G H → Fzn H0 H → i < ds.length → J.yld i H x H' → ∃ d G', ds[i]? = some d ∧ Nw G H G' H' ∧ Rep R G' d x
inductive IR where
  | val (ds : List D) (env : LEnv)
  | exc (x : Xc) (env : LEnv)
  | bad
abbrev IM := LEnv → IR
def IPost (R : RE) (W : WX) (O : Addr → Prop) (σ : L2.St) (F H : Hp) (r : IR) (Q : It → Hp → Prop) : Prop :=
  match r with
  | .val ds env' => ∀ J F' H', ER R F' H' σ env' → Walks R J F' H' ds → Gr O F H (Own env' σ) F' H' → Q J H'
  | .exc x env' => XPost R W O σ F H x env'
  | .bad => False
def ISd (R : RE) (W : WX) (t : TI) (m : IM) : Prop := ∀ σ F H env Q, ER R F H σ env → Le F H → IPost R W (Own env σ) σ F H (m env) Q → t σ H Q
def IJ (X : Cx) (R : RE) (W : WX) (tg e : Expr) (m : IM) : Prop := ∃ t, PI X tg e t ∧ ISd R W t m
def forD (g : GM) (n : SM) : List D → LEnv → SR
  | [], env => .nx env
  | d :: ds, env => match g d env with
    | none => .bad
    | some env1 => match n env1 with
      | .nx env2 => forD g n ds env2
      | .ct env2 => forD g n ds env2
      | .bk env2 => .nx env2
      | .rt lv env2 => .rt lv env2
      | .exc x env2 => .exc x env2
      | .bad => .bad
def sFor (i : IM) (g : GM) (n : SM) : SM := fun env => match i env with
  | .val ds env1 => forD g n ds env1
  | .exc x env1 => .exc x env1
  | .bad => .bad
theorem for_walks {J : It} {g : GM} {n : SM} {tg : TG} {tb : TS} {D : Ends} {ds : List PL.D} (er : ER R F H σ env) (l : Le F H) (wk : Walks R J F H ds) (hg : GSd R P tg g) (hb : SSd R W P tb n) (p : SPost R W P (Own env σ) σ F H (forD g n ds env) D) :
    ∃ W : Nat → Nat → L2.St → Hp → Prop, (∃ m, W 0 m σ H) ∧ ∀ i m σ H, W i m σ H →
      (J.stop i H ∧ D.nx σ H) ∨ (J.go i H ∧ ∃ N : L2.St → Hp → Prop, (∀ σ' H', N σ' H' → ∃ m', m' < m ∧ W (i + 1) m' σ' H') ∧ ∀ x H', J.yld i H x H' → tg x σ H' fun σ2 H2 => tb { D with nx := N, ct := N, bk := D.nx } σ2 H2) := by
  let Wv : Nat → Nat → L2.St → Hp → Prop := fun i m σ' H' => i ≤ ds.length ∧ m = ds.length - i ∧ ∃ F' env', At R P (Own env σ) σ F H env' σ' F' H' ∧ SPost R W P (Own env' σ') σ' F' H' (forD g n (ds.drop i) env') D
  refine ⟨Wv, ⟨ds.length, Nat.zero_le _, rfl, F, env, .refl er l, by simpa using p⟩, ?_⟩
  rintro i m σ1 H1 ⟨hi, rfl, F1, env1, a1, p1⟩
  by_cases hlt : i < ds.length
  · refine .inr ⟨wk.go i F1 H1 a1.gr.le a1.gr.sub a1.gr.frz hlt, Wv (i + 1) (ds.length - (i + 1)), fun σ' H' w => ⟨_, by omega, w⟩, fun x H2 y => ?_⟩
    obtain ⟨d, F2, hd, nw, rp⟩ := wk.yld i F1 H1 x H2 a1.gr.le a1.gr.sub a1.gr.frz hlt y
    have ed : ds.drop i = d :: ds.drop (i + 1) := by
      have : ds[i] = d := by rw [List.getElem?_eq_getElem hlt] at hd; exact Option.some.inj hd
      rw [← this]; exact List.drop_eq_getElem_cons hlt
    rw [ed] at p1
    unfold forD at p1
    cases e1 : g d env1 with
    | none => simp only [e1] at p1; exact p1.elim
    | some env2 =>
      simp only [e1] at p1
      have g2 : Gr (Own env1 σ1) F1 H1 (Own env1 σ1) F2 H2 := nw.gr fun a q => .inl q
      refine hg σ1 F2 H2 env1 x d env2 _ (a1.er.nw nw) nw.sub rp e1 fun σ2 er2 o2 f2 => ?_
      have g3 : Gr (Own env1 σ1) F1 H1 (Own env2 σ2) F2 H2 := g2.weak fun a q => o2 a q
      refine hb σ2 F2 H2 env2 _ er2 nw.sub ?_
      have fin : ∀ {env3 : LEnv} {σ3 : L2.St} {F3 H3 : Hp}, At R P (Own env2 σ2) σ2 F2 H2 env3 σ3 F3 H3 → SPost R W P (Own env1 σ1) σ1 F1 H1 (forD g n (ds.drop (i + 1)) env3) D → Wv (i + 1) (ds.length - (i + 1)) σ3 H3 := fun {env3 σ3 F3 H3} a3 p3 => by
        refine ⟨hlt, rfl, F3, env3, ⟨a3.er, (a1.gr.trans l g3).trans l a3.gr, (a1.fx.trans f2).trans a3.fx⟩, ?_⟩
        exact SPost.after a1.gr.sub (g3.trans a1.gr.sub a3.gr) (f2.trans a3.fx) p3
      cases e2 : n env2 with
      | bad => simp only [e2] at p1; exact p1.elim
      | nx env3 => simp only [e2] at p1; exact fun σ3 F3 H3 a3 => fin a3 p1
      | ct env3 => simp only [e2] at p1; exact fun σ3 F3 H3 a3 => fin a3 p1
      | bk env3 =>
        simp only [e2] at p1
        exact fun σ3 F3 H3 a3 => p1 σ3 F3 H3 ⟨a3.er, g3.trans a1.gr.sub a3.gr, f2.trans a3.fx⟩
      | rt lv env3 =>
        simp only [e2] at p1
        exact fun v σ3 F3 H3 er3 ne lr d3 gr3 f3 => p1 v σ3 F3 H3 er3 ne lr d3 (g3.trans a1.gr.sub gr3) (f2.trans f3)
      | exc x3 env3 =>
        simp only [e2] at p1
        exact fun cls d3 σ3 F3 H3 er3 xr gr3 f3 => p1 cls d3 σ3 F3 H3 er3 xr (g3.trans a1.gr.sub gr3) (f2.trans f3)
  · have e : ds.drop i = [] := List.drop_eq_nil_of_le (by omega)
    rw [e] at p1
    exact .inl ⟨wk.stop i F1 H1 a1.gr.le a1.gr.sub a1.gr.frz (by omega), p1 σ1 F1 H1 (.refl a1.er a1.gr.sub)⟩
theorem ss_for {wi : TI} {i : IM} {g : GM} {tg : TG} {tb : TS} (hi : ISd R W wi i) (hg : GSd R P tg g) (hb : SSd R W P tb n) : SSd R W P (tFor wi tg tb) (sFor i g n) := by
  intro σ F H env D er l p
  unfold sFor at p
  refine hi σ F H env _ er l ?_
  cases e1 : i env with
  | bad => rw [e1] at p; exact p.elim
  | exc x env1 => rw [e1] at p; exact XPost.stm p
  | val ds env1 =>
    rw [e1] at p
    intro J F1 H1 er1 wk g1
    exact for_walks er1 g1.sub wk hg hb (SPost.after l g1 .refl p)
theorem sj_for {tg : Expr} {i : IM} {g : GM} (hp : PassesOwn (model X.prog X.w) X.A X.env X.xe) (hc : X.calm = true) (hi : IJ X R W tg e i) (hg : GJ X R P tg g) (hb : BJ X R W P ss n) (hs : ∀ x, foldedSetIterable e X.env x = pure x := by intro _; rfl) :
    SJ X R W P (.For tg e ss [] pos) (sFor i g n) :=
  let ⟨_, a1, a2⟩ := hi; let ⟨_, b1, b2⟩ := hg; let ⟨_, c1, c2⟩ := hb; ⟨_, ps_for hp hc a1 b1 c1 hs, ss_for a2 b2 c2⟩

/-! ### while, with so many turns at most -/
def whileD (t : TM) (n : SM) : Nat → LEnv → SR
  | 0, _ => .bad
  | k + 1, env => match t env with
    | .bad => .bad
    | .exc x env1 => .exc x env1
    | .val false env1 => .nx env1
    | .val true env1 => match n env1 with
      | .nx env2 => whileD t n k env2
      | .ct env2 => whileD t n k env2
      | .bk env2 => .nx env2
      | .rt lv env2 => .rt lv env2
      | .exc x env2 => .exc x env2
      | .bad => .bad
theorem sj_while {t : TM} (k : Nat) (hp : PassesOwn (model X.prog X.w) X.A X.env X.xe) (hc : TJ X R W c t) (hb : BJ X R W P ss n) : SJ X R W P (.While c ss [] pos) (whileD t n k) := by
  obtain ⟨tc, c1, c2⟩ := hc
  obtain ⟨tb, b1, b2⟩ := hb
  refine ⟨_, ps_while hp c1 b1, fun σ F H env D er l p => ?_⟩
  let Wv : Nat → L2.St → Hp → Prop := fun m σ' H' => ∃ F' env', At R P (Own env σ) σ F H env' σ' F' H' ∧ SPost R W P (Own env' σ') σ' F' H' (whileD t n m env') D
  refine ⟨Wv, ⟨k, F, env, .refl er l, p⟩, ?_⟩
  rintro m σ1 H1 ⟨F1, env1, a1, p1⟩
  cases m with
  | zero => exact p1.elim
  | succ m =>
    unfold whileD at p1
    refine c2 σ1 F1 H1 env1 _ a1.er a1.gr.sub ?_
    cases e1 : t env1 with
    | bad => simp only [e1] at p1; exact p1.elim
    | exc x env2 => simp only [e1] at p1; exact XPost.stm p1
    | val kk env2 =>
      simp only [e1] at p1
      intro F2 H2 er2 g2
      cases kk with
      | false => rw [if_neg Bool.false_ne_true]; exact p1 σ1 F2 H2 ⟨er2, g2, .refl⟩
      | true =>
        rw [if_pos rfl]
        refine ⟨Wv m, fun σ' H' w => ⟨m, Nat.lt_succ_self m, w⟩, ?_⟩
        simp only at p1
        refine b2 σ1 F2 H2 env2 _ er2 g2.sub ?_
        have fin : ∀ {env3 : LEnv} {σ3 : L2.St} {F3 H3 : Hp}, At R P (Own env2 σ1) σ1 F2 H2 env3 σ3 F3 H3 → SPost R W P (Own env1 σ1) σ1 F1 H1 (whileD t n m env3) D → Wv m σ3 H3 := fun {env3 σ3 F3 H3} a3 p3 => by
          refine ⟨F3, env3, ⟨a3.er, (a1.gr.trans l g2).trans l a3.gr, a1.fx.trans a3.fx⟩, ?_⟩
          exact SPost.after a1.gr.sub (g2.trans a1.gr.sub a3.gr) a3.fx p3
        cases e2 : n env2 with
        | bad => simp only [e2] at p1; exact p1.elim
        | nx env3 => simp only [e2] at p1; exact fun σ3 F3 H3 a3 => fin a3 p1
        | ct env3 => simp only [e2] at p1; exact fun σ3 F3 H3 a3 => fin a3 p1
        | bk env3 => simp only [e2] at p1; exact fun σ3 F3 H3 a3 => p1 σ3 F3 H3 ⟨a3.er, g2.trans a1.gr.sub a3.gr, a3.fx⟩
        | rt lv env3 => simp only [e2] at p1; exact fun v σ3 F3 H3 er3 ne lr d3 gr3 f3 => p1 v σ3 F3 H3 er3 ne lr d3 (g2.trans a1.gr.sub gr3) f3
        | exc x3 env3 => simp only [e2] at p1; exact fun cls d3 σ3 F3 H3 er3 xr gr3 f3 => p1 cls d3 σ3 F3 H3 er3 xr (g2.trans a1.gr.sub gr3) f3
end
end PL
set_option maxRecDepth 100000
set_option maxHeartbeats 4000000
/-! Defs: what they promise, calls. -/
namespace PL
open PySem L2 PyProof.Rows

inductive FR where
  | ret (lv : LV) (lvs : List LV)
  | exc (x : Xc) (lvs : List LV)
  | bad
abbrev FM := List LV → FR
def FPost (R : RE) (vs : List V) (lvs : List LV) (F H : Hp) (r : FR) (Q : VK) (E : XK) : Prop :=
  match r with
  | .ret lv lvs' => ∀ v F' H', ER R F' H' (vs.map some) lvs' → lv ≠ .un → LRel R F' H' lv v → (∀ a, Owns lv v a → ¬ Own lvs' (vs.map some) a) → Gr (Own lvs (vs.map some)) F H (fun a => Own lvs' (vs.map some) a ∨ Owns lv v a) F' H' → Q v H'
  | .exc x lvs' => ∀ cls d F' H', ER R F' H' (vs.map some) lvs' → XR R F' H' x cls d → Gr (Own lvs (vs.map some)) F H (Own lvs' (vs.map some)) F' H' → E cls d H'
  | .bad => False
def spOf (R : RE) (n : Nat) (g : FM) : Sp := fun vs H Q E => vs.length = n ∧ ∃ F lvs, Le F H ∧ ER R F H (vs.map some) lvs ∧ FPost R vs lvs F H (g lvs) Q E

/-! ### a body -/
def okArgs (P : List Nat) (lvs : List LV) : Bool := lvs.zipIdx.all fun p => P.contains p.2 || !p.1.isOwn
def back (P : List Nat) (lvs : List LV) (env : LEnv) : List LV := lvs.zipIdx.map fun p => if P.contains p.2 then env.getD p.2 .un else p.1
def defM (N : Nat) (P : List Nat) (body : SM) : FM := fun lvs =>
  if okArgs P lvs then
    match body (lvs ++ List.replicate (N - lvs.length) .un) with
    | .nx env => .ret (.dat .non) (back P lvs env)
    | .rt lv env => .ret lv (back P lvs env)
    | .exc x env => .exc x (back P lvs env)
    | _ => .bad
  else .bad
section
variable {R : RE} {F H F' H' : Hp} {σ : L2.St} {env : LEnv} {vs : List V} {lvs : List LV} {P : List Nat} {a : Addr} {n : Nat}
theorem back_get (k : Nat) : (back P lvs env)[k]? = (lvs[k]?).map fun lv => if P.contains k then env.getD k .un else lv := by
  unfold back
  rw [List.getElem?_map, List.getElem?_zipIdx]
  cases lvs[k]? <;> simp
theorem okArgs_at (h : okArgs P lvs = true) {k : Nat} {lv : LV} (e : lvs[k]? = some lv) (n : P.contains k = false) : lv.isOwn = false := by
  unfold okArgs at h
  rw [List.all_eq_true] at h
  have q := h (lv, k) (List.mem_of_getElem? (i := k) (by rw [List.getElem?_zipIdx, e]; simp))
  simp only [n, Bool.false_or, Bool.not_eq_true'] at q
  exact q
theorem start_get {N : List Str} {k : Nat} (hN : vs.length ≤ N.length) : (L2.start N vs)[k]? = if k < vs.length then (vs[k]?).map some else if k < N.length then some none else none := by
  unfold L2.start
  by_cases h : k < vs.length
  · rw [List.getElem?_append_left (by simpa using h), List.getElem?_map, if_pos h]
  · rw [List.getElem?_append_right (by simpa using h), List.getElem?_replicate, if_neg h]
    by_cases h2 : k < N.length
    · rw [if_pos h2]; simp; omega
    · rw [if_neg h2]; simp; omega
theorem env0_get (k : Nat) : (lvs ++ List.replicate n LV.un)[k]? = if k < lvs.length then lvs[k]? else if k < lvs.length + n then some .un else none := by
  by_cases h : k < lvs.length
  · rw [List.getElem?_append_left h, if_pos h]
  · rw [List.getElem?_append_right (by omega), List.getElem?_replicate, if_neg h]
    by_cases h2 : k < lvs.length + n
    · rw [if_pos h2, if_pos (by omega)]
    · rw [if_neg h2, if_neg (by omega)]
theorem ER.start {N : List Str} (hN : vs.length ≤ N.length) (er : ER R F H (vs.map some) lvs) : ER R F H (L2.start N vs) (lvs ++ List.replicate (N.length - lvs.length) .un) ∧ (∀ a, Own (lvs ++ List.replicate (N.length - lvs.length) .un) (L2.start N vs) a ↔ Own lvs (vs.map some) a) := by
  have hl : vs.length = lvs.length := by simpa using er.len
  have z : ∀ {k : Nat} {lv : LV}, (lvs ++ List.replicate (N.length - lvs.length) LV.un)[k]? = some lv → lv ≠ .un → lvs[k]? = some lv ∧ k < vs.length := fun {k lv} h ne => by
    rw [env0_get] at h
    split at h
    · exact ⟨h, by omega⟩
    · split at h
      · cases h; exact absurd rfl ne
      · cases h
  have y : ∀ {k : Nat}, k < vs.length → (L2.start N vs)[k]? = (vs.map some)[k]? := fun {k} h => by rw [start_get hN, if_pos h, List.getElem?_map]
  refine ⟨⟨?_, fun i lv h ne => ?_, fun i j lv lv' b h1 h2 o1 o2 s1 s2 => ?_⟩, fun a => ⟨?_, ?_⟩⟩
  · unfold L2.start; simp; omega
  · obtain ⟨h1, h2⟩ := z h ne
    obtain ⟨v, q1, q2⟩ := er.rel i lv h1 ne
    exact ⟨v, by rw [y h2]; exact q1, q2⟩
  · obtain ⟨h1, l1⟩ := z h1 (by rintro rfl; cases o1)
    obtain ⟨h2, l2⟩ := z h2 (by rintro rfl; cases o2)
    exact er.dis i j lv lv' b h1 h2 o1 o2 (by rw [← y l1]; exact s1) (by rw [← y l2]; exact s2)
  · rintro ⟨i, lv, h1, h2, h3⟩
    obtain ⟨h1, l1⟩ := z h1 (by rintro rfl; cases h2)
    exact ⟨i, lv, h1, h2, by rw [← y l1]; exact h3⟩
  · rintro ⟨i, lv, h1, h2, h3⟩
    have l1 : i < lvs.length := (List.getElem?_eq_some_iff.mp h1).1
    exact ⟨i, lv, by rw [env0_get, if_pos l1]; exact h1, h2, by rw [y (by omega)]; exact h3⟩
/-- behind the body: the arguments as they are now -/
theorem ER.back {N : List Str} {σ' : L2.St} {env' : LEnv} {O' : Addr → Prop} (hN : vs.length ≤ N.length) (er0 : ER R F H (vs.map some) lvs) (ok : okArgs P lvs = true) (er : ER R F' H' σ' env') (g : Le F F') (fx : Fix P (L2.start N vs) σ') :
    ER R F' H' (vs.map some) (back P lvs env') ∧ ∀ a, Own (back P lvs env') (vs.map some) a → Own env' σ' a := by
  have hl : vs.length = lvs.length := by simpa using er0.len
  have key : ∀ {k : Nat} {lv : LV}, (PL.back P lvs env')[k]? = some lv → lv ≠ .un → (P.contains k = true ∧ env'[k]? = some lv ∧ σ'[k]? = (vs.map some)[k]?) ∨ (P.contains k = false ∧ lvs[k]? = some lv ∧ lv.isOwn = false) := fun {k lv} h ne => by
    rw [back_get] at h
    cases e : lvs[k]? with
    | none => rw [e] at h; cases h
    | some lv0 =>
      rw [e] at h
      have hk : k < vs.length := by have := (List.getElem?_eq_some_iff.mp e).1; omega
      cases c : P.contains k with
      | true =>
        simp only [c, if_true, Option.map_some, Option.some.injEq] at h
        refine .inl ⟨rfl, ?_, ?_⟩
        · rw [List.getD_eq_getElem?_getD] at h
          cases q : env'[k]? with
          | none => rw [q] at h; exact absurd h.symm ne
          | some lv1 => rw [q] at h; simp at h; rw [h]
        · rw [fx k (by simpa using c), start_get hN, if_pos hk, List.getElem?_map]
      | false =>
        simp only [c, Bool.false_eq_true, if_false, Option.map_some, Option.some.injEq] at h
        subst h
        exact .inr ⟨rfl, rfl, okArgs_at ok e c⟩
  refine ⟨⟨by unfold PL.back; simp [hl], fun i lv h ne => ?_, fun i j lv lv' b h1 h2 o1 o2 s1 s2 => ?_⟩, fun a ⟨i, lv, h1, h2, h3⟩ => ?_⟩
  · rcases key h ne with ⟨_, h1, h2⟩ | ⟨_, h1, h2⟩
    · obtain ⟨v, q1, q2⟩ := er.rel i lv h1 ne
      exact ⟨v, by rw [← h2]; exact q1, q2⟩
    · obtain ⟨v, q1, q2⟩ := er0.rel i lv h1 ne
      refine ⟨v, q1, ?_⟩
      cases q2 with
      | dat r => exact .dat (r.mono g)
      | _ => cases h2
  · rcases key h1 (by rintro rfl; cases o1) with ⟨_, a1, a2⟩ | ⟨_, a1, a2⟩
    · rcases key h2 (by rintro rfl; cases o2) with ⟨_, b1, b2⟩ | ⟨_, b1, b2⟩
      · exact er.dis i j lv lv' b a1 b1 o1 o2 (by rw [a2]; exact s1) (by rw [b2]; exact s2)
      · rw [b2] at o2; cases o2
    · rw [a2] at o1; cases o1
  · rcases key h1 (by rintro rfl; cases h2) with ⟨_, a1, a2⟩ | ⟨_, a1, a2⟩
    · exact ⟨i, lv, a1, h2, by rw [a2]; exact h3⟩
    · rw [a2] at h2; cases h2
/-- a body's reading gives its def's promise -/
theorem body_post {N : List Str} {t : TS} {m : SM} {W : WX} {Q : VK} {E : XK} (hW : ∀ cls d σ H, E cls d H → W cls d σ H) (hN : vs.length ≤ N.length) (h : SSd R W P t m) (l : Le F H) (er : ER R F H (vs.map some) lvs) (p : FPost R vs lvs F H (defM N.length P m lvs) Q E) :
    t { nx := fun _ H' => Q .non H', rt := Q } (L2.start N vs) H := by
  unfold defM at p
  cases ok : okArgs P lvs with
  | false => simp [ok] at p; exact p.elim
  | true =>
    simp only [ok, if_true] at p
    obtain ⟨er0, ow⟩ := er.start hN
    refine h (L2.start N vs) F H _ _ er0 l ?_
    cases e1 : m (lvs ++ List.replicate (N.length - lvs.length) .un) with
    | bad => simp only [e1] at p; exact p.elim
    | bk env1 => simp only [e1] at p; exact p.elim
    | ct env1 => simp only [e1] at p; exact p.elim
    | nx env1 =>
      simp only [e1] at p
      intro σ' F' H' q
      obtain ⟨eb, ob⟩ := er.back (O' := fun _ => True) hN ok q.er q.gr.le q.fx
      refine p .non F' H' eb (by simp) (.dat .non) (fun _ o => by cases o.1) ?_
      refine (q.gr.more fun a o => (ow a).mp o).weak fun a o => ?_
      rcases o with o | o
      · exact ob a o
      · cases o.1
    | rt lv env1 =>
      simp only [e1] at p
      intro v σ' F' H' er' ne lr d g fx
      obtain ⟨eb, ob⟩ := er.back (O' := fun _ => True) hN ok er' g.le fx
      refine p v F' H' eb ne lr (fun a o q => d a o (ob a q)) ?_
      refine (g.more fun a o => (ow a).mp o).weak fun a o => ?_
      rcases o with o | o
      · exact .inl (ob a o)
      · exact .inr o
    | exc x env1 =>
      simp only [e1] at p
      intro cls d σ' F' H' er' xr g fx
      obtain ⟨eb, ob⟩ := er.back (O' := fun _ => True) hN ok er' g.le fx
      exact hW cls d σ' H' (p cls d F' H' eb xr ((g.more fun a o => (ow a).mp o).weak fun a o => ob a o))
end

/-- THE RULE for a def -/
theorem fn_ok {Pg : Program} {w : World} {R : RE} {mg : Str → Option Value} {base : Heap} {x qual : Str} {st : Stmt} {f : Addr} {fd : FuncData} {N ps : List Str} {k : Nat} {P : List Nat} {m : SM} (Fn : Fun R.K x qual st f fd) (S : FnScope N ps (defScope st))
    (hbody : ∀ (X : Cx) (W : WX), X.prog = Pg → X.w = w → X.K = R.K → X.mg = mg → X.base = base → X.N = N → X.calm = true → X.env.scope = defScope st → X.fn = (fun _ => true) → Room k X.A → X.stack = X.env :: X.outer → X.env.frame = some X.env.locals → Takes X W → PassesOwn (model X.prog X.w) X.A X.env X.xe →
      (∃ (cdv : Value) (A : Around) (outer : List Env) (s : Shared) (H : Hp) (E : XK), X = cxOf (L2.CX Pg w) Pg w R.K mg base N qual (defScope st) f cdv A outer s H E) → BJ X R W P (defBody st) m) :
    FnOk Pg w R.K mg base (L2.CX Pg w) (k + 1) f fd ps (spOf R ps.length (defM N.length P m)) := by
  have hpl : ps.length ≤ N.length := by have := congrArg List.length S.pre; rw [List.length_take] at this; omega
  refine Fn.okX S (fun vs H Q E h => h.1) (fun cdv A outer s H vs Q E hr h => ?_)
  obtain ⟨hl, F, lvs, l, er, p⟩ := h
  obtain ⟨t, h1, h2⟩ := hbody (cxOf (L2.CX Pg w) Pg w R.K mg base N qual (defScope st) f cdv A outer s H E) (fun cls d _ H => E cls d H) rfl rfl rfl rfl rfl rfl rfl rfl rfl hr rfl rfl (takes_of rfl rfl rfl rfl) (passes_of rfl) ⟨cdv, A, outer, s, H, E, rfl⟩
  exact ⟨t, h1, body_post (fun _ _ _ _ e => e) (by omega) h2 l er p⟩

/-! ### a call -/
def ownVars (rs : List Rf) (env : LEnv) : List Nat := rs.filterMap fun r => match r with
  | .var i => if (env.getD i .un).isOwn then some i else none
  | .tmp _ => none
def wb : List Rf → List LV → LEnv → LEnv
  | .var i :: rs, lv :: lvs, env => wb rs lvs (env.set i lv)
  | .tmp _ :: rs, _ :: lvs, env => wb rs lvs env
  | _, _, env => env
/-- what was data stays data -/
def okBack (lvs lvs' : List LV) : Bool := (lvs.zip lvs').all fun p => !p.2.isOwn || p.1.isOwn
def oCall (g : FM) (ms : AM) : OM := fun env => match ms env with
  | .val rs env1 => match gets rs env1 with
    | some lvs => if (ownVars rs env1).Nodup then
        match g lvs with
        | .ret lv lvs' => if lv.ok && okBack lvs lvs' then .val (.tmp lv) (wb rs lvs' env1) else .bad
        | .exc x lvs' => if okBack lvs lvs' then .exc x (wb rs lvs' env1) else .bad
        | .bad => .bad
      else .bad
    | none => .bad
  | .exc x env1 => .exc x env1
  | .bad => .bad
section
variable {R : RE} {W : WX} {F H F' H' : Hp} {σ : L2.St} {env : LEnv} {vs : List V} {lvs lvs' : List LV} {rs : List Rf} {a : Addr}
theorem gets_get : ∀ {rs : List Rf} {lvs : List LV} {k : Nat} {lv : LV}, gets rs env = some lvs → lvs[k]? = some lv → ∃ r, rs[k]? = some r ∧ r.get env = some lv
  | [], lvs, k, lv, h, e => by cases h; simp at e
  | r :: rs, lvs, k, lv, h, e => by
    unfold gets at h
    cases e1 : r.get env with
    | none => rw [e1] at h; cases h
    | some lv0 =>
      rw [e1] at h
      cases e2 : gets rs env with
      | none => simp only [e2] at h; cases h
      | some lvs0 =>
        simp only [e2] at h
        cases h
        cases k with
        | zero => simp at e; subst e; exact ⟨r, rfl, e1⟩
        | succ k =>
          obtain ⟨r', h1, h2⟩ := gets_get (k := k) e2 (by simpa using e)
          exact ⟨r', by simpa using h1, h2⟩
theorem gets_length : ∀ {rs : List Rf} {lvs : List LV}, gets rs env = some lvs → rs.length = lvs.length
  | [], lvs, h => by cases h; rfl
  | r :: rs, lvs, h => by
    unfold gets at h
    cases e1 : r.get env with
    | none => rw [e1] at h; cases h
    | some lv0 =>
      rw [e1] at h
      cases e2 : gets rs env with
      | none => simp only [e2] at h; cases h
      | some lvs0 =>
        simp only [e2] at h
        cases h
        simp [gets_length e2]
theorem get_var {i : Nat} {lv : LV} (h : (Rf.var i).get env = some lv) : env[i]? = some lv ∧ lv.ok = true := by
  unfold Rf.get at h
  simp only at h
  cases e : env[i]? with
  | none => rw [e] at h; cases h
  | some lv' =>
    rw [e] at h
    cases e2 : lv'.ok with
    | false => simp [e2] at h
    | true => simp [e2] at h; subst h; exact ⟨rfl, e2⟩
theorem get_tmp {lv lv' : LV} (h : (Rf.tmp lv').get env = some lv) : lv' = lv ∧ lv.ok = true := by
  unfold Rf.get at h
  cases e2 : lv'.ok with
  | false => simp [e2] at h
  | true => simp [e2] at h; subst h; exact ⟨rfl, e2⟩
/-- two places with one owned variable are one place -/
theorem ownVars_inj : ∀ {rs : List Rf} {k k' i : Nat}, (ownVars rs env).Nodup → rs[k]? = some (Rf.var i) → rs[k']? = some (Rf.var i) → (env.getD i .un).isOwn = true → k = k'
  | [], k, k', i, _, h, _, _ => by simp at h
  | r :: rs, k, k', i, nd, h, h', o => by
    have mem : ∀ {k : Nat}, rs[k]? = some (Rf.var i) → i ∈ ownVars rs env := fun {k} e => List.mem_filterMap.mpr ⟨.var i, List.mem_of_getElem? e, by simp only [o, if_true]⟩
    have tl : (ownVars rs env).Nodup := by
      unfold ownVars at nd ⊢
      rw [List.filterMap_cons] at nd
      split at nd
      · exact nd
      · exact (List.nodup_cons.mp nd).2
    have hd : r = .var i → i ∉ ownVars rs env := fun e => by
      unfold ownVars at nd ⊢
      rw [List.filterMap_cons, e] at nd
      simp only [o, if_true] at nd
      exact (List.nodup_cons.mp nd).1
    cases k with
    | zero =>
      cases k' with
      | zero => rfl
      | succ k' => simp at h h'; exact (hd h (mem h')).elim
    | succ k =>
      cases k' with
      | zero => simp at h h'; exact (hd h' (mem h)).elim
      | succ k' =>
        simp at h h'
        rw [ownVars_inj tl h h' o]
theorem getD_of {i : Nat} {lv : LV} (h : env[i]? = some lv) : env.getD i .un = lv := by rw [List.getD_eq_getElem?_getD, h]; rfl
/-- the arguments as a callee takes them -/
theorem RsR.args (er : ER R F H σ env) (rr : RsR R F H σ rs vs) (d : ∀ a, RsO rs vs a → ¬ Own env σ a) (dd : RsD rs vs) (h : PL.gets rs env = some lvs) (nd : (ownVars rs env).Nodup) : ER R F H (vs.map some) lvs := by
  have rel := rr.gets er h
  have key : ∀ {k : Nat} {lv : LV} {b : Addr}, lvs[k]? = some lv → lv.isOwn = true → (vs.map some)[k]? = some (some (.ref b)) → (∃ i, rs[k]? = some (Rf.var i) ∧ env[i]? = some lv ∧ σ[i]? = some (some (.ref b))) ∨ (∃ r, rs[k]? = some r ∧ vs[k]? = some (.ref b) ∧ RfO r (.ref b) b) := fun {k lv b} e o s => by
    rw [List.getElem?_map] at s
    have s' : vs[k]? = some (.ref b) := by
      cases q : vs[k]? with
      | none => rw [q] at s; cases s
      | some x => rw [q] at s; simp at s; rw [s]
    obtain ⟨r, h1, h2⟩ := gets_get h e
    cases r with
    | var i =>
      have := rr.at (k := k) h1 s'
      exact .inl ⟨i, h1, (get_var h2).1, this⟩
    | tmp lv' =>
      obtain ⟨rfl, _⟩ := get_tmp h2
      exact .inr ⟨_, h1, s', o, rfl⟩
  refine ⟨by simp [← rr.length, gets_length h], fun k lv e ne => ?_, fun k k' lv lv' b e1 e2 o1 o2 s1 s2 => ?_⟩
  · obtain ⟨v, q1, q2⟩ : ∃ v, vs[k]? = some v ∧ LRel R F H lv v := by
      clear key
      revert rel e
      clear h nd dd d rr
      intro rel e
      induction rel generalizing k with
      | nil => simp at e
      | cons r rs ih =>
        cases k with
        | zero => simp at e; subst e; exact ⟨_, rfl, r⟩
        | succ k => simpa using ih k (by simpa using e)
    exact ⟨v, by rw [List.getElem?_map, q1]; rfl, q2⟩
  · rcases key e1 o1 s1 with ⟨i, a1, a2, a3⟩ | ⟨r, a1, a2, a3⟩
    · rcases key e2 o2 s2 with ⟨j, b1, b2, b3⟩ | ⟨r', b1, b2, b3⟩
      · have ij := er.dis i j lv lv' b a2 b2 o1 o2 a3 b3
        subst ij
        exact ownVars_inj nd a1 b1 (by rw [getD_of a2]; exact o1)
      · exact (d b ⟨k', r', _, b1, b2, b3⟩ ⟨i, lv, a2, o1, a3⟩).elim
    · rcases key e2 o2 s2 with ⟨j, b1, b2, b3⟩ | ⟨r', b1, b2, b3⟩
      · exact (d b ⟨k, r, _, a1, a2, a3⟩ ⟨j, lv', b2, o2, b3⟩).elim
      · exact dd k k' r r' _ _ b a1 a2 b1 b2 a3 b3
theorem wb_get : ∀ {rs : List Rf} {lvs : List LV} {env : LEnv} {j : Nat} {lv : LV}, rs.length = lvs.length → (wb rs lvs env)[j]? = some lv → (∃ k : Nat, rs[k]? = some (Rf.var j) ∧ lvs[k]? = some lv) ∨ (env[j]? = some lv ∧ ∀ k : Nat, rs[k]? ≠ some (Rf.var j))
  | [], [], env, j, lv, _, h => .inr ⟨h, fun k => by simp⟩
  | .tmp x :: rs, y :: lvs, env, j, lv, hl, h => by
    rcases wb_get (by simpa using hl) (show (wb rs lvs env)[j]? = some lv from h) with ⟨k, h1, h2⟩ | ⟨h1, h2⟩
    · exact .inl ⟨k + 1, by simpa using h1, by simpa using h2⟩
    · refine .inr ⟨h1, fun k => ?_⟩
      cases k with
      | zero => simp
      | succ k => simpa using h2 k
  | .var i :: rs, y :: lvs, env, j, lv, hl, h => by
    rcases wb_get (by simpa using hl) (show (wb rs lvs (env.set i y))[j]? = some lv from h) with ⟨k, h1, h2⟩ | ⟨h1, h2⟩
    · exact .inl ⟨k + 1, by simpa using h1, by simpa using h2⟩
    · by_cases e : i = j
      · subst e
        rw [List.getElem?_set] at h1
        simp at h1
        exact .inl ⟨0, rfl, by simp [h1.2]⟩
      · rw [List.getElem?_set_ne e] at h1
        refine .inr ⟨h1, fun k => ?_⟩
        cases k with
        | zero => simp; exact e
        | succ k => simpa using h2 k
  | [], _ :: _, _, _, _, hl, _ => by simp at hl
  | _ :: _, [], _, _, _, hl, _ => by simp at hl
theorem wb_length : ∀ {rs : List Rf} {lvs : List LV} {env : LEnv}, (wb rs lvs env).length = env.length
  | [], _, _ => by unfold wb; rfl
  | .tmp x :: rs, [], _ => by unfold wb; rfl
  | .var x :: rs, [], _ => by unfold wb; rfl
  | .tmp x :: rs, y :: lvs, env => by unfold wb; exact wb_length
  | .var i :: rs, y :: lvs, env => by unfold wb; rw [wb_length]; simp
theorem okBack_at {k : Nat} {lv lv' : LV} (h : okBack lvs lvs' = true) (e : lvs[k]? = some lv) (e' : lvs'[k]? = some lv') (o : lv'.isOwn = true) : lv.isOwn = true := by
  unfold okBack at h
  rw [List.all_eq_true] at h
  have q := h (lv, lv') (List.mem_of_getElem? (i := k) (by rw [List.getElem?_zip_eq_some]; exact ⟨e, e'⟩))
  simpa [o] using q
/-- behind the call -/
theorem ER.wb (er : ER R F H σ env) (rr : RsR R F H σ rs vs) (d : ∀ a, RsO rs vs a → ¬ Own env σ a) (h : gets rs env = some lvs) (nd : (ownVars rs env).Nodup) (ok : okBack lvs lvs' = true) (er' : ER R F' H' (vs.map some) lvs') {O' : Addr → Prop} (g : Gr (Own lvs (vs.map some)) F H O' F' H') :
    ER R F' H' σ (PL.wb rs lvs' env) ∧ (∀ a, Own (PL.wb rs lvs' env) σ a → Own env σ a) ∧ ∀ a, Own (PL.wb rs lvs' env) σ a → Own lvs' (vs.map some) a ∨ (¬ Own lvs (vs.map some) a ∧ H a ≠ none) := by
  have hl : rs.length = lvs'.length := by rw [rr.length]; simpa using er'.len
  have arg : ∀ {k : Nat} {lv : LV} {b : Addr}, lvs[k]? = some lv → lv.isOwn = true → (vs.map some)[k]? = some (some (.ref b)) → (∃ i, rs[k]? = some (Rf.var i) ∧ env[i]? = some lv ∧ σ[i]? = some (some (.ref b))) ∨ ¬ Own env σ b := fun {k lv b} e o s => by
    rw [List.getElem?_map] at s
    have s' : vs[k]? = some (.ref b) := by
      cases q : vs[k]? with
      | none => rw [q] at s; cases s
      | some x => rw [q] at s; simp at s; rw [s]
    obtain ⟨r, h1, h2⟩ := gets_get h e
    cases r with
    | var i => exact .inl ⟨i, h1, (get_var h2).1, rr.at (k := k) h1 s'⟩
    | tmp lv' =>
      obtain ⟨rfl, _⟩ := get_tmp h2
      exact .inr (d b ⟨k, _, _, h1, s', o, rfl⟩)
  have slot : ∀ {k j : Nat}, rs[k]? = some (Rf.var j) → (vs.map some)[k]? = σ[j]? := fun {k j} e => by
    have lt : k < vs.length := by rw [← rr.length]; exact (List.getElem?_eq_some_iff.mp e).1
    have q : vs[k]? = some vs[k] := by simp [lt]
    have this' : σ[j]? = some (some vs[k]) := rr.at (k := k) e q
    rw [List.getElem?_map, q, this']
    rfl
  have apart : ∀ {j : Nat} {lv : LV} {b : Addr}, env[j]? = some lv → lv.isOwn = true → σ[j]? = some (some (.ref b)) → (∀ k : Nat, rs[k]? ≠ some (Rf.var j)) → ¬ Own lvs (vs.map some) b := fun {j lv b} e o s n ⟨k, lv', e', o', s'⟩ => by
    rcases arg e' o' s' with ⟨i, a1, a2, a3⟩ | q
    · have ij := er.dis i j lv' lv b a2 e o' o a3 s
      subst ij
      exact n k a1
    · exact q ⟨j, lv, e, o, s⟩
  -- a written slot that is owned was owned
  have was : ∀ {k j : Nat} {lv : LV}, rs[k]? = some (Rf.var j) → lvs'[k]? = some lv → lv.isOwn = true → ∃ lv0, env[j]? = some lv0 ∧ lv0.isOwn = true := fun {k j lv} e e' o => by
    have lt : k < lvs.length := by rw [← gets_length h]; exact (List.getElem?_eq_some_iff.mp e).1
    have e0 : lvs[k]? = some lvs[k] := by simp [lt]
    obtain ⟨r, c1, c2⟩ := gets_get h e0
    rw [e] at c1; cases c1
    exact ⟨_, (get_var c2).1, okBack_at ok e0 e' o⟩
  refine ⟨⟨by rw [wb_length]; exact er.len, fun j lv e ne => ?_, fun i j lv lv' b e1 e2 o1 o2 s1 s2 => ?_⟩, fun a ⟨j, lv, h1, h2, h3⟩ => ?_, fun a ⟨j, lv, h1, h2, h3⟩ => ?_⟩
  · rcases wb_get hl e with ⟨k, h1, h2⟩ | ⟨h1, n⟩
    · obtain ⟨v, q1, q2⟩ := er'.rel k lv h2 ne
      exact ⟨v, by rw [← slot h1]; exact q1, q2⟩
    · obtain ⟨v, q1, q2⟩ := er.rel j lv h1 ne
      exact ⟨v, q1, q2.gr g fun b ob => apart h1 ob.1 (by rw [q1, ob.2]) n⟩
  · have f : ∀ {j : Nat} {lv : LV}, (PL.wb rs lvs' env)[j]? = some lv → lv.isOwn = true → ∃ lv0, env[j]? = some lv0 ∧ lv0.isOwn = true := fun {j lv} e o => by
      rcases wb_get hl e with ⟨k, h1, h2⟩ | ⟨h1, n⟩
      · exact was h1 h2 o
      · exact ⟨lv, h1, o⟩
    obtain ⟨l1, a1, a2⟩ := f e1 o1
    obtain ⟨l2, b1, b2⟩ := f e2 o2
    exact er.dis i j l1 l2 b a1 b1 a2 b2 s1 s2
  · rcases wb_get hl h1 with ⟨k, e1, e2⟩ | ⟨e1, n⟩
    · obtain ⟨lv0, q1, q2⟩ := was e1 e2 h2
      exact ⟨j, lv0, q1, q2, h3⟩
    · exact ⟨j, lv, e1, h2, h3⟩
  · rcases wb_get hl h1 with ⟨k, e1, e2⟩ | ⟨e1, n⟩
    · exact .inl ⟨k, lv, e2, h2, by rw [slot e1]; exact h3⟩
    · exact .inr ⟨apart e1 h2 h3 n, (er.tracked ⟨j, lv, e1, h2, h3⟩).2⟩
theorem Gr.reown {O O' O2 : Addr → Prop} (g : Gr O F H O' F' H') (h : ∀ a, O2 a → O a ∨ H a = none) : Gr O F H O2 F' H' := ⟨g.le, g.sub, g.keep, g.old, h, g.frz⟩
/-- what the arguments own is the frame's or a temporary's -/
theorem args_own (er : ER R F H σ env) (rr : RsR R F H σ rs vs) (h : gets rs env = some lvs) (o : Own lvs (vs.map some) a) : Own env σ a ∨ RsO rs vs a := by
  obtain ⟨k, lv, e, o, s⟩ := o
  rw [List.getElem?_map] at s
  have s' : vs[k]? = some (.ref a) := by
    cases q : vs[k]? with
    | none => rw [q] at s; cases s
    | some x => rw [q] at s; simp at s; rw [s]
  obtain ⟨r, h1, h2⟩ := gets_get h e
  cases r with
  | var i => exact .inl ⟨i, lv, (get_var h2).1, o, rr.at (k := k) h1 s'⟩
  | tmp lv' =>
    obtain ⟨rfl, _⟩ := get_tmp h2
    exact .inr ⟨k, _, _, h1, s', o, rfl⟩
theorem os_call {n : Nat} {g : FM} {t : TA} {ms : AM} (h : AS R W t ms) (hn : ∀ env rs env1, ms env = .val rs env1 → rs.length = n) : OS R W (tCallS (spOf R n g) (WE W) t) (oCall g ms) := by
  intro σ F H env Q er l p
  unfold oCall at p
  refine h σ F H env _ er l ?_
  cases e1 : ms env with
  | bad => rw [e1] at p; exact p.elim
  | exc x env1 => rw [e1] at p; exact p
  | val rs env1 =>
    rw [e1] at p
    intro vs F1 H1 er1 rr1 d1 dd1 g1
    simp only at p
    cases e2 : gets rs env1 with
    | none => simp only [e2] at p; exact p.elim
    | some lvs =>
      simp only [e2] at p
      by_cases nd : (ownVars rs env1).Nodup
      · rw [if_pos nd] at p
        refine ⟨by rw [← rr1.length]; exact hn _ _ _ e1, F1, lvs, g1.sub, rr1.args er1 d1 dd1 e2 nd, ?_⟩
        have g1' : Gr (Own env σ) F H (fun a => Own env1 σ a ∨ RsO rs vs a) F1 H1 := g1
        cases e3 : g lvs with
        | bad => simp only [e3] at p; exact p.elim
        | exc x lvs' =>
          simp only [e3] at p
          cases ok : okBack lvs lvs' with
          | false => simp [ok] at p; exact p.elim
          | true =>
            simp only [ok, if_true] at p
            intro cls d F2 H2 er2 xr g2
            obtain ⟨erw, oww, _⟩ := er1.wb rr1 d1 e2 nd ok er2 g2
            refine p cls d F2 H2 erw xr (g1.trans l ((g2.more fun a o => args_own er1 rr1 e2 o).reown fun a o => .inl (.inl (oww a o))))
        | ret lv lvs' =>
          simp only [e3] at p
          cases ok : (lv.ok && okBack lvs lvs') with
          | false => simp [ok] at p; exact p.elim
          | true =>
            simp only [ok, if_true] at p
            rw [Bool.and_eq_true] at ok
            intro v F2 H2 er2 ne lr d2 g2
            obtain ⟨erw, oww, oww2⟩ := er1.wb rr1 d1 e2 nd ok.2 er2 g2
            refine p v F2 H2 erw ⟨ne, lr⟩ (fun a o q => ?_) (g1.trans l ((g2.more fun a o => args_own er1 rr1 e2 o).reown fun a o => ?_))
            · rcases oww2 a q with z | ⟨z1, z2⟩
              · exact d2 a o z
              · rcases g2.own a (.inr o) with y | y
                · exact z1 y
                · exact z2 y
            · rcases o with o | o
              · exact .inl (.inl (oww a o))
              · rcases g2.own a (.inr o) with y | y
                · exact .inl (args_own er1 rr1 e2 y)
                · exact .inr y
      · rw [if_neg nd] at p; exact p.elim
end
section
variable {X : Cx} {R : RE} {W : WX}
def AM.len (ms : AM) (n : Nat) : Prop := ∀ env rs env1, ms env = .val rs env1 → rs.length = n
theorem AM.len_nil : AM.len aNil 0 := fun env rs env1 h => by cases h; rfl
theorem AM.len_cons {m : OM} {ms : AM} {n : Nat} (h : AM.len ms n) : AM.len (aCons m ms) (n + 1) := fun env rs env1 e => by
  unfold aCons at e
  cases e1 : m env with
  | bad => rw [e1] at e; cases e
  | exc x env2 => rw [e1] at e; cases e
  | val r env2 =>
    rw [e1] at e
    cases e2 : ms env2 with
    | bad => simp only [e2] at e; cases e
    | exc x env3 => simp only [e2] at e; cases e
    | val rs' env3 => simp only [e2] at e; cases e; simp [h _ _ _ e2]
/-- f(..), f a def of the text -/
theorem oj_call {k n : Nat} {f : Addr} {fd : FuncData} {ps : List Str} {g : FM} {x : Str} {p pos : Pos} {e : Expr} {es : List Expr} {ms : AM} (Fn : FnOk X.prog X.w X.K X.mg X.base (L2.CX X.prog X.w) k f fd ps (spOf R n g)) (hr : Room k X.A) (hm : X.mg x = some (.ref f)) (hk : PySem.W.keepIn X.K (.ref f) = true) (hb : Binds X.K fd ps []) (tk : Takes X W)
    (hg : Gl X x) (ha : AJ X R W (e :: es) ms) (hn : AM.len ms n)
    (hd : (x == ("__debug__" : Str)) = false := by decide)
    (he : starEach (e :: es) X.env = (false, eval e X.env) :: starEach es X.env := by rfl) (hpl : (backTo pos (starEach es X.env)).any (·.1) = false := by rfl) : OJ X R W (.Call (.Name x p) (e :: es) [] pos) (oCall g ms) :=
  let ⟨t, a1, a2⟩ := ha; ⟨_, pe_callS Fn hr hg hm hk hb (fun σ => passAt tk σ) a1 hd he hpl, os_call a2 hn⟩
end
end PL
set_option maxRecDepth 100000
set_option maxHeartbeats 4000000
/-! Operations on data. -/
namespace PL
open PySem L2 PyProof.Rows

/-! ### shapes of argument lists -/
def f0 (g : Option LV) : List LV → Option LV
  | [] => g
  | _ => none
def f1 (g : LV → Option LV) : List LV → Option LV
  | [a] => g a
  | _ => none
def f2 (g : LV → LV → Option LV) : List LV → Option LV
  | [a, b] => g a b
  | _ => none
def f3 (g : LV → LV → LV → Option LV) : List LV → Option LV
  | [a, b, c] => g a b c
  | _ => none
section
variable {X : Cx} {R : RE} {F H : Hp}
theorem rs1 {r : V → Hp → VK → Prop} {g : LV → Option LV} (h : ∀ F H x lx z Q, Le F H → LRel R F H lx x → g lx = some z → (∀ w F' H', Nw F H F' H' → LRel R F' H' z w → (∀ a, Owns z w a → H a = none) → Q w H') → r x H Q) : RS R (r1L r) (f1 g) := by
  intro F H vs lvs z Q l rl e k
  match lvs, vs, rl, e with
  | [lx], [x], .cons r1 .nil, e => exact h F H x lx z Q l r1 e k
  | [], _, _, e => cases e
  | _ :: _ :: _, _, _, e => cases e
theorem rs2 {r : R2} {g : LV → LV → Option LV} (h : ∀ F H x y lx ly z Q, Le F H → LRel R F H lx x → LRel R F H ly y → g lx ly = some z → (∀ w F' H', Nw F H F' H' → LRel R F' H' z w → (∀ a, Owns z w a → H a = none) → Q w H') → r x y H Q) : RS R (r2L r) (f2 g) := by
  intro F H vs lvs z Q l rl e k
  match lvs, vs, rl, e with
  | [lx, ly], [x, y], .cons r1 (.cons r2 .nil), e => exact h F H x y lx ly z Q l r1 r2 e k
  | [], _, _, e => cases e
  | [_], _, _, e => cases e
  | _ :: _ :: _ :: _, _, _, e => cases e
/-- a rule for a call of one value | of two -/
theorem rsc1 {r : List V → Hp → VK → Prop} {g : LV → Option LV} (h : ∀ F H x lx z Q, Le F H → LRel R F H lx x → g lx = some z → (∀ w F' H', Nw F H F' H' → LRel R F' H' z w → (∀ a, Owns z w a → H a = none) → Q w H') → r [x] H Q) : RS R r (f1 g) := by
  intro F H vs lvs z Q l rl e k
  match lvs, vs, rl, e with
  | [lx], [x], .cons r1 .nil, e => exact h F H x lx z Q l r1 e k
  | [], _, _, e => cases e
  | _ :: _ :: _, _, _, e => cases e
theorem rsc2 {r : List V → Hp → VK → Prop} {g : LV → LV → Option LV} (h : ∀ F H x y lx ly z Q, Le F H → LRel R F H lx x → LRel R F H ly y → g lx ly = some z → (∀ w F' H', Nw F H F' H' → LRel R F' H' z w → (∀ a, Owns z w a → H a = none) → Q w H') → r [x, y] H Q) : RS R r (f2 g) := by
  intro F H vs lvs z Q l rl e k
  match lvs, vs, rl, e with
  | [lx, ly], [x, y], .cons r1 (.cons r2 .nil), e => exact h F H x y lx ly z Q l r1 r2 e k
  | [], _, _, e => cases e
  | [_], _, _, e => cases e
  | _ :: _ :: _ :: _, _, _, e => cases e
/-- the answer is data that needs no new object -/
theorem kdat {z : LV} {d : D} {w : V} {Q : VK} (l : Le F H) (k : ∀ w F' H', Nw F H F' H' → LRel R F' H' z w → (∀ a, Owns z w a → H a = none) → Q w H') (e : z = .dat d) (r : Rep R F d w) : Q w H := by
  subst e
  exact k w F H (.refl l) (.dat r) fun _ o => by cases o.1
theorem Nw.new {p : Addr} {o : HO} (l : Le F H) (hp : H p = none) : Nw F H F (upd H p o) :=
  ⟨.refl F, l.mut (l.nn hp), fun a o' e => by rw [upd_ne (ne_of_none e hp)]; exact e, fun _ h => .inl h⟩
theorem Nw.newF {p : Addr} {o : HO} (l : Le F H) (hp : H p = none) : Nw F H (upd F p o) (upd H p o) :=
  ⟨.upd (l.nn hp), l.upd2, fun a o' e => by rw [upd_ne (ne_of_none e hp)]; exact e, fun a h => by
    by_cases e : a = p
    · subst e; exact .inr hp
    · rw [upd_ne e] at h; exact .inl h⟩
/-- a new list | a new tuple -/
theorem klst {ds : List D} {vs : List V} {Q : VK} {p : Addr} (l : Le F H) (k : ∀ w F' H', Nw F H F' H' → LRel R F' H' (.ml ds) w → (∀ a, Owns (.ml ds) w a → H a = none) → Q w H') (r : RepL R F ds vs) (hp : H p = none) : Q (.ref p) (upd H p (.lst vs)) :=
  k (.ref p) F _ (.new l hp) (.ml (l.nn hp) upd_same r) fun a o => by obtain ⟨_, e⟩ := o; cases e; exact hp
theorem ktup {ds : List D} {vs : List V} {Q : VK} {p : Addr} (l : Le F H) (k : ∀ w F' H', Nw F H F' H' → LRel R F' H' (.dat (.tup ds)) w → (∀ a, Owns (.dat (.tup ds)) w a → H a = none) → Q w H') (r : RepL R F ds vs) (hp : H p = none) : Q (.ref p) (upd H p (.tup vs)) :=
  k (.ref p) (upd F p (.tup vs)) _ (.newF l hp) (.dat (.tup upd_same (r.mono (.upd (l.nn hp))))) fun a o => by cases o.1

/-! ### ints -/
def gI (g : Int → Int → D) (c : Int → Int → Bool) : LV → LV → Option LV
  | .dat (.int i), .dat (.int j) => if c i j then some (.dat (g i j)) else none
  | _, _ => none
def cT : Int → Int → Bool := fun _ _ => true
theorem rs_I {C : Int → Int → Prop} {c : Int → Int → Bool} {g : Int → Int → V} {g' : Int → Int → D} (hc : ∀ i j, c i j = true → C i j) (h : ∀ i j F, Rep R F (g' i j) (g i j)) : RS R (r2L (rI C g)) (f2 (gI g' c)) := rs2 fun F H x y lx ly z Q l r1 r2 e k => by
  cases r1 with
  | dat r1 =>
    cases r1 with
    | int i =>
      cases r2 with
      | dat r2 =>
        cases r2 with
        | int j =>
          unfold gI at e
          simp only at e
          split at e
          · rename_i hh
            cases e
            exact ⟨i, j, rfl, rfl, hc i j hh, kdat l k rfl (h i j F)⟩
          · cases e
        | _ => cases e
      | _ => cases e
    | _ => cases e
  | _ => cases e
theorem rs_I0 {g : Int → Int → V} {g' : Int → Int → D} (h : ∀ i j F, Rep R F (g' i j) (g i j)) : RS R (r2L (rI0 g)) (f2 (gI g' cT)) := rs2 fun F H x y lx ly z Q l r1 r2 e k => by
  cases r1 with
  | dat r1 =>
    cases r1 with
    | int i =>
      cases r2 with
      | dat r2 =>
        cases r2 with
        | int j => cases e; exact ⟨i, j, rfl, rfl, kdat l k rfl (h i j F)⟩
        | _ => cases e
      | _ => cases e
    | _ => cases e
  | _ => cases e
def fAddI := f2 (gI (fun i j => .int (i + j)) cT)
def fSubI := f2 (gI (fun i j => .int (i - j)) cT)
def cMulB (i j : Int) : Bool := decide (-(2 ^ 64) < i ∧ i < 2 ^ 64) || decide (-(2 ^ 64) < j ∧ j < 2 ^ 64) || decide (i.natAbs.log2 + j.natAbs.log2 < 1000000)
def fMulI := f2 (gI (fun i j => .int (i * j)) cMulB)
def fModI := f2 (gI (fun i j => .int (i.fmod j)) fun _ j => decide (j ≠ 0))
def cDivB (_ j : Int) : Bool := decide (0 < j ∧ j.natAbs.log2 < 9000) 
def fDivI := f2 (gI (fun i j => .int (i.fdiv j)) fun i j => cDivB i j || decide (j ≠ 0 ∧ j.natAbs < 1073741824))
def fPowI := f2 (gI (fun i j => .int (i ^ j.toNat)) fun i j => decide (0 ≤ j ∧ j ≤ 1000000 ∧ i.natAbs < 2 ^ 64))
theorem OpJ.mk {op : Value → Value → Sem Value} {r : R2} {f : List LV → Option LV} (h : OpR X op r) (k : RS R (r2L r) f) : OpJ X R op f := ⟨r, h, k⟩
theorem jAddI : OpJ X R (binaryOp .Add) fAddI := .mk op_add (rs_I0 fun _ _ _ => .int _)
theorem jSubI : OpJ X R (binaryOp .Sub) fSubI := .mk op_sub (rs_I0 fun _ _ _ => .int _)
theorem op_mulB : OpR X (binaryOp .Mult) (rI (fun i j => cMulB i j = true) fun i j => .int (i * j)) := by
  intro pins s σ H x y v u Q I rx ry h
  obtain ⟨i, j, hx, hy, hc, q⟩ := h
  unfold cMulB at hc
  simp only [Bool.or_eq_true, decide_eq_true_eq] at hc
  rcases hc with (hc | hc) | hc
  · exact op_mul pins s σ H x y v u Q I rx ry ⟨i, j, hx, hy, .inl hc, q⟩
  · exact op_mul pins s σ H x y v u Q I rx ry ⟨i, j, hx, hy, .inr hc, q⟩
  · exact op_mulW pins s σ H x y v u Q I rx ry ⟨i, j, hx, hy, hc, q⟩
theorem jMulI : OpJ X R (binaryOp .Mult) fMulI := .mk op_mulB (rs_I (fun _ _ h => h) fun _ _ _ => .int _)
theorem jModI : OpJ X R (binaryOp .Mod) fModI := .mk op_modN (rs_I (fun _ _ h => of_decide_eq_true h) fun _ _ _ => .int _)
theorem op_divB : OpR X (binaryOp .FloorDiv) (rI (fun i j => (cDivB i j || decide (j ≠ 0 ∧ j.natAbs < 1073741824)) = true) fun i j => .int (i.fdiv j)) := by
  intro pins s σ H x y v u Q I rx ry h
  obtain ⟨i, j, hx, hy, hc, q⟩ := h
  rw [Bool.or_eq_true] at hc
  rcases hc with hc | hc
  · have hc' := of_decide_eq_true hc
    exact op_fdivW pins s σ H x y v u Q I rx ry ⟨i, j, hx, hy, hc', by show Q (V.int (i / j)) H; rw [← Int.fdiv_eq_ediv_of_nonneg i (by omega)]; exact q⟩
  · exact op_fdivN pins s σ H x y v u Q I rx ry ⟨i, j, hx, hy, (by have h' := of_decide_eq_true hc; exact h'), q⟩
theorem jDivI : OpJ X R (binaryOp .FloorDiv) fDivI := .mk op_divB (rs_I (fun _ _ h => h) fun _ _ _ => .int _)
theorem jPowI : OpJ X R (binaryOp .Pow) fPowI := .mk op_pow (rs_I (fun _ _ h => (by have h' := of_decide_eq_true h; exact h')) fun _ _ _ => .int _)
def fLtI := f2 (gI (fun i j => .bl (decide (i < j))) cT)
def fLeI := f2 (gI (fun i j => .bl (decide (i ≤ j))) cT)
def fGtI := f2 (gI (fun i j => .bl (decide (j < i))) cT)
def fGeI := f2 (gI (fun i j => .bl (decide (j ≤ i))) cT)
theorem jLtI : OpJ X R (compareOp .Lt) fLtI := .mk op_lt (rs_I0 fun _ _ _ => .bl _)
theorem jLeI : OpJ X R (compareOp .LtE) fLeI := .mk op_le (rs_I0 fun _ _ _ => .bl _)
theorem jGtI : OpJ X R (compareOp .Gt) fGtI := .mk op_gt (rs_I0 fun _ _ _ => .bl _)
theorem jGeI : OpJ X R (compareOp .GtE) fGeI := .mk op_ge (rs_I0 fun _ _ _ => .bl _)
/-- for chains -/
theorem rb_I0 {g : Int → Int → Bool} : RB R (rI0 fun i j => .bl (g i j)) (f2 (gI (fun i j => .bl (g i j)) cT)) := fun F H x y lx ly k Q l r1 r2 e q => by
  cases r1 with
  | dat r1 =>
    cases r1 with
    | int i =>
      cases r2 with
      | dat r2 =>
        cases r2 with
        | int j => cases e; exact ⟨i, j, rfl, rfl, q⟩
        | _ => cases e
      | _ => cases e
    | _ => cases e
  | _ => cases e
theorem cLtI : CmJ X R .Lt fLtI := ⟨_, op_lt, rb_I0⟩
theorem cLeI : CmJ X R .LtE fLeI := ⟨_, op_le, rb_I0⟩
theorem cGtI : CmJ X R .Gt fGtI := ⟨_, op_gt, rb_I0⟩
theorem cGeI : CmJ X R .GtE fGeI := ⟨_, op_ge, rb_I0⟩
def fNegI := f1 fun x => match x with
  | .dat (.int i) => some (.dat (.int (-i)))
  | _ => none
theorem jNegI : UnJ X R (unaryOp .USub) fNegI := ⟨_, un_neg, rs1 fun F H x lx z Q l r1 e k => by
  cases r1 with
  | dat r1 =>
    cases r1 with
    | int i => cases e; exact ⟨i, rfl, kdat l k rfl (.int _)⟩
    | _ => cases e
  | _ => cases e⟩

/-! ### texts, lists, tuples joined -/
def gAddS : LV → LV → Option LV
  | .dat (.str x), .dat (.str y) => if x.length + y.length ≤ sizeLine then some (.dat (.str (x ++ y))) else none
  | _, _ => none
def fAddS := f2 gAddS
theorem jAddS : OpJ X R (binaryOp .Add) fAddS := .mk op_add_str (rs2 fun F H x y lx ly z Q l r1 r2 e k => by
  cases r1 with
  | dat r1 =>
    cases r1 with
    | str a =>
      cases r2 with
      | dat r2 =>
        cases r2 with
        | str b =>
          unfold gAddS at e
          simp only at e
          split at e
          · cases e; exact ⟨a, b, rfl, rfl, by assumption, kdat l k rfl (.str _)⟩
          · cases e
        | _ => cases e
      | _ => cases e
    | _ => cases e
  | _ => cases e)
def LV.items : LV → Option (List D)
  | .dat (.lst ds) => some ds
  | .ml ds => some ds
  | _ => none
theorem LRel.items {lv : LV} {v : V} {ds : List D} (l : Le F H) (r : LRel R F H lv v) (e : lv.items = some ds) : ∃ a vs, v = .ref a ∧ H a = some (.lst vs) ∧ RepL R F ds vs := by
  cases r with
  | dat r =>
    cases r with
    | lst h rs => cases e; exact ⟨_, _, rfl, l.lstE h, rs⟩
    | _ => cases e
  | ml f h rs => cases e; exact ⟨_, _, rfl, h, rs⟩
  | _ => cases e
def gAddL : LV → LV → Option LV := fun a b => match a.items, b.items with
  | some ds, some es => if ds.length + es.length ≤ sizeLine then some (.ml (ds ++ es)) else none
  | _, _ => none
def fAddL := f2 gAddL
theorem jAddL : OpJ X R (binaryOp .Add) fAddL := .mk op_cat (rs2 fun F H x y lx ly z Q l r1 r2 e k => by
  unfold gAddL at e
  cases e1 : lx.items with
  | none => simp [e1] at e
  | some ds =>
    cases e2 : ly.items with
    | none => simp [e1, e2] at e
    | some es =>
      simp only [e1, e2] at e
      split at e
      · rename_i hz
        cases e
        obtain ⟨a, vs, rfl, ha, ra⟩ := r1.items l e1
        obtain ⟨b, us, rfl, hb, rb⟩ := r2.items l e2
        exact ⟨a, b, vs, us, rfl, rfl, ha, hb, by rw [← ra.length, ← rb.length]; exact hz, fun p hp => klst l k (ra.append rb) hp⟩
      · cases e)
def gAddT : LV → LV → Option LV
  | .dat (.tup ds), .dat (.tup es) => if ds.length + es.length ≤ sizeLine then some (.dat (.tup (ds ++ es))) else none
  | _, _ => none
def fAddT := f2 gAddT
theorem RepL.nil_l {ds : List D} (r : RepL R F ds []) : ds = [] := by cases r; rfl
theorem jAddT (hK : R.K = X.K) : OpJ X R (binaryOp .Add) fAddT := .mk op_catA (rs2 fun F H x y lx ly z Q l r1 r2 e k => by
  cases r1 with
  | dat r1 =>
    cases r1 with
    | tup h1 ra =>
      cases r2 with
      | dat r2 =>
        cases r2 with
        | tup h2 rb =>
          unfold gAddT at e
          simp only at e
          split at e
          · rename_i hz
            cases e
            refine ⟨_, _, _, _, rfl, rfl, .inl (.inl (l.tupE h1)), .inl (.inl (l.tupE h2)), by rw [← ra.length, ← rb.length]; exact hz, fun e0 => ?_, fun n0 e0 => ?_, fun n0 n1 p hp => ?_⟩
            · subst e0
              have := ra.nil_l; subst this
              exact kdat l k (by simp) (.tup h2 rb)
            · subst e0
              have := rb.nil_l; subst this
              exact kdat l k (by simp) (.tup h1 ra)
            · exact ktup l k (ra.append rb) hp
          · cases e
        | _ => cases e
      | _ => cases e
    | _ => cases e
  | _ => cases e)
def gRepL : LV → LV → Option LV := fun a b => match a.items, b with
  | some ds, .dat (.int k) => if -(2 ^ 63) ≤ k ∧ k < 2 ^ 63 ∧ ds.length * k.toNat ≤ sizeLine then some (.ml (List.replicate k.toNat ds).flatten) else none
  | _, _ => none
def fRepL := f2 gRepL
theorem RepL.rep {ds : List D} {vs : List V} (r : RepL R F ds vs) : ∀ n : Nat, RepL R F (List.replicate n ds).flatten (List.replicate n vs).flatten
  | 0 => .nil
  | n + 1 => by rw [List.replicate_succ, List.replicate_succ, List.flatten_cons, List.flatten_cons]; exact r.append (r.rep n)
theorem jRepL : OpJ X R (binaryOp .Mult) fRepL := .mk op_rep (rs2 fun F H x y lx ly z Q l r1 r2 e k => by
  unfold gRepL at e
  cases e1 : lx.items with
  | none => simp [e1] at e
  | some ds =>
    simp only [e1] at e
    cases r2 with
    | dat r2 =>
      cases r2 with
      | int n =>
        simp only at e
        split at e
        · rename_i hz
          cases e
          obtain ⟨a, vs, rfl, ha, ra⟩ := r1.items l e1
          refine ⟨a, n, vs, rfl, rfl, ha, hz.1, hz.2.1, by rw [← ra.length]; exact hz.2.2, fun p hp => ?_⟩
          exact klst l k (ra.rep _) hp
        · cases e
      | _ => cases e
    | _ => cases e)

/-! ### data as the model's data: equality, membership -/
mutual
def D.py : D → Option PyData
  | .non => some .none
  | .bl b => some (.bool b)
  | .int i => some (.int i)
  | .str x => some (.str x)
  | .tup ds => match D.pys ds with
    | some ps => some (.tuple ps)
    | none => none
  | .lst ds => match D.pys ds with
    | some ps => some (.list ps)
    | none => none
  | _ => none
def D.pys : List D → Option (List PyData)
  | [] => some []
  | d :: ds => match D.py d, D.pys ds with
    | some p, some ps => some (p :: ps)
    | _, _ => none
end
def LV.py : LV → Option PyData
  | .dat d => d.py
  | .ml ds => match D.pys ds with
    | some ps => some (.list ps)
    | none => none
  | _ => none
mutual
theorem Rep.dp (l : Le F H) : ∀ {d : D} {v : V} {p : PyData}, Rep R F d v → d.py = some p → Dp R.K H v p
  | _, _, p, .non, e => by simp only [D.py, Option.some.injEq] at e; subst e; exact .non
  | _, _, p, .bl b, e => by simp only [D.py, Option.some.injEq] at e; subst e; exact .bl b
  | _, _, p, .int i, e => by simp only [D.py, Option.some.injEq] at e; subst e; exact .int i
  | _, _, p, .str x, e => by simp only [D.py, Option.some.injEq] at e; subst e; exact .str x
  | .tup ds, _, p, .tup h r, e => by
    unfold D.py at e
    cases e1 : D.pys ds with
    | none => rw [e1] at e; cases e
    | some ps => rw [e1] at e; cases e; exact .tup (.inl (.inl (l.tupE h))) (RepL.dp l r e1)
  | .lst ds, _, p, .lst h r, e => by
    unfold D.py at e
    cases e1 : D.pys ds with
    | none => rw [e1] at e; cases e
    | some ps => rw [e1] at e; cases e; exact .lst (.inl (.inl (l.lstE h))) (RepL.dp l r e1)
  | _, _, p, .slst _ _, e => by simp [D.py] at e
  | _, _, p, .dic _ _ _, e => by simp [D.py] at e
  | _, _, p, .dit _ _ _, e => by simp [D.py] at e
  | _, _, p, .ins _ _ _, e => by simp [D.py] at e
  | _, _, p, .cst _, e => by simp [D.py] at e
  | _, _, p, .opq, e => by simp [D.py] at e
theorem RepL.dp (l : Le F H) : ∀ {ds : List D} {vs : List V} {ps : List PyData}, RepL R F ds vs → D.pys ds = some ps → DpAll R.K H vs ps
  | _, _, ps, .nil, e => by simp only [D.pys, Option.some.injEq] at e; subst e; exact .nil
  | d :: ds, _, ps, .cons h r, e => by
    unfold D.pys at e
    cases e1 : D.py d with
    | none => simp [e1] at e
    | some p =>
      cases e2 : D.pys ds with
      | none => simp [e1, e2] at e
      | some ps' => simp only [e1, e2, Option.some.injEq] at e; subst e; exact .cons (Rep.dp l h e1) (RepL.dp l r e2)
end
theorem LRel.dp {lv : LV} {v : V} {p : PyData} (l : Le F H) (r : LRel R F H lv v) (e : lv.py = some p) : Dp R.K H v p := by
  cases r with
  | dat r => exact r.dp l e
  | @ml a ds vs f h r =>
    unfold LV.py at e
    simp only at e
    cases e1 : D.pys ds with
    | none => rw [e1] at e; cases e
    | some ps => rw [e1] at e; cases e; exact .lst (.inl (.inl h)) (r.dp l e1)
  | _ => cases e
def gEqD (neg : Bool) : LV → LV → Option LV := fun a b => match a.py, b.py with
  | some p, some q => if SeqAt.shaped p && SeqAt.shaped q then some (.dat (.bl (if neg then !PyData.eqv p q else PyData.eqv p q))) else none
  | _, _ => none
def fEqD := f2 (gEqD false)
def fNeD := f2 (gEqD true)
theorem jEqD (hK : R.K = X.K) (hu : X.A.units + 64 < cLine) : OpJ X R (compareOp .Eq) fEqD := .mk (op_eqD hu) (rs2 fun F H x y lx ly z Q l r1 r2 e k => by
  unfold gEqD at e
  cases e1 : lx.py with
  | none => simp [e1] at e
  | some p =>
    cases e2 : ly.py with
    | none => simp [e1, e2] at e
    | some q =>
      simp only [e1, e2] at e
      split at e
      · rename_i hs
        rw [Bool.and_eq_true] at hs
        cases e
        exact ⟨p, q, by rw [← hK]; exact r1.dp l e1, by rw [← hK]; exact r2.dp l e2, hs.1, hs.2, kdat l k rfl (.bl _)⟩
      · cases e)
theorem jNeD (hK : R.K = X.K) (hu : X.A.units + 64 < cLine) : OpJ X R (compareOp .NotEq) fNeD := .mk (op_neD hu) (rs2 fun F H x y lx ly z Q l r1 r2 e k => by
  unfold gEqD at e
  cases e1 : lx.py with
  | none => simp [e1] at e
  | some p =>
    cases e2 : ly.py with
    | none => simp [e1, e2] at e
    | some q =>
      simp only [e1, e2] at e
      split at e
      · rename_i hs
        rw [Bool.and_eq_true] at hs
        cases e
        exact ⟨p, q, by rw [← hK]; exact r1.dp l e1, by rw [← hK]; exact r2.dp l e2, hs.1, hs.2, kdat l k rfl (.bl _)⟩
      · cases e)
def gInD (neg : Bool) : LV → LV → Option LV := fun a b => match a.py, b.py with
  | some p, some (.list qs) => if SeqAt.shaped p && SeqAt.shaped (.list qs) then some (.dat (.bl (if neg then !qs.any fun z => PyData.eqv z p else qs.any fun z => PyData.eqv z p))) else none
  | _, _ => none
def fInD := f2 (gInD false)
def fNiD := f2 (gInD true)
theorem gInD_inv {neg : Bool} {lx ly z : LV} (e : gInD neg lx ly = some z) : ∃ p qs, lx.py = some p ∧ ly.py = some (.list qs) ∧ SeqAt.shaped p = true ∧ SeqAt.shaped (.list qs) = true ∧ z = .dat (.bl (if neg then !qs.any fun z => PyData.eqv z p else qs.any fun z => PyData.eqv z p)) := by
  unfold gInD at e
  split at e
  · rename_i p qs h1 h2
    split at e
    · rename_i hs
      rw [Bool.and_eq_true] at hs
      cases e
      exact ⟨p, qs, h1, h2, hs.1, hs.2, rfl⟩
    · cases e
  · cases e
theorem jInD (hK : R.K = X.K) (hu : X.A.units + 65 < cLine) : OpJ X R (compareOp .In) fInD := .mk (op_inD hu) (rs2 fun F H x y lx ly z Q l r1 r2 e k => by
  obtain ⟨p, qs, h1, h2, h3, h4, rfl⟩ := gInD_inv e
  exact ⟨p, qs, by rw [← hK]; exact r1.dp l h1, by rw [← hK]; exact r2.dp l h2, h3, h4, kdat l k rfl (.bl _)⟩)
theorem jNiD (hK : R.K = X.K) (hu : X.A.units + 65 < cLine) : OpJ X R (compareOp .NotIn) fNiD := .mk (op_notInD hu) (rs2 fun F H x y lx ly z Q l r1 r2 e k => by
  obtain ⟨p, qs, h1, h2, h3, h4, rfl⟩ := gInD_inv e
  exact ⟨p, qs, by rw [← hK]; exact r1.dp l h1, by rw [← hK]; exact r2.dp l h2, h3, h4, kdat l k rfl (.bl _)⟩)
/-- a text in a text -/
def subIn (x y : Str) : Bool := !(Builtin.Str.occurrences y x 0 y.length 1).isEmpty
def gInS (neg : Bool) : LV → LV → Option LV
  | .dat (.str x), .dat (.str y) => some (.dat (.bl (if neg then !subIn x y else subIn x y)))
  | _, _ => none
def fInS := f2 (gInS false)
def fNiS := f2 (gInS true)
theorem jInS : OpJ X R (compareOp .In) fInS := .mk op_in_str (rs2 fun F H x y lx ly z Q l r1 r2 e k => by
  cases r1 with
  | dat r1 =>
    cases r1 with
    | str a =>
      cases r2 with
      | dat r2 =>
        cases r2 with
        | str b => cases e; exact ⟨a, b, rfl, rfl, kdat l k rfl (.bl _)⟩
        | _ => cases e
      | _ => cases e
    | _ => cases e
  | _ => cases e)
theorem jNiS : OpJ X R (compareOp .NotIn) fNiS := .mk op_notin_str (rs2 fun F H x y lx ly z Q l r1 r2 e k => by
  cases r1 with
  | dat r1 =>
    cases r1 with
    | str a =>
      cases r2 with
      | dat r2 =>
        cases r2 with
        | str b => cases e; exact ⟨a, b, rfl, rfl, kdat l k rfl (.bl _)⟩
        | _ => cases e
      | _ => cases e
    | _ => cases e
  | _ => cases e)
/-- is None, is not None; is of bools -/
def LV.isNon : LV → Option Bool
  | .dat .non => some true
  | .dat (.cst _) => none
  | .dat .opq => some false
  | .un => none
  | _ => some false
def gIsN (neg : Bool) : LV → LV → Option LV := fun a b => match b with
  | .dat .non => match a.isNon with
    | some k => some (.dat (.bl (if neg then !k else k)))
    | none => none
  | _ => none
def fIsN := f2 (gIsN false)
def fNtN := f2 (gIsN true)
theorem LRel.isNon {lv : LV} {v : V} {k : Bool} (r : LRel R F H lv v) (e : lv.isNon = some k) : decide (v = .non) = k := by
  cases r with
  | dat r => cases r <;> cases e <;> simp
  | _ => cases e <;> simp
theorem gIsN_inv {neg : Bool} {lx ly z : LV} (e : gIsN neg lx ly = some z) : ∃ k, lx.isNon = some k ∧ ly = .dat .non ∧ z = .dat (.bl (if neg then !k else k)) := by
  unfold gIsN at e
  split at e
  · cases e1 : lx.isNon with
    | none => simp [e1] at e
    | some k => simp only [e1, Option.some.injEq] at e; exact ⟨k, rfl, rfl, e.symm⟩
  · cases e
theorem jIsN : OpJ X R (compareOp .Is) fIsN := .mk op_isN (rs2 fun F H x y lx ly z Q l r1 r2 e k => by
  obtain ⟨b, h1, rfl, rfl⟩ := gIsN_inv e
  cases r2 with
  | dat r2 => cases r2; exact ⟨rfl, by rw [r1.isNon h1]; exact kdat l k rfl (.bl _)⟩)
theorem jNtN : OpJ X R (compareOp .IsNot) fNtN := .mk op_notN (rs2 fun F H x y lx ly z Q l r1 r2 e k => by
  obtain ⟨b, h1, rfl, rfl⟩ := gIsN_inv e
  cases r2 with
  | dat r2 => cases r2; exact ⟨rfl, by rw [r1.isNon h1]; exact kdat l k rfl (.bl _)⟩)
def gIsB (neg : Bool) : LV → LV → Option LV
  | .dat (.bl a), .dat (.bl b) => some (.dat (.bl (if neg then !decide (a = b) else decide (a = b))))
  | _, _ => none
def fIsB := f2 (gIsB false)
def fNtB := f2 (gIsB true)
theorem jIsB : OpJ X R (compareOp .Is) fIsB := .mk op_isBl (rs2 fun F H x y lx ly z Q l r1 r2 e k => by
  cases r1 with
  | dat r1 =>
    cases r1 with
    | bl a =>
      cases r2 with
      | dat r2 =>
        cases r2 with
        | bl b => cases e; exact ⟨a, b, rfl, rfl, kdat l k rfl (.bl _)⟩
        | _ => cases e
      | _ => cases e
    | _ => cases e
  | _ => cases e)
theorem jNtB : OpJ X R (compareOp .IsNot) fNtB := .mk op_notBl (rs2 fun F H x y lx ly z Q l r1 r2 e k => by
  cases r1 with
  | dat r1 =>
    cases r1 with
    | bl a =>
      cases r2 with
      | dat r2 =>
        cases r2 with
        | bl b => cases e; exact ⟨a, b, rfl, rfl, kdat l k rfl (.bl _)⟩
        | _ => cases e
      | _ => cases e
    | _ => cases e
  | _ => cases e)

/-! ### displays -/
end
section
variable {X : Cx} {R : RE} {W : WX} {pos : Pos} {e a b c : Expr} {es : List Expr} {m ma mb : OM} {ms : AM}
/-- every item is data -/
def LV.datum : LV → Option D
  | .dat d => some d
  | _ => none
def data : List LV → Option (List D)
  | [] => some []
  | lv :: r => match lv.datum, data r with
    | some d, some ds => some (d :: ds)
    | _, _ => none
theorem LRelL.data {F H : Hp} : ∀ {lvs : List LV} {vs : List V} {ds : List D}, LRelL R F H lvs vs → data lvs = some ds → RepL R F ds vs
  | [], [], ds, .nil, e => by cases e; exact .nil
  | lv :: r, v :: vs, ds, .cons h t, e => by
    unfold PL.data at e
    cases e1 : lv.datum with
    | none => simp [e1] at e
    | some d =>
      cases e2 : PL.data r with
      | none => simp [e1, e2] at e
      | some ds' =>
        simp only [e1, e2, Option.some.injEq] at e
        subst e
        cases h with
        | dat h => cases e1; exact .cons h (LRelL.data t e2)
        | _ => cases e1
def fLst : List LV → Option LV := fun l => match data l with
  | some ds => if ds.length ≤ sizeLine then some (.ml ds) else none
  | none => none
def fTup : List LV → Option LV := fun l => match data l with
  | some ds => if ds.length ≤ sizeLine then some (.dat (.tup ds)) else none
  | none => none
theorem oj_lst (h : AJ X R W es ms) : OJ X R W (.List es pos) (oOp ms fLst) := by
  obtain ⟨t, h1, h2⟩ := h
  refine ⟨_, pe_lst h1, os_op (rr := fun xs H Q => xs.length ≤ sizeLine ∧ ∀ p, H p = none → Q (.ref p) (upd H p (.lst xs))) h2 fun F H vs lvs z Q l rl e k => ?_⟩
  unfold fLst at e
  cases e1 : data lvs with
  | none => rw [e1] at e; cases e
  | some ds =>
    simp only [e1] at e
    split at e
    · cases e
      have r := rl.data e1
      exact ⟨by rw [← r.length]; assumption, fun p hp => klst l k r hp⟩
    · cases e
theorem oj_tup {x1} (h : AJ X R W es ms) : OJ X R W (.Tuple es x1 pos) (oOp ms fTup) := by
  obtain ⟨t, h1, h2⟩ := h
  refine ⟨_, pe_tup h1, os_op (rr := fun xs H Q => xs.length ≤ sizeLine ∧ ∀ p, H p = none → Q (.ref p) (upd H p (.tup xs))) h2 fun F H vs lvs z Q l rl e k => ?_⟩
  unfold fTup at e
  cases e1 : data lvs with
  | none => rw [e1] at e; cases e
  | some ds =>
    simp only [e1] at e
    split at e
    · cases e
      have r := rl.data e1
      exact ⟨by rw [← r.length]; assumption, fun p hp => ktup l k r hp⟩
    · cases e

/-! ### items, slices -/
def IxJ (X : Cx) (R : RE) (f : List LV → Option LV) : Prop := ∃ r, IxR X r ∧ RS R (r2L r) f
theorem IxJ.or {f g : List LV → Option LV} (h1 : IxJ X R f) (h2 : IxJ X R g) : IxJ X R (fOr f g) := by
  obtain ⟨r, a1, a2⟩ := h1
  obtain ⟨s, b1, b2⟩ := h2
  refine ⟨_, a1.or b1, (RS.or a2 b2).imp fun vs H Q q => ?_⟩
  match vs, q with
  | [x, y], q => exact q
  | [], q => exact q.elim id id
  | [x], q => exact q.elim id id
  | x :: y :: z :: r, q => exact q.elim id id
theorem oj_ix {f : List LV → Option LV} (h : IxJ X R f) (ha : OJ X R W a ma) (hb : OJ X R W b mb) (hs : PlainIx b) : OJ X R W (.Subscript a b pos) (o2 ma mb f) :=
  let ⟨r, h1, h2⟩ := h; let ⟨ta, a1, a2⟩ := ha; let ⟨tb, b1, b2⟩ := hb; ⟨tOp r ta tb, pe_ix h1 a1 b1 hs, os_op2 a2 b2 h2⟩
theorem RepL.atI {F : Hp} {ds : List D} {vs : List V} {i : Int} {d : D} (r : RepL R F ds vs) (e : L2.atI ds i = some d) : ∃ v, L2.atI vs i = some v ∧ Rep R F d v := by
  unfold L2.atI at e ⊢
  rw [← r.length]
  cases e1 : ixN ds.length i with
  | none => rw [e1] at e; cases e
  | some j =>
    rw [e1] at e
    exact r.get e
def gIxL : LV → LV → Option LV := fun a b => match a.items, b with
  | some ds, .dat (.int i) => (L2.atI ds i).map .dat
  | _, _ => none
def fIxL := f2 gIxL
theorem jIxL (hK : R.K = X.K) : IxJ X R fIxL := ⟨_, ix_list, rs2 fun F H x y lx ly z Q l r1 r2 e k => by
  unfold gIxL at e
  cases e1 : lx.items with
  | none => simp [e1] at e
  | some ds =>
    simp only [e1] at e
    cases r2 with
    | dat r2 =>
      cases r2 with
      | int i =>
        simp only at e
        cases e2 : L2.atI ds i with
        | none => rw [e2] at e; cases e
        | some d =>
          rw [e2] at e
          cases e
          obtain ⟨p, vs, rfl, hp, rp⟩ := r1.items l e1
          obtain ⟨v, q1, q2⟩ := rp.atI e2
          exact ⟨p, vs, i, v, rfl, rfl, .inl (.inl hp), q1, kdat l k rfl q2⟩
      | _ => cases e
    | _ => cases e⟩
def gIxT : LV → LV → Option LV
  | .dat (.tup ds), .dat (.int i) => (L2.atI ds i).map .dat
  | _, _ => none
def fIxT := f2 gIxT
theorem jIxT : IxJ X R fIxT := ⟨_, ix_tup, rs2 fun F H x y lx ly z Q l r1 r2 e k => by
  cases r1 with
  | dat r1 =>
    cases r1 with
    | @tup p ds vs hp rp =>
      cases r2 with
      | dat r2 =>
        cases r2 with
        | int i =>
          unfold gIxT at e
          simp only at e
          cases e2 : L2.atI ds i with
          | none => rw [e2] at e; cases e
          | some d =>
            rw [e2] at e
            cases e
            obtain ⟨v, q1, q2⟩ := rp.atI e2
            exact ⟨p, vs, i, v, rfl, rfl, .inl (.inl (l.tupE hp)), q1, kdat l k rfl q2⟩
        | _ => cases e
      | _ => cases e
    | _ => cases e
  | _ => cases e⟩
def gIxS : LV → LV → Option LV
  | .dat (.str x), .dat (.int i) => if x.length ≤ sizeLine then (L2.atI x.cps.toList i).map fun c => .dat (.str ⟨#[c]⟩) else none
  | _, _ => none
def fIxS := f2 gIxS
theorem jIxS : IxJ X R fIxS := ⟨_, ix_str, rs2 fun F H x y lx ly z Q l r1 r2 e k => by
  cases r1 with
  | dat r1 =>
    cases r1 with
    | str t =>
      cases r2 with
      | dat r2 =>
        cases r2 with
        | int i =>
          unfold gIxS at e
          simp only at e
          split at e
          · cases e2 : L2.atI t.cps.toList i with
            | none => rw [e2] at e; cases e
            | some c =>
              rw [e2] at e
              cases e
              exact ⟨t, i, c, rfl, rfl, by assumption, e2, kdat l k rfl (.str _)⟩
          · cases e
        | _ => cases e
      | _ => cases e
    | _ => cases e
  | _ => cases e⟩

/-! ### built-ins called by name -/
theorem CallJ.mk {fv : Value} {r : List V → Hp → VK → Prop} {f : List LV → Option LV} (h : CallR X fv r) (k : RS R r f) : CallJ X R fv f := ⟨r, h, k⟩
def gLen : LV → Option LV
  | .dat (.str x) => if x.length ≤ sizeLine then some (.dat (.int x.length)) else none
  | .dat (.lst ds) => some (.dat (.int ds.length))
  | .dat (.tup ds) => some (.dat (.int ds.length))
  | .ml ds => some (.dat (.int ds.length))
  | _ => none
def fLen := f1 gLen
theorem jLen : CallJ X R (.builtin "len") fLen := .mk call_len (rsc1 fun F H x lx z Q l r1 e k => by
  cases r1 with
  | dat r1 =>
    cases r1 with
    | str t =>
      unfold gLen at e
      simp only at e
      split at e
      · cases e; exact ⟨_, _, rfl, ⟨by assumption, rfl⟩, kdat l k rfl (.int _)⟩
      · cases e
    | lst h rs => cases e; exact ⟨_, _, rfl, .inl ⟨_, .inl (.inl (l.lstE h)), rs.length⟩, kdat l k rfl (.int _)⟩
    | tup h rs => cases e; exact ⟨_, _, rfl, .inr ⟨_, .inl (.inl (l.tupE h)), rs.length⟩, kdat l k rfl (.int _)⟩
    | _ => cases e
  | ml f h rs => cases e; exact ⟨_, _, rfl, .inl ⟨_, .inl (.inl h), rs.length⟩, kdat l k rfl (.int _)⟩
  | _ => cases e)
def gInt : LV → Option LV
  | .dat (.int i) => some (.dat (.int i))
  | .dat (.bl b) => some (.dat (.int (if b then 1 else 0)))
  | _ => none
def fInt := f1 gInt
theorem jInt : CallJ X R (.type "int") fInt := .mk call_int1 (rsc1 fun F H x lx z Q l r1 e k => by
  cases r1 with
  | dat r1 =>
    cases r1 with
    | int i => cases e; exact .inl ⟨i, rfl, kdat l k rfl (.int _)⟩
    | bl b => cases e; exact .inr ⟨b, rfl, kdat l k rfl (.int _)⟩
    | _ => cases e
  | _ => cases e)
def gAbs : LV → Option LV
  | .dat (.int i) => some (.dat (.int (if i < 0 then -i else i)))
  | _ => none
def fAbs := f1 gAbs
theorem jAbs : CallJ X R (.builtin "abs") fAbs := .mk call_abs (rsc1 fun F H x lx z Q l r1 e k => by
  cases r1 with
  | dat r1 =>
    cases r1 with
    | int i => cases e; exact ⟨i, rfl, kdat l k rfl (.int _)⟩
    | _ => cases e
  | _ => cases e)
end
end PL
set_option maxRecDepth 100000
set_option maxHeartbeats 4000000
/-! Slices, comprehensions, what is walked. -/
namespace PL
open PySem L2 PyProof.Rows

/-! ### one reading for each meaning -/
def tM (R : RE) (W : WX) (m : OM) : TE := fun σ H Q => ∃ F env, ER R F H σ env ∧ Le F H ∧ OPost R W (Own env σ) σ F H (m env) Q
def tT (R : RE) (W : WX) (m : TM) : TT := fun σ H Q => ∃ F env, ER R F H σ env ∧ Le F H ∧ TPost R W (Own env σ) σ F H (m env) Q
def tG (R : RE) (P : List Nat) (g : GM) : TG := fun v σ H Q => ∃ F env d env', ER R F H σ env ∧ Le F H ∧ Rep R F d v ∧ g d env = some env' ∧ ∀ σ', ER R F H σ' env' → (∀ x, Own env' σ' x → Own env σ x) → Fix P σ σ' → Q σ' H
def tI (R : RE) (W : WX) (m : IM) : TI := fun σ H Q => ∃ F env, ER R F H σ env ∧ Le F H ∧ IPost R W (Own env σ) σ F H (m env) Q
section
variable {X : Cx} {R : RE} {W : WX} {P : List Nat} {pos : Pos} {e a b c : Expr} {es : List Expr} {m ma mb : OM} {ms : AM}
theorem OJ.uni (h : OJ X R W e m) : PE X e (tM R W m) := by
  obtain ⟨t, h1, h2⟩ := h
  exact ⟨fun pins s σ H Q I ⟨F, env, er, l, p⟩ => h1.run pins s σ H Q I (h2 σ F H env Q er l p)⟩
theorem os_uni : OS R W (tM R W m) m := fun σ F H env Q er l p => ⟨F, env, er, l, p⟩
theorem TJ.uni {m : TM} (h : TJ X R W e m) : PT X e (tT R W m) := by
  obtain ⟨t, h1, h2⟩ := h
  exact ⟨fun pins s σ H Q I ⟨F, env, er, l, p⟩ => h1.run pins s σ H Q I (h2 σ F H env Q er l p)⟩
theorem ts_uni {m : TM} : TSd R W (tT R W m) m := fun σ F H env Q er l p => ⟨F, env, er, l, p⟩
theorem GJ.uni {g : GM} (h : GJ X R P e g) : PG X e (tG R P g) := by
  obtain ⟨t, h1, h2⟩ := h
  exact ⟨fun pins s σ H v u Q I r ⟨F, env, d, env', er, l, rp, q1, q2⟩ => h1.run pins s σ H v u Q I r (h2 σ F H env v d env' Q er l rp q1 q2)⟩
theorem gs_uni {g : GM} : GSd R P (tG R P g) g := fun σ F H env v d env' Q er l rp q1 q2 => ⟨F, env, d, env', er, l, rp, q1, q2⟩
theorem IJ.uni {tg : Expr} {m : IM} (h : IJ X R W tg e m) : PI X tg e (tI R W m) := by
  obtain ⟨t, h1, h2⟩ := h
  exact ⟨fun pins s σ H Q I ⟨F, env, er, l, p⟩ => h1.run pins s σ H Q I (h2 σ F H env Q er l p)⟩
theorem is_uni {m : IM} : ISd R W (tI R W m) m := fun σ F H env Q er l p => ⟨F, env, er, l, p⟩

/-! ### slices -/
inductive PR where
  | val (o : Option Int) (env : LEnv)
  | exc (x : Xc) (env : LEnv)
  | bad
abbrev PM := LEnv → PR
def PPost (R : RE) (W : WX) (O : Addr → Prop) (σ : L2.St) (F H : Hp) (r : PR) (Q : Option Int → Hp → Prop) : Prop :=
  match r with
  | .val o env' => ∀ F' H', ER R F' H' σ env' → Gr O F H (Own env' σ) F' H' → Q o H'
  | .exc x env' => XPost R W O σ F H x env'
  | .bad => False
def PoS (R : RE) (W : WX) (t : TO) (m : PM) : Prop := ∀ σ F H env Q, ER R F H σ env → Le F H → PPost R W (Own env σ) σ F H (m env) Q → t σ H Q
def PoJ (X : Cx) (R : RE) (W : WX) (o : Option Expr) (m : PM) : Prop := ∃ t, PO X o t ∧ PoS R W t m
def pNone : PM := fun env => .val none env
def pSome (m : OM) : PM := fun env => match m env with
  | .val r env1 => match r.get env1 with
    | some (.dat (.int i)) => .val (some i) env1
    | _ => .bad
  | .exc x env1 => .exc x env1
  | .bad => .bad
theorem po_j_none : PoJ X R W none pNone := ⟨_, po_none, fun σ F H env Q er l p => p F H er (.refl l)⟩
theorem po_j_some (h : OJ X R W e m) : PoJ X R W (some e) (pSome m) := by
  obtain ⟨t, h1, h2⟩ := h
  refine ⟨_, po_some h1, fun σ F H env Q er l p => ?_⟩
  unfold pSome at p
  refine h2 σ F H env _ er l ?_
  cases e1 : m env with
  | bad => rw [e1] at p; exact p.elim
  | exc x env1 => rw [e1] at p; exact p
  | val r env1 =>
    rw [e1] at p
    intro v F1 H1 er1 rr d1 g1
    simp only at p
    cases e2 : r.get env1 with
    | none => simp only [e2] at p; exact p.elim
    | some lv =>
      have lr := (rr.get er1 e2).1
      cases lr with
      | dat rp =>
        cases rp with
        | int k => simp only [e2] at p; exact ⟨k, rfl, p F1 H1 er1 (g1.weak fun a q => .inl q)⟩
        | _ => simp only [e2] at p; exact p.elim
      | _ => simp only [e2] at p; exact p.elim
abbrev SlF := LV → Option Int → Option Int → Option LV
def oSl (m : OM) (pl ph : PM) (f : SlF) : OM := fun env => match m env with
  | .val r env1 => match pl env1 with
    | .val lo env2 => match ph env2 with
      | .val hi env3 => match r.get env3 with
        | some lv => match f lv lo hi with
          | some z => if z.ok then .val (.tmp z) env3 else .bad
          | none => .bad
        | none => .bad
      | .exc x env3 => .exc x env3
      | .bad => .bad
    | .exc x env2 => .exc x env2
    | .bad => .bad
  | .exc x env1 => .exc x env1
  | .bad => .bad
def RSl (R : RE) (r : V → Option Int → Option Int → Hp → VK → Prop) (f : SlF) : Prop :=
  ∀ F H x lx lo hi z Q, Le F H → LRel R F H lx x → f lx lo hi = some z → (∀ w F' H', Nw F H F' H' → LRel R F' H' z w → (∀ a, Owns z w a → H a = none) → Q w H') → r x lo hi H Q
def SlJ (X : Cx) (R : RE) (f : SlF) : Prop := ∃ r, SlR X r ∧ RSl R r f
theorem SlJ.or {f g : SlF} (h1 : SlJ X R f) (h2 : SlJ X R g) : SlJ X R (fun x lo hi => match f x lo hi with | some z => some z | none => g x lo hi) := by
  obtain ⟨r, a1, a2⟩ := h1
  obtain ⟨s, b1, b2⟩ := h2
  refine ⟨_, a1.or b1, fun F H x lx lo hi z Q l rl e k => ?_⟩
  cases q : f lx lo hi with
  | some w => simp only [q] at e; cases e; exact .inl (a2 F H x lx lo hi _ Q l rl q k)
  | none => simp only [q] at e; exact .inr (b2 F H x lx lo hi z Q l rl e k)
theorem oj_sl {lo hi : Option Expr} {pl ph : PM} {f : SlF} {p2 : Pos} (hf : SlJ X R f) (he : OJ X R W e m) (hl : PoJ X R W lo pl) (hh : PoJ X R W hi ph) : OJ X R W (.Subscript e (.Slice lo hi none p2) pos) (oSl m pl ph f) := by
  obtain ⟨r, r1, r2⟩ := hf
  obtain ⟨te, a1, a2⟩ := he
  obtain ⟨tl, b1, b2⟩ := hl
  obtain ⟨th, c1, c2⟩ := hh
  refine ⟨_, pe_slice r1 a1 b1 c1, fun σ F H env Q er l p => ?_⟩
  unfold oSl at p
  refine a2 σ F H env _ er l ?_
  cases e1 : m env with
  | bad => rw [e1] at p; exact p.elim
  | exc x env1 => rw [e1] at p; exact p
  | val rf env1 =>
    rw [e1] at p
    intro v F1 H1 er1 rr d1 g1
    have g1w : Gr (Own env σ) F H (Own env1 σ) F1 H1 := g1.weak fun a q => .inl q
    refine b2 σ F1 H1 env1 _ er1 g1.sub ?_
    cases e2 : pl env1 with
    | bad => simp only [e2] at p; exact p.elim
    | exc x env2 => simp only [e2] at p; exact fun cls d F2 H2 er2 xr g2 => p cls d F2 H2 er2 xr (g1w.trans l g2)
    | val o1 env2 =>
      simp only [e2] at p
      intro F2 H2 er2 g2
      have rr2 := rr.gr g2 d1
      have ap2 : ∀ a, RfO rf v a → ¬ Own env2 σ a := fun a o q => by
        rcases g2.own a q with z | z
        · exact d1 a o z
        · exact (rr.tracked o).2 z
      refine c2 σ F2 H2 env2 _ er2 g2.sub ?_
      cases e3 : ph env2 with
      | bad => simp only [e3] at p; exact p.elim
      | exc x env3 => simp only [e3] at p; exact fun cls d F3 H3 er3 xr g3 => p cls d F3 H3 er3 xr (g1w.trans l (g2.trans g1.sub g3))
      | val o2 env3 =>
        simp only [e3] at p
        intro F3 H3 er3 g3
        have rr3 := rr2.gr g3 ap2
        have gg : Gr (Own env σ) F H (Own env3 σ) F3 H3 := g1w.trans l (g2.trans g1.sub g3)
        cases e4 : rf.get env3 with
        | none => simp only [e4] at p; exact p.elim
        | some lv =>
          simp only [e4] at p
          cases e5 : f lv o1 o2 with
          | none => simp only [e5] at p; exact p.elim
          | some z =>
            simp only [e5] at p
            cases e6 : z.ok with
            | false => simp [e6] at p; exact p.elim
            | true =>
              simp only [e6, if_true] at p
              refine r2 F3 H3 v lv o1 o2 z Q g3.sub (rr3.get er3 e4).1 e5 fun w F4 H4 nw lr ow => ?_
              refine p w F4 H4 (er3.nw nw) ⟨ok_ne e6, lr⟩ (fun a o q => (er3.tracked q).2 (ow a o)) ?_
              exact gg.trans l (nw.gr fun a q => q.elim .inl fun o => .inr (ow a o))
/-- a cut of items -/
def cutD (xs : List D) (lo hi : Option Int) : List D := (xs.drop (HT.sIx xs.length 0 lo)).take (HT.sIx xs.length xs.length hi - HT.sIx xs.length 0 lo)
theorem RepL.cut {F : Hp} {ds : List D} {vs : List V} (r : RepL R F ds vs) (lo hi : Option Int) : RepL R F (cutD ds lo hi) (cutV vs lo hi) := by
  unfold cutD cutV
  rw [← r.length]
  exact (r.drop _).take _
def slL : SlF := fun x lo hi => match x with
  | .dat (.lst ds) => some (.ml (cutD ds lo hi))
  | .dat (.slst ds) => some (.ml (cutD ds lo hi))
  | .ml ds => some (.ml (cutD ds lo hi))
  | _ => none
theorem jSlL (hK : R.K = X.K) : SlJ X R slL := ⟨_, sl_list, fun F H x lx lo hi z Q l r1 e k => by
  cases r1 with
  | dat r1 =>
    cases r1 with
    | lst h rs => cases e; exact ⟨_, _, rfl, .inl (.inl (l.lstE h)), fun p hp => klst l k (rs.cut lo hi) hp⟩
    | slst h rs => cases e; exact ⟨_, _, rfl, by rw [← hK]; exact l.sqL h, fun p hp => klst l k (rs.cut lo hi) hp⟩
    | _ => cases e
  | ml f h rs => cases e; exact ⟨_, _, rfl, .inl (.inl h), fun p hp => klst l k (rs.cut lo hi) hp⟩
  | _ => cases e⟩
def slT : SlF := fun x lo hi => match x with
  | .dat (.tup ds) => some (.dat (.tup (cutD ds lo hi)))
  | _ => none
theorem cutD_whole {ds : List D} {lo hi : Option Int} (h : HT.sIx ds.length 0 lo = 0 ∧ HT.sIx ds.length ds.length hi = ds.length) : cutD ds lo hi = ds := by
  unfold cutD
  rw [h.1, h.2]
  simp
theorem jSlT : SlJ X R slT := ⟨_, sl_tupA, fun F H x lx lo hi z Q l r1 e k => by
  cases r1 with
  | dat r1 =>
    cases r1 with
    | tup h rs =>
      cases e
      refine ⟨_, _, rfl, .inl (.inl (l.tupE h)), fun w => ?_, fun n p hp => ktup l k (rs.cut lo hi) hp⟩
      rw [← rs.length] at w
      exact kdat l k (by rw [cutD_whole w]) (.tup h rs)
    | _ => cases e
  | _ => cases e⟩
def slS : SlF := fun x lo hi => match x with
  | .dat (.str x) => if x.length ≤ sizeLine then some (.dat (.str (cutS x lo hi))) else none
  | _ => none
theorem jSlS : SlJ X R slS := ⟨_, sl_str, fun F H x lx lo hi z Q l r1 e k => by
  cases r1 with
  | dat r1 =>
    cases r1 with
    | str t =>
      unfold slS at e
      simp only at e
      split at e
      · cases e; exact ⟨t, rfl, by assumption, kdat l k rfl (.str _)⟩
      · cases e
    | _ => cases e
  | _ => cases e⟩

/-! ### what is walked -/
/-- a list's items | a tuple's -/
def iSeq (m : OM) : IM := fun env => match oFrz m env with
  | .val (.tmp (.dat (.lst ds))) env1 => .val ds env1
  | .val _ _ => .bad
  | .exc x env1 => .exc x env1
  | .bad => .bad
def iTp (m : OM) : IM := fun env => match oFrz m env with
  | .val (.tmp (.dat (.tup ds))) env1 => .val ds env1
  | .val _ _ => .bad
  | .exc x env1 => .exc x env1
  | .bad => .bad
theorem SqL.inj {K : PySem.W.Frag} {H : Hp} {a : Addr} {xs ys : List V} (h : H a = some (.lst xs)) (h' : SqL K H a ys) (n : K.lookup a = none ∨ True) : (Rd H a (.lst ys)) ∨ ∃ o, K.lookup a = some o := by
  rcases h' with h' | ⟨o, its, n, k, _⟩
  · exact .inl h'
  · exact .inr ⟨o, k⟩
theorem walks_lst {F H0 : Hp} {K : PySem.W.Frag} {a : Addr} {ds : List D} {vs : List V} (h : F a = some (.lst vs)) (r : RepL R F ds vs) : Walks R (Itl K a) F H0 ds where
  go := fun i G H l g _ hi => by
    obtain ⟨x, hx⟩ : ∃ x, vs[i]? = some x := ⟨_, List.getElem?_eq_getElem (by rw [← r.length]; exact hi)⟩
    exact ⟨vs, x, .inl (.inl (g.lstE (l.lstE h))), hx⟩
  stop := fun i G H l g _ hi => ⟨vs, .inl (.inl (g.lstE (l.lstE h))), by rw [← r.length]; exact hi⟩
  yld := fun i G H x H' l g _ hi y => by
    obtain ⟨rfl, y⟩ := y
    have hx := y vs (.inl (.inl (g.lstE (l.lstE h))))
    obtain ⟨d, h1, h2⟩ := r.getV hx
    exact ⟨d, G, h1, .refl g, h2.mono l⟩
theorem walks_tup {F H0 : Hp} {K : PySem.W.Frag} {a : Addr} {ds : List D} {vs : List V} (h : F a = some (.tup vs)) (r : RepL R F ds vs) : Walks R (Itt K a) F H0 ds where
  go := fun i G H l g _ hi => by
    obtain ⟨x, hx⟩ : ∃ x, vs[i]? = some x := ⟨_, List.getElem?_eq_getElem (by rw [← r.length]; exact hi)⟩
    exact ⟨vs, x, .inl (.inl (g.tupE (l.tupE h))), hx⟩
  stop := fun i G H l g _ hi => ⟨vs, .inl (.inl (g.tupE (l.tupE h))), by rw [← r.length]; exact hi⟩
  yld := fun i G H x H' l g _ hi y => by
    obtain ⟨rfl, y⟩ := y
    have hx := y vs (.inl (.inl (g.tupE (l.tupE h))))
    obtain ⟨d, h1, h2⟩ := r.getV hx
    exact ⟨d, G, h1, .refl g, h2.mono l⟩
theorem ij_seq {tg : Expr} (h : OJ X R W e m) : IJ X R W tg e (iSeq m) := by
  obtain ⟨t, h1, h2⟩ := oj_frz h
  refine ⟨_, pi_list h1, fun σ F H env Q er l p => ?_⟩
  unfold iSeq at p
  refine h2 σ F H env _ er l ?_
  cases e1 : oFrz m env with
  | bad => rw [e1] at p; exact p.elim
  | exc x env1 => rw [e1] at p; exact p
  | val r env1 =>
    rw [e1] at p
    intro v F1 H1 er1 rr d1 g1
    match r, rr, p with
    | .tmp (.dat (.lst ds)), rr, p =>
      cases rr.2 with
      | dat rp =>
        cases rp with
        | lst h rs => exact ⟨_, rfl, ⟨_, .inl (.inl (g1.sub.lstE h))⟩, p _ F1 H1 er1 (walks_lst h rs) (g1.weak fun a q => .inl q)⟩
    | .var i, rr, p => exact p.elim
    | .tmp .un, rr, p => exact p.elim
    | .tmp (.ml _), rr, p => exact p.elim
    | .tmp (.md _), rr, p => exact p.elim
    | .tmp (.mt _), rr, p => exact p.elim
    | .tmp (.mi _ _), rr, p => exact p.elim
    | .tmp (.dat .non), rr, p => exact p.elim
    | .tmp (.dat (.bl _)), rr, p => exact p.elim
    | .tmp (.dat (.int _)), rr, p => exact p.elim
    | .tmp (.dat (.str _)), rr, p => exact p.elim
    | .tmp (.dat (.tup _)), rr, p => exact p.elim
    | .tmp (.dat (.slst _)), rr, p => exact p.elim
    | .tmp (.dat (.dic _)), rr, p => exact p.elim
    | .tmp (.dat (.dit _)), rr, p => exact p.elim
    | .tmp (.dat (.ins _ _)), rr, p => exact p.elim
    | .tmp (.dat (.cst _)), rr, p => exact p.elim
    | .tmp (.dat .opq), rr, p => exact p.elim
theorem ij_tup {tg : Expr} (h : OJ X R W e m) : IJ X R W tg e (iTp m) := by
  obtain ⟨t, h1, h2⟩ := oj_frz h
  refine ⟨_, pi_tup h1, fun σ F H env Q er l p => ?_⟩
  unfold iTp at p
  refine h2 σ F H env _ er l ?_
  cases e1 : oFrz m env with
  | bad => rw [e1] at p; exact p.elim
  | exc x env1 => rw [e1] at p; exact p
  | val r env1 =>
    rw [e1] at p
    intro v F1 H1 er1 rr d1 g1
    match r, rr, p with
    | .tmp (.dat (.tup ds)), rr, p =>
      cases rr.2 with
      | dat rp =>
        cases rp with
        | tup h rs => exact ⟨_, rfl, ⟨_, .inl (.inl (g1.sub.tupE h))⟩, p _ F1 H1 er1 (walks_tup h rs) (g1.weak fun a q => .inl q)⟩
    | .var i, rr, p => exact p.elim
    | .tmp .un, rr, p => exact p.elim
    | .tmp (.ml _), rr, p => exact p.elim
    | .tmp (.md _), rr, p => exact p.elim
    | .tmp (.mt _), rr, p => exact p.elim
    | .tmp (.mi _ _), rr, p => exact p.elim
    | .tmp (.dat .non), rr, p => exact p.elim
    | .tmp (.dat (.bl _)), rr, p => exact p.elim
    | .tmp (.dat (.int _)), rr, p => exact p.elim
    | .tmp (.dat (.str _)), rr, p => exact p.elim
    | .tmp (.dat (.lst _)), rr, p => exact p.elim
    | .tmp (.dat (.slst _)), rr, p => exact p.elim
    | .tmp (.dat (.dic _)), rr, p => exact p.elim
    | .tmp (.dat (.dit _)), rr, p => exact p.elim
    | .tmp (.dat (.ins _ _)), rr, p => exact p.elim
    | .tmp (.dat (.cst _)), rr, p => exact p.elim
    | .tmp (.dat .opq), rr, p => exact p.elim
/-- two rules for one source -/
theorem PI.or {tg : Expr} {w1 w2 : TI} (h1 : PI X tg e w1) (h2 : PI X tg e w2) : PI X tg e (fun σ H Q => w1 σ H Q ∨ w2 σ H Q) :=
  ⟨fun pins s σ H Q I h => h.elim (h1.run pins s σ H Q I) (h2.run pins s σ H Q I)⟩
def iOr (i1 i2 : IM) : IM := fun env => match i1 env with
  | .bad => i2 env
  | r => r
theorem ij_or {tg : Expr} {i1 i2 : IM} (h1 : IJ X R W tg e i1) (h2 : IJ X R W tg e i2) : IJ X R W tg e (iOr i1 i2) := by
  obtain ⟨t, a1, a2⟩ := h1
  obtain ⟨u, b1, b2⟩ := h2
  refine ⟨_, PI.or a1 b1, fun σ F H env Q er l p => ?_⟩
  unfold iOr at p
  cases e1 : i1 env with
  | bad => rw [e1] at p; exact .inr (b2 σ F H env Q er l p)
  | exc x env1 => rw [e1] at p; exact .inl (a2 σ F H env Q er l (by rw [e1]; exact p))
  | val ds env1 => rw [e1] at p; exact .inl (a2 σ F H env Q er l (by rw [e1]; exact p))
/-- range -/
def rangeD (lo : Int) (n : Nat) : List D := (List.range n).map fun (i : Nat) => .int (lo + i)
def iRange1 (ms : AM) : IM := fun env => match ms env with
  | .val rs env1 => match gets rs env1 with
    | some [.dat (.int j)] => if -(2 ^ 62) ≤ j ∧ j < 2 ^ 62 then .val (rangeD 0 j.toNat) env1 else .bad
    | _ => .bad
  | .exc x env1 => .exc x env1
  | .bad => .bad
def iRange2 (ms : AM) : IM := fun env => match ms env with
  | .val rs env1 => match gets rs env1 with
    | some [.dat (.int i), .dat (.int j)] => if -(2 ^ 62) ≤ i ∧ i < 2 ^ 62 ∧ -(2 ^ 62) ≤ j ∧ j < 2 ^ 62 then .val (rangeD i (j - i).toNat) env1 else .bad
    | _ => .bad
  | .exc x env1 => .exc x env1
  | .bad => .bad
theorem walks_range {F H0 : Hp} {lo : Int} {n : Nat} : Walks R (Itr lo n) F H0 (rangeD lo n) where
  go := fun i G H l g _ hi => by show i < n; unfold rangeD at hi; simpa using hi
  stop := fun i G H l g _ hi => by show n ≤ i; unfold rangeD at hi; simpa using hi
  yld := fun i G H x H' l g _ hi y => by
    obtain ⟨rfl, rfl⟩ := y
    unfold rangeD at hi
    have hi' : i < n := by simpa using hi
    exact ⟨.int (lo + i), G, by unfold rangeD; simp [hi'], .refl g, .int _⟩
theorem ij_range1 {tg : Expr} {p' : Pos} (hg : Gl X "range") (hm : X.mg "range" = none) (ha : AJ X R W [a] ms) (hs : starEach [a] X.env = [(false, eval a X.env)] := by rfl) : IJ X R W tg (.Call (.Name "range" p') [a] [] pos) (iRange1 ms) := by
  obtain ⟨t, h1, h2⟩ := ha
  refine ⟨_, pi_range1 hg hm h1 hs, fun σ F H env Q er l p => ?_⟩
  unfold iRange1 at p
  refine h2 σ F H env _ er l ?_
  cases e1 : ms env with
  | bad => rw [e1] at p; exact p.elim
  | exc x env1 => rw [e1] at p; exact p
  | val rs env1 =>
    rw [e1] at p
    intro vs F1 H1 er1 rr d1 dd1 g1
    simp only at p
    split at p
    · rename_i j hj
      split at p
      · rename_i hb
        have rl := rr.gets er1 hj
        cases rl with
        | cons r1 rl =>
          cases rl
          cases r1 with
          | dat r1 =>
            cases r1
            exact ⟨j, rfl, hb.1, hb.2, p _ F1 H1 er1 walks_range (g1.weak fun a q => .inl q)⟩
      · exact p.elim
    · exact p.elim
theorem ij_range2 {tg : Expr} {p' : Pos} (hg : Gl X "range") (hm : X.mg "range" = none) (ha : AJ X R W [a, b] ms) (hs : starEach [a, b] X.env = [(false, eval a X.env), (false, eval b X.env)] := by rfl) (hs2 : starEach [b] X.env = [(false, eval b X.env)] := by rfl) : IJ X R W tg (.Call (.Name "range" p') [a, b] [] pos) (iRange2 ms) := by
  obtain ⟨t, h1, h2⟩ := ha
  refine ⟨_, pi_range2 hg hm h1 hs hs2, fun σ F H env Q er l p => ?_⟩
  unfold iRange2 at p
  refine h2 σ F H env _ er l ?_
  cases e1 : ms env with
  | bad => rw [e1] at p; exact p.elim
  | exc x env1 => rw [e1] at p; exact p
  | val rs env1 =>
    rw [e1] at p
    intro vs F1 H1 er1 rr d1 dd1 g1
    simp only at p
    split at p
    · rename_i i j hj
      split at p
      · rename_i hb
        have rl := rr.gets er1 hj
        cases rl with
        | cons r1 rl =>
          cases rl with
          | cons r2 rl =>
            cases rl
            cases r1 with
            | dat r1 =>
              cases r1
              cases r2 with
              | dat r2 =>
                cases r2
                exact ⟨i, j, rfl, ⟨hb.1, hb.2.1, hb.2.2.1, hb.2.2.2⟩, p _ F1 H1 er1 walks_range (g1.weak fun a q => .inl q)⟩
      · exact p.elim
    · exact p.elim
end
end PL
set_option maxRecDepth 100000
set_option maxHeartbeats 4000000
/-! Comprehensions. -/
namespace PL
open PySem L2 PyProof.Rows

def wipeE (env : LEnv) : List Nat → LEnv
  | [] => env
  | v :: vs => (wipeE env vs).set v .un
/-- the slots vs as they were -/
def restE (env0 env : LEnv) : List Nat → LEnv
  | [] => env
  | v :: vs => match env0[v]? with
    | some lv => (restE env0 env vs).set v lv
    | none => restE env0 env vs
inductive CR where
  | val (acc : List D) (env : LEnv)
  | bad
def lcD (g : GM) (t : TM) (m : OM) (vs : List Nat) : List D → List D → LEnv → CR
  | [], acc, env => .val acc env
  | d :: ds, acc, env => match g d env with
    | none => .bad
    | some env1 => match t env1 with
      | .val false env2 => lcD g t m vs ds acc (wipeE env2 vs)
      | .val true env2 => match oFrz m env2 with
        | .val (.tmp (.dat y)) env3 => if acc.length < sizeLine then lcD g t m vs ds (acc ++ [y]) (wipeE env3 vs) else .bad
        | _ => .bad
      | _ => .bad
def oLc (i : IM) (g : GM) (t : TM) (m : OM) (vs : List Nat) : OM := fun env => match i env with
  | .val ds env1 => match lcD g t m vs ds [] (wipeE env1 vs) with
    | .val acc env2 => .val (.tmp (.ml acc)) (restE env1 env2 vs)
    | .bad => .bad
  | .exc x env1 => .exc x env1
  | .bad => .bad
def tYesM : TM := fun env => .val true env

section
variable {R : RE} {F H F' H' : Hp} {σ : L2.St} {env env0 env1 : LEnv} {vs : List Nat} {a : Addr} {i : Nat} {lv : LV}
theorem wipeE_length : ∀ vs : List Nat, (wipeE env vs).length = env.length
  | [] => rfl
  | v :: vs => by unfold wipeE; rw [List.length_set, wipeE_length vs]
theorem wipeE_get : ∀ {vs : List Nat}, (wipeE env vs)[i]? = some lv → lv ≠ .un → env[i]? = some lv ∧ i ∉ vs
  | [], h, _ => ⟨h, by simp⟩
  | v :: vs, h, n => by
    unfold wipeE at h
    by_cases e : v = i
    · subst e
      rw [List.getElem?_set] at h
      split at h
      · split at h
        · cases h; exact absurd rfl n
        · cases h
      · exact absurd rfl (by assumption)
    · rw [List.getElem?_set_ne e] at h
      obtain ⟨h1, h2⟩ := wipeE_get h n
      exact ⟨h1, by simp only [List.mem_cons, not_or]; exact ⟨fun z => e z.symm, h2⟩⟩
theorem wipe_get {σ : L2.St} {i : Nat} : ∀ {vs : List Nat}, i ∉ vs → (wipe σ vs)[i]? = σ[i]?
  | [], _ => rfl
  | v :: vs, h => by
    simp only [List.mem_cons, not_or] at h
    unfold wipe
    rw [List.getElem?_set_ne (fun z => h.1 z.symm)]
    exact wipe_get h.2
theorem wipe_wipe (σ : L2.St) (vs : List Nat) : wipe (wipe σ vs) vs = wipe σ vs := by
  apply List.ext_getElem?
  intro i
  by_cases h : i ∈ vs
  · have key : ∀ {σ : L2.St} {vs : List Nat}, i ∈ vs → (wipe σ vs)[i]? = if i < σ.length then some none else none := by
      intro σ vs
      induction vs with
      | nil => intro h; simp at h
      | cons v vs ih =>
        intro h
        unfold wipe
        by_cases e : v = i
        · subst e
          rw [List.getElem?_set]
          simp [wipe_length]
        · rw [List.getElem?_set_ne e]
          rcases List.mem_cons.mp h with z | z
          · exact absurd z.symm e
          · exact ih z
    rw [key h, key h, wipe_length]
  · rw [wipe_get h]
theorem ER.wipe (er : ER R F H σ env) : ER R F H (L2.wipe σ vs) (wipeE env vs) ∧ ∀ a, Own (wipeE env vs) (L2.wipe σ vs) a → Own env σ a := by
  refine ⟨⟨by rw [wipe_length, wipeE_length]; exact er.len, fun i lv h n => ?_, fun i j lv lv' b h1 h2 o1 o2 s1 s2 => ?_⟩, fun a ⟨i, lv, h1, h2, h3⟩ => ?_⟩
  · obtain ⟨h1, h2⟩ := wipeE_get h n
    obtain ⟨v, q1, q2⟩ := er.rel i lv h1 n
    exact ⟨v, by rw [wipe_get h2]; exact q1, q2⟩
  · obtain ⟨h1, n1⟩ := wipeE_get h1 (by rintro rfl; cases o1)
    obtain ⟨h2, n2⟩ := wipeE_get h2 (by rintro rfl; cases o2)
    exact er.dis i j lv lv' b h1 h2 o1 o2 (by rw [← wipe_get n1]; exact s1) (by rw [← wipe_get n2]; exact s2)
  · obtain ⟨h1, n1⟩ := wipeE_get h1 (by rintro rfl; cases h2)
    exact ⟨i, lv, h1, h2, by rw [← wipe_get n1]; exact h3⟩
theorem restE_length : ∀ vs : List Nat, (restE env0 env vs).length = env.length
  | [] => rfl
  | v :: vs => by
    unfold restE
    split
    · rw [List.length_set, restE_length vs]
    · exact restE_length vs
theorem restE_get : ∀ {vs : List Nat}, env0.length = env.length → (restE env0 env vs)[i]? = some lv → (i ∈ vs ∧ env0[i]? = some lv) ∨ (i ∉ vs ∧ env[i]? = some lv)
  | [], _, h => .inr ⟨by simp, h⟩
  | v :: vs, hl, h => by
    unfold restE at h
    cases e : env0[v]? with
    | some lv0 =>
      rw [e] at h
      simp only at h
      by_cases ei : v = i
      · subst ei
        rw [List.getElem?_set] at h
        split at h
        · split at h
          · cases h; exact .inl ⟨by simp, e⟩
          · cases h
        · exact absurd rfl (by assumption)
      · rw [List.getElem?_set_ne ei] at h
        rcases restE_get hl h with ⟨h1, h2⟩ | ⟨h1, h2⟩
        · exact .inl ⟨List.mem_cons_of_mem _ h1, h2⟩
        · exact .inr ⟨by simp only [List.mem_cons, not_or]; exact ⟨fun z => ei z.symm, h1⟩, h2⟩
    | none =>
      rw [e] at h
      simp only at h
      rcases restE_get hl h with ⟨h1, h2⟩ | ⟨h1, h2⟩
      · exact .inl ⟨List.mem_cons_of_mem _ h1, h2⟩
      · by_cases ei : v = i
        · subst ei
          have l1 := (List.getElem?_eq_some_iff.mp h2).1
          rw [List.getElem?_eq_none_iff] at e
          omega
        · exact .inr ⟨by simp only [List.mem_cons, not_or]; exact ⟨fun z => ei z.symm, h1⟩, h2⟩
/-- behind a comprehension the block's names are as they were -/
theorem ER.rest {O' : Addr → Prop} (er : ER R F H σ env0) (g : Gr (Own (wipeE env0 vs) (L2.wipe σ vs)) F H O' F' H') (er1 : ER R F' H' (L2.wipe σ vs) env1) (hw : ∀ i lv, env1[i]? = some lv → lv ≠ .un → i ∉ vs) (ho : ∀ a, Own env1 (L2.wipe σ vs) a → O' a) :
    ER R F' H' σ (restE env0 env1 vs) ∧ ∀ a, Own (restE env0 env1 vs) σ a → (∃ i lv, i ∈ vs ∧ env0[i]? = some lv ∧ lv.isOwn = true ∧ σ[i]? = some (some (.ref a))) ∨ Own env1 (L2.wipe σ vs) a := by
  have hl : env0.length = env1.length := by rw [← er.len, ← er1.len, wipe_length]
  have old : ∀ {i : Nat} {lv : LV} {b : Addr}, i ∈ vs → env0[i]? = some lv → lv.isOwn = true → σ[i]? = some (some (.ref b)) → ¬ Own (wipeE env0 vs) (L2.wipe σ vs) b := fun {i lv b} hi e o s ⟨j, lv', h1, h2, h3⟩ => by
    obtain ⟨h1, n1⟩ := wipeE_get h1 (by rintro rfl; cases h2)
    have := er.dis i j lv lv' b e h1 o h2 s (by rw [← wipe_get n1]; exact h3)
    subst this
    exact n1 hi
  have cross : ∀ {i j : Nat} {lv lv' : LV} {b : Addr}, i ∈ vs → env0[i]? = some lv → lv.isOwn = true → σ[i]? = some (some (.ref b)) → env1[j]? = some lv' → lv'.isOwn = true → (L2.wipe σ vs)[j]? = some (some (.ref b)) → False := fun {i j lv lv' b} hi e o s e' o' s' => by
    rcases g.own b (ho b ⟨j, lv', e', o', s'⟩) with z | z
    · exact old hi e o s z
    · exact (er.tracked ⟨i, lv, e, o, s⟩).2 z
  refine ⟨⟨by rw [restE_length, ← hl]; exact er.len, fun i lv h n => ?_, fun i j lv lv' b h1 h2 o1 o2 s1 s2 => ?_⟩, fun a ⟨i, lv, h1, h2, h3⟩ => ?_⟩
  · rcases restE_get hl h with ⟨h1, h2⟩ | ⟨h1, h2⟩
    · obtain ⟨v, q1, q2⟩ := er.rel i lv h2 n
      exact ⟨v, q1, q2.gr g fun b ob => old h1 h2 ob.1 (by rw [q1, ob.2])⟩
    · obtain ⟨v, q1, q2⟩ := er1.rel i lv h2 n
      exact ⟨v, by rw [← wipe_get h1]; exact q1, q2⟩
  · rcases restE_get hl h1 with ⟨a1, a2⟩ | ⟨a1, a2⟩
    · rcases restE_get hl h2 with ⟨b1, b2⟩ | ⟨b1, b2⟩
      · exact er.dis i j lv lv' b a2 b2 o1 o2 s1 s2
      · exact (cross a1 a2 o1 s1 b2 o2 (by rw [wipe_get b1]; exact s2)).elim
    · rcases restE_get hl h2 with ⟨b1, b2⟩ | ⟨b1, b2⟩
      · exact (cross b1 b2 o2 s2 a2 o1 (by rw [wipe_get a1]; exact s1)).elim
      · exact er1.dis i j lv lv' b a2 b2 o1 o2 (by rw [wipe_get a1]; exact s1) (by rw [wipe_get b1]; exact s2)
  · rcases restE_get hl h1 with ⟨a1, a2⟩ | ⟨a1, a2⟩
    · exact .inl ⟨i, lv, a1, a2, h2, h3⟩
    · exact .inr ⟨i, lv, a2, h2, by rw [wipe_get a1]; exact h3⟩
end

section
variable {X : Cx} {R : RE} {W : WX} {P : List Nat} {pos : Pos} {elt tg iter : Expr} {ifs : List Expr} {i : IM} {g : GM} {t : TM} {m : OM}
abbrev W0 : WX := fun _ _ _ _ => False
/-- a target keeps the number of slots -/
def GLen (g : GM) : Prop := ∀ d env env', g d env = some env' → env'.length = env.length
def GLens (g : GMs) : Prop := ∀ d env env', g d env = some env' → env'.length = env.length
theorem glen_name {i : Nat} : GLen (gmName i) := fun d env env' h => by cases h; simp
theorem glens_nil : GLens gmNil := fun d env env' h => by unfold gmNil at h; split at h <;> cases h; rfl
theorem glens_cons {g : GM} {gs : GMs} (h1 : GLen g) (h2 : GLens gs) : GLens (gmCons g gs) := fun d env env' h => by
  unfold gmCons at h
  cases d with
  | nil => cases h
  | cons d r =>
    simp only at h
    cases e : g d env with
    | none => rw [e] at h; cases h
    | some env1 => rw [e] at h; rw [h2 r env1 env' h, h1 d env env1 e]
theorem glen_tup {k : Nat} {gs : GMs} (h : GLens gs) : GLen (gmTup k gs) := fun d env env' e => by
  unfold gmTup at e
  split at e
  · split at e
    · exact h _ _ _ e
    · cases e
  · cases e
def compl (vs : List Nat) (n : Nat) : List Nat := (List.range n).filter fun i => !vs.contains i
theorem mem_compl {vs : List Nat} {n i : Nat} (h1 : i < n) (h2 : i ∉ vs) : i ∈ compl vs n := by unfold compl; simp [h1, h2]
/-- only vs were stored -/
theorem wipe_fix {σ σ' : L2.St} {vs : List Nat} (hl : σ'.length = σ.length) (h : Fix (compl vs σ.length) σ σ') : wipe σ' vs = wipe σ vs := by
  apply List.ext_getElem?
  intro i
  by_cases hi : i ∈ vs
  · have key : ∀ {σ : L2.St} {vs : List Nat}, i ∈ vs → (wipe σ vs)[i]? = if i < σ.length then some none else none := by
      intro σ vs
      induction vs with
      | nil => intro h; simp at h
      | cons v vs ih =>
        intro h
        unfold wipe
        by_cases e : v = i
        · subst e
          rw [List.getElem?_set]
          simp [wipe_length]
        · rw [List.getElem?_set_ne e]
          rcases List.mem_cons.mp h with z | z
          · exact absurd z.symm e
          · exact ih z
    rw [key hi, key hi, hl]
  · rw [wipe_get hi, wipe_get hi]
    by_cases hn : i < σ.length
    · exact h i (mem_compl hn hi)
    · rw [List.getElem?_eq_none (by omega), List.getElem?_eq_none (by omega)]
theorem Gr.mut {O : Addr → Prop} {F H : Hp} {D : Addr} {o o' : HO} (l : Le F H) (hO : O D) (hF : F D = none) (hD : H D = some o) (hf : ∀ ob u, o ≠ .frz ob u) : Gr O F H O F (upd H D o') :=
  ⟨.refl F, l.mut hF, fun a u e f n => by rw [upd_ne (fun (z : a = D) => n (by rw [z]; exact hO))]; exact e, fun a h => .inl h, fun a h => .inl h, fun a ob u e => by
    by_cases z : a = D
    · subst z; rw [hD] at e; cases e; exact absurd rfl (hf ob u)
    · rw [upd_ne z]; exact e⟩
/-- an object that is none of the slots' own changes -/
theorem ER.other {F H : Hp} {σ : L2.St} {env : LEnv} {D : Addr} {o : HO} (er : ER R F H σ env) (hF : F D = none) (n : ¬ Own env σ D) : ER R F (upd H D o) σ env := by
  refine ⟨er.len, fun i lv h ne => ?_, er.dis⟩
  obtain ⟨v, q1, q2⟩ := er.rel i lv h ne
  refine ⟨v, q1, ?_⟩
  have na : ∀ a, v = .ref a → lv.isOwn = true → a ≠ D := fun a e o z => n ⟨i, lv, h, o, by rw [q1, e, z]⟩
  cases q2 with
  | dat r => exact .dat r
  | ml f hh r => exact .ml f (by rw [upd_ne (na _ rfl rfl)]; exact hh) r
  | md f hh k r => exact .md f (by rw [upd_ne (na _ rfl rfl)]; exact hh) k r
  | mt f hh k r => exact .mt f (by rw [upd_ne (na _ rfl rfl)]; exact hh) k r
  | mi f hh k r => exact .mi f (by rw [upd_ne (na _ rfl rfl)]; exact hh) k r
theorem lc_sound {σ : L2.St} {F H : Hp} {env : LEnv} {Q : VK} {J : It} {tg : TG} {tt : TT} {te : TE} {vs : List Nat} {ds : List D} (er : ER R F H σ env) (l : Le F H) (wk : Walks R J F H ds) (gl : GLen g)
    (hg : GSd R (compl vs σ.length) tg g) (ht : TSd R W0 tt t) (he : OS R W0 te m)
    (p : OPost R W (Own env σ) σ F H (match lcD g t m vs ds [] (wipeE env vs) with
      | .val acc env2 => .val (.tmp (.ml acc)) (restE env env2 vs)
      | .bad => .bad) Q) (D : Addr) (hD : H D = none) :
    ∃ W : Nat → Nat → Hp → Prop, (∃ m, W 0 m (upd H D (.lst []))) ∧ ∀ i m H, W i m H →
      (J.stop i H ∧ Q (.ref D) H) ∨ (J.go i H ∧ ∃ Nx : Hp → Prop, (∀ H', Nx H' → ∃ m', m' < m ∧ W (i + 1) m' H') ∧ ∀ x H', J.yld i H x H' → tg x (wipe σ vs) H' fun σ2 H2 => wipe σ2 vs = wipe σ vs ∧ tt σ2 H2 fun b H3 =>
        if b = true then te σ2 H3 fun y H4 => ∃ acc, H4 D = some (.lst acc) ∧ acc.length < sizeLine ∧ Nx (upd H4 D (.lst (acc ++ [y]))) else Nx H3) := by
  obtain ⟨er0, ow0⟩ := er.wipe (vs := vs)
  let OB : Addr → Prop := Own (wipeE env vs) (wipe σ vs)
  let Pst : List PL.D → List PL.D → LEnv → Prop := fun ds acc env1 => OPost R W (Own env σ) σ F H (match lcD g t m vs ds acc env1 with
      | .val acc env2 => .val (.tmp (.ml acc)) (restE env env2 vs)
      | .bad => .bad) Q
  let Wv : Nat → Nat → Hp → Prop := fun i k H1 => i ≤ ds.length ∧ k = ds.length - i ∧ ∃ F1 env1 acc accV, ER R F1 H1 (wipe σ vs) env1 ∧ (∀ j lv, env1[j]? = some lv → lv ≠ .un → j ∉ vs) ∧ Gr OB F H (fun a => Own env1 (wipe σ vs) a ∨ a = D) F1 H1 ∧ ¬ Own env1 (wipe σ vs) D ∧
    F1 D = none ∧ H1 D = some (.lst accV) ∧ RepL R F1 acc accV ∧ Pst (ds.drop i) acc env1
  have nw0 : Nw F H F (upd H D (.lst [])) := .new l hD
  refine ⟨Wv, ⟨ds.length, Nat.zero_le _, rfl, F, wipeE env vs, [], [], er0.nw nw0, fun j lv h n => (wipeE_get h n).2, nw0.gr fun a q => q.elim .inl fun z => .inr (z ▸ hD), fun o => (er.tracked (ow0 D o)).2 hD, l.nn hD, upd_same, .nil, by simpa using p⟩, ?_⟩
  rintro i k H1 ⟨hi, rfl, F1, env1, acc, accV, er1, hw1, g1, nD, fD, hD1, rA, p1⟩
  by_cases hlt : i < ds.length
  · refine .inr ⟨wk.go i F1 H1 g1.le g1.sub g1.frz hlt, Wv (i + 1) (ds.length - (i + 1)), fun H' w => ⟨_, by omega, w⟩, fun x H2 y => ?_⟩
    obtain ⟨d, F2, hd, nw, rp⟩ := wk.yld i F1 H1 x H2 g1.le g1.sub g1.frz hlt y
    have ed : ds.drop i = d :: ds.drop (i + 1) := by
      have : ds[i] = d := by rw [List.getElem?_eq_getElem hlt] at hd; exact Option.some.inj hd
      rw [← this]; exact List.drop_eq_getElem_cons hlt
    rw [ed] at p1
    have fD2 : F2 D = none := nw.fnone fD (by rw [hD1]; simp)
    have hD2 : H2 D = some (.lst accV) := nw.keep _ _ hD1
    cases e1 : g d env1 with
    | none =>
      have p1' : OPost R W (Own env σ) σ F H .bad Q := by
        have := p1
        simp only [Pst] at this
        unfold lcD at this
        simp only [e1] at this
        exact this
      exact p1'.elim
    | some env2 =>
      refine hg (wipe σ vs) F2 H2 env1 x d env2 _ (er1.nw nw) nw.sub rp e1 fun σ2 er2 o2 f2 => ?_
      have hl2 : σ2.length = (wipe σ vs).length := by rw [er2.len, gl d env1 env2 e1, er1.len]
      have w2 : wipe σ2 vs = wipe σ vs := by
        rw [wipe_fix hl2 (by rw [wipe_length]; exact f2), wipe_wipe]
      have nD2 : ¬ Own env2 σ2 D := fun o => nD (o2 D o)
      refine ⟨w2, ht σ2 F2 H2 env2 _ er2 nw.sub ?_⟩
      cases e2 : t env2 with
      | bad =>
        simp only [Pst] at p1
        unfold lcD at p1
        simp only [e1, e2] at p1
        exact p1.elim
      | exc x env3 =>
        simp only [Pst] at p1
        unfold lcD at p1
        simp only [e1, e2] at p1
        exact p1.elim
      | val b env3 =>
        intro F3 H3 er3 g3
        have nD3 : ¬ Own env3 σ2 D := fun o => by
          rcases g3.own D o with z | z
          · exact nD2 z
          · rw [hD2] at z; cases z
        have fD3 : F3 D = none := g3.fnone fD2 (by rw [hD2]; simp) nD2
        have hD3 : H3 D = some (.lst accV) := g3.keep D _ hD2 fD2 nD2
        -- from the turn's start to here
        have G3 : Gr (fun a => Own env1 (wipe σ vs) a ∨ a = D) F1 H1 (fun a => Own env3 σ2 a ∨ a = D) F3 H3 := by
          have s1 : Gr (fun a => Own env1 (wipe σ vs) a ∨ a = D) F1 H1 (fun a => Own env2 σ2 a ∨ a = D) F2 H2 := nw.gr fun a q => q.elim (fun z => .inl (.inl (o2 a z))) fun z => .inl (.inr z)
          exact s1.trans g1.sub ((g3.more fun a o => .inl o).reown fun a q => q.elim (fun z => (g3.own a z).elim (fun y => .inl (.inl y)) .inr) fun z => .inl (.inr z))
        cases b with
        | false =>
          rw [if_neg Bool.false_ne_true]
          have p2 : Pst (ds.drop (i + 1)) acc (wipeE env3 vs) := by
            have := p1
            simp only [Pst] at this ⊢
            unfold lcD at this
            simp only [e1, e2] at this
            exact this
          obtain ⟨erw, oww⟩ := er3.wipe (vs := vs)
          rw [w2] at erw oww
          refine ⟨hlt, rfl, F3, wipeE env3 vs, acc, accV, erw, fun j lv h n => (wipeE_get h n).2, ?_, fun o => nD3 (oww D o), fD3, hD3, rA.mono (nw.le.trans g3.le), p2⟩
          exact (g1.trans l G3).weak fun a q => q.elim (fun z => .inl (oww a z)) .inr
        | true =>
          rw [if_pos rfl]
          refine os_frz he σ2 F3 H3 env3 _ er3 g3.sub ?_
          cases e3 : oFrz m env3 with
          | bad =>
            simp only [Pst] at p1
            unfold lcD at p1
            simp only [e1, e2, e3] at p1
            exact p1.elim
          | exc x env4 =>
            simp only [Pst] at p1
            unfold lcD at p1
            simp only [e1, e2, e3] at p1
            exact p1.elim
          | val r env4 =>
            intro v F4 H4 er4 rr d4 g4
            have g4' : Gr (Own env3 σ2) F3 H3 (Own env4 σ2) F4 H4 := g4.weak fun a q => .inl q
            have nD4 : ¬ Own env4 σ2 D := fun o => by
              rcases g4'.own D o with z | z
              · exact nD3 z
              · rw [hD3] at z; cases z
            have fD4 : F4 D = none := g4'.fnone fD3 (by rw [hD3]; simp) nD3
            have hD4 : H4 D = some (.lst accV) := g4'.keep D _ hD3 fD3 nD3
            have G4 : Gr (fun a => Own env1 (wipe σ vs) a ∨ a = D) F1 H1 (fun a => Own env4 σ2 a ∨ a = D) F4 H4 :=
              G3.trans g1.sub ((g4'.more fun a o => .inl o).reown fun a q => q.elim (fun z => (g4'.own a z).elim (fun y => .inl (.inl y)) .inr) fun z => .inl (.inr z))
            have rA4 : RepL R F4 acc accV := rA.mono (nw.le.trans (g3.le.trans g4.le))
            have key : ∀ yv, r = .tmp (.dat yv) → acc.length < sizeLine ∧ Pst (ds.drop (i + 1)) (acc ++ [yv]) (wipeE env4 vs) := fun yv er => by
              have := p1
              simp only [Pst] at this ⊢
              unfold lcD at this
              simp only [e1, e2, e3, er] at this
              by_cases hz : acc.length < sizeLine
              · rw [if_pos hz] at this
                exact ⟨hz, this⟩
              · rw [if_neg hz] at this
                exact this.elim
            match r, rr, key with
            | .tmp (.dat yv), rr, key =>
              obtain ⟨hz, p2⟩ := key yv rfl
              refine ⟨accV, hD4, by rw [← rA4.length]; exact hz, ?_⟩
              cases rr.2 with
              | dat ry =>
                obtain ⟨erw, oww⟩ := er4.wipe (vs := vs)
                rw [w2] at erw oww
                have G5 : Gr (fun a => Own env4 σ2 a ∨ a = D) F4 H4 (fun a => Own env4 σ2 a ∨ a = D) F4 (upd H4 D (.lst (accV ++ [v]))) := Gr.mut g4.sub (.inr rfl) fD4 hD4 fun ob u z => by cases z
                refine ⟨hlt, rfl, F4, wipeE env4 vs, acc ++ [yv], accV ++ [v], erw.other fD4 fun o => nD4 (oww D o), fun j lv h n => (wipeE_get h n).2, ?_, fun o => nD4 (oww D o), fD4, upd_same, rA4.append (.cons ry .nil), p2⟩
                exact (g1.trans l (G4.trans g1.sub G5)).weak fun a q => q.elim (fun z => .inl (oww a z)) .inr
            | .var _, rr, _ =>
              exfalso
              simp only [Pst] at p1
              unfold lcD at p1
              simp only [e1, e2, e3] at p1
              exact p1.elim
            | .tmp .un, rr, _ => exact absurd rfl rr.1
            | .tmp (.ml _), rr, _ | .tmp (.md _), rr, _ | .tmp (.mt _), rr, _ | .tmp (.mi _ _), rr, _ =>
              exfalso
              simp only [Pst] at p1
              unfold lcD at p1
              simp only [e1, e2, e3] at p1
              exact p1.elim
  · have e : ds.drop i = [] := List.drop_eq_nil_of_le (by omega)
    rw [e] at p1
    refine .inl ⟨wk.stop i F1 H1 g1.le g1.sub g1.frz (by omega), ?_⟩
    have p2 : OPost R W (Own env σ) σ F H (.val (.tmp (.ml acc)) (restE env env1 vs)) Q := by
      have := p1
      simp only [Pst] at this
      unfold lcD at this
      exact this
    obtain ⟨err, owr⟩ := er.rest g1 er1 hw1 fun a o => .inl o
    refine p2 (.ref D) F1 H1 err ⟨by simp, .ml fD hD1 rA⟩ (fun a o q => ?_) ?_
    · obtain ⟨_, e⟩ := o
      cases e
      rcases owr D q with ⟨j, lv, _, h1, h2, h3⟩ | q
      · exact (er.tracked ⟨j, lv, h1, h2, h3⟩).2 hD
      · exact nD q
    · refine (g1.more fun a o => ow0 a o).reown fun a q => ?_
      rcases q with q | q
      · rcases owr a q with ⟨j, lv, _, h1, h2, h3⟩ | q
        · exact .inl ⟨j, lv, h1, h2, h3⟩
        · rcases g1.own a (.inl q) with z | z
          · exact .inl (ow0 a z)
          · exact .inr z
      · obtain ⟨_, e⟩ := q
        cases e
        exact .inr hD
/-- the block's contexts -/
abbrev blk (X : Cx) (scope : Scope) (s : Shared) (H : Hp) (C : Addr) (cl : List (Str × Addr)) (fp : List Addr) : Cx := X.blk s H scope (compEnvC scope cl C X.env) fp
/-- the tests of a clause -/
def TsJ (X : Cx) (R : RE) (ifs : List Expr) (t : TM) : Prop := PTs X ifs (tT R W0 t)
theorem tsj_nil : TsJ X R [] tYesM := ⟨fun pins s σ H Q I ⟨F, env, er, l, p⟩ => pts_nil.run pins s σ H Q I (p F H er (.refl l))⟩
theorem tsj_one {c : Expr} (h : TJ X R W0 c t) : TsJ X R [c] t := pts_one h.uni
theorem PE.lenN {e : Expr} {t : TE} (h : PE X e t) : PE X e (fun σ H Q => σ.length = X.N.length → t σ H Q) := ⟨fun pins s σ H Q I q => h.run pins s σ H Q I (q I.len)⟩
theorem PS.lenN {e : Stmt} {t : TS} (h : PS X e t) : PS X e (fun D σ H => σ.length = X.N.length → t D σ H) := ⟨fun pins s σ H D I q => h.run pins s σ H D I (q I.len)⟩
theorem os_lc {N : Nat} {wi : TI} {tg : TG} {tt : TT} {te : TE} {vs : List Nat} (hi : ISd R W wi i) (gl : GLen g) (hg : GSd R (compl vs N) tg g) (ht : TSd R W0 tt t) (he : OS R W0 te m) : OS R W (fun σ H Q => σ.length = N → tLc wi tg tt te vs σ H Q) (oLc i g t m vs) := by
  intro σ F H env Q er l p hN
  unfold oLc at p
  refine hi σ F H env _ er l ?_
  cases e1 : i env with
  | bad => rw [e1] at p; exact p.elim
  | exc x env1 => rw [e1] at p; exact p
  | val ds env1 =>
    rw [e1] at p
    intro J F1 H1 er1 wk g1 D hD
    exact lc_sound er1 g1.sub wk gl (by rw [hN]; exact hg) ht he (OPost.after l g1 p) D hD
theorem oj_lc {scope : Scope} {own : List (Str × Nat)} (hc : X.calm = true) (hN : X.N.Nodup) (ok : blkC X.N X.env.scope scope own = true) (hi : IJ X R W tg iter i) (gl : GLen g)
    (hg : ∀ s H C cl fp, GJ (blk X scope s H C cl fp) R (compl (own.map (·.2)) X.N.length) tg g) (ht : ∀ s H C cl fp, TsJ (blk X scope s H C cl fp) R ifs t) (he : ∀ s H C cl fp, OJ (blk X scope s H C cl fp) R W0 elt m)
    (hs : ∀ x, foldedSetIterable iter X.env x = pure x := by intro _; rfl) : OJ X R W (.ListComp elt [⟨tg, iter, ifs, 0⟩] scope pos) (oLc i g t m (own.map (·.2))) := by
  obtain ⟨wi, i1, i2⟩ := hi
  exact ⟨_, PE.lenN (pe_lc hc hN i1 (blkOk_by ok) (fun s H C cl fp => (hg s H C cl fp).uni) (fun s H C cl fp => ht s H C cl fp) (fun s H C cl fp => (he s H C cl fp).uni) hs), os_lc i2 gl gs_uni ts_uni os_uni⟩
/-- y = [..], y a local, the comprehension on its line -/
theorem sj_setLc {j : Nat} {y : Str} {py spos : Pos} {scope : Scope} {own : List (Str × Nat)} (hc : X.calm = true) (hN : X.N.Nodup) (hy : X.N[j]? = some y) (hyl : X.env.scope.names.lookup y = some .local) (hP : j ∉ P)
    (hsw : swapsWith (.ListComp elt [⟨tg, iter, ifs, 0⟩] scope pos) (some (.Name y py)) spos.line X.env = pure true) (ok : blkC X.N X.env.scope scope own = true) (hi : IJ X R W tg iter i) (gl : GLen g)
    (hg : ∀ s H C cl fp, GJ (blk X scope s H C cl fp) R (compl (own.map (·.2)) X.N.length) tg g) (ht : ∀ s H C cl fp, TsJ (blk X scope s H C cl fp) R ifs t) (he : ∀ s H C cl fp, OJ (blk X scope s H C cl fp) R W0 elt m)
    (hs : ∀ x, foldedSetIterable iter X.env x = pure x := by intro _; rfl) : SJ X R W P (.Assign [.Name y py] (.ListComp elt [⟨tg, iter, ifs, 0⟩] scope pos) spos) (sSet j (oLc i g t m (own.map (·.2)))) := by
  obtain ⟨wi, i1, i2⟩ := hi
  refine ⟨_, PS.lenN (ps_setLc hc hN hy hyl hsw i1 (blkOk_by ok) (fun s H C cl fp => (hg s H C cl fp).uni) (fun s H C cl fp => ht s H C cl fp) (fun s H C cl fp => (he s H C cl fp).uni) hs), fun σ F H env D er l p hn => ?_⟩
  have q := ss_set (te := fun σ H Q => σ.length = X.N.length → tLc wi (tG R (compl (own.map (·.2)) X.N.length) g) (tT R W0 t) (tM R W0 m) (own.map (·.2)) σ H Q) hP (os_lc i2 gl gs_uni ts_uni os_uni) σ F H env D er l p
  exact q hn
end
end PL
set_option maxRecDepth 100000
set_option maxHeartbeats 4000000
/-! What changes a variable's object: stores into it, its methods; pairs stored; enumerate. -/
namespace PL
open PySem L2 PyProof.Rows

structure Mu (F H : Hp) (o : V) (F' H' : Hp) : Prop where
  le : Le F F'
  sub : Le F' H'
  keep : ∀ a x, H a = some x → o ≠ .ref a → H' a = some x
  old : ∀ a, F' a ≠ none → F a ≠ none ∨ H a = none
  frz : ∀ a ob u, H a = some (.frz ob u) → H' a = some (.frz ob u)
section
variable {R : RE} {F H F' H' : Hp} {σ : L2.St} {env : LEnv} {a : Addr} {i : Nat} {lv lv' : LV} {o : V}
theorem Mu.of_nw (g : Nw F H F' H') : Mu F H o F' H' := ⟨g.le, g.sub, fun a x h _ => g.keep a x h, g.old, fun a ob u h => g.keep a _ h⟩
theorem Mu.upd {x y : HO} (l : Le F H) (hF : F a = none) (hH : H a = some x) (hf : ∀ ob u, x ≠ .frz ob u) : Mu F H (.ref a) F (L2.upd H a y) :=
  ⟨.refl F, l.mut hF, fun b z h n => by rw [upd_ne (fun e => n (by rw [e]))]; exact h, fun b h => .inl h, fun b ob u h => by
    by_cases z : b = a
    · subst z; rw [hH] at h; cases h; exact absurd rfl (hf ob u)
    · rw [upd_ne z]; exact h⟩
theorem LRel.mu {v : V} (g : Mu F H o F' H') (r : LRel R F H lv v) (n' : ∀ a, Owns lv v a → o ≠ .ref a) : LRel R F' H' lv v := by
  have fn : ∀ {a : Addr}, F a = none → H a ≠ none → F' a = none := fun {a} f h => by
    cases e : F' a with
    | none => rfl
    | some z =>
      rcases g.old a (by rw [e]; simp) with q | q
      · exact absurd f q
      · exact absurd q h
  cases r with
  | dat r => exact .dat (r.mono g.le)
  | ml f h r => exact .ml (fn f (by rw [h]; simp)) (g.keep _ _ h (n' _ ⟨rfl, rfl⟩)) (r.mono g.le)
  | md f h k r => exact .md (fn f (by rw [h]; simp)) (g.keep _ _ h (n' _ ⟨rfl, rfl⟩)) k (r.mono g.le)
  | mt f h k r => exact .mt (fn f (by rw [h]; simp)) (g.keep _ _ h (n' _ ⟨rfl, rfl⟩)) k (r.mono g.le)
  | mi f h k r => exact .mi (fn f (by rw [h]; simp)) (g.keep _ _ h (n' _ ⟨rfl, rfl⟩)) k (r.mono g.le)
/-- variable i's object changes -/
theorem ER.mu (er : ER R F H σ env) (g : Mu F H o F' H') (he : env[i]? = some lv) (hv : σ[i]? = some (some o)) (hc : lv.isOwn = true) (hc' : lv'.isOwn = true) (lr : LRel R F' H' lv' o) : ER R F' H' σ (env.set i lv') ∧ ∀ a, Own (env.set i lv') σ a → Own env σ a := by
  have hi : i < env.length := (List.getElem?_eq_some_iff.mp he).1
  have z : ∀ {j : Nat} {l2 : LV}, (env.set i lv')[j]? = some l2 → (j = i ∧ l2 = lv') ∨ (j ≠ i ∧ env[j]? = some l2) := fun {j l2} h => by
    by_cases e : j = i
    · subst e
      rw [getElem?_set_self' hi] at h
      cases h; exact .inl ⟨rfl, rfl⟩
    · rw [List.getElem?_set_ne (Ne.symm e)] at h; exact .inr ⟨e, h⟩
  have y : ∀ {j : Nat} {l2 : LV}, (env.set i lv')[j]? = some l2 → l2.isOwn = true → ∃ l3, env[j]? = some l3 ∧ l3.isOwn = true := fun {j l2} h o => by
    rcases z h with ⟨rfl, rfl⟩ | ⟨_, h⟩
    · exact ⟨lv, he, hc⟩
    · exact ⟨l2, h, o⟩
  refine ⟨⟨by rw [List.length_set]; exact er.len, fun j l2 h n => ?_, fun j k l1 l2 b h1 h2 o1 o2 s1 s2 => ?_⟩, fun a ⟨j, l2, h1, h2, h3⟩ => ?_⟩
  · rcases z h with ⟨rfl, rfl⟩ | ⟨nj, h⟩
    · exact ⟨o, hv, lr⟩
    · obtain ⟨v, q1, q2⟩ := er.rel j l2 h n
      refine ⟨v, q1, q2.mu g fun a ob e => ?_⟩
      subst e
      exact nj (er.dis j i l2 lv a h he ob.1 hc (by rw [q1, ob.2]) hv)
  · obtain ⟨l3, a1, a2⟩ := y h1 o1
    obtain ⟨l4, b1, b2⟩ := y h2 o2
    exact er.dis j k l3 l4 b a1 b1 a2 b2 s1 s2
  · obtain ⟨l3, a1, a2⟩ := y h1 h2
    exact ⟨j, l3, a1, a2, h3⟩
theorem Mu.gr {O O' : Addr → Prop} (g : Mu F H o F' H') (ho : ∀ a, o = .ref a → O a) (h : ∀ a, O' a → O a ∨ H a = none) : Gr O F H O' F' H' :=
  ⟨g.le, g.sub, fun a x e f n => g.keep a x e fun z => n (ho a z), fun a q => (g.old a q).elim .inl fun z => .inr (.inl z), h, g.frz⟩
end

/-! ### methods that change their object -/
/-- f tells the answer and the object behind -/
abbrev MtF := LV → List LV → Option (LV × LV)
def RMu (R : RE) (r : V → List V → Hp → VK → Prop) (f : MtF) : Prop :=
  ∀ F H o lo vs lvs z lo' Q, Le F H → LRel R F H lo o → LRelL R F H lvs vs → f lo lvs = some (z, lo') → (∀ w F' H', Mu F H o F' H' → LRel R F' H' lo' o → LRel R F' H' z w → (∀ a, Owns z w a → H a = none) → Q w H') → r o vs H Q
def MuJ (X : Cx) (R : RE) (id : String) (f : MtF) : Prop := ∃ r, MtR X id r ∧ RMu R r f
def LV.ty : LV → String
  | .dat (.str _) => "str"
  | .dat (.int _) => "int"
  | .dat (.lst _) => "list"
  | .dat (.slst _) => "list"
  | .ml _ => "list"
  | .md _ => "dict"
  | .mt _ => "dict"
  | _ => ""
theorem LRel.ty {R : RE} {F H : Hp} {lv : LV} {v : V} {T : String} (l : Le F H) (r : LRel R F H lv v) (h : lv.ty = T) (n : T ≠ "") : tyV R.K T v H := by
  subst h
  cases r with
  | dat r =>
    cases r with
    | str x => rfl
    | int x => rfl
    | lst h rs => exact .inl ⟨rfl, _, .inl (.inl (l.lstE h))⟩
    | slst h rs => exact .inl ⟨rfl, _, l.sqL h⟩
    | _ => exact absurd rfl n
  | ml f h rs => exact .inl ⟨rfl, _, .inl (.inl h)⟩
  | md f h k rs => exact .inr (.inr (.inl ⟨rfl, .inl ⟨_, h⟩⟩))
  | mt f h k rs => exact .inr (.inr (.inl ⟨rfl, .inr ⟨_, h⟩⟩))
  | mi f h k rs => exact absurd rfl n
/-- x.m(..), x a variable that owns its object -/
def oMu (T : String) (mo : OM) (ms : AM) (f : MtF) : OM := fun env => match mo env with
  | .val (.var i) env0 => match (Rf.var i).get env0 with
    | some l0 => if l0.ty = T then
        match ms env0 with
        | .val rs env1 => match (Rf.var i).get env1, gets rs env1 with
          | some lo, some lvs => match f lo lvs with
            | some (z, lo') => if z.ok && lo.isOwn && lo'.isOwn then .val (.tmp z) (env1.set i lo') else .bad
            | none => .bad
          | _, _ => .bad
        | .exc x env1 => .exc x env1
        | .bad => .bad
      else .bad
    | none => .bad
  | .val (.tmp _) _ => .bad
  | .exc x env0 => .exc x env0
  | .bad => .bad
section
variable {X : Cx} {R : RE} {W : WX} {P : List Nat} {pos : Pos} {e o : Expr} {es : List Expr} {mo m : OM} {ms : AM}
theorem os_mu {T : String} {to : TE} {t : TA} {r : V → List V → Hp → VK → Prop} {f : MtF} (hT : T ≠ "") (h1 : OS R W to mo) (h2 : AS R W t ms) (hr : RMu R r f) :
    OS R W (fun σ H Q => to σ H fun x H1 => tyV R.K T x H1 ∧ t σ H1 fun xs H2 => r x xs H2 Q) (oMu T mo ms f) := by
  intro σ F H env Q er l p
  unfold oMu at p
  refine h1 σ F H env _ er l ?_
  cases e1 : mo env with
  | bad => rw [e1] at p; exact p.elim
  | exc x env0 => rw [e1] at p; exact p
  | val ro env0 =>
    rw [e1] at p
    intro v F0 H0 er0 rr0 d0 g0
    cases ro with
    | tmp lv => exact p.elim
    | var i =>
      simp only at p
      have g0w : Gr (Own env σ) F H (Own env0 σ) F0 H0 := g0.weak fun a q => .inl q
      cases e2 : (Rf.var i).get env0 with
      | none => simp only [e2] at p; exact p.elim
      | some l0 =>
        simp only [e2] at p
        by_cases hty : l0.ty = T
        · rw [if_pos hty] at p
          refine ⟨(rr0.get er0 e2).1.ty g0.sub hty hT, ?_⟩
          refine h2 σ F0 H0 env0 _ er0 g0.sub ?_
          cases e3 : ms env0 with
          | bad => simp only [e3] at p; exact p.elim
          | exc x env1 => simp only [e3] at p; exact fun cls d F1 H1 er1 xr g1 => p cls d F1 H1 er1 xr (g0w.trans l g1)
          | val rs env1 =>
            simp only [e3] at p
            intro vs F1 H1 er1 rr1 d1 dd1 g1
            have rv : RfR R F1 H1 σ (.var i) v := rr0
            cases e4 : (Rf.var i).get env1 with
            | none => simp only [e4] at p; exact p.elim
            | some lo =>
              cases e5 : gets rs env1 with
              | none => simp only [e4, e5] at p; exact p.elim
              | some lvs =>
                simp only [e4, e5] at p
                cases e6 : f lo lvs with
                | none => simp only [e6] at p; exact p.elim
                | some zl =>
                  obtain ⟨z, lo'⟩ := zl
                  simp only [e6] at p
                  cases e7 : (z.ok && lo.isOwn && lo'.isOwn) with
                  | false => simp [e7] at p; exact p.elim
                  | true =>
                    simp only [e7, if_true] at p
                    rw [Bool.and_eq_true, Bool.and_eq_true] at e7
                    obtain ⟨⟨zok, hc⟩, hc'⟩ := e7
                    refine hr F1 H1 v lo vs lvs z lo' Q g1.sub (rv.get er1 e4).1 (rr1.gets er1 e5) e6 fun w F2 H2 mu lr' lrz ow => ?_
                    obtain ⟨er2, ow2⟩ := er1.mu mu (get_var e4).1 rv hc hc' lr'
                    have g1w : Gr (Own env0 σ) F0 H0 (Own env1 σ) F1 H1 := g1.weak fun a q => .inl q
                    refine p w F2 H2 er2 ⟨ok_ne zok, lrz⟩ (fun a oo q => (er1.tracked (ow2 a q)).2 (ow a oo)) ?_
                    refine (g0w.trans l g1w).trans l (mu.gr (fun a e => ⟨i, lo, (get_var e4).1, hc, by rw [← e]; exact rv⟩) fun a q => ?_)
                    rcases q with q | q
                    · exact .inl (ow2 a q)
                    · exact .inr (ow a q)
        · rw [if_neg hty] at p; exact p.elim
theorem oj_mu {T id : String} {name : Str} {apos cpos : Pos} {f : MtF} (hK : R.K = X.K) (pa : PlainAttrs T) (slot : Slot T name id) (hty : typeOf (.builtin id) = pure (.type "method_descriptor")) (hT : T ≠ "") (hf : MuJ X R id f) (ho : OJ X R W o mo) (ha : AJ X R W (e :: es) ms)
    (hbase : attributeBase o name X.env (eval o X.env) = eval o X.env := by rfl)
    (hfew : ((backTo cpos (starEach (e :: es) X.env)).all (fun x => !x.1) && (backToKw cpos (keywordEach [] X.env)).all (fun x => x.1.isSome)
      && decide ((e :: es).length + ([] : List Keyword).length + (if ([] : List Keyword).isEmpty then 0 else 1) < 30)) = true := by rfl)
    (hline : (apos.endLine == cpos.line) = true := by rfl) (hs : starEach (e :: es) X.env = (false, eval e X.env) :: starEach es X.env := by rfl) (hplain : (backTo cpos (starEach es X.env)).any (·.1) = false := by rfl) :
    OJ X R W (.Call (.Attribute o name apos) (e :: es) [] cpos) (oMu T mo ms f) := by
  obtain ⟨r, r1, r2⟩ := hf
  obtain ⟨to, a1, a2⟩ := ho
  obtain ⟨t, b1, b2⟩ := ha
  refine ⟨_, pe_bm pa slot hty r1 a1 b1 hbase hfew hline hs hplain, ?_⟩
  have q := os_mu (T := T) hT a2 b2 r2
  rw [hK] at q
  exact q
theorem oj_mu0 {T id : String} {name : Str} {apos cpos : Pos} {f : MtF} (hK : R.K = X.K) (pa : PlainAttrs T) (slot : Slot T name id) (hty : typeOf (.builtin id) = pure (.type "method_descriptor")) (hT : T ≠ "") (hf : MuJ X R id f) (ho : OJ X R W o mo)
    (hbase : attributeBase o name X.env (eval o X.env) = eval o X.env := by rfl) (hline : (apos.endLine == cpos.line) = true := by rfl) :
    OJ X R W (.Call (.Attribute o name apos) [] [] cpos) (oMu T mo aNil f) := by
  obtain ⟨r, r1, r2⟩ := hf
  obtain ⟨to, a1, a2⟩ := ho
  refine ⟨_, pe_bm0 pa slot hty r1 a1 hbase hline, ?_⟩
  have q := os_mu (T := T) (W := W) hT a2 as_nil r2
  rw [hK] at q
  exact q
/-! list.append, list.extend, list.pop -/
def mAppend : MtF := fun o l => match o, l with
  | .ml ds, [.dat d] => if ds.length < sizeLine then some (.dat .non, .ml (ds ++ [d])) else none
  | _, _ => none
theorem jAppend : MuJ X R "list.append" mAppend := ⟨_, mt_append, fun F H o lo vs lvs z lo' Q l r1 rl e k => by
  unfold mAppend at e
  split at e
  · rename_i ds d
    split at e
    · rename_i hz
      cases e
      cases rl with
      | cons r2 rl =>
        cases rl
        cases r1 with
        | ml f h rs =>
          cases r2 with
          | dat r2 =>
            refine ⟨_, _, _, rfl, rfl, h, by rw [← rs.length]; exact hz, ?_⟩
            exact k .non F _ (.upd l f h fun _ _ z => by cases z) (.ml f upd_same (rs.append (.cons r2 .nil))) (.dat .non) fun a o => by cases o.1
    · cases e
  · cases e⟩
def mExtend : MtF := fun o l => match o, l with
  | .ml ds, [b] => match b.items with
    | some es => if ds.length + es.length ≤ sizeLine then some (.dat .non, .ml (ds ++ es)) else none
    | none => none
  | _, _ => none
theorem jExtend : MuJ X R "list.extend" mExtend := ⟨_, mt_extend, fun F H o lo vs lvs z lo' Q l r1 rl e k => by
  unfold mExtend at e
  split at e
  · rename_i ds b
    cases e1 : b.items with
    | none => simp [e1] at e
    | some es =>
      simp only [e1] at e
      split at e
      · rename_i hz
        cases e
        cases rl with
        | cons r2 rl =>
          cases rl
          obtain ⟨p, us, rfl, hp, rb⟩ := r2.items l e1
          cases r1 with
          | ml f h rs =>
            refine ⟨_, _, _, _, rfl, rfl, h, hp, by rw [← rs.length, ← rb.length]; exact hz, ?_⟩
            exact k .non F _ (.upd l f h fun _ _ z => by cases z) (.ml f upd_same (rs.append rb)) (.dat .non) fun a o => by cases o.1
      · cases e
  · cases e⟩
def mPop : MtF := fun o l => match o, l with
  | .ml ds, [] => match ds[ds.length - 1]? with
    | some d => some (.dat d, .ml ds.dropLast)
    | none => none
  | .ml ds, [.dat (.int i)] => if -(2 ^ 63) ≤ i ∧ i < 2 ^ 63 then match seqIndex? i ds.length with
    | some k => match ds[k]? with
      | some d => some (.dat d, .ml (ds.eraseIdx k))
      | none => none
    | none => none
    else none
  | _, _ => none
theorem RepL.dropLast {F : Hp} {ds : List D} {vs : List V} (r : RepL R F ds vs) : RepL R F ds.dropLast vs.dropLast := by
  rw [List.dropLast_eq_take, List.dropLast_eq_take, r.length]
  exact r.take _
theorem jPop : MuJ X R "list.pop" mPop := ⟨_, MtR.or mt_pop mt_popAt, fun F H o lo vs lvs z lo' Q l r1 rl e k => by
  unfold mPop at e
  split at e
  · rename_i ds
    cases rl
    cases e1 : ds[ds.length - 1]? with
    | none => simp [e1] at e
    | some d =>
      simp only [e1, Option.some.injEq, Prod.mk.injEq] at e
      obtain ⟨rfl, rfl⟩ := e
      cases r1 with
      | ml f h rs =>
        obtain ⟨v, h1, h2⟩ := rs.get e1
        exact .inl ⟨_, _, v, rfl, rfl, h, by rw [← rs.length]; exact h1, k v F _ (.upd l f h fun _ _ z => by cases z) (.ml f upd_same rs.dropLast) (.dat h2) fun a o => by cases o.1⟩
  · rename_i ds i
    split at e
    · rename_i hb
      cases e1 : seqIndex? i ds.length with
      | none => simp [e1] at e
      | some j =>
        simp only [e1] at e
        cases e2 : ds[j]? with
        | none => simp [e2] at e
        | some d =>
          simp only [e2, Option.some.injEq, Prod.mk.injEq] at e
          obtain ⟨rfl, rfl⟩ := e
          cases rl with
          | cons r2 rl =>
            cases rl
            cases r2 with
            | dat r2 =>
              cases r2
              cases r1 with
              | ml f h rs =>
                obtain ⟨v, h1, h2⟩ := rs.get e2
                exact .inr ⟨_, _, i, j, v, rfl, rfl, h, hb.1, hb.2, by rw [← rs.length]; exact e1, h1, k v F _ (.upd l f h fun _ _ z => by cases z) (.ml f upd_same (rs.eraseIdx j)) (.dat h2) fun a o => by cases o.1⟩
    · cases e
  · cases e⟩

/-! ### stores -/
abbrev StF := LV → LV → D → Option LV
def RSt (R : RE) (t : TSet) (f : StF) : Prop := ∀ F H o lo i li x d lo' Q, Le F H → LRel R F H lo o → LRel R F H li i → Rep R F d x → f lo li d = some lo' → (∀ H', Mu F H o F H' → LRel R F H' lo' o → Q H') → t o i x H Q
def StJ (X : Cx) (R : RE) (f : StF) : Prop := ∃ t, PSet X t ∧ RSt R t f
theorem StJ.or {f g : StF} (h1 : StJ X R f) (h2 : StJ X R g) : StJ X R (fun a b c => match f a b c with | some z => some z | none => g a b c) := by
  obtain ⟨r, a1, a2⟩ := h1
  obtain ⟨s, b1, b2⟩ := h2
  refine ⟨fun o i v H Q => r o i v H Q ∨ s o i v H Q, fun pins s' σ H o i v ov iv u Q I ro ri rv q => q.elim (a1 pins s' σ H o i v ov iv u Q I ro ri rv) (b1 pins s' σ H o i v ov iv u Q I ro ri rv), fun F H o lo i li x d lo' Q l r1 r2 r3 e k => ?_⟩
  cases q : f lo li d with
  | some w => simp only [q] at e; cases e; exact .inl (a2 F H o lo i li x d _ Q l r1 r2 r3 q k)
  | none => simp only [q] at e; exact .inr (b2 F H o lo i li x d lo' Q l r1 r2 r3 e k)
/-- x[i] = e, x a variable that owns its object -/
def sPut (mv mo mi : OM) (f : StF) : SM := fun env => match aCons (oFrz mv) (aCons mo (aCons mi aNil)) env with
  | .val [rv, .var j, ri] env1 => match rv.get env1, (Rf.var j).get env1, ri.get env1 with
    | some (.dat d), some lo, some li => match f lo li d with
      | some lo' => if lo.isOwn && lo'.isOwn then .nx (env1.set j lo') else .bad
      | none => .bad
    | _, _, _ => .bad
  | .val _ _ => .bad
  | .exc x env1 => .exc x env1
  | .bad => .bad
theorem ss_put {tv to ti : TE} {t : TSet} {f : StF} {mv mi : OM} (h1 : OS R W tv mv) (h2 : OS R W to mo) (h3 : OS R W ti mi) (ht : RSt R t f) : SSd R W P (tAsg tv (gSub to ti t)) (sPut mv mo mi f) := by
  intro σ F H env D er l p
  unfold sPut at p
  refine as_cons (os_frz h1) (as_cons h2 (as_cons h3 as_nil)) σ F H env (fun vs H3 => match vs with
    | [x, o, i] => t o i x H3 fun H4 => D.nx σ H4
    | _ => False) er l ?_
  cases e1 : aCons (oFrz mv) (aCons mo (aCons mi aNil)) env with
  | bad => rw [e1] at p; exact p.elim
  | exc x env1 => rw [e1] at p; exact XPost.stm p
  | val rs env1 =>
    rw [e1] at p
    intro vs F1 H1 er1 rr d1 dd1 g1
    match rs, vs, rr, p, g1 with
    | [rv, .var j, ri], [x, o, i], .cons qv (.cons qo (.cons qi .nil)), p, g1 =>
      simp only at p ⊢
      cases e2 : rv.get env1 with
      | none => simp only [e2] at p; exact p.elim
      | some lv =>
        have kv := (qv.get er1 e2).1
        cases kv with
        | dat kv =>
          cases e3 : (Rf.var j).get env1 with
          | none => simp only [e2, e3] at p; exact p.elim
          | some lo =>
            cases e4 : ri.get env1 with
            | none => simp only [e2, e3, e4] at p; exact p.elim
            | some li =>
              simp only [e2, e3, e4] at p
              rename_i d
              cases e5 : f lo li d with
              | none => simp only [e5] at p; exact p.elim
              | some lo' =>
                simp only [e5] at p
                cases e6 : (lo.isOwn && lo'.isOwn) with
                | false => simp [e6] at p; exact p.elim
                | true =>
                  simp only [e6, if_true] at p
                  rw [Bool.and_eq_true] at e6
                  refine ht F1 H1 o lo i li x d lo' _ g1.sub (qo.get er1 e3).1 (qi.get er1 e4).1 kv e5 fun H2 mu lr => ?_
                  obtain ⟨er2, ow2⟩ := er1.mu mu (get_var e3).1 qo e6.1 e6.2 lr
                  refine p σ F1 H2 ⟨er2, ?_, .refl⟩
                  exact (g1.weak fun a q => .inl q : Gr (Own env σ) F H (Own env1 σ) F1 H1).trans l (mu.gr (fun a e => ⟨j, lo, (get_var e3).1, e6.1, by rw [← e]; exact qo⟩) fun a q => .inl (ow2 a q))
        | _ => simp only [e2] at p; exact p.elim
    | [], _, _, p, _ => exact (show False from p).elim
    | [_], _, _, p, _ => exact (show False from p).elim
    | [_, .tmp _], _, _, p, _ => exact (show False from p).elim
    | [_, .var _], _, _, p, _ => exact (show False from p).elim
    | [_, .tmp _, _], _, _, p, _ => exact (show False from p).elim
    | _ :: .tmp _ :: _ :: _ :: _, _, _, p, _ => exact (show False from p).elim
    | _ :: .var _ :: _ :: _ :: _, _, _, p, _ => exact (show False from p).elim
theorem sj_put {i : Expr} {mv mi : OM} {f : StF} {pos' : Pos} (hf : StJ X R f) (hv : OJ X R W e mv) (ho : OJ X R W o mo) (hi : OJ X R W i mi)
    (ha : ∀ v, assign (.Subscript o i pos') X.env v = (do
      let ov ← holding [v] (eval o X.env)
      let iv ← holding [v, ov] (eval i X.env)
      standAt pos'
      holding [v, ov, iv] (setItem ov iv v)
      release [v, ov, iv] []) := by intro _; rfl)
    (hs : swapsWithSole [.Subscript o i pos'] e pos.line X.env = pure false := by rfl) (hw : swappedStores [.Subscript o i pos'] e X.env = pure none := by rfl)
    (h1 : (assignEach [.Subscript o i pos'] X.env).map (·.2) = [assign (.Subscript o i pos') X.env] := by rfl) : SJ X R W P (.Assign [.Subscript o i pos'] e pos) (sPut mv mo mi f) := by
  obtain ⟨t, t1, t2⟩ := hf
  obtain ⟨tv, a1, a2⟩ := hv
  obtain ⟨to, b1, b2⟩ := ho
  obtain ⟨ti, c1, c2⟩ := hi
  exact ⟨_, ps_asg a1 (pg_sub b1 c1 t1 ha) hs hw h1, ss_put a2 b2 c2 t2⟩
def stL : StF := fun o i d => match o, i with
  | .ml ds, .dat (.int k) => match ixN ds.length k with
    | some j => some (.ml (ds.set j d))
    | none => none
  | _, _ => none
theorem jStL : StJ X R stL := ⟨_, set_list, fun F H o lo i li x d lo' Q l r1 r2 r3 e k => by
  unfold stL at e
  split at e
  · rename_i ds n
    cases e1 : ixN ds.length n with
    | none => simp [e1] at e
    | some j =>
      simp only [e1, Option.some.injEq] at e
      subst e
      cases r1 with
      | ml f h rs =>
        cases r2 with
        | dat r2 =>
          cases r2
          exact ⟨_, _, n, j, rfl, rfl, h, by rw [← rs.length]; exact e1, k _ (.upd l f h fun _ _ z => by cases z) (.ml f upd_same (rs.set j r3))⟩
  · cases e⟩

/-! ### a, b = e1, e2 (two local names): both are data -/
def Rf.datum : Rf → Option PL.D
  | .tmp (.dat d) => some d
  | _ => none
theorem RfR.datum {F H : Hp} {σ : L2.St} {r : Rf} {v : V} {d : PL.D} (q : RfR R F H σ r v) (e : r.datum = some d) : Rep R F d v := by
  unfold Rf.datum at e
  split at e
  · cases e
    cases q.2 with
    | dat r => exact r
  · cases e
def sPar (i j : Nat) (ma mb : OM) : SM := fun env => match aCons (oFrz ma) (aCons (oFrz mb) aNil) env with
  | .val [r1, r2] env1 => match r1.datum, r2.datum with
    | some d, some d' => .nx ((env1.set i (.dat d)).set j (.dat d'))
    | _, _ => .bad
  | .val _ _ => .bad
  | .exc x env1 => .exc x env1
  | .bad => .bad
theorem sj_par {i j : Nat} {x y : Str} {a b : Expr} {ma mb : OM} {px py pt : Pos} {kt k2 pt2} (hc : X.calm = true) (hN : X.N.Nodup) (hi : X.N[i]? = some x) (hj : X.N[j]? = some y) (hij : i ≠ j)
    (hx : X.env.scope.names.lookup x = some .local) (hy : X.env.scope.names.lookup y = some .local) (hPi : i ∉ P) (hPj : j ∉ P) (ha : OJ X R W a ma) (hb : OJ X R W b mb)
    (hw : swappedStores [.Tuple [.Name x px, .Name y py] kt pt] (.Tuple [a, b] k2 pt2) X.env = pure (some [x, y]))
    (hs : swapsWithSole [.Tuple [.Name x px, .Name y py] kt pt] (.Tuple [a, b] k2 pt2) pos.line X.env = pure false := by rfl)
    (hs2 : starEach [a, b] X.env = [(false, eval a X.env), (false, eval b X.env)] := by rfl) (hs3 : starEach [b] X.env = [(false, eval b X.env)] := by rfl) :
    SJ X R W P (.Assign [.Tuple [.Name x px, .Name y py] kt pt] (.Tuple [a, b] k2 pt2) pos) (sPar i j ma mb) := by
  obtain ⟨ta, a1, a2⟩ := oj_frz ha
  obtain ⟨tb, b1, b2⟩ := oj_frz hb
  refine ⟨_, ps_par hc hN hi hj hij hx hy (pa_cons a1 (pa_cons b1 pa_nil (by rw [hs3]; rfl)) (by rw [hs2, hs3])) hw hs, fun σ F H env D er l p => ?_⟩
  unfold sPar at p
  refine as_cons a2 (as_cons b2 as_nil) σ F H env _ er l ?_
  cases e1 : aCons (oFrz ma) (aCons (oFrz mb) aNil) env with
  | bad => rw [e1] at p; exact p.elim
  | exc x env1 => rw [e1] at p; exact XPost.stm p
  | val rs env1 =>
    rw [e1] at p
    intro vs F1 H1 er1 rr d1 dd1 g1
    match rs, vs, rr, p, g1 with
    | [r1, r2], [v, w], .cons q1 (.cons q2 .nil), p, g1 =>
      simp only at p
      cases k1 : r1.datum with
      | none => simp only [k1] at p; exact p.elim
      | some d =>
        cases k2 : r2.datum with
        | none => simp only [k1, k2] at p; exact p.elim
        | some d' =>
          simp only [k1, k2] at p
          have er2 := er1.set (i := i) (lv := .dat d) (v := v) (by simp) (.dat (q1.datum k1)) fun _ o => by cases o.1
          have er3 := er2.set (i := j) (lv := .dat d') (v := w) (by simp) (.dat (q2.datum k2)) fun _ o => by cases o.1
          refine ⟨v, w, rfl, p _ F1 H1 ⟨er3, g1.weak fun a o => .inl (own_setd (own_setd o)), (Fix.set hPi).trans (Fix.set hPj)⟩⟩
    | [], _, _, p, _ => exact (show False from p).elim
    | [_], _, _, p, _ => exact (show False from p).elim
    | _ :: _ :: _ :: _, _, _, p, _ => exact (show False from p).elim
/-! ### enumerate of a list -/
def enumD (n : Nat) : List PL.D → List PL.D
  | [] => []
  | d :: ds => .tup [.int n, d] :: enumD (n + 1) ds
theorem enumD_get : ∀ {ds : List PL.D} {n i : Nat}, (enumD n ds)[i]? = (ds[i]?).map fun d => .tup [.int ((n + i : Nat) : Int), d]
  | [], n, i => by simp [enumD]
  | d :: ds, n, 0 => by simp [enumD]
  | d :: ds, n, i + 1 => by
    unfold enumD
    simp only [List.getElem?_cons_succ]
    rw [enumD_get]
    congr 1
    funext d'
    rw [show n + 1 + i = n + (i + 1) by omega]
theorem enumD_length : ∀ {ds : List PL.D} {n : Nat}, (enumD n ds).length = ds.length
  | [], _ => rfl
  | _ :: ds, n => by unfold enumD; simp [enumD_length]
def iEnumM (m : OM) : IM := fun env => match oFrz m env with
  | .val (.tmp (.dat (.lst ds))) env1 => .val (enumD 0 ds) env1
  | .val _ _ => .bad
  | .exc x env1 => .exc x env1
  | .bad => .bad
theorem walks_enum {F H0 : Hp} {K : PySem.W.Frag} {a : Addr} {ds : List PL.D} {vs : List V} (h : F a = some (.lst vs)) (r : RepL R F ds vs) : Walks R (Ite K a) F H0 (enumD 0 ds) where
  go := fun i G H l g _ hi => by
    rw [enumD_length] at hi
    obtain ⟨x, hx⟩ : ∃ x, vs[i]? = some x := ⟨_, List.getElem?_eq_getElem (by rw [← r.length]; exact hi)⟩
    exact ⟨vs, x, .inl (.inl (g.lstE (l.lstE h))), hx⟩
  stop := fun i G H l g _ hi => ⟨vs, .inl (.inl (g.lstE (l.lstE h))), by rw [← r.length]; rw [enumD_length] at hi; exact hi⟩
  yld := fun i G H v H' l g _ hi y => by
    obtain ⟨T, x, rfl, hT, rfl, y⟩ := y
    have hx := y vs (.inl (.inl (g.lstE (l.lstE h))))
    obtain ⟨d, h1, h2⟩ := r.getV hx
    refine ⟨.tup [.int (i : Nat), d], L2.upd G T (.tup [.int (i : Nat), x]), by rw [enumD_get, h1]; simp, .newF g hT, .tup upd_same ?_⟩
    exact .cons (.int _) (.cons (h2.mono (l.trans (.upd (g.nn hT)))) .nil)
theorem ij_enum {elts : List Expr} {kk : Nat} {tpos p' : Pos} (hg : Gl X "enumerate") (hm : X.mg "enumerate" = none) (ha : OJ X R W e m) (hs : starEach [e] X.env = [(false, eval e X.env)] := by rfl) :
    IJ X R W (.Tuple elts kk tpos) (.Call (.Name "enumerate" p') [e] [] pos) (iEnumM m) := by
  obtain ⟨t, h1, h2⟩ := oj_frz ha
  refine ⟨_, pi_enum hg hm (pa_cons h1 pa_nil (by rw [hs]; rfl)) hs, fun σ F H env Q er l p => ?_⟩
  unfold iEnumM at p
  refine h2 σ F H env _ er l ?_
  cases e1 : oFrz m env with
  | bad => rw [e1] at p; exact p.elim
  | exc x env1 => rw [e1] at p; exact p
  | val r env1 =>
    rw [e1] at p
    intro v F1 H1 er1 rr d1 g1
    match r, rr, p with
    | .tmp (.dat (.lst ds)), rr, p =>
      cases rr.2 with
      | dat rp =>
        cases rp with
        | lst h rs => exact ⟨_, _, rfl, .inl (.inl (g1.sub.lstE h)), p _ F1 H1 er1 (walks_enum h rs) (g1.weak fun a q => .inl q)⟩
    | .var i, rr, p => exact p.elim
    | .tmp .un, rr, p => exact p.elim
    | .tmp (.ml _), rr, p => exact p.elim
    | .tmp (.md _), rr, p => exact p.elim
    | .tmp (.mt _), rr, p => exact p.elim
    | .tmp (.mi _ _), rr, p => exact p.elim
    | .tmp (.dat .non), rr, p => exact p.elim
    | .tmp (.dat (.bl _)), rr, p => exact p.elim
    | .tmp (.dat (.int _)), rr, p => exact p.elim
    | .tmp (.dat (.str _)), rr, p => exact p.elim
    | .tmp (.dat (.tup _)), rr, p => exact p.elim
    | .tmp (.dat (.slst _)), rr, p => exact p.elim
    | .tmp (.dat (.dic _)), rr, p => exact p.elim
    | .tmp (.dat (.dit _)), rr, p => exact p.elim
    | .tmp (.dat (.ins _ _)), rr, p => exact p.elim
    | .tmp (.dat (.cst _)), rr, p => exact p.elim
    | .tmp (.dat .opq), rr, p => exact p.elim
end
end PL
set_option maxRecDepth 100000
set_option maxHeartbeats 4000000
/-! Defs by name; unions of rules. -/
namespace PL
open PySem L2 PyProof.Rows

/-- what is fixed through a law -/
structure Base where
  P : Program
  w : World
  R : RE
  mg : Str → Option Value
  base : Heap
/-- the def x computes g, by level k -/
def FJ (B : Base) (x : Str) (k n : Nat) (g : FM) : Prop :=
  ∃ (f : Addr) (fd : FuncData) (ps : List Str), ps.length = n ∧ B.mg x = some (.ref f) ∧ PySem.W.keepIn B.R.K (.ref f) = true ∧ Binds B.R.K fd ps [] ∧ FnOk B.P B.w B.R.K B.mg B.base (L2.CX B.P B.w) k f fd ps (spOf B.R n g)
/-- the def x stands in the text -/
def DefAt (B : Base) (x : Str) (st : Stmt) (ps : List Str) : Prop :=
  ∃ (f : Addr) (fd : FuncData), Fun B.R.K x x st f fd ∧ B.mg x = some (.ref f) ∧ Binds B.R.K fd ps []
abbrev bx (B : Base) (x : Str) (st : Stmt) (N : List Str) (f : Addr) (cdv : Value) (A : Around) (outer : List PySem.Env) (s : Shared) (H : Hp) (E : XK) : Cx :=
  cxOf (L2.CX B.P B.w) B.P B.w B.R.K B.mg B.base N x (defScope st) f cdv A outer s H E
abbrev wx (E : XK) : WX := fun cls d _ H => E cls d H
theorem fj_mk {B : Base} {x : Str} {st : Stmt} {N ps : List Str} {k : Nat} {P : List Nat} {m : SM} (D : DefAt B x st ps) (S : FnScope N ps (defScope st))
    (hbody : ∀ (f : Addr) (cdv : Value) (A : Around) (outer : List PySem.Env) (s : Shared) (H : Hp) (E : XK), Room k (bx B x st N f cdv A outer s H E).A → Takes (bx B x st N f cdv A outer s H E) (wx E) →
      PassesOwn (model B.P B.w) (bx B x st N f cdv A outer s H E).A (bx B x st N f cdv A outer s H E).env (bx B x st N f cdv A outer s H E).xe → BJ (bx B x st N f cdv A outer s H E) B.R (wx E) P (defBody st) m) :
    FJ B x (k + 1) ps.length (defM N.length P m) := by
  obtain ⟨f, fd, Fn, hm, hb⟩ := D
  refine ⟨f, fd, ps, rfl, hm, Fn.kp, hb, ?_⟩
  have hpl : ps.length ≤ N.length := by have := congrArg List.length S.pre; rw [List.length_take] at this; omega
  refine Fn.okX S (fun vs H Q E h => h.1) (fun cdv A outer s H vs Q E hr h => ?_)
  obtain ⟨hl, F, lvs, l, er, p⟩ := h
  obtain ⟨t, h1, h2⟩ := hbody f cdv A outer s H E hr (takes_of rfl rfl rfl rfl) (passes_of rfl)
  exact ⟨t, h1, body_post (fun _ _ _ _ e => e) (by omega) h2 l er p⟩
/-- nothing is promised -/
theorem fj_bad {B : Base} {x : Str} {st : Stmt} {ps : List Str} {k : Nat} (D : DefAt B x st ps) : FJ B x k ps.length (fun _ => .bad) := by
  obtain ⟨f, fd, Fn, hm, hb⟩ := D
  refine ⟨f, fd, ps, rfl, hm, Fn.kp, hb, fun vs H Q E h => h.1, fun A outer s H args us vs Q E hr he hb' hv h => ?_⟩
  obtain ⟨_, F, lvs, l, er, p⟩ := h
  exact p.elim
theorem FJ.up {B : Base} {x : Str} {j k n : Nat} {g : FM} (h : FJ B x j n g) (e : j ≤ k) : FJ B x k n g := by
  obtain ⟨f, fd, ps, h1, h2, h3, h4, h5⟩ := h
  exact ⟨f, fd, ps, h1, h2, h3, h4, h5.mono e⟩
/-- another function that answers no worse -/
theorem FJ.of {B : Base} {x : Str} {k n : Nat} {g g' : FM} (h : FJ B x k n g) (e : ∀ lvs, g' lvs = .bad ∨ g lvs = g' lvs) : FJ B x k n g' := by
  obtain ⟨f, fd, ps, h1, h2, h3, h4, h5⟩ := h
  refine ⟨f, fd, ps, h1, h2, h3, h4, h5.imp fun vs H Q E ⟨q1, F, lvs, l, er, p⟩ => ⟨q1, F, lvs, l, er, ?_⟩⟩
  rcases e lvs with z | z
  · rw [z] at p; exact p.elim
  · rw [z]; exact p
theorem oj_callJ {B : Base} {X : Cx} {W : WX} {k n : Nat} {g : FM} {x : Str} {p pos : Pos} {e : Expr} {es : List Expr} {ms : AM} (h : FJ B x k n g) (hr : Room k X.A) (tk : Takes X W)
    (ha : AJ X B.R W (e :: es) ms) (hn : AM.len ms n)
    (e1 : X.prog = B.P := by rfl) (e2 : X.w = B.w := by rfl) (e3 : X.K = B.R.K := by rfl) (e4 : X.mg = B.mg := by rfl) (e5 : X.base = B.base := by rfl)
    (hg : Gl X x := by rfl) (hd : (x == ("__debug__" : Str)) = false := by decide)
    (he : starEach (e :: es) X.env = (false, eval e X.env) :: starEach es X.env := by rfl) (hpl : (backTo pos (starEach es X.env)).any (·.1) = false := by rfl) : OJ X B.R W (.Call (.Name x p) (e :: es) [] pos) (oCall g ms) := by
  obtain ⟨f, fd, ps, h1, h2, h3, h4, h5⟩ := h
  rw [← e1, ← e2, ← e3, ← e4, ← e5] at h5
  rw [← e3] at h3 h4
  rw [← e4] at h2
  exact oj_call h5 hr h2 h3 h4 tk hg ha hn hd he hpl

section
variable {X : Cx} {R : RE} {W : WX} {P : List Nat} {pos : Pos} {a b : Expr}
/-! ### unions -/
def fAdd := fOr fAddI (fOr fAddS (fOr fAddL fAddT))
theorem jAdd (hK : R.K = X.K) : OpJ X R (binaryOp .Add) fAdd := jAddI.or (jAddS.or (jAddL.or (jAddT hK)))
def fMul := fOr fMulI fRepL
theorem jMul : OpJ X R (binaryOp .Mult) fMul := jMulI.or jRepL
def fIx := fOr fIxL (fOr fIxT fIxS)
theorem jIx (hK : R.K = X.K) : IxJ X R fIx := (jIxL hK).or (jIxT.or jIxS)
def slA : SlF := fun x lo hi => match slL x lo hi with
  | some z => some z
  | none => match slT x lo hi with
    | some z => some z
    | none => slS x lo hi
theorem jSl (hK : R.K = X.K) : SlJ X R slA := (jSlL hK).or (jSlT.or jSlS)
def fIn := fOr fInD fInS
def fNi := fOr fNiD fNiS
theorem jIn (hK : R.K = X.K) (hu : X.A.units + 65 < cLine) : OpJ X R (compareOp .In) fIn := (jInD hK hu).or jInS
theorem jNi (hK : R.K = X.K) (hu : X.A.units + 65 < cLine) : OpJ X R (compareOp .NotIn) fNi := (jNiD hK hu).or jNiS
def fIs := fOr fIsN fIsB
def fNt := fOr fNtN fNtB
theorem jIs : OpJ X R (compareOp .Is) fIs := jIsN.or jIsB
theorem jNt : OpJ X R (compareOp .IsNot) fNt := jNtN.or jNtB
/-- a list's items or a tuple's -/
def iAny (m : OM) : IM := iOr (iSeq m) (iTp m)
theorem ij_any {tg e : Expr} {m : OM} (h : OJ X R W e m) : IJ X R W tg e (iAny m) := ij_or (ij_seq h) (ij_tup h)
theorem hu64 {k : Nat} {A : Around} (r : Room k A) : A.units + 64 < cLine := r.units
theorem hu65 {k : Nat} {A : Around} (r : Room k A) : A.units + 65 < cLine := by have := r.un; omega
theorem hu1 {k : Nat} {A : Around} (r : Room k A) : A.units + 1 < cLine := by have := r.un; omega
theorem oj_callBn {es : List Expr} {e : Expr} {ms : AM} {f : List LV → Option LV} {x : Str} {p : Pos} {n : String} (hc : CallJ X R (.builtin n) f) (hm : X.mg x = none) (hv : bootBuiltins x = some (.builtin n)) (ha : AJ X R W (e :: es) ms) (hg : Gl X x := by rfl) (hn : x ≠ "__name__" := by decide) (hdb : (x == ("__debug__" : Str)) = false := by decide)
    (he : starEach (e :: es) X.env = (false, eval e X.env) :: starEach es X.env := by rfl) (hpl : (backTo pos (starEach es X.env)).any (·.1) = false := by rfl) : OJ X R W (.Call (.Name x p) (e :: es) [] pos) (oOp ms f) :=
  oj_callB hc ha fun r t h1 h2 => pe_callB h1 hg hm hv h2 hn hdb he hpl
theorem oj_callTn {es : List Expr} {e : Expr} {ms : AM} {f : List LV → Option LV} {x : Str} {p : Pos} {n : String} (hc : CallJ X R (.type n) f) (hm : X.mg x = none) (hv : bootBuiltins x = some (.type n)) (ha : AJ X R W (e :: es) ms) (hg : Gl X x := by rfl) (hn : x ≠ "__name__" := by decide) (hdb : (x == ("__debug__" : Str)) = false := by decide)
    (he : starEach (e :: es) X.env = (false, eval e X.env) :: starEach es X.env := by rfl) (hpl : (backTo pos (starEach es X.env)).any (·.1) = false := by rfl) : OJ X R W (.Call (.Name x p) (e :: es) [] pos) (oOp ms f) :=
  oj_callT hc ha fun r t h1 h2 => pe_callTy h1 hg hm hv h2 hn hdb he hpl
theorem oj_neg {m : OM} (h : OJ X R W a m) : OJ X R W (.UnaryOp .USub a pos) (o1 m fNegI) := oj_un jNegI h fun r ta h1 h2 => pe_un h1 h2
/-- the slot i -/
theorem ov (i : Nat) {x : Str} (hN : X.N[i]? = some x := by rfl) (hv : Vis X.env.scope x := by first | exact Or.inl rfl | exact Or.inr (Or.inl rfl) | exact Or.inr (Or.inr rfl)) (hd : (x == ("__debug__" : Str)) = false := by decide)
    (hcd : (x == ("__classdict__" : Str)) = false := by decide) : OJ X R W (.Name x pos) (oVar i) := oj_var (pe_var hN hv hd hcd)
theorem bootB (x : Str) (v : Value) (h : bootBuiltins x = some v) : bootBuiltins x = some v := h
end
end PL
set_option maxRecDepth 100000
set_option maxHeartbeats 4000000
/-! Built-ins: isinstance, all, any, list, tuple, str, sorted; dicts. -/
namespace PL
open PySem L2 PyProof.Rows

section
variable {X : Cx} {R : RE} {W : WX} {P : List Nat} {pos : Pos} {e a b o i : Expr} {es : List Expr} {m ma mb mo mi : OM} {ms : AM} {F H : Hp}
/-! ### isinstance of built-in types -/
def LV.tn : LV → Option String
  | .dat .non => some "NoneType"
  | .dat (.bl _) => some "bool"
  | .dat (.int _) => some "int"
  | .dat (.str _) => some "str"
  | .dat (.tup _) => some "tuple"
  | .dat (.lst _) => some "list"
  | .dat (.dic _) => some "dict"
  | .ml _ => some "list"
  | .md _ => some "dict"
  | .mt _ => some "dict"
  | _ => none
theorem LRel.tyx {lv : LV} {v : V} {t : String} (l : Le F H) (r : LRel R F H lv v) (h : lv.tn = some t) : TyX R.K H v (.type t) := by
  cases r with
  | dat r =>
    cases r with
    | non => cases h; exact .base .non
    | bl b => cases h; exact .base (.bl b)
    | int i => cases h; exact .base (.int i)
    | str x => cases h; exact .base (.str x)
    | tup h1 rs => cases h; exact .base (.tup (l.tupE h1))
    | lst h1 rs => cases h; exact .base (.lst (l.lstE h1))
    | dic h1 k rs =>
      cases h
      rcases l.dic (u := .dK _) trivial h1 with q | ⟨ob, q⟩
      · exact .base (.dK q)
      · exact .fDict q
    | _ => cases h
  | ml f h1 rs => cases h; exact .base (.lst h1)
  | md f h1 k rs => cases h; exact .base (.dK h1)
  | mt f h1 k rs => cases h; exact .base (.dT h1)
  | mi f h1 k rs => cases h
/-- is a built-in type a or a kind of b -/
def isB (a b : String) : Option Bool :=
  if (["NoneType", "bool", "int", "str", "tuple", "list", "dict"].contains a && ["bool", "int", "str", "tuple", "list", "dict"].contains b) = true then some (a == b || (a == "bool" && b == "int")) else none
theorem isB_ok {a b : String} {r : Bool} (h : isB a b = some r) : kitB a b = some r := by
  unfold isB at h
  split at h
  · rename_i hc
    rw [Bool.and_eq_true, List.contains_iff_mem, List.contains_iff_mem] at hc
    obtain ⟨h1, h2⟩ := hc
    simp only [List.mem_cons, List.not_mem_nil, or_false] at h1 h2
    cases h
    have t : ∀ a ∈ ["NoneType", "bool", "int", "str", "tuple", "list", "dict"], ∀ b ∈ ["bool", "int", "str", "tuple", "list", "dict"], kitB a b = some (a == b || (a == "bool" && b == "int")) := by decide +kernel
    exact t a (by simp only [List.mem_cons, List.not_mem_nil, or_false]; exact h1) b (by simp only [List.mem_cons, List.not_mem_nil, or_false]; exact h2)
  · cases h
def gIsi : LV → LV → Option LV := fun x c => match x.tn, c with
  | some t, .dat (.cst (.ty b)) => (isB t b).map fun r => .dat (.bl r)
  | _, _ => none
def fIsi := f2 gIsi
theorem jIsi (hK : R.K = X.K) : CallJ X R (.builtin "isinstance") fIsi := .mk call_isi (rsc2 fun F H x y lx ly z Q l r1 r2 e k => by
  unfold gIsi at e
  cases e1 : lx.tn with
  | none => simp [e1] at e
  | some t =>
    simp only [e1] at e
    split at e
    · rename_i t' b ht
      cases ht
      cases e2 : isB t b with
      | none => rw [e2] at e; cases e
      | some q =>
        rw [e2] at e
        cases e
        cases r2 with
        | dat r2 =>
          cases r2
          exact ⟨x, _, .type t, .type b, q, rfl, .ty b, by rw [← hK]; exact r1.tyx l e1, kit_ty (isB_ok e2), kdat l k rfl (.bl _)⟩
    · cases e)
/-- isinstance(x, (T, U)) -/
def gIsi2 : LV → LV → Option LV := fun x c => match x.tn, c with
  | some t, .dat (.tup [.cst (.ty b), .cst (.ty c)]) => match isB t b, isB t c with
    | some r, some q => some (.dat (.bl (r || q)))
    | _, _ => none
  | _, _ => none
def fIsi2 := f2 gIsi2
theorem jIsi2 (hK : R.K = X.K) : CallJ X R (.builtin "isinstance") fIsi2 := .mk call_isiT (rsc2 fun F H x y lx ly z Q l r1 r2 e k => by
  unfold gIsi2 at e
  cases e1 : lx.tn with
  | none => simp [e1] at e
  | some t =>
    simp only [e1] at e
    split at e
    · rename_i t' b c ht
      cases ht
      cases e2 : isB t b with
      | none => simp [e2] at e
      | some p =>
        cases e3 : isB t c with
        | none => simp [e2, e3] at e
        | some q =>
          simp only [e2, e3, Option.some.injEq] at e
          subst e
          cases r2 with
          | dat r2 =>
            cases r2 with
            | tup hT rs =>
              cases rs with
              | cons ra rs =>
                cases rs with
                | cons rb rs =>
                  cases rs
                  cases ra
                  cases rb
                  refine ⟨x, _, _, .type t, [.type b, .type c], p || q, rfl, l.tupE hT, .cons (.ty b) (.cons (.ty c) .nil), by rw [← hK]; exact r1.tyx l e1, ?_, kdat l k rfl (.bl _)⟩
                  refine kitAny_cons (kit_ty (isB_ok e2)) (fun hp => ?_) fun hp => by rw [hp]; rfl
                  refine kitAny_cons (kit_ty (isB_ok e3)) (fun hq => ?_) fun hq => by rw [hp, hq]; rfl
                  rw [hp, hq]
                  exact kitAny_nil
    · cases e)
/-! ### all, any, over a list of bools -/
def bools : List D → Option (List Bool)
  | [] => some []
  | .bl b :: r => match bools r with
    | some bs => some (b :: bs)
    | none => none
  | _ => none
theorem RepL.bools : ∀ {ds : List D} {vs : List V} {bs : List Bool}, RepL R F ds vs → PL.bools ds = some bs → vs = bs.map V.bl
  | [], [], bs, .nil, e => by cases e; rfl
  | .bl b :: r, _, bs, .cons h t, e => by
    unfold PL.bools at e
    cases e1 : PL.bools r with
    | none => rw [e1] at e; cases e
    | some bs' => rw [e1] at e; cases e; cases h; rw [t.bools e1]; rfl
def gAll : LV → Option LV := fun x => match x.items with
  | some ds => match bools ds with
    | some bs => some (.dat (.bl (bs.all id)))
    | none => none
  | none => none
def gAny : LV → Option LV := fun x => match x.items with
  | some ds => match bools ds with
    | some bs => some (.dat (.bl (bs.any id)))
    | none => none
  | none => none
def fAll := f1 gAll
def fAny := f1 gAny
theorem jAll (hc : X.calm = true) : CallJ X R (.builtin "all") fAll := .mk (cr_all hc) (rsc1 fun F H x lx z Q l r1 e k => by
  unfold gAll at e
  cases e1 : lx.items with
  | none => rw [e1] at e; cases e
  | some ds =>
    simp only [e1] at e
    cases e2 : bools ds with
    | none => rw [e2] at e; cases e
    | some bs =>
      rw [e2] at e
      cases e
      obtain ⟨p, vs, rfl, hp, rp⟩ := r1.items l e1
      exact ⟨p, bs, rfl, .inl (.inl (by rw [← rp.bools e2]; exact hp)), kdat l k rfl (.bl _)⟩)
theorem jAny (hc : X.calm = true) : CallJ X R (.builtin "any") fAny := .mk (cr_any hc) (rsc1 fun F H x lx z Q l r1 e k => by
  unfold gAny at e
  cases e1 : lx.items with
  | none => rw [e1] at e; cases e
  | some ds =>
    simp only [e1] at e
    cases e2 : bools ds with
    | none => rw [e2] at e; cases e
    | some bs =>
      rw [e2] at e
      cases e
      obtain ⟨p, vs, rfl, hp, rp⟩ := r1.items l e1
      exact ⟨p, bs, rfl, .inl (.inl (by rw [← rp.bools e2]; exact hp)), kdat l k rfl (.bl _)⟩)
/-! ### list(x), tuple(x), str(n) -/
def gList : LV → Option LV
  | .dat (.lst ds) => some (.ml ds)
  | .dat (.tup ds) => some (.ml ds)
  | .ml ds => some (.ml ds)
  | _ => none
def fList := f1 gList
theorem jList : CallJ X R (.type "list") fList := .mk call_list_of (rsc1 fun F H x lx z Q l r1 e k => by
  cases r1 with
  | dat r1 =>
    cases r1 with
    | lst h rs => cases e; exact ⟨_, _, rfl, .inl (.inl (.inl (l.lstE h))), fun p hp => klst l k rs hp⟩
    | tup h rs => cases e; exact ⟨_, _, rfl, .inr (.inl (.inl (l.tupE h))), fun p hp => klst l k rs hp⟩
    | _ => cases e
  | ml f h rs => cases e; exact ⟨_, _, rfl, .inl (.inl (.inl h)), fun p hp => klst l k rs hp⟩
  | _ => cases e)
def gTuple : LV → Option LV
  | .dat (.lst ds) => some (.dat (.tup ds))
  | .dat (.tup ds) => some (.dat (.tup ds))
  | .ml ds => some (.dat (.tup ds))
  | _ => none
def fTuple := f1 gTuple
theorem jTuple : CallJ X R (.type "tuple") fTuple := .mk call_tuple_of (rsc1 fun F H x lx z Q l r1 e k => by
  cases r1 with
  | dat r1 =>
    cases r1 with
    | lst h rs => cases e; exact ⟨_, _, rfl, .inl ⟨.inl (.inl (l.lstE h)), fun p hp => ktup l k rs hp⟩⟩
    | tup h rs => cases e; exact ⟨_, _, rfl, .inr ⟨.inl (.inl (l.tupE h)), kdat l k rfl (.tup h rs)⟩⟩
    | _ => cases e
  | ml f h rs => cases e; exact ⟨_, _, rfl, .inl ⟨.inl (.inl h), fun p hp => ktup l k rs hp⟩⟩
  | _ => cases e)
def gStrI : LV → Option LV
  | .dat (.int i) => if i.natAbs.log2 < 1920 then some (.dat (.str (toString i : String))) else none
  | _ => none
/-! ### sorted -/
def D.pyd (d : D) : PyData := d.py.getD .none
def sortOk (ps : List PyData) : Bool := (ps.all fun p => ps.all fun q => PySem.W.alike p q) &&
  ((ps.all fun p => match p with | .tuple (_ :: _) => true | _ => false) || (ps.all fun p => match p with | .none => false | .tuple _ => false | _ => true)) && (ps.all fun p => decide (p.depth ≤ 60)) && decide (ps.length ≤ sizeLine)
def sortD (ds : List D) : List D := ds.mergeSort (PySem.W.dataLe false D.pyd)
theorem pys_map : ∀ {ds : List D} {ps : List PyData}, D.pys ds = some ps → ps = ds.map D.pyd
  | [], ps, e => by simp only [D.pys, Option.some.injEq] at e; subst e; rfl
  | d :: ds, ps, e => by
    unfold D.pys at e
    cases e1 : D.py d with
    | none => simp [e1] at e
    | some p =>
      cases e2 : D.pys ds with
      | none => simp [e1, e2] at e
      | some ps' =>
        simp only [e1, e2, Option.some.injEq] at e
        subst e
        rw [pys_map e2]
        simp [D.pyd, e1]
def rSortA (R : RE) : List V → Hp → VK → Prop := fun vs H Q => ∃ (F : Hp) (a : Addr) (xs : List V) (ds : List D) (ps : List PyData), vs = [.ref a] ∧ Le F H ∧ H a = some (.lst xs) ∧ RepL R F ds xs ∧ D.pys ds = some ps ∧ sortOk ps = true ∧
  ∀ (ys : List V) (p : Addr), RepL R F (sortD ds) ys → H p = none → Q (.ref p) (upd H p (.lst ys))
theorem each_reads {X : Cx} {pins : List (Addr × Obj)} {σ : L2.St} {s : Shared} (hK : R.K = X.K) (I : L2.Inv X pins σ H s) (l : Le F H) : ∀ {ds : List D} {vs : List V} {us : List Value} {ps : List PyData}, RepL R F ds vs → Vals vs us → D.pys ds = some ps →
    PySem.W.EachIs (fun u (b : D × V) => RelV b.2 u ∧ Rep R F b.1 b.2) us (ds.zip vs) ∧ PySem.W.EachIs (fun u (b : D × V) => ∃ as, Reads s.heap u (D.pyd b.1) as) us (ds.zip vs)
  | [], _, _, ps, .nil, .nil, _ => ⟨.nil, .nil⟩
  | d :: ds, _, _, ps, .cons h r, .cons rv rs, e => by
    unfold D.pys at e
    cases e1 : D.py d with
    | none => simp [e1] at e
    | some p =>
      cases e2 : D.pys ds with
      | none => simp [e1, e2] at e
      | some ps' =>
        obtain ⟨q1, q2⟩ := each_reads hK I l r rs e2
        refine ⟨.cons ⟨rv, h⟩ q1, .cons ?_ q2⟩
        obtain ⟨as, w⟩ := Dp.reads I p _ _ (by rw [← hK]; exact h.dp l e1) rv
        exact ⟨as, by simp only [D.pyd, e1, Option.getD_some]; exact w⟩
theorem each_out {us : List Value} : ∀ {bs : List (D × V)}, PySem.W.EachIs (fun u (b : D × V) => RelV b.2 u ∧ Rep R F b.1 b.2) us bs → RepL R F (bs.map (·.1)) (bs.map (·.2)) ∧ Vals (bs.map (·.2)) us := by
  intro bs h
  induction h with
  | nil => exact ⟨.nil, .nil⟩
  | cons h t ih => exact ⟨.cons h.2 ih.1, .cons h.1 ih.2⟩
theorem zip_fst {ds : List D} {vs : List V} (r : RepL R F ds vs) : (ds.zip vs).map (·.1) = ds := List.map_fst_zip (by rw [r.length]; exact Nat.le_refl _)
theorem cr_sortA (hK : R.K = X.K) (hu : X.A.units + 64 < cLine) : CallR X (.builtin "sorted") (rSortA R) := by
  intro pins s σ H vs us Q I r h
  obtain ⟨F, a, xs, ds, ps, rfl, l, ha, rp, e, ok, q⟩ := h
  obtain ⟨its, rv, hl, hz⟩ := I.list (show SqL X.K H a xs from .inl (.inl ha))
  rw [Vals.ref1 r]
  obtain ⟨e1, e2⟩ := each_reads hK I l rp rv e
  unfold sortOk at ok
  simp only [Bool.and_eq_true, Bool.or_eq_true, List.all_eq_true, decide_eq_true_eq] at ok
  obtain ⟨⟨⟨o1, o2⟩, o3⟩, o4⟩ := ok
  have em : (ds.zip xs).map (fun b => D.pyd b.1) = ps := by
    rw [pys_map e]
    have z := congrArg (List.map D.pyd) (zip_fst rp)
    rw [List.map_map] at z
    exact z
  refine PySem.W.sorted_data (enc := fun b : D × V => D.pyd b.1) (bs := ds.zip xs) (vs := its) hl.isList e1 e2 (by rw [em]; exact fun d hd d' hd' => o1 d hd d' hd') ?_ ?_ ?_ fun out hlen hout => ?_
  · rw [em]
    rcases o2 with o2 | o2
    · refine .inl fun d hd => ?_
      have := o2 d hd
      split at this
      · exact ⟨_, _, rfl⟩
      · cases this
    · refine .inr fun d hd => ?_
      have := o2 d hd
      split at this
      · cases this
      · cases this
      · rename_i n1 n2
        exact ⟨n1, n2⟩
  · have : (ds.zip xs).length = ps.length := by rw [← em, List.length_map]
    rw [this]; exact o4
  · intro b hb
    have := o3 (D.pyd b.1) (by rw [← em]; exact List.mem_map.mpr ⟨b, hb, rfl⟩)
    omega
  · obtain ⟨r1, r2⟩ := each_out hout
    have es : ((ds.zip xs).mergeSort (PySem.W.dataLe false fun b : D × V => D.pyd b.1)).map (·.1) = sortD ds := by
      unfold sortD
      have z := PySem.W.sort_maps (r := PySem.W.dataLe false fun b : D × V => D.pyd b.1) (s := PySem.W.dataLe false D.pyd) (fun b : D × V => b.1) (l := ds.zip xs) (fun _ _ _ _ => rfl)
      rw [zip_fst rp] at z
      exact z
    rw [es] at r1
    obtain ⟨ep, he'⟩ := PyProof.Rows.sortedAll_at s.heap its out.toArray
    refine ⟨.ref _, upd H (s.heap.objs.size + 1) (.lst _), I.laid (t' := s.toks) (fun _ _ => PyProof.Rows.sortedAll_old) (Nat.le_succ _) ⟨?_, out, ep, r2, he'⟩, rfl, q _ _ r1 (I.hok.fresh (Nat.le_succ _))⟩
    rw [r2.length, hlen, List.length_zip, rp.length, Nat.min_self]
    exact hz
def gSort : LV → Option LV := fun x => match x.items with
  | some ds => match D.pys ds with
    | some ps => if sortOk ps then some (.ml (sortD ds)) else none
    | none => none
  | none => none
def fSort := f1 gSort
theorem jSort (hK : R.K = X.K) (hu : X.A.units + 64 < cLine) : CallJ X R (.builtin "sorted") fSort := .mk (cr_sortA hK hu) (rsc1 fun F H x lx z Q l r1 e k => by
  unfold gSort at e
  cases e1 : lx.items with
  | none => rw [e1] at e; cases e
  | some ds =>
    simp only [e1] at e
    cases e2 : D.pys ds with
    | none => rw [e2] at e; cases e
    | some ps =>
      simp only [e2] at e
      split at e
      · rename_i ok
        cases e
        obtain ⟨p, vs, rfl, hp, rp⟩ := r1.items l e1
        exact ⟨F, p, vs, ds, ps, rfl, l, hp, rp, e2, ok, fun ys p hy hp => klst l k hy hp⟩
      · cases e)
end
end PL
set_option maxRecDepth 100000
set_option maxHeartbeats 4000000
/-! Dicts. -/
namespace PL
open PySem L2 PyProof.Rows

section
variable {κ : Type} [DecidableEq κ]
def valD (kvs : List (κ × D)) (k : κ) : Option D := (kvs.find? fun kv => decide (kv.1 = k)).map (·.2)
def putD (kvs : List (κ × D)) (k : κ) (v : D) : List (κ × D) :=
  if (kvs.any fun kv => decide (kv.1 = k)) = true then kvs.map (fun kv => if kv.1 = k then (kv.1, v) else kv) else kvs ++ [(k, v)]
def delD (kvs : List (κ × D)) (k : κ) : List (κ × D) := kvs.filter fun kv => decide (kv.1 ≠ k)
variable {R : RE} {F : Hp}
/-- entries and what they stand for -/
structure KR (R : RE) (F : Hp) (kvs : List (κ × D)) (xs : List (κ × V)) : Prop where
  k : kvs.map (·.1) = xs.map (·.1)
  v : RepL R F (kvs.map (·.2)) (xs.map (·.2))
theorem KR.length {kvs : List (κ × D)} {xs : List (κ × V)} (r : KR R F kvs xs) : kvs.length = xs.length := by simpa using congrArg List.length r.k
theorem KR.nil : KR (κ := κ) R F [] [] := ⟨rfl, .nil⟩
theorem KR.inv {p : κ × D} {kvs : List (κ × D)} {xs : List (κ × V)} (r : KR R F (p :: kvs) xs) : ∃ q ys, xs = q :: ys ∧ p.1 = q.1 ∧ Rep R F p.2 q.2 ∧ KR R F kvs ys := by
  cases xs with
  | nil => cases r.k
  | cons q ys =>
    have k := r.k
    have v := r.v
    simp only [List.map_cons, List.cons.injEq] at k
    simp only [List.map_cons] at v
    cases v with
    | cons h t => exact ⟨q, ys, rfl, k.1, h, k.2, t⟩
theorem KR.cons {p : κ × D} {q : κ × V} {kvs : List (κ × D)} {xs : List (κ × V)} (e : p.1 = q.1) (h : Rep R F p.2 q.2) (r : KR R F kvs xs) : KR R F (p :: kvs) (q :: xs) := ⟨by simp [e, r.k], .cons h r.v⟩
theorem KR.append {kvs kvs' : List (κ × D)} {xs xs' : List (κ × V)} (r : KR R F kvs xs) (s : KR R F kvs' xs') : KR R F (kvs ++ kvs') (xs ++ xs') := ⟨by simp [r.k, s.k], by simpa using r.v.append s.v⟩
theorem KR.val : ∀ {kvs : List (κ × D)} {xs : List (κ × V)} (k : κ), KR R F kvs xs → (valD kvs k = none ∧ valV xs k = none) ∨ ∃ d v, valD kvs k = some d ∧ valV xs k = some v ∧ Rep R F d v
  | [], xs, k, r => by
    have : xs = [] := by have := r.length; simpa using (List.length_eq_zero_iff.mp this.symm)
    subst this
    exact .inl ⟨rfl, rfl⟩
  | p :: kvs, xs, k, r => by
    obtain ⟨q, ys, rfl, e, h, t⟩ := r.inv
    by_cases c : p.1 = k
    · exact .inr ⟨p.2, q.2, by simp [valD, List.find?_cons, c], valV_pos (e ▸ c), h⟩
    · have c' : ¬ q.1 = k := by rw [← e]; exact c
      have e1 : valD (p :: kvs) k = valD kvs k := by simp [valD, List.find?_cons, c]
      rw [e1, valV_neg c']
      exact t.val k
theorem KR.any : ∀ {kvs : List (κ × D)} {xs : List (κ × V)} (k : κ), KR R F kvs xs → (kvs.any fun kv => decide (kv.1 = k)) = (xs.any fun kv => decide (kv.1 = k))
  | [], xs, k, r => by
    have : xs = [] := by have := r.length; simpa using (List.length_eq_zero_iff.mp this.symm)
    subst this
    rfl
  | p :: kvs, xs, k, r => by
    obtain ⟨q, ys, rfl, e, h, t⟩ := r.inv
    rw [List.any_cons, List.any_cons, e, t.any k]
theorem KR.mapv : ∀ {kvs : List (κ × D)} {xs : List (κ × V)} (k : κ) {d : D} {v : V}, KR R F kvs xs → Rep R F d v → KR R F (kvs.map fun kv => if kv.1 = k then (kv.1, d) else kv) (xs.map fun kv => if kv.1 = k then (kv.1, v) else kv)
  | [], xs, k, d, v, r, _ => by
    have : xs = [] := by have := r.length; simpa using (List.length_eq_zero_iff.mp this.symm)
    subst this
    exact .nil
  | p :: kvs, xs, k, d, v, r, hd => by
    obtain ⟨q, ys, rfl, e, h, t⟩ := r.inv
    rw [List.map_cons, List.map_cons]
    refine KR.cons ?_ ?_ (t.mapv k hd)
    · rw [← e]; split <;> simp [e]
    · rw [← e]; split
      · exact hd
      · exact h
theorem KR.put {kvs : List (κ × D)} {xs : List (κ × V)} (k : κ) {d : D} {v : V} (r : KR R F kvs xs) (h : Rep R F d v) : KR R F (putD kvs k d) (putK xs k v) := by
  unfold putD putK
  rw [r.any k]
  split
  · exact r.mapv k h
  · exact r.append (.cons rfl h .nil)
theorem KR.del : ∀ {kvs : List (κ × D)} {xs : List (κ × V)} (k : κ), KR R F kvs xs → KR R F (delD kvs k) (dropK xs k)
  | [], xs, k, r => by
    have : xs = [] := by have := r.length; simpa using (List.length_eq_zero_iff.mp this.symm)
    subst this
    exact .nil
  | p :: kvs, xs, k, r => by
    obtain ⟨q, ys, rfl, e, h, t⟩ := r.inv
    have ih := t.del k
    unfold delD dropK at ih ⊢
    rw [List.filter_cons, List.filter_cons, ← e]
    split
    · exact .cons e h ih
    · exact ih
theorem KR.mono {G : Hp} {kvs : List (κ × D)} {xs : List (κ × V)} (l : Le F G) (r : KR R F kvs xs) : KR R G kvs xs := ⟨r.k, r.v.mono l⟩
end
def keyD : D → Option Key
  | .int i => some (.inl i)
  | .str x => some (.inr x)
  | _ => none
def keysD : List D → Option (List Key)
  | [] => some []
  | d :: ds => match keyD d, keysD ds with
    | some k, some ks => some (k :: ks)
    | _, _ => none
/-- a key as data -/
def dKey : Key → D
  | .inl i => .int i
  | .inr x => .str x
theorem keyD_rep {R : RE} {F : Hp} {d : D} {v : V} {k : Key} (r : Rep R F d v) (e : keyD d = some k) : v = kV k := by
  cases r <;> first | (cases e; rfl) | cases e
theorem keysD_rep {R : RE} {F : Hp} : ∀ {ds : List D} {vs : List V} {ks : List Key}, RepL R F ds vs → keysD ds = some ks → vs = ks.map kV
  | [], _, ks, .nil, e => by cases e; rfl
  | d :: ds, _, ks, .cons h r, e => by
    unfold keysD at e
    cases e1 : keyD d with
    | none => simp [e1] at e
    | some k =>
      cases e2 : keysD ds with
      | none => simp [e1, e2] at e
      | some ks' =>
        simp only [e1, e2, Option.some.injEq] at e
        subst e
        rw [keyD_rep h e1, keysD_rep r e2]
        rfl
theorem dKey_rep {R : RE} {F : Hp} (k : Key) : Rep R F (dKey k) (kV k) := by cases k <;> constructor

section
variable {X : Cx} {R : RE} {W : WX} {P : List Nat} {pos : Pos} {e a b o i : Expr} {es : List Expr} {m ma mb mo mi : OM} {ms : AM} {F H : Hp}
/-- what a variable's or a datum's dict holds at a key -/
def lookD : LV → LV → Option (Option D) := fun o i => match i with
  | .dat (.tup ds) => match keysD ds with
    | some ks => match o with
      | .dat (.dit kvs) => some (valD kvs ks)
      | .mt kvs => some (valD kvs ks)
      | _ => none
    | none => none
  | .dat d => match keyD d with
    | some k => match o with
      | .dat (.dic kvs) => some (valD kvs k)
      | .md kvs => some (valD kvs k)
      | _ => none
    | none => none
  | _ => none
theorem lookD_at {lo li : LV} {ov iv : V} {r : Option D} (l : Le F H) (r1 : LRel R F H lo ov) (r2 : LRel R F H li iv) (e : lookD lo li = some r) :
    ∃ a rv, ov = .ref a ∧ DGet H a iv rv ∧ ((r = none ∧ rv = none) ∨ ∃ d v, r = some d ∧ rv = some v ∧ Rep R F d v) := by
  have kcase : ∀ {κ : Type} [DecidableEq κ] {kvs : List (κ × D)} {xs : List (κ × V)} (k : κ), KR R F kvs xs → ((valD kvs k = none ∧ valV xs k = none) ∨ ∃ d v, valD kvs k = some d ∧ valV xs k = some v ∧ Rep R F d v) := fun k r => r.val k
  unfold lookD at e
  split at e
  · rename_i ds
    cases e1 : keysD ds with
    | none => rw [e1] at e; cases e
    | some ks =>
      simp only [e1] at e
      cases r2 with
      | dat r2 =>
        cases r2 with
        | @tup b _ vs hb rs =>
          have ev := keysD_rep rs e1
          subst ev
          have hb' := l.tupE hb
          split at e
          · cases e
            cases r1 with
            | dat r1 =>
              cases r1 with
              | dit h k rs' => exact ⟨_, _, rfl, .inr ⟨_, ks, b, l.dic (u := .dT _) trivial h, rfl, hb', rfl⟩, kcase ks ⟨k, rs'⟩⟩
          · cases e
            cases r1 with
            | mt f h k rs' => exact ⟨_, _, rfl, .inr ⟨_, ks, b, .inl h, rfl, hb', rfl⟩, kcase ks ⟨k, rs'⟩⟩
          · cases e
  · rename_i d hd
    cases e1 : keyD d with
    | none => rw [e1] at e; cases e
    | some k =>
      simp only [e1] at e
      cases r2 with
      | dat r2 =>
        have ev := keyD_rep r2 e1
        subst ev
        split at e
        · cases e
          cases r1 with
          | dat r1 =>
            cases r1 with
            | dic h kk rs' => exact ⟨_, _, rfl, .inl ⟨_, k, l.dic (u := .dK _) trivial h, rfl, rfl⟩, kcase k ⟨kk, rs'⟩⟩
        · cases e
          cases r1 with
          | md f h kk rs' => exact ⟨_, _, rfl, .inl ⟨_, k, .inl h, rfl, rfl⟩, kcase k ⟨kk, rs'⟩⟩
        · cases e
  · cases e
/-! d[k] -/
theorem ix_dict (hu : X.A.units + 1 < cLine) : IxR X (fun x y H Q => ∃ a v, x = .ref a ∧ DGet H a y (some v) ∧ Q v H) := by
  intro value slice pins s σ H x y v u Q I rx ry h hs
  obtain ⟨a, z, rfl, g, q⟩ := h
  cases rx
  exact tail_any (dict_typeIs I g) PySem.F.slot_dict_getitem.lookup (d_getItem hu I g ry fun w' s' I' rw' => ⟨z, H, I', rw', q⟩) hs
def gIxD : LV → LV → Option LV := fun o i => match lookD o i with
  | some (some d) => some (.dat d)
  | _ => none
def fIxD := f2 gIxD
theorem jIxD (hu : X.A.units + 1 < cLine) : IxJ X R fIxD := ⟨_, ix_dict hu, rs2 fun F H x y lx ly z Q l r1 r2 e k => by
  unfold gIxD at e
  split at e
  · rename_i d hd
    cases e
    obtain ⟨a, rv, rfl, g, h | ⟨d', v, h1, rfl, h3⟩⟩ := lookD_at l r1 r2 hd
    · cases h.1
    · cases h1; exact ⟨a, v, rfl, g, kdat l k rfl h3⟩
  · cases e⟩
/-! k in d -/
theorem op_inK (hu : X.A.units + 1 < cLine) : OpR X (compareOp .In) (fun x y H Q => ∃ a r, y = .ref a ∧ DGet H a x r ∧ Q (.bl r.isSome) H) := by
  intro pins s σ H x y v u Q I rx ry h
  obtain ⟨a, r, rfl, g, q⟩ := h
  cases ry
  exact d_in hu I g rx fun s' I' => ⟨.bl _, H, I', rfl, q⟩
theorem op_niK (hu : X.A.units + 1 < cLine) : OpR X (compareOp .NotIn) (fun x y H Q => ∃ a r, y = .ref a ∧ DGet H a x r ∧ Q (.bl (!r.isSome)) H) := by
  intro pins s σ H x y v u Q I rx ry h
  obtain ⟨a, r, rfl, g, q⟩ := h
  cases ry
  exact d_notIn hu I g rx fun s' I' => ⟨.bl _, H, I', rfl, q⟩
def gInK (neg : Bool) : LV → LV → Option LV := fun i o => match lookD o i with
  | some r => some (.dat (.bl (if neg then !r.isSome else r.isSome)))
  | none => none
def fInK := f2 (gInK false)
def fNiK := f2 (gInK true)
theorem isSome_eq {r : Option D} {rv : Option V} (h : (r = none ∧ rv = none) ∨ ∃ d v, r = some d ∧ rv = some v ∧ Rep R F d v) : rv.isSome = r.isSome := by
  rcases h with ⟨rfl, rfl⟩ | ⟨d, v, rfl, rfl, _⟩ <;> rfl
theorem jInK (hu : X.A.units + 1 < cLine) : OpJ X R (compareOp .In) fInK := .mk (op_inK hu) (rs2 fun F H x y lx ly z Q l r1 r2 e k => by
  unfold gInK at e
  cases e1 : lookD ly lx with
  | none => rw [e1] at e; cases e
  | some r =>
    rw [e1] at e
    cases e
    obtain ⟨a, rv, rfl, g, h⟩ := lookD_at l r2 r1 e1
    exact ⟨a, rv, rfl, g, by rw [isSome_eq h]; exact kdat l k rfl (.bl _)⟩)
theorem jNiK (hu : X.A.units + 1 < cLine) : OpJ X R (compareOp .NotIn) fNiK := .mk (op_niK hu) (rs2 fun F H x y lx ly z Q l r1 r2 e k => by
  unfold gInK at e
  cases e1 : lookD ly lx with
  | none => rw [e1] at e; cases e
  | some r =>
    rw [e1] at e
    cases e
    obtain ⟨a, rv, rfl, g, h⟩ := lookD_at l r2 r1 e1
    exact ⟨a, rv, rfl, g, by rw [isSome_eq h]; exact kdat l k rfl (.bl _)⟩)
/-! d[k] = v, d a variable's own dict -/
theorem set_dict (hu : X.A.units + 1 < cLine) : PSet X (fun o i v H Q => ∃ a H', o = .ref a ∧ DPut H a i v H' ∧ Q H') := by
  intro pins s σ H o i v ov iv u Q I ro ri rv h
  obtain ⟨a, H', rfl, g, q⟩ := h
  cases ro
  exact d_setItem hu I g ri rv fun s' I' => ⟨H', I', q⟩
def stD : StF := fun o i d => match o, i with
  | .mt kvs, .dat (.tup ds) => match keysD ds with
    | some ks => if kvs.length < sizeLine then some (.mt (putD kvs ks d)) else none
    | none => none
  | .md kvs, .dat c => match keyD c with
    | some k => if kvs.length < sizeLine then some (.md (putD kvs k d)) else none
    | none => none
  | _, _ => none
theorem jStD (hu : X.A.units + 1 < cLine) : StJ X R stD := ⟨_, set_dict hu, fun F H o lo i li x d lo' Q l r1 r2 r3 e k => by
  unfold stD at e
  split at e
  · rename_i kvs ds
    cases e1 : keysD ds with
    | none => rw [e1] at e; cases e
    | some ks =>
      simp only [e1] at e
      split at e
      · rename_i hz
        cases e
        cases r1 with
        | mt f h kk rs =>
          have kr : KR R F kvs _ := ⟨kk, rs⟩
          cases r2 with
          | dat r2 =>
            cases r2 with
            | tup hb rb =>
              have ev := keysD_rep rb e1
              subst ev
              have kp := kr.put ks r3
              exact ⟨_, _, rfl, .inr ⟨_, ks, _, h, rfl, l.tupE hb, by rw [← kr.length]; exact hz, rfl⟩, k _ (.upd l f h fun _ _ z => by cases z) (.mt f upd_same kp.k kp.v)⟩
      · cases e
  · rename_i kvs _
    cases e1 : keyD _ with
    | none => rw [e1] at e; cases e
    | some kk1 =>
      simp only [e1] at e
      split at e
      · rename_i hz
        cases e
        cases r1 with
        | md f h kk rs =>
          have kr : KR R F kvs _ := ⟨kk, rs⟩
          cases r2 with
          | dat r2 =>
            have ev := keyD_rep r2 e1
            subst ev
            have kp := kr.put kk1 r3
            exact ⟨_, _, rfl, .inl ⟨_, kk1, h, rfl, by rw [← kr.length]; exact hz, rfl⟩, k _ (.upd l f h fun _ _ z => by cases z) (.md f upd_same kp.k kp.v)⟩
      · cases e
  · cases e⟩
/-! {} -/
def oNewK : OM := fun env => .val (.tmp (.md [])) env
def oNewT : OM := fun env => .val (.tmp (.mt [])) env
theorem oj_newK : OJ X R W (.Dict [] [] pos) oNewK := ⟨_, pe_dnewK, fun σ F H env Q er l p q hq => by
  have nw : Nw F H F (upd H q (.dK [])) := .new l hq
  exact p (.ref q) F _ (er.nw nw) ⟨by simp, .md (l.nn hq) upd_same rfl .nil⟩ (fun a o w => by obtain ⟨_, z⟩ := o; cases z; exact (er.tracked w).2 hq) (nw.gr fun a w => w.elim .inl fun o => by obtain ⟨_, z⟩ := o; cases z; exact .inr hq)⟩
theorem oj_newT : OJ X R W (.Dict [] [] pos) oNewT := ⟨_, pe_dnewT, fun σ F H env Q er l p q hq => by
  have nw : Nw F H F (upd H q (.dT [])) := .new l hq
  exact p (.ref q) F _ (er.nw nw) ⟨by simp, .mt (l.nn hq) upd_same rfl .nil⟩ (fun a o w => by obtain ⟨_, z⟩ := o; cases z; exact (er.tracked w).2 hq) (nw.gr fun a w => w.elim .inl fun o => by obtain ⟨_, z⟩ := o; cases z; exact .inr hq)⟩
/-! len(d), list(d), dict(d) -/
def LV.dicK : LV → Option (List (Key × D))
  | .dat (.dic kvs) => some kvs
  | .md kvs => some kvs
  | _ => none
def LV.dicT : LV → Option (List (List Key × D))
  | .dat (.dit kvs) => some kvs
  | .mt kvs => some kvs
  | _ => none
theorem LRel.dicK {lv : LV} {v : V} {kvs : List (Key × D)} (l : Le F H) (r : LRel R F H lv v) (e : lv.dicK = some kvs) : ∃ a xs, v = .ref a ∧ Rd H a (.dK xs) ∧ KR R F kvs xs := by
  cases r with
  | dat r =>
    cases r with
    | dic h k rs => cases e; exact ⟨_, _, rfl, l.dic (u := .dK _) trivial h, k, rs⟩
    | _ => cases e
  | md f h k rs => cases e; exact ⟨_, _, rfl, .inl h, k, rs⟩
  | _ => cases e
theorem LRel.dicT {lv : LV} {v : V} {kvs : List (List Key × D)} (l : Le F H) (r : LRel R F H lv v) (e : lv.dicT = some kvs) : ∃ a xs, v = .ref a ∧ Rd H a (.dT xs) ∧ KR R F kvs xs := by
  cases r with
  | dat r =>
    cases r with
    | dit h k rs => cases e; exact ⟨_, _, rfl, l.dic (u := .dT _) trivial h, k, rs⟩
    | _ => cases e
  | mt f h k rs => cases e; exact ⟨_, _, rfl, .inl h, k, rs⟩
  | _ => cases e
theorem call_lenK : CallR X (.builtin "len") (fun xs H Q => ∃ a kvs, xs = [V.ref a] ∧ Rd H a (.dK kvs) ∧ Q (.int kvs.length) H) := by
  intro pins s σ H xs us Q I r h
  obtain ⟨a, kvs, rfl, ha, q⟩ := h
  rw [Vals.ref1 r]
  exact d_len I ha fun t s' I' => ⟨.int kvs.length, H, I', ⟨t, rfl⟩, q⟩
theorem call_lenT : CallR X (.builtin "len") (fun xs H Q => ∃ (a : Addr) (kvs : List (List Key × V)), xs = [V.ref a] ∧ Rd H a (.dT kvs) ∧ Q (.int kvs.length) H) := by
  intro pins s σ H xs us Q I r h
  obtain ⟨p, kvs, rfl, hp, q⟩ := h
  rw [Vals.ref1 r]
  obtain ⟨z, hd, ys, rel, dd⟩ := dt_rd I.hok hp
  have hl : kvs.length = ys.length := Paired.length rel
  refine call_len_dictH hd dd (by rw [← hl]; rw [sizeLine_eq] at z; omega) ?_
  rw [← hl]
  exact ⟨.int kvs.length, H, I.tok _, ⟨_, rfl⟩, q⟩
def gLenK : LV → Option LV := fun x => match x.dicK with
  | some kvs => some (.dat (.int kvs.length))
  | none => none
def gLenT : LV → Option LV := fun x => match x.dicT with
  | some kvs => some (.dat (.int kvs.length))
  | none => none
theorem jLenK : CallJ X R (.builtin "len") (f1 gLenK) := .mk call_lenK (rsc1 fun F H x lx z Q l r1 e k => by
  unfold gLenK at e
  cases e1 : lx.dicK with
  | none => rw [e1] at e; cases e
  | some kvs =>
    rw [e1] at e
    cases e
    obtain ⟨a, xs, rfl, h, kr⟩ := r1.dicK l e1
    exact ⟨a, xs, rfl, h, by rw [← kr.length]; exact kdat l k rfl (.int _)⟩)
theorem jLenT : CallJ X R (.builtin "len") (f1 gLenT) := .mk call_lenT (rsc1 fun F H x lx z Q l r1 e k => by
  unfold gLenT at e
  cases e1 : lx.dicT with
  | none => rw [e1] at e; cases e
  | some kvs =>
    rw [e1] at e
    cases e
    obtain ⟨a, xs, rfl, h, kr⟩ := r1.dicT l e1
    exact ⟨a, xs, rfl, h, by rw [← kr.length]; exact kdat l k rfl (.int _)⟩)
def fLenA := fOr fLen (fOr (f1 gLenK) (f1 gLenT))
theorem jLenA : CallJ X R (.builtin "len") fLenA := jLen.or (jLenK.or jLenT)
def gListK : LV → Option LV := fun x => match x.dicK with
  | some kvs => some (.ml (kvs.map fun kv => dKey kv.1))
  | none => none
theorem KR.keys {kvs : List (Key × D)} {xs : List (Key × V)} (r : KR R F kvs xs) : RepL R F (kvs.map fun kv => dKey kv.1) (xs.map fun kv => kV kv.1) := by
  have k := r.k
  clear r
  revert xs
  induction kvs with
  | nil => intro xs k; cases xs with
    | nil => exact .nil
    | cons _ _ => cases k
  | cons p kvs ih =>
    intro xs k
    cases xs with
    | nil => cases k
    | cons q xs =>
      simp only [List.map_cons, List.cons.injEq] at k
      simp only [List.map_cons]
      rw [k.1]
      exact .cons (dKey_rep _) (ih k.2)
theorem jListK (hc : X.calm = true) : CallJ X R (.type "list") (f1 gListK) := .mk (call_listD hc) (rsc1 fun F H x lx z Q l r1 e k => by
  unfold gListK at e
  cases e1 : lx.dicK with
  | none => rw [e1] at e; cases e
  | some kvs =>
    rw [e1] at e
    cases e
    obtain ⟨a, xs, rfl, h, kr⟩ := r1.dicK l e1
    exact ⟨a, xs, rfl, h, fun p hp => klst l k kr.keys hp⟩)
def gDictK : LV → Option LV := fun x => match x.dicK with
  | some kvs => some (.md kvs)
  | none => none
theorem jDictK : CallJ X R (.type "dict") (f1 gDictK) := .mk call_dictD (rsc1 fun F H x lx z Q l r1 e k => by
  unfold gDictK at e
  cases e1 : lx.dicK with
  | none => rw [e1] at e; cases e
  | some kvs =>
    rw [e1] at e
    cases e
    obtain ⟨a, xs, rfl, h, kr⟩ := r1.dicK l e1
    exact ⟨a, xs, rfl, h, fun p hp => k (.ref p) F _ (.new l hp) (.md (l.nn hp) upd_same kr.k kr.v) fun b o => by obtain ⟨_, z⟩ := o; cases z; exact hp⟩)
end
end PL
set_option maxRecDepth 100000
set_option maxHeartbeats 4000000
/-! Dicts walked: a dict that is data is locked for good when it is walked. -/
namespace PL
open PySem L2 PyProof.Rows

def tFz (te : TE) : TE := fun σ H Q => te σ H fun x H1 => ∃ d, x = .ref d ∧ ((∃ od u, H1 d = some (.frz od u) ∧ Q x H1) ∨ ∃ u, H1 d = some u ∧ Mut (some u) ∧ ∀ od, Q x (upd H1 d (.frz od u)))
section
variable {X : Cx} {R : RE} {W : WX} {P : List Nat} {pos : Pos} {e a b o i : Expr} {es : List Expr} {m ma mb mo mi : OM} {ms : AM} {F H : Hp} {σ : L2.St} {env : LEnv}
theorem pe_fz {te : TE} (h : PE X e te) : PE X e (tFz te) := by
  refine ⟨fun pins s σ H Q I hw => ?_⟩
  refine thn (h.run pins s σ H _ I hw) fun v s1 ⟨x, H1, I1, r, d, e1, q⟩ => ?_
  subst e1
  rcases q with ⟨od, u, hd, q⟩ | ⟨u, hd, mu, q⟩
  · exact ⟨_, _, I1, r, q⟩
  · obtain ⟨od, I2⟩ := I1.lock hd mu
    exact ⟨_, _, I2, r, q od⟩
theorem le_lock {d : Addr} {u : HO} {od : Obj} (du : Dk u) (hf : F d = some u) (l : Le F H) (hd : H d = some u) :
    Le F (upd F d (.frz od u)) ∧ Le (upd F d (.frz od u)) (upd H d (.frz od u)) :=
  ⟨fun b o e => by
    by_cases z : b = d
    · subst z; rw [hf] at e; cases e; exact ⟨_, upd_same, .inr ⟨u, du, .inl rfl, .inr ⟨od, rfl⟩⟩⟩
    · exact ⟨o, by rw [upd_ne z]; exact e, .refl _⟩, l.upd2⟩
/-- the same where F has it locked already by another look -/
theorem le_lock2 {d : Addr} {u o0 : HO} {od : Obj} (du : Dk u) (hf : F d = some o0) (h0 : o0 = u ∨ ∃ ob, o0 = .frz ob u) (l : Le F H) (hd : H d = some u) :
    Le F (upd F d (.frz od u)) ∧ Le (upd F d (.frz od u)) (upd H d (.frz od u)) :=
  ⟨fun b o e => by
    by_cases z : b = d
    · subst z; rw [hf] at e; cases e; exact ⟨_, upd_same, .inr ⟨u, du, h0, .inr ⟨od, rfl⟩⟩⟩
    · exact ⟨o, by rw [upd_ne z]; exact e, .refl _⟩, l.upd2⟩
theorem LRel.lock {G G' : Hp} {d : Addr} {o : HO} (l : Le F G) (hd : F d ≠ none) (hG : ∀ a, F a = none → G a = none) (hH : ∀ a, a ≠ d → G' a = H a) {lv : LV} {v : V} (r : LRel R F H lv v) : LRel R G G' lv v := by
  cases r with
  | dat r => exact .dat (r.mono l)
  | ml f h rs => exact .ml (hG _ f) (by rw [hH _ fun z => hd (z ▸ f)]; exact h) (rs.mono l)
  | md f h k rs => exact .md (hG _ f) (by rw [hH _ fun z => hd (z ▸ f)]; exact h) k (rs.mono l)
  | mt f h k rs => exact .mt (hG _ f) (by rw [hH _ fun z => hd (z ▸ f)]; exact h) k (rs.mono l)
  | mi f h k rs => exact .mi (hG _ f) (by rw [hH _ fun z => hd (z ▸ f)]; exact h) k (rs.mono l)
theorem ER.lock {d : Addr} {u o0 : HO} {od : Obj} (du : Dk u) (hf : F d = some o0) (h0 : o0 = u ∨ ∃ ob, o0 = .frz ob u) (l : Le F H) (hd : H d = some u) (er : ER R F H σ env) :
    ER R (upd F d (.frz od u)) (upd H d (.frz od u)) σ env where
  len := er.len
  rel := fun i lv e n => by
    obtain ⟨v, hv, r⟩ := er.rel i lv e n
    exact ⟨v, hv, r.lock (d := d) (o := o0) (le_lock2 du hf h0 l hd).1 (by rw [hf]; simp) (fun a z => by rw [upd_ne (fun q => by rw [q, hf] at z; cases z)]; exact z) fun a z => by rw [upd_ne z]⟩
  dis := er.dis
theorem gr_lock {O : Addr → Prop} {d : Addr} {u o0 : HO} {od : Obj} (du : Dk u) (hf : F d = some o0) (h0 : o0 = u ∨ ∃ ob, o0 = .frz ob u) (l : Le F H) (hd : H d = some u) : Gr O F H O (upd F d (.frz od u)) (upd H d (.frz od u)) where
  le := (le_lock2 du hf h0 l hd).1
  sub := (le_lock2 du hf h0 l hd).2
  keep := fun b o e f _ => by rw [upd_ne (fun q => by rw [q, hf] at f; cases f)]; exact e
  old := fun b n => by
    by_cases z : b = d
    · exact .inl (by rw [z, hf]; simp)
    · rw [upd_ne z] at n; exact .inl n
  own := fun b o => .inl o
  frz := fun b ob u' e => by
    by_cases z : b = d
    · subst z
      rw [hd] at e
      cases e
      cases du
    · rw [upd_ne z]; exact e
theorem dk_mut {u : HO} (du : Dk u) : Mut (some u) := by cases u <;> first | exact trivial | exact du.elim

/-- the three walks -/
def keysL (kvs : List (Key × D)) : List D := kvs.map fun kv => dKey kv.1
def valsL (kvs : List (Key × D)) : List D := kvs.map (·.2)
def itemsL (kvs : List (Key × D)) : List D := kvs.map fun kv => .tup [dKey kv.1, kv.2]
theorem KR.get {kvs : List (Key × D)} {xs : List (Key × V)} (r : KR R F kvs xs) {i : Nat} {k : Key} {v : V} (e : xs[i]? = some (k, v)) : ∃ d, kvs[i]? = some (k, d) ∧ Rep R F d v := by
  have h1 : (xs.map (·.2))[i]? = some v := by rw [List.getElem?_map, e]; rfl
  obtain ⟨d, h2, h3⟩ := r.v.getV h1
  have h4 : (kvs.map (·.1))[i]? = some k := by rw [r.k, List.getElem?_map, e]; rfl
  rw [List.getElem?_map] at h2 h4
  cases h5 : kvs[i]? with
  | none => rw [h5] at h2; cases h2
  | some p => rw [h5] at h2 h4; cases p; cases h2; cases h4; exact ⟨_, rfl, h3⟩
theorem walks_keys {d : Addr} {ob : Obj} {kvs : List (Key × D)} {xs : List (Key × V)} (h : H d = some (.frz ob (.dK xs))) (r : KR R F kvs xs) : Walks R (Itk d ob xs) F H (keysL kvs) where
  go := fun i G H' _ _ z hi => ⟨z d ob _ h, by rw [← r.length]; simpa [keysL] using hi⟩
  stop := fun i G H' _ _ z hi => ⟨z d ob _ h, by rw [← r.length]; simpa [keysL] using hi⟩
  yld := fun i G H' x H2 l g _ hi y => by
    obtain ⟨rfl, k, v, e, rfl⟩ := y
    obtain ⟨dd, h1, h2⟩ := r.get e
    exact ⟨dKey k, G, by unfold keysL; rw [List.getElem?_map, h1]; rfl, .refl g, dKey_rep k⟩
theorem walks_vals {d : Addr} {ob : Obj} {kvs : List (Key × D)} {xs : List (Key × V)} (h : H d = some (.frz ob (.dK xs))) (r : KR R F kvs xs) : Walks R (Itd d ob xs) F H (valsL kvs) where
  go := fun i G H' _ _ z hi => ⟨z d ob _ h, by rw [← r.length]; simpa [valsL] using hi⟩
  stop := fun i G H' _ _ z hi => ⟨z d ob _ h, by rw [← r.length]; simpa [valsL] using hi⟩
  yld := fun i G H' x H2 l g _ hi y => by
    obtain ⟨rfl, k, e⟩ := y
    obtain ⟨dd, h1, h2⟩ := r.get e
    exact ⟨dd, G, by unfold valsL; rw [List.getElem?_map, h1]; rfl, .refl g, h2.mono l⟩
theorem walks_items {d : Addr} {ob : Obj} {kvs : List (Key × D)} {xs : List (Key × V)} (h : H d = some (.frz ob (.dK xs))) (r : KR R F kvs xs) : Walks R (Iti d ob xs) F H (itemsL kvs) where
  go := fun i G H' _ _ z hi => ⟨z d ob _ h, by rw [← r.length]; simpa [itemsL] using hi⟩
  stop := fun i G H' _ _ z hi => ⟨z d ob _ h, by rw [← r.length]; simpa [itemsL] using hi⟩
  yld := fun i G H' x H2 l g _ hi y => by
    obtain ⟨T, k, v, e, rfl, hT, rfl⟩ := y
    obtain ⟨dd, h1, h2⟩ := r.get e
    refine ⟨.tup [dKey k, dd], L2.upd G T (.tup [kV k, v]), by unfold itemsL; rw [List.getElem?_map, h1]; rfl, .newF g hT, .tup upd_same ?_⟩
    exact .cons (dKey_rep k) (.cons (h2.mono (l.trans (.upd (g.nn hT)))) .nil)

/-- the dict's entries, locked -/
def iDic (f : List (Key × D) → List D) (m : OM) : IM := fun env => match oFrz m env with
  | .val (.tmp (.dat (.dic kvs))) env1 => .val (f kvs) env1
  | .val _ _ => .bad
  | .exc x env1 => .exc x env1
  | .bad => .bad
theorem is_dic {t : TE} {f : List (Key × D) → List D} {Jt : Addr → Obj → List (Key × V) → It} (h2 : OS R W t (oFrz m))
    (hw : ∀ {F H : Hp} {d : Addr} {ob : Obj} {kvs : List (Key × D)} {xs : List (Key × V)}, H d = some (.frz ob (.dK xs)) → KR R F kvs xs → Walks R (Jt d ob xs) F H (f kvs)) :
    ISd R W (fun σ H Q => tFz t σ H fun x H1 => ∃ d o kvs, x = .ref d ∧ H1 d = some (.frz o (.dK kvs)) ∧ Q (Jt d o kvs) H1) (iDic f m) := by
  intro σ F H env Q er l p
  unfold iDic at p
  refine h2 σ F H env _ er l ?_
  cases e1 : oFrz m env with
  | bad => rw [e1] at p; exact p.elim
  | exc x env1 => rw [e1] at p; exact p
  | val r env1 =>
    rw [e1] at p
    intro v F1 H1 er1 rr d1 g1
    match r, rr, p with
    | .tmp (.dat (.dic kvs)), rr, p =>
      cases rr.2 with
      | dat rp =>
        cases rp with
        | @dic d _ xs h k rs =>
          have kr : KR R F1 kvs xs := ⟨k, rs⟩
          obtain ⟨o0, hf, h0⟩ : ∃ o0, F1 d = some o0 ∧ (o0 = .dK xs ∨ ∃ ob, o0 = .frz ob (.dK xs)) := h.elim (fun h => ⟨_, h, .inl rfl⟩) fun ⟨ob, h⟩ => ⟨_, h, .inr ⟨ob, rfl⟩⟩
          rcases g1.sub.dic (u := .dK xs) trivial h with hH | ⟨od, hH⟩
          · refine ⟨d, rfl, .inr ⟨_, hH, trivial, fun od => ⟨d, od, xs, rfl, upd_same, ?_⟩⟩⟩
            have gl := gr_lock (O := Own env1 σ) (od := od) (u := .dK xs) trivial hf h0 g1.sub hH
            exact p _ _ _ (er1.lock trivial hf h0 g1.sub hH) (hw upd_same (kr.mono gl.le)) ((g1.weak fun a q => .inl q).trans l gl)
          · exact ⟨d, rfl, .inl ⟨od, _, hH, d, od, xs, rfl, hH, p _ F1 H1 er1 (hw hH kr) (g1.weak fun a q => .inl q)⟩⟩
    | .var i, rr, p => exact p.elim
    | .tmp .un, rr, p => exact p.elim
    | .tmp (.ml _), rr, p => exact p.elim
    | .tmp (.md _), rr, p => exact p.elim
    | .tmp (.mt _), rr, p => exact p.elim
    | .tmp (.mi _ _), rr, p => exact p.elim
    | .tmp (.dat .non), rr, p => exact p.elim
    | .tmp (.dat (.bl _)), rr, p => exact p.elim
    | .tmp (.dat (.int _)), rr, p => exact p.elim
    | .tmp (.dat (.str _)), rr, p => exact p.elim
    | .tmp (.dat (.tup _)), rr, p => exact p.elim
    | .tmp (.dat (.lst _)), rr, p => exact p.elim
    | .tmp (.dat (.slst _)), rr, p => exact p.elim
    | .tmp (.dat (.dit _)), rr, p => exact p.elim
    | .tmp (.dat (.ins _ _)), rr, p => exact p.elim
    | .tmp (.dat (.cst _)), rr, p => exact p.elim
    | .tmp (.dat .opq), rr, p => exact p.elim
theorem pe_cons {te : TE} (h : PE X e te) : PE X e (fun σ H Q => ∃ Q', te σ H Q' ∧ ∀ x H', Q' x H' → Q x H') :=
  ⟨fun pins s σ H Q I ⟨Q', hw, i⟩ => thn (h.run pins s σ H Q' I hw) fun v s1 ⟨x, H1, I1, r, q⟩ => ⟨x, H1, I1, r, i x H1 q⟩⟩
theorem ij_keys {tg : Expr} (h : OJ X R W e m) : IJ X R W tg e (iDic keysL m) := by
  obtain ⟨t, h1, h2⟩ := oj_frz h
  refine ⟨_, pi_keys (pe_cons (pe_fz h1)), fun σ F H env Q er l p => ?_⟩
  exact ⟨_, is_dic (Jt := Itk) h2 walks_keys σ F H env Q er l p, fun x H' ⟨d, o, kvs, e, hd, q⟩ => ⟨d, o, e, .inl ⟨kvs, hd, q⟩⟩⟩
theorem ij_vals {tg : Expr} {apos cpos : Pos} (h : OJ X R W e m) (hbase : attributeBase e "values" X.env (eval e X.env) = eval e X.env := by rfl) (hline : (apos.endLine == cpos.line) = true := by rfl) :
    IJ X R W tg (.Call (.Attribute e "values" apos) [] [] cpos) (iDic valsL m) := by
  obtain ⟨t, h1, h2⟩ := oj_frz h
  exact ⟨_, pi_values (pe_fz h1) hbase hline, is_dic (Jt := Itd) h2 walks_vals⟩
theorem ij_items {elts : List Expr} {kk : Nat} {tpos : Pos} {apos cpos : Pos} (h : OJ X R W e m) (hbase : attributeBase e "items" X.env (eval e X.env) = eval e X.env := by rfl) (hline : (apos.endLine == cpos.line) = true := by rfl) :
    IJ X R W (.Tuple elts kk tpos) (.Call (.Attribute e "items" apos) [] [] cpos) (iDic itemsL m) := by
  obtain ⟨t, h1, h2⟩ := oj_frz h
  exact ⟨_, pi_items (pe_fz h1) hbase hline, is_dic (Jt := Iti) h2 walks_items⟩
end
end PL
set_option maxRecDepth 100000
set_option maxHeartbeats 4000000
/-! Pairs and triples stored at once, zip, sum, texts of numbers, .. -/
namespace PL
open PySem L2 PyProof.Rows RZ

section
variable {X : Cx} {R : RE} {W : WX} {P : List Nat} {pos : Pos} {e a b c : Expr} {es : List Expr} {m ma mb mc : OM} {ms : AM} {F H : Hp} {σ : L2.St} {env : LEnv}
/-! ### x, y = a, b -/
def sPar2 (i j : Nat) (ms : AM) : SM := fun env => match ms env with
  | .val [.tmp u, .tmp v] env1 => .nx ((env1.set i u).set j v)
  | .val _ _ => .bad
  | .exc x env1 => .exc x env1
  | .bad => .bad
def sPar3 (i j k : Nat) (ms : AM) : SM := fun env => match ms env with
  | .val [.tmp u, .tmp v, .tmp w] env1 => .nx (((env1.set i u).set j v).set k w)
  | .val _ _ => .bad
  | .exc x env1 => .exc x env1
  | .bad => .bad
theorem ss_par2 {i j : Nat} {t : TA} (hPi : i ∉ P) (hPj : j ∉ P) (h : AS R W t ms) : SSd R W P (tPar i j t) (sPar2 i j ms) := by
  intro σ F H env D er l p
  unfold sPar2 at p
  refine h σ F H env _ er l ?_
  cases e1 : ms env with
  | bad => rw [e1] at p; exact p.elim
  | exc x env1 => rw [e1] at p; exact XPost.stm p
  | val rs env1 =>
    rw [e1] at p
    intro vs F1 H1 er1 rr d1 dd1 g1
    match rs, vs, rr, p, d1, dd1, g1 with
    | [.tmp u, .tmp v], [x, y], .cons q1 (.cons q2 .nil), p, d1, dd1, g1 =>
      have o1 : ∀ z, Owns u x z → RsO [.tmp u, .tmp v] [x, y] z := fun z o => ⟨0, _, _, rfl, rfl, o⟩
      have o2 : ∀ z, Owns v y z → RsO [.tmp u, .tmp v] [x, y] z := fun z o => ⟨1, _, _, rfl, rfl, o⟩
      have er2 := er1.set (i := i) q1.1 q1.2 fun z o => d1 z (o1 z o)
      have er3 := er2.set (i := j) q2.1 q2.2 fun z o w => (own_setv w).elim (d1 z (o2 z o)) fun w => by
        have := dd1 0 1 _ _ _ _ z rfl rfl rfl rfl w o
        cases this
      refine ⟨x, y, rfl, p _ F1 H1 ⟨er3, g1.weak fun z o => ?_, (Fix.set hPi).trans (Fix.set hPj)⟩⟩
      rcases own_setv o with o | o
      · rcases own_setv o with o | o
        · exact .inl o
        · exact .inr (o1 z o)
      · exact .inr (o2 z o)
    | [.tmp u, .var _], _, _, p, _, _, _ => exact (show False from p).elim
    | [.var _, _], _, _, p, _, _, _ => exact (show False from p).elim
    | [], _, _, p, _, _, _ => exact (show False from p).elim
    | [r], _, _, p, _, _, _ => cases r <;> exact (show False from p).elim
    | r :: r' :: _ :: _, _, _, p, _, _, _ => cases r <;> cases r' <;> exact (show False from p).elim
theorem ss_par3 {i j k : Nat} {t : TA} (hPi : i ∉ P) (hPj : j ∉ P) (hPk : k ∉ P) (h : AS R W t ms) : SSd R W P (tPar3 i j k t) (sPar3 i j k ms) := by
  intro σ F H env D er l p
  unfold sPar3 at p
  refine h σ F H env _ er l ?_
  cases e1 : ms env with
  | bad => rw [e1] at p; exact p.elim
  | exc x env1 => rw [e1] at p; exact XPost.stm p
  | val rs env1 =>
    rw [e1] at p
    intro vs F1 H1 er1 rr d1 dd1 g1
    match rs, vs, rr, p, d1, dd1, g1 with
    | [.tmp u, .tmp v, .tmp w], [x, y, t], .cons q1 (.cons q2 (.cons q3 .nil)), p, d1, dd1, g1 =>
      have o1 : ∀ z, Owns u x z → RsO [.tmp u, .tmp v, .tmp w] [x, y, t] z := fun z o => ⟨0, _, _, rfl, rfl, o⟩
      have o2 : ∀ z, Owns v y z → RsO [.tmp u, .tmp v, .tmp w] [x, y, t] z := fun z o => ⟨1, _, _, rfl, rfl, o⟩
      have o3 : ∀ z, Owns w t z → RsO [.tmp u, .tmp v, .tmp w] [x, y, t] z := fun z o => ⟨2, _, _, rfl, rfl, o⟩
      have er2 := er1.set (i := i) q1.1 q1.2 fun z o => d1 z (o1 z o)
      have er3 := er2.set (i := j) q2.1 q2.2 fun z o s => (own_setv s).elim (d1 z (o2 z o)) fun s => by
        have := dd1 0 1 _ _ _ _ z rfl rfl rfl rfl s o
        cases this
      have er4 := er3.set (i := k) q3.1 q3.2 fun z o s => (own_setv s).elim (fun s => (own_setv s).elim (d1 z (o3 z o)) fun s => by
        have := dd1 0 2 _ _ _ _ z rfl rfl rfl rfl s o
        cases this) fun s => by
        have := dd1 1 2 _ _ _ _ z rfl rfl rfl rfl s o
        cases this
      refine ⟨x, y, t, rfl, p _ F1 H1 ⟨er4, g1.weak fun z o => ?_, ((Fix.set hPi).trans (Fix.set hPj)).trans (Fix.set hPk)⟩⟩
      rcases own_setv o with o | o
      · rcases own_setv o with o | o
        · rcases own_setv o with o | o
          · exact .inl o
          · exact .inr (o1 z o)
        · exact .inr (o2 z o)
      · exact .inr (o3 z o)
    | [.tmp u, .tmp v, .var _], _, _, p, _, _, _ => exact (show False from p).elim
    | [.tmp u, .var _, _], _, _, p, _, _, _ => exact (show False from p).elim
    | [.var _, _, _], _, _, p, _, _, _ => exact (show False from p).elim
    | [], _, _, p, _, _, _ => exact (show False from p).elim
    | [r], _, _, p, _, _, _ => cases r <;> exact (show False from p).elim
    | [r, r'], _, _, p, _, _, _ => cases r <;> cases r' <;> exact (show False from p).elim
    | r :: r' :: q :: _ :: _, _, _, p, _, _, _ => cases r <;> cases r' <;> cases q <;> exact (show False from p).elim
theorem sj_par2 {i j : Nat} {x y : Str} {px py pt : Pos} {kt k2 pt2} (hc : X.calm = true) (hN : X.N.Nodup) (ha : AJ X R W [a, b] ms) (hi : X.N[i]? = some x := by rfl) (hj : X.N[j]? = some y := by rfl) (hij : i ≠ j := by decide)
    (hx : X.env.scope.names.lookup x = some .local := by rfl) (hy : X.env.scope.names.lookup y = some .local := by rfl) (hPi : i ∉ P := by decide) (hPj : j ∉ P := by decide)
    (hw : swappedStores [.Tuple [.Name x px, .Name y py] kt pt] (.Tuple [a, b] k2 pt2) X.env = pure (some [x, y]) := by rfl)
    (hs : swapsWithSole [.Tuple [.Name x px, .Name y py] kt pt] (.Tuple [a, b] k2 pt2) pos.line X.env = pure false := by rfl) :
    SJ X R W P (.Assign [.Tuple [.Name x px, .Name y py] kt pt] (.Tuple [a, b] k2 pt2) pos) (sPar2 i j ms) :=
  let ⟨_, a1, a2⟩ := ha; ⟨_, ps_par hc hN hi hj hij hx hy a1 hw hs, ss_par2 hPi hPj a2⟩
theorem sj_par3 {i j k : Nat} {x y z : Str} {px py pz pt : Pos} {kt k2 pt2} (hc : X.calm = true) (hN : X.N.Nodup) (ha : AJ X R W [a, b, c] ms) (hi : X.N[i]? = some x := by rfl) (hj : X.N[j]? = some y := by rfl) (hk : X.N[k]? = some z := by rfl)
    (hij : i ≠ j := by decide) (hik : i ≠ k := by decide) (hjk : j ≠ k := by decide)
    (hx : X.env.scope.names.lookup x = some .local := by rfl) (hy : X.env.scope.names.lookup y = some .local := by rfl) (hz : X.env.scope.names.lookup z = some .local := by rfl) (hPi : i ∉ P := by decide) (hPj : j ∉ P := by decide) (hPk : k ∉ P := by decide)
    (hw : swappedStores [.Tuple [.Name x px, .Name y py, .Name z pz] kt pt] (.Tuple [a, b, c] k2 pt2) X.env = pure (some [x, y, z]) := by rfl)
    (hs : swapsWithSole [.Tuple [.Name x px, .Name y py, .Name z pz] kt pt] (.Tuple [a, b, c] k2 pt2) pos.line X.env = pure false := by rfl) :
    SJ X R W P (.Assign [.Tuple [.Name x px, .Name y py, .Name z pz] kt pt] (.Tuple [a, b, c] k2 pt2) pos) (sPar3 i j k ms) :=
  let ⟨_, a1, a2⟩ := ha; ⟨_, ps_par3 hc hN hi hj hk hij hik hjk hx hy hz a1 hw hs, ss_par3 hPi hPj hPk a2⟩

/-! ### zip of two lists or two tuples -/
def zipD : List PL.D → List PL.D → List PL.D
  | x :: xs, y :: ys => .tup [x, y] :: zipD xs ys
  | _, _ => []
theorem zipD_get : ∀ {xs ys : List PL.D} {i : Nat} {x y : PL.D}, xs[i]? = some x → ys[i]? = some y → (zipD xs ys)[i]? = some (.tup [x, y])
  | [], _, _, _, _, h, _ => by simp at h
  | _ :: _, [], _, _, _, _, h => by simp at h
  | a :: xs, b :: ys, 0, x, y, h1, h2 => by simp at h1 h2; subst h1 h2; rfl
  | a :: xs, b :: ys, i + 1, x, y, h1, h2 => by
    simp at h1 h2
    unfold zipD
    simp only [List.getElem?_cons_succ]
    exact zipD_get h1 h2
theorem zipD_length : ∀ {xs ys : List PL.D}, (zipD xs ys).length = min xs.length ys.length
  | [], _ => by simp [zipD]
  | _ :: _, [] => by simp [zipD]
  | _ :: xs, _ :: ys => by unfold zipD; simp only [List.length_cons, zipD_length]; omega
def iZipM (ms : AM) : IM := fun env => match ms env with
  | .val rs env1 => match gets rs env1 with
    | some [.dat (.lst ds), .dat (.lst es)] => .val (zipD ds es) env1
    | some [.dat (.tup ds), .dat (.tup es)] => .val (zipD ds es) env1
    | _ => .bad
  | .exc x env1 => .exc x env1
  | .bad => .bad
theorem walks_zip {F H0 : Hp} {K : PySem.W.Frag} {a b : Addr} {ds es : List PL.D} {vs us : List V} (h : F a = some (.lst vs)) (r : RepL R F ds vs) (h' : F b = some (.lst us)) (r' : RepL R F es us) : Walks R (Itz K a b) F H0 (zipD ds es) where
  go := fun i G H l g _ hi => by
    rw [zipD_length] at hi
    have h1 : i < vs.length := by rw [← r.length]; omega
    have h2 : i < us.length := by rw [← r'.length]; omega
    exact ⟨vs, us, _, _, .inl (.inl (g.lstE (l.lstE h))), .inl (.inl (g.lstE (l.lstE h'))), List.getElem?_eq_getElem h1, List.getElem?_eq_getElem h2⟩
  stop := fun i G H l g _ hi => ⟨vs, us, .inl (.inl (g.lstE (l.lstE h))), .inl (.inl (g.lstE (l.lstE h'))), by rw [zipD_length] at hi; rw [← r.length, ← r'.length]; omega⟩
  yld := fun i G H v H' l g _ hi y => by
    obtain ⟨T, x, y', rfl, hT, rfl, y1, y2⟩ := y
    obtain ⟨d, h1, h2⟩ := r.getV (y1 vs (.inl (.inl (g.lstE (l.lstE h)))))
    obtain ⟨d', h1', h2'⟩ := r'.getV (y2 us (.inl (.inl (g.lstE (l.lstE h')))))
    refine ⟨.tup [d, d'], L2.upd G T (.tup [x, y']), zipD_get h1 h1', .newF g hT, .tup upd_same ?_⟩
    exact .cons (h2.mono (l.trans (.upd (g.nn hT)))) (.cons (h2'.mono (l.trans (.upd (g.nn hT)))) .nil)
theorem walks_zipT {F H0 : Hp} {K : PySem.W.Frag} {a b : Addr} {ds es : List PL.D} {vs us : List V} (h : F a = some (.tup vs)) (r : RepL R F ds vs) (h' : F b = some (.tup us)) (r' : RepL R F es us) : Walks R (ItzT K a b) F H0 (zipD ds es) where
  go := fun i G H l g _ hi => by
    rw [zipD_length] at hi
    have h1 : i < vs.length := by rw [← r.length]; omega
    have h2 : i < us.length := by rw [← r'.length]; omega
    exact ⟨vs, us, _, _, .inl (.inl (g.tupE (l.tupE h))), .inl (.inl (g.tupE (l.tupE h'))), List.getElem?_eq_getElem h1, List.getElem?_eq_getElem h2⟩
  stop := fun i G H l g _ hi => ⟨vs, us, .inl (.inl (g.tupE (l.tupE h))), .inl (.inl (g.tupE (l.tupE h'))), by rw [zipD_length] at hi; rw [← r.length, ← r'.length]; omega⟩
  yld := fun i G H v H' l g _ hi y => by
    obtain ⟨T, x, y', rfl, hT, rfl, y1, y2⟩ := y
    obtain ⟨d, h1, h2⟩ := r.getV (y1 vs (.inl (.inl (g.tupE (l.tupE h)))))
    obtain ⟨d', h1', h2'⟩ := r'.getV (y2 us (.inl (.inl (g.tupE (l.tupE h')))))
    refine ⟨.tup [d, d'], L2.upd G T (.tup [x, y']), zipD_get h1 h1', .newF g hT, .tup upd_same ?_⟩
    exact .cons (h2.mono (l.trans (.upd (g.nn hT)))) (.cons (h2'.mono (l.trans (.upd (g.nn hT)))) .nil)
theorem ij_zip {elts : List Expr} {kk : Nat} {tpos p' : Pos} (hg : Gl X "zip") (hm : X.mg "zip" = none) (ha : AJ X R W [a, b] ms) (hs : starEach [a, b] X.env = (false, eval a X.env) :: starEach [b] X.env := by rfl) (hpl : (backTo pos (starEach [b] X.env)).any (·.1) = false := by rfl) :
    IJ X R W (.Tuple elts kk tpos) (.Call (.Name "zip" p') [a, b] [] pos) (iZipM ms) := by
  obtain ⟨t, h1, h2⟩ := ha
  refine ⟨_, pi_zipA hg hm h1 hs hpl, fun σ F H env Q er l p => ?_⟩
  unfold iZipM at p
  refine h2 σ F H env _ er l ?_
  cases e1 : ms env with
  | bad => rw [e1] at p; exact p.elim
  | exc x env1 => rw [e1] at p; exact p
  | val rs env1 =>
    rw [e1] at p
    intro vs F1 H1 er1 rr d1 dd1 g1
    simp only at p
    split at p
    · rename_i ds es hj
      have q := rr.gets er1 hj
      cases q with
      | cons q1 q =>
        cases q with
        | cons q2 q =>
          cases q
          cases q1 with
          | dat q1 =>
            cases q2 with
            | dat q2 =>
              cases q1 with
              | lst h r =>
                cases q2 with
                | lst h' r' => exact ⟨_, _, _, _, rfl, .inl ⟨.inl (.inl (g1.sub.lstE h)), .inl (.inl (g1.sub.lstE h')), p _ F1 H1 er1 (walks_zip h r h' r') (g1.weak fun a q => .inl q)⟩⟩
    · rename_i ds es hj
      have q := rr.gets er1 hj
      cases q with
      | cons q1 q =>
        cases q with
        | cons q2 q =>
          cases q
          cases q1 with
          | dat q1 =>
            cases q2 with
            | dat q2 =>
              cases q1 with
              | tup h r =>
                cases q2 with
                | tup h' r' => exact ⟨_, _, _, _, rfl, .inr ⟨.inl (.inl (g1.sub.tupE h)), .inl (.inl (g1.sub.tupE h')), p _ F1 H1 er1 (walks_zipT h r h' r') (g1.weak fun a q => .inl q)⟩⟩
    · exact p.elim
/-! ### sum of a list of ints, a tuple repeated, texts of ints -/
def intsD : List PL.D → Option (List Int)
  | [] => some []
  | .int i :: r => match intsD r with
    | some l => some (i :: l)
    | none => none
  | _ => none
theorem intsD_rep : ∀ {ds : List PL.D} {vs : List V} {ns : List Int}, RepL R F ds vs → intsD ds = some ns → vs = ns.map V.int
  | [], _, ns, .nil, e => by cases e; rfl
  | d :: ds, _, ns, .cons h r, e => by
    cases h with
    | int i =>
      unfold intsD at e
      cases e1 : intsD ds with
      | none => simp [e1] at e
      | some l =>
        simp only [e1, Option.some.injEq] at e
        subst e
        rw [intsD_rep r e1]
        rfl
    | _ => cases e
def gSum : LV → Option LV := fun x => match x with
  | .dat (.lst ds) => match intsD ds with
    | some l => some (.dat (.int l.sum))
    | none => none
  | .ml ds => match intsD ds with
    | some l => some (.dat (.int l.sum))
    | none => none
  | _ => none
theorem jSum (hc : X.calm = true) : CallJ X R (.builtin "sum") (f1 gSum) := .mk (cr_sum hc) (rsc1 fun F H x lx z Q l r1 e k => by
  cases r1 with
  | dat r =>
    cases r with
    | @lst a ds vs h rs =>
      unfold gSum at e
      simp only at e
      cases e1 : intsD ds with
      | none => simp [e1] at e
      | some ns =>
        simp only [e1, Option.some.injEq] at e
        subst e
        have ev := intsD_rep rs e1
        subst ev
        exact ⟨_, ns, rfl, .inl (.inl (l.lstE h)), kdat l k rfl (.int _)⟩
    | _ => cases e
  | @ml a ds vs f h rs =>
    unfold gSum at e
    simp only at e
    cases e1 : intsD ds with
    | none => simp [e1] at e
    | some ns =>
      simp only [e1, Option.some.injEq] at e
      subst e
      have ev := intsD_rep rs e1
      subst ev
      exact ⟨_, ns, rfl, .inl (.inl h), kdat l k rfl (.int _)⟩
  | _ => cases e)
theorem RepL.repN {ds : List PL.D} {vs : List V} (r : RepL R F ds vs) : ∀ n, RepL R F (List.replicate n ds).flatten (List.replicate n vs).flatten
  | 0 => .nil
  | n + 1 => by rw [List.replicate_succ, List.replicate_succ, List.flatten_cons, List.flatten_cons]; exact r.append (RepL.repN r n)
def gRepT : LV → LV → Option LV := fun x y => match x, y with
  | .dat (.tup ds), .dat (.int k) => if ds ≠ [] ∧ 2 ≤ k ∧ k ≤ 1000 ∧ ds.length ≤ 1000 then some (.dat (.tup (List.replicate k.toNat ds).flatten)) else none
  | _, _ => none
theorem jRepT : OpJ X R (binaryOp .Mult) (f2 gRepT) := .mk op_repT (rs2 fun F H x y lx ly z Q l r1 r2 e k => by
  unfold gRepT at e
  split at e
  · split at e
    · rename_i ds n hz
      cases e
      cases r1 with
      | dat r1 =>
        cases r1 with
        | tup h rs =>
          cases r2 with
          | dat r2 =>
            cases r2
            refine ⟨_, _, _, rfl, rfl, .inl (.inl (l.tupE h)), ?_, hz.2.1, hz.2.2.1, by rw [← rs.length]; exact hz.2.2.2, fun p hp => ?_⟩
            · rintro rfl
              have := rs.length
              exact hz.1 (List.length_eq_zero_iff.mp (by simpa using this))
            · exact k (.ref p) (L2.upd F p _) _ (.newF l hp) (.dat (.tup upd_same ((rs.mono (.upd (l.nn hp))).repN _))) fun _ o => by cases o.1
    · cases e
  · cases e)
def gStrN : LV → Option LV := fun x => match x with
  | .dat (.int i) => if i.natAbs.log2 < 1920 then some (.dat (.str (toString i))) else none
  | _ => none
theorem jStrN : CallJ X R (.type "str") (f1 gStrN) := .mk call_str_int (rsc1 fun F H x lx z Q l r1 e k => by
  unfold gStrN at e
  split at e
  · split at e
    · cases e
      cases r1 with
      | dat r1 => cases r1; exact ⟨_, rfl, by assumption, kdat l k rfl (.str _)⟩
    · cases e
  · cases e)
def strsD : List PL.D → Option (List Str)
  | [] => some []
  | .str i :: r => match strsD r with
    | some l => some (i :: l)
    | none => none
  | _ => none
theorem strs_rep : ∀ {ds : List PL.D} {vs : List V} {ns : List Str}, RepL R F ds vs → strsD ds = some ns → vs = ns.map V.str
  | [], _, ns, .nil, e => by cases e; rfl
  | d :: ds, _, ns, .cons h r, e => by
    cases h with
    | str i =>
      unfold strsD at e
      cases e1 : strsD ds with
      | none => simp [e1] at e
      | some l =>
        simp only [e1, Option.some.injEq] at e
        subst e
        rw [strs_rep r e1]
        rfl
    | _ => cases e
end
end PL
set_option maxRecDepth 100000
set_option maxHeartbeats 4000000
/-! enumerate of a tuple. -/
namespace PL
open PySem L2 PyProof.Rows

/-- enumerate(v), no start told -/
theorem enum_new1 {v : Value} {o : Obj} {T : Heap → Prop} (B : Begins v o T) :
    Meets (Builtin.«enumerate.__new__» ⟨[.type "enumerate", v], []⟩) (fun _ R s => T s.heap ∧
      R (.ok (.ret (.ref (s.heap.push o).objs.size))) { s with heap := (s.heap.push o).push { cls := .type "enumerate", data := .fields #[.none, .bool false, .ref s.heap.objs.size, rawInt 0, .none, .none] } }) :=
  .of_wp fun prog w A R s hh => by
    obtain ⟨hp, g, d, tk, os⟩ := s
    obtain ⟨t1, hh⟩ := hh
    have hsub := sub_enumerate
    have start : ∀ {A' : Around} {E Q : Value → Shared → Prop}, Q (.ref hp.objs.size) ⟨hp.push o, g, d, tk, os⟩ → wpAny (model prog w) A' (pyIter v) Q E ⟨hp, g, d, tk, os⟩ :=
      fun q => B.iter prog w _ _ ⟨hp, g, d, tk, os⟩ _ t1 q
    wp_walk using start
    refine wpAny_stack_any fun st => wpAny_pure ?_
    split
    · rename_i c _ _ _ _ _
      cases (c == Value.type "enumerate")
      · wp_walk using start
        exact ⟨_, rfl, hh⟩
      · wp_walk using start
        exact ⟨_, rfl, hh⟩
    · wp_walk using start
      exact ⟨_, rfl, hh⟩
section
variable {prog : Program} {w : World} {A : Around} {E : Value → Shared → Prop} {s : Shared}
theorem enum_call1 {v : Value} {o : Obj} {T : Heap → Prop} {Q : Value → Shared → Prop} (B : Begins v o T) (t1 : T s.heap)
    (hq : ∀ h', IsEnum h' (s.heap.objs.size + 1) s.heap.objs.size 0 .none → h'.get? s.heap.objs.size = some o → h'.objs.size = s.heap.objs.size + 2 →
      (∀ b u, s.heap.get? b = some u → h'.get? b = some u) → Q (.ref (s.heap.objs.size + 1)) { s with heap := h' }) :
    wpAny (model prog w) A (call (.type "enumerate") [v]) Q E s := by
  refine callType_new F.called_enumerate (by decide) (F.typeCall_enumerate_1 _) (F.newCall_enumerate_1 _) (fun obj => F.args_object_init_2 obj _) F.entry_enumerate_new (enum_new1 B) ⟨t1, ?_⟩
  have sz : (s.heap.push o).objs.size = s.heap.objs.size + 1 := Heap.size_push ..
  show _ ∧ _
  rw [sz]
  have en := Heap.get?_push_size (s.heap.push o) (o := { cls := .type "enumerate", data := .fields #[.none, .bool false, .ref s.heap.objs.size, rawInt 0, .none, .none] }) rfl
  rw [sz] at en
  exact ⟨⟨_, en, rfl⟩, hq _ en (Heap.get?_push_of_some _ (Heap.get?_push_size _ B.free)) (by rw [Heap.size_push, sz]) fun b u x => Heap.get?_push_of_some _ (Heap.get?_push_of_some _ x)⟩
/-- a tuple's iterator behind its end -/
theorem draws_end {it t : Addr} {i : Nat} {items : Array Value} (hh : A.handled = none) (hx : items[i]? = none) :
    Draws prog w A it [it, t] i (fun _ _ => False) (fun j h => j = i ∧ h.IsTupleIter it t i ∧ h.IsTuple t items) where
  live := fun _ _ st => let ⟨o, ho, _⟩ := st.2.1; ⟨o, ho⟩
  frame := fun _ _ _ st hk => ⟨st.1, st.2.1.at fun o e => hk it (by simp) o e, st.2.2.at fun o e => hk t (by simp) o e⟩
  item := fun j s Q E hj st hQ => by
    obtain ⟨q, _⟩ := st
    omega
  done := fun s Q E st hE => wpAny_nextOf_tuple_end hh st.2.1 st.2.2 hx hE
end
/-- the tuple at a, each item in a new pair -/
def IteT (K : PySem.W.Frag) (a : Addr) : It :=
  ⟨fun i H => ∃ (xs : List V) (x : V), SqT K H a xs ∧ xs[i]? = some x, fun i H v H' => ∃ T x, v = .ref T ∧ H T = none ∧ H' = upd H T (.tup [.int (i : Nat), x]) ∧ ∀ xs, SqT K H a xs → xs[i]? = some x, fun i H => ∃ xs : List V, SqT K H a xs ∧ xs.length ≤ i⟩
theorem turn_enumT {P : Program} {w : World} {K : PySem.W.Frag} {elts : List Expr} {kk : Nat} {tpos : Pos} (a e it : Addr) :
    Turn P w K (.Tuple elts kk tpos) (IteT K a) [e, it] e (fun i h => (∃ old, IsEnum h e it ((i : Nat) : Int) old) ∧ h.IsTupleIter it a i ∧ e ≠ it) where
  mem := by simp
  obj := fun i h st b hb => by
    obtain ⟨⟨old, he⟩, ⟨o, ho, hc, hd⟩, _⟩ := st
    have e' : b = e ∨ b = it := by simpa using hb
    rcases e' with z | z
    · rw [z]; exact ⟨_, he, fun v q => nomatch q⟩
    · rw [z]; exact ⟨o, ho, fun v q => by rw [hd] at q; cases q⟩
  keep := fun i h h' st k => let ⟨⟨old, he⟩, hi, hne⟩ := st; ⟨⟨old, k e (by simp) _ he⟩, hi.at fun o q => k it (by simp) o q, hne⟩
  item := by
    intro X hP hw hK hc i pins s σ H E I hf st hg
    subst hP hw hK
    obtain ⟨⟨old, he⟩, hit, hne⟩ := st
    obtain ⟨xs, x, hq, hx⟩ := hg
    obtain ⟨its, rv, p, hz⟩ := I.tuple hq
    obtain ⟨u, hu, ru⟩ := rv.get hx
    have hel : e < s.heap.objs.size := Heap.lt_size he
    have hil : it < s.heap.objs.size := by obtain ⟨_, q, _⟩ := hit; exact Heap.lt_size q
    have nae : e ≠ a := by
      rintro rfl
      obtain ⟨o, ho, hc', _⟩ := p
      rw [he] at ho
      cases ho
      injection hc' with z
      exact absurd z (by decide)
    have nai : a ≠ it := by
      rintro rfl
      obtain ⟨o, ho, hc', _⟩ := p
      obtain ⟨o', ho', hc'', _⟩ := hit
      rw [ho] at ho'
      cases ho'
      rw [hc'] at hc''
      injection hc'' with z
      exact absurd z (by decide)
    have hlt : i < its.toArray.size := by
      have := (List.getElem?_eq_some_iff.mp hu).1
      simpa using this
    refine wpAny_pyNext_enum_itemD (Draws.tuple (by exact I.ok.hd hc) it a nai its.toArray) he ⟨hit, p⟩ hlt hne (by simp [hne, nae]) fun x' h' tk px ho st' hT hsz hk => ?_
    obtain rfl : u = x' := by
      have q : its.toArray[i]? = some x' := px
      rw [List.getElem?_toArray, hu] at q
      exact Option.some.inj q
    obtain ⟨hit', _⟩ := st'
    refine ⟨_, rfl, wpAny_letOwnedTupleGo_enum (s := { s with heap := h', toks := tk + 1 }) ho fun h'' he' sb => ?_⟩
    have hT2 : h''.get? s.heap.objs.size = some { cls := .type "tuple", data := .seq #[.int i tk, u] } := (sb.2 _ (Nat.ne_of_gt hel)).trans hT
    have new : ObjOk X.prog X.w (upd H s.heap.objs.size (.tup [.int (i : Nat), x])) h'' s.heap.objs.size (.tup [.int (i : Nat), x]) :=
      ⟨by show 2 ≤ sizeLine; decide, [.int i tk, u], .cons ⟨_, rfl⟩ (.cons ru .nil), ⟨_, hT2, rfl, _, rfl⟩⟩
    have I1 : Inv X pins σ (upd H s.heap.objs.size (.tup [.int (i : Nat), x])) { s with heap := h'', toks := tk + 1 } :=
      I.turnedNew (ch := [e, it]) (fun b ob hb q => (sb.2 b (fun z => hb (by simp [z]))).trans (hk b ob (fun z => hb (by simp [z])) (fun z => hb (by simp [z])) q)) hf (Nat.le_refl _) new
    refine ⟨.ref s.heap.objs.size, _, I1, rfl, ⟨_, x, rfl, I.hok.fresh (Nat.le_refl _), rfl, fun ys hy => ?_⟩, ⟨⟨u, ?_⟩, hit'.at fun o q => (sb.2 it (Ne.symm hne)).trans q, hne⟩, fun b hb => ?_⟩
    · rw [I.tuple_inj hy hq]; exact hx
    · have e1 : ((i + 1 : Nat) : Int) = (i : Int) + 1 := by omega
      rw [e1]; exact he'
    · have hb' : b < s.heap.objs.size := by
        have e' : b = e ∨ b = it := by simpa using hb
        rcases e' with z | z
        · rw [z]; exact hel
        · rw [z]; exact hil
      rw [upd_ne (Nat.ne_of_lt hb')]
      exact (hf b hb).1
  done := by
    intro X hP hw hK hc i pins s σ H E I hf st hg
    subst hP hw hK
    obtain ⟨⟨old, he⟩, hit, hne⟩ := st
    obtain ⟨xs, hq, hx⟩ := hg
    obtain ⟨its, rv, p, hz⟩ := I.tuple hq
    obtain ⟨f0, f1, f2, f3, f4, f5⟩ := hf it (by simp)
    have hl := rv.length
    exact wpAny_pyNext_enum_endD (draws_end (items := its.toArray) (t := a) (by exact I.ok.hd hc) (by simp; omega)) he ⟨rfl, hit, p⟩ fun h' eb => ⟨rfl, I.turned (t' := s.toks) (fun b o hb q => eb b o hb q) f0 f1 f3 f4 f5⟩
  self := fun A i s Q E st h => let ⟨⟨_, he⟩, _⟩ := st; wpAny_pyIter_enum he h
def iEnumT (K : PySem.W.Frag) (ta : TA) : TI := fun σ H R => ta σ H fun vs H1 => ∃ a xs, vs = [.ref a] ∧ SqT K H1 a xs ∧ R (IteT K a) H1
theorem pi_enumT {X : Cx} {e : Expr} {ta : TA} {p pos tpos : Pos} {elts : List Expr} {kk : Nat} (hg : Gl X "enumerate") (hm : X.mg "enumerate" = none) (ha : PA X [e] ta) (hs : starEach [e] X.env = [(false, eval e X.env)] := by rfl) :
    PI X (.Tuple elts kk tpos) (.Call (.Name "enumerate" p) [e] [] pos) (iEnumT X.K ta) := by
  refine ⟨fun pins s σ H R I h => ?_⟩
  refine Call_ (ld_blt I hg hm boot_enumerate (PyProof.Rows.callWith_type1 (thn (ha.run pos pins s σ H _ I h) fun us s1 ⟨vs, H1, I1, r1, q1⟩ => ?_) hs rfl))
  obtain ⟨a, xs, ex, hq, q⟩ := q1
  subst ex
  cases r1 with
  | cons r rr =>
    cases rr
    cases r
    obtain ⟨its, rv, p', hz⟩ := I1.tuple hq
    refine enum_call1 (begins_tuple a its.toArray) p' fun h' he hit hsz hk => wpAny_pyIter_enum he ?_
    have I2 : Inv X pins σ H1 { s1 with heap := h' } := I1.kept (t' := s1.toks) hk
    refine ⟨s1.heap.objs.size + 1, [s1.heap.objs.size + 1, s1.heap.objs.size], _, _, H1, rfl, I2, turn_enumT a (s1.heap.objs.size + 1) s1.heap.objs.size, ⟨⟨.none, he⟩, ⟨_, hit, rfl, rfl⟩, Nat.succ_ne_self _⟩, fun b hb => ?_, q⟩
    have e' : b = s1.heap.objs.size + 1 ∨ b = s1.heap.objs.size := by simpa using hb
    have hle : s1.heap.objs.size ≤ b := by
      rcases e' with z | z
      · rw [z]; exact Nat.le_add_right _ _
      · rw [z]; exact Nat.le_refl _
    exact I1.fpOk hle (I1.hok.fresh hle)
section
variable {X : Cx} {R : RE} {W : WX} {P : List Nat} {pos : Pos} {e : Expr} {m : OM}
def iEnumTM (m : OM) : IM := fun env => match oFrz m env with
  | .val (.tmp (.dat (.tup ds))) env1 => .val (enumD 0 ds) env1
  | .val _ _ => .bad
  | .exc x env1 => .exc x env1
  | .bad => .bad
theorem walks_enumT {F H0 : Hp} {K : PySem.W.Frag} {a : Addr} {ds : List PL.D} {vs : List V} (h : F a = some (.tup vs)) (r : RepL R F ds vs) : Walks R (IteT K a) F H0 (enumD 0 ds) where
  go := fun i G H l g _ hi => by
    rw [enumD_length] at hi
    obtain ⟨x, hx⟩ : ∃ x, vs[i]? = some x := ⟨_, List.getElem?_eq_getElem (by rw [← r.length]; exact hi)⟩
    exact ⟨vs, x, .inl (.inl (g.tupE (l.tupE h))), hx⟩
  stop := fun i G H l g _ hi => ⟨vs, .inl (.inl (g.tupE (l.tupE h))), by rw [← r.length]; rw [enumD_length] at hi; exact hi⟩
  yld := fun i G H v H' l g _ hi y => by
    obtain ⟨T, x, rfl, hT, rfl, y⟩ := y
    have hx := y vs (.inl (.inl (g.tupE (l.tupE h))))
    obtain ⟨d, h1, h2⟩ := r.getV hx
    refine ⟨.tup [.int (i : Nat), d], L2.upd G T (.tup [.int (i : Nat), x]), by rw [enumD_get, h1]; simp, .newF g hT, .tup upd_same ?_⟩
    exact .cons (.int _) (.cons (h2.mono (l.trans (.upd (g.nn hT)))) .nil)
theorem ij_enumT {elts : List Expr} {kk : Nat} {tpos p' : Pos} (hg : Gl X "enumerate") (hm : X.mg "enumerate" = none) (ha : OJ X R W e m) (hs : starEach [e] X.env = [(false, eval e X.env)] := by rfl) :
    IJ X R W (.Tuple elts kk tpos) (.Call (.Name "enumerate" p') [e] [] pos) (iEnumTM m) := by
  obtain ⟨t, h1, h2⟩ := oj_frz ha
  refine ⟨_, pi_enumT hg hm (pa_cons h1 pa_nil (by rw [hs]; rfl)) hs, fun σ F H env Q er l p => ?_⟩
  unfold iEnumTM at p
  refine h2 σ F H env _ er l ?_
  cases e1 : oFrz m env with
  | bad => rw [e1] at p; exact p.elim
  | exc x env1 => rw [e1] at p; exact p
  | val r env1 =>
    rw [e1] at p
    intro v F1 H1 er1 rr d1 g1
    cases r with
    | var i => exact p.elim
    | tmp lv =>
      cases lv with
      | dat d =>
        cases d with
        | tup ds =>
          cases rr.2 with
          | dat rp =>
            cases rp with
            | tup h rs => exact ⟨_, _, rfl, .inl (.inl (g1.sub.tupE h)), p _ F1 H1 er1 (walks_enumT h rs) (g1.weak fun a q => .inl q)⟩
        | _ => exact p.elim
      | _ => exact p.elim
def iEnumA (m : OM) : IM := iOr (iEnumM m) (iEnumTM m)
theorem ij_enumA {elts : List Expr} {kk : Nat} {tpos p' : Pos} (hm : X.mg "enumerate" = none) (ha : OJ X R W e m) (hg : Gl X "enumerate" := by rfl) (hs : starEach [e] X.env = [(false, eval e X.env)] := by rfl) :
    IJ X R W (.Tuple elts kk tpos) (.Call (.Name "enumerate" p') [e] [] pos) (iEnumA m) := ij_or (ij_enum hg hm ha hs) (ij_enumT hg hm ha hs)
end
end PL
set_option maxRecDepth 100000
set_option maxHeartbeats 4000000
/-! A starred target, own errors raised and caught, dict.pop, join. -/
namespace PL
open PySem L2 PyProof.Rows PySem.W

/-! ### first, *rest = a tuple -/
section
variable {prog : Program} {w : World} {A : Around} {E : Value → Shared → Prop} {s : Shared}
theorem star_items {l : Addr} {u : Value} {its : List Value} {Q : List Value → Shared → Prop} (ht : IsTup s.heap l (u :: its).toArray) (hh : A.handled = none) (hz : its.length + 1 ≤ sizeLine)
    (hq : ∀ (h' : Heap) (tk : Nat), (∀ b o, s.heap.get? b = some o → h'.get? b = some o) → Q [u, .ref h'.objs.size] { s with heap := h'.push { cls := .type "list", data := .seq its.toArray }, toks := tk }) :
    wpAny (model prog w) A (unpackItems (.ref l) 2 (some 1)) Q E s := by
  have hlt : l ≠ s.heap.objs.size := by obtain ⟨o, ho, _⟩ := ht; exact Nat.ne_of_lt (Heap.lt_size ho)
  unfold unpackItems notIterableAtAll
  refine wpAny_bind (wpAny_bind (wpAny_specialOf ht.typeIs PyProof.Rows.slot_tuple_iter.lookup (wpAny_pure ?_)))
  simp only [Bool.false_eq_true, if_false]
  refine wpAny_bind (wpAny_holding (iter_tuple ht ?_))
  refine wpAny_bind (wpAny_holding (draw_tuple hlt 1 0 _ _ ⟨_, Heap.get?_push_size _ rfl, rfl, rfl⟩ (ht.push _) (by simp) fun h1 hit1 hs1 => ?_))
  have ht1 : IsTup h1 l (u :: its).toArray := (ht.push _).extBut hs1.extBut hlt
  have e1 : ((u :: its).toArray.toList.drop 0).take 1 = [u] := by simp
  rw [e1]
  show wpAny _ _ (if [u].length < 1 then _ else _) _ _ _
  rw [if_neg (by simp)]
  obtain ⟨oi, hoi, _⟩ := id hit1
  obtain ⟨ol, hol, _⟩ := id ht1
  refine wpAny_bind (wpAny_holding (kun_collect (s := { s with heap := h1 }) (T := "tuple_iterator") (.inr (.inr (.inr rfl))) (PySem.Walks.tuple (A := A.in1) hh s.heap.objs.size l hlt (u :: its).toArray) (fun j u st => st.1.typeIs) (k := 1) (by simp) ⟨hit1, ht1⟩ (Heap.lt_size hoi) (Heap.lt_size hol) (fun h2 tk hk => ?_) (by simpa using hz)))
  have e2 : (u :: its).toArray.toList.drop 1 = its := by simp
  rw [e2]
  show wpAny _ _ (if its.length < 2 - 1 - 1 then _ else _) _ _ _
  rw [if_neg (by omega)]
  show wpAny _ _ (newList (its.take (its.length - (2 - 1 - 1))) >>= fun d => pure ([u] ++ [d] ++ its.drop (its.length - (2 - 1 - 1)))) _ _ _
  have e3 : its.length - (2 - 1 - 1) = its.length := by omega
  rw [e3, List.take_length, List.drop_length]
  have he : ∀ b o, s.heap.get? b = some o → h2.get? b = some o := fun b o e => by
    have nb : b ≠ s.heap.objs.size := Nat.ne_of_lt (Heap.lt_size e)
    exact hk b o nb (hs1.extBut b o nb (Heap.get?_push_of_some _ e))
  refine wpAny_bind (wpAny_newList (wpAny_pure ?_) (by omega))
  exact hq _ _ he
end

def gStar (K : PySem.W.Frag) (i j : Nat) : TG := fun v σ H Q => ∃ (a : Addr) (x : V) (xs : List V), v = .ref a ∧ SqT K H a (x :: xs) ∧ ∀ p, H p = none → Q ((σ.set i (some x)).set j (some (.ref p))) (L2.upd H p (.lst xs))
section
variable {X : Cx} {R : RE} {W : WX} {P : List Nat} {pos : Pos} {e a b c : Expr} {es : List Expr} {m ma mb mc : OM} {ms : AM} {F H F' H' : Hp} {σ σ' : L2.St} {env env' : LEnv}
theorem pg_star {i j : Nat} {x y : Str} {kt : Nat} {px py ps pt : Pos} (hc : X.calm = true) (hN : X.N.Nodup) (hi : X.N[i]? = some x) (hj : X.N[j]? = some y) (hx : X.env.scope.names.lookup x = some .local) (hy : X.env.scope.names.lookup y = some .local) :
    PG X (.Tuple [.Name x px, .Starred (.Name y py) ps] kt pt) (gStar X.K i j) := by
  refine ⟨fun pins s σ H v u Q I r hw => ?_⟩
  obtain ⟨a, d, xs, rfl, hq, hw⟩ := hw
  cases r
  obtain ⟨its, rv, ht, hz⟩ := I.tuple hq
  cases rv with
  | @cons _ u1 _ us r1 rr =>
    rw [assign_Tuple]
    refine wpAny_bind (wpAny_standAt ?_)
    show wpAny _ _ (holding [Value.ref a] (unpackItems (.ref a) 2 (some 1)) >>= fun its => assignInOrder [assign (.Name x px) X.env, assign (.Name y py) X.env] its) _ _ _
    have hl : us.length + 1 ≤ sizeLine := by rw [← rr.length]; simpa using hz
    refine wpAny_bind (wpAny_holding (star_items ht (I.ok.hd hc) hl fun h2 tk k => ?_))
    have I2 : L2.Inv X pins σ H { s with heap := h2, toks := tk } := I.kept k
    have hn : H h2.objs.size = none := I2.hok.fresh (Nat.le_refl _)
    have I3 : L2.Inv X pins σ (L2.upd H h2.objs.size (.lst xs)) { s with heap := h2.push { cls := .type "list", data := .seq us.toArray }, toks := tk } :=
      I2.laid (t' := tk) (fun b o e => Heap.get?_push_of_some _ e) (Nat.le_refl _) ⟨by rw [rr.length]; omega, us, 0, rr, Heap.get?_push_size _ rfl⟩
    refine assignInOrder_cons (wpAny_assign_Name (store_ok I3 hN hi (.inl hx) r1 (fun s3 I4 => ?_) (.inr hx)))
    refine assignInOrder_cons (wpAny_assign_Name (store_ok I4 hN hj (.inl hy) (v := .ref h2.objs.size) rfl (fun s4 I5 => ?_) (.inr hy)))
    exact assignInOrder_nil ⟨_, _, I5, hw _ hn⟩
/-- first, *rest = e -/
def sStar (i j : Nat) (m : OM) : SM := fun env => match oFrz m env with
  | .val (.tmp (.dat (.tup (d :: ds)))) env1 => .nx ((env1.set i (.dat d)).set j (.ml ds))
  | .val _ _ => .bad
  | .exc x env1 => .exc x env1
  | .bad => .bad
theorem sj_star {i j : Nat} {x y : Str} {kt : Nat} {px py ps pt : Pos} (hc : X.calm = true) (hN : X.N.Nodup) (he : OJ X R W e m) (hi : X.N[i]? = some x := by rfl) (hj : X.N[j]? = some y := by rfl) (hx : X.env.scope.names.lookup x = some .local := by rfl) (hy : X.env.scope.names.lookup y = some .local := by rfl)
    (hPi : i ∉ P := by decide) (hPj : j ∉ P := by decide)
    (hs : swapsWithSole [.Tuple [.Name x px, .Starred (.Name y py) ps] kt pt] e pos.line X.env = pure false := by rfl) (hw : swappedStores [.Tuple [.Name x px, .Starred (.Name y py) ps] kt pt] e X.env = pure none := by rfl) :
    SJ X R W P (.Assign [.Tuple [.Name x px, .Starred (.Name y py) ps] kt pt] e pos) (sStar i j m) := by
  obtain ⟨t, h1, h2⟩ := oj_frz he
  refine ⟨_, ps_asg h1 (pg_star hc hN hi hj hx hy) hs hw, fun σ F H env D er l p => ?_⟩
  unfold sStar at p
  refine h2 σ F H env _ er l ?_
  cases e1 : oFrz m env with
  | bad => rw [e1] at p; exact p.elim
  | exc x env1 => rw [e1] at p; exact XPost.stm p
  | val r env1 =>
    rw [e1] at p
    intro v F1 H1 er1 rr d1 g1
    cases r with
    | var i => exact p.elim
    | tmp lv =>
      cases lv with
      | dat d =>
        cases d with
        | tup ds =>
          cases ds with
          | nil => exact p.elim
          | cons d ds =>
            cases rr.2 with
            | dat rp =>
              cases rp with
              | @tup a0 _ _ h rs =>
                cases rs with
                | @cons _ u0 _ us q1 q2 =>
                  refine ⟨_, _, _, rfl, .inl (.inl (g1.sub.tupE h)), fun p' hp => ?_⟩
                  have nw : Nw F1 H1 F1 (L2.upd H1 p' (.lst us)) := .new g1.sub hp
                  have er2 := (er1.nw nw).set (i := i) (lv := .dat d) (by simp) (.dat q1) fun _ o => by cases o.1
                  have er3 := er2.set (i := j) (lv := .ml ds) (v := .ref p') (by simp) (.ml (g1.sub.nn hp) upd_same q2) fun z o w => by
                    obtain ⟨_, q⟩ := o
                    cases q
                    exact (er1.tracked (own_setd w)).2 hp
                  have g2 : Gr (fun a => Own env1 σ a ∨ RfO (.tmp (.dat (.tup (d :: ds)))) (V.ref a0) a) F1 H1 (Own ((env1.set i (.dat d)).set j (.ml ds)) ((σ.set i (some u0)).set j (some (.ref p')))) F1 (L2.upd H1 p' (.lst us)) := nw.gr fun z o => by
                    rcases own_setv o with o | o
                    · exact .inl (.inl (own_setd o))
                    · obtain ⟨_, q⟩ := o
                      cases q
                      exact .inr hp
                  exact p _ F1 _ ⟨er3, g1.trans l g2, (Fix.set hPi).trans (Fix.set hPj)⟩
        | _ => exact p.elim
      | _ => exact p.elim

/-! ### own errors -/
/-- what the class x must say -/
structure ExcAt (B : Base) (x : Str) : Prop where
  q : PySem.W.excIn B.R.K (B.R.ct x) [.type "ValueError", .type "Exception", .type "BaseException", .type "object"] "ValueError.__new__" = true
  g : B.mg x = some (.ref (B.R.ct x))
  k : PySem.W.keepIn B.R.K (.ref (B.R.ct x)) = true
  s : PySem.W.subIn B.R.K (.ref (B.R.ct x)) (.type "BaseException") = some true
  t : PySem.W.typeIn B.R.K (.ref (B.R.ct x)) = some (.type "type")
def sRaise (x : Str) : SM := fun env => .exc ⟨x, []⟩ env
theorem sj_raise {B : Base} {x w : Str} {j : Nat} {p1 p2 p3 : Pos} (h : ExcAt B x) (tk : Takes X W) (hc : X.calm = true) (e3 : X.K = B.R.K := by rfl) (e4 : X.mg = B.mg := by rfl) (hg : Gl X x := by rfl) (hd : (x == ("__debug__" : Str)) = false := by decide) :
    SJ X B.R W P (.Raise (some (.Call (.Name x p1) [.Constant (.str w) j p2] [] p3)) none pos) (sRaise x) := by
  obtain ⟨q, g, k, s, t⟩ := h
  rw [← e3] at q k s t
  rw [← e4] at g
  refine ⟨_, ps_raise hc tk (pmk_own PySem.F.excBase_ValueError q g k (raises_own s t) hg hd), fun σ F H env D er l p => ?_⟩
  exact p _ none σ F H er ⟨rfl, .inl ⟨rfl, rfl⟩⟩ (.refl l) .refl

def tS (R : RE) (W : WX) (P : List Nat) (m : SM) : TS := fun D σ H => ∃ F env, ER R F H σ env ∧ Le F H ∧ SPost R W P (Own env σ) σ F H (m env) D
theorem BJ.uni {ss : List Stmt} {m : SM} (h : BJ X R W P ss m) : PSs X ss (tS R W P m) := by
  obtain ⟨t, h1, h2⟩ := h
  exact ⟨fun pins s σ H D I ⟨F, env, er, l, p⟩ => h1.run pins s σ H D I (h2 σ F H env D er l p)⟩
theorem ER.unset (i : Nat) (er : ER R F H σ env) : ER R F H (σ.set i none) (env.set i .un) ∧ ∀ a, Own (env.set i .un) (σ.set i none) a → Own env σ a := by
  have z : ∀ {j : Nat} {lv' : LV}, (env.set i .un)[j]? = some lv' → lv' ≠ .un → j ≠ i ∧ env[j]? = some lv' := fun {j lv'} h n => by
    by_cases e : j = i
    · subst e
      rw [List.getElem?_set] at h
      split at h
      · split at h
        · cases h; exact absurd rfl n
        · cases h
      · exact absurd rfl (by assumption)
    · rw [List.getElem?_set_ne (Ne.symm e)] at h; exact ⟨e, h⟩
  have y : ∀ {lv : LV}, lv.isOwn = true → lv ≠ .un := fun h e => by subst e; cases h
  refine ⟨⟨by rw [List.length_set, List.length_set]; exact er.len, fun j lv' h n => ?_, fun j k lv1 lv2 b h1 h2 o1 o2 s1 s2 => ?_⟩, fun a ⟨j, lv, h1, h2, h3⟩ => ?_⟩
  · obtain ⟨ne, h'⟩ := z h n
    obtain ⟨v, q1, q2⟩ := er.rel j lv' h' n
    exact ⟨v, by rw [List.getElem?_set_ne (Ne.symm ne)]; exact q1, q2⟩
  · obtain ⟨n1, h1⟩ := z h1 (y o1)
    obtain ⟨n2, h2⟩ := z h2 (y o2)
    rw [List.getElem?_set_ne (Ne.symm n1)] at s1
    rw [List.getElem?_set_ne (Ne.symm n2)] at s2
    exact er.dis j k lv1 lv2 b h1 h2 o1 o2 s1 s2
  · obtain ⟨n1, h1⟩ := z h1 (y h2)
    rw [List.getElem?_set_ne (Ne.symm n1)] at h3
    exact ⟨j, lv, h1, h2, h3⟩
theorem Fix.unset {i : Nat} (h : i ∉ P) : Fix P σ (σ.set i none) := fun j hj => List.getElem?_set_ne (fun (e : i = j) => h (by rw [e]; exact hj))
/-- try: nb, except c as i: nh (what is caught is an object of which nothing is told) -/
def sTry (isC : Str → Option Bool) (i : Nat) (nb nh : SM) : SM := fun env => match nb env with
  | .exc x env1 => match isC x.cls with
    | some true => match nh (env1.set i (.dat .opq)) with
      | .nx env2 => .nx (env2.set i .un)
      | .bk env2 => .bk (env2.set i .un)
      | .ct env2 => .ct (env2.set i .un)
      | .rt lv env2 => .rt lv (env2.set i .un)
      | _ => .bad
    | some false => .exc x env1
    | none => .bad
  | r => r
theorem ss_try {c : Value} {i : Nat} {isC : Str → Option Bool} {nb nh : SM} (hP : i ∉ P) (hC : ∀ x b, isC x = some b → PySem.W.exmOne X.K (.ref (R.ct x)) c = some b) :
    SSd R W P (fun D σ H => tS R (wAs X.K c i (fun _ _ _ => tS R W0 P nh) W D) P nb D σ H) (sTry isC i nb nh) := by
  intro σ F H env D er l p
  refine ⟨F, env, er, l, ?_⟩
  unfold sTry at p
  cases e1 : nb env with
  | bad => rw [e1] at p; exact p.elim
  | nx env1 => rw [e1] at p; exact p
  | bk env1 => rw [e1] at p; exact p
  | ct env1 => rw [e1] at p; exact p
  | rt lv env1 => rw [e1] at p; exact p
  | exc x env1 =>
    rw [e1] at p
    intro cls dx σ1 F1 H1 er1 xr g1 f1
    simp only at p
    cases e2 : isC x.cls with
    | none => simp only [e2] at p; exact p.elim
    | some b =>
      have hx := hC _ _ e2
      rw [← xr.1] at hx
      cases b with
      | false =>
        simp only [e2] at p
        exact ⟨false, hx, (fun z => by cases z), fun _ => p cls dx σ1 F1 H1 er1 xr g1 f1⟩
      | true =>
        simp only [e2] at p
        refine ⟨true, hx, fun _ a ha => ?_, fun z => by cases z⟩
        have er2 := er1.set (i := i) (lv := .dat .opq) (v := .ref a) (by simp) (.dat .opq) fun _ o => by cases o.1
        refine ⟨F1, _, er2, g1.sub, ?_⟩
        have fin : ∀ {env2 : LEnv} {σ6 : L2.St} {F6 H6 : Hp}, At R P (Own (env1.set i (.dat .opq)) (σ1.set i (some (.ref a)))) (σ1.set i (some (.ref a))) F1 H1 env2 σ6 F6 H6 → At R P (Own env σ) σ F H (env2.set i .un) (σ6.set i none) F6 H6 := fun {env2 σ6 F6 H6} q => by
          obtain ⟨u1, u2⟩ := q.er.unset i
          exact ⟨u1, (g1.trans l (q.gr.more fun z o => own_setd o)).weak u2, ((f1.trans (Fix.set hP)).trans q.fx).trans (Fix.unset hP)⟩
        cases e3 : nh (env1.set i (.dat .opq)) with
        | bad => simp only [e3] at p; exact p.elim
        | exc x' env2 => simp only [e3] at p; exact p.elim
        | nx env2 => simp only [e3] at p; exact fun σ6 F6 H6 q => p _ F6 H6 (fin q)
        | bk env2 => simp only [e3] at p; exact fun σ6 F6 H6 q => p _ F6 H6 (fin q)
        | ct env2 => simp only [e3] at p; exact fun σ6 F6 H6 q => p _ F6 H6 (fin q)
        | rt lv env2 =>
          simp only [e3] at p
          intro v σ6 F6 H6 er6 ne lr dd g6 f6
          obtain ⟨u1, u2⟩ := er6.unset i
          exact p v (σ6.set i none) F6 H6 u1 ne lr (fun z o w => dd z o (u2 z w)) ((g1.trans l (g6.more fun z o => own_setd o)).weak fun z o => o.elim (fun o => .inl (u2 z o)) .inr) (((f1.trans (Fix.set hP)).trans f6).trans (Fix.unset hP))
theorem sj_try {x n : Str} {c : Value} {i : Nat} {body suite : List Stmt} {b₀ : Stmt} {np pos' : Pos} {isC : Str → Option Bool} {nb nh : SM} (hC : ∀ x b, isC x = some b → PySem.W.exmOne X.K (.ref (R.ct x)) c = some b) (hc : Names X x c) (tk : Takes X W)
    (hb : ∀ (W : WX) (pn : List (Addr × Obj)) (xe : Value → Shared → Prop), Takes (X.tr pn xe) W → PassesOwn (model X.prog X.w) X.A X.env xe → BJ (X.tr pn xe) R W P body nb)
    (hsu : ∀ (a : Addr) (oe : Obj) (pn : List (Addr × Obj)), BJ (X.suite a ((a, oe) :: pn)) R W0 P (b₀ :: suite) nh)
    (hN : X.N.Nodup) (hi : X.N[i]? = some n := by rfl) (hP : i ∉ P := by decide) (hs : X.stack = X.env :: X.outer := by rfl) (hf : X.env.frame = some X.env.locals := by rfl) (hln : X.env.kindOf n = some .local := by rfl) :
    SJ X R W P (.Try body [.ExceptHandler (some (.Name x np)) (some n) (b₀ :: suite) pos'] [] [] pos) (sTry isC i nb nh) :=
  ⟨_, ps_try_as hs hf hN hi hln hc tk (fun W pn xe t q => (hb W pn xe t q).uni) (fun a oe _ _ pn _ _ => (hsu a oe pn).uni), ss_try hP hC⟩

/-! ### dict.pop(k), join -/
def rPopK : V → List V → Hp → VK → Prop := fun x xs H Q => ∃ (a : Addr) (kvs : List (L2.Key × V)) (k : L2.Key) (v : V), x = .ref a ∧ xs = [kV k] ∧ H a = some (.dK kvs) ∧ valV kvs k = some v ∧ Q v (L2.upd H a (.dK (dropK kvs k)))
theorem mt_popK : MtM X "dict.pop" rPopK := by
  intro pins s σ H x xs v us Q I rx rxs h
  obtain ⟨a, kvs, k, d, rfl, rfl, ha, hv, q⟩ := h
  cases rx
  cases rxs with
  | cons r1 rr =>
    cases rr
    exact d_pop I ha r1 hv (.inl rfl) fun w' s' I' rw' => ⟨d, _, I', rw', q⟩
def mPopK : MtF := fun o l => match o, l with
  | .md kvs, [.dat c] => match keyD c with
    | some k => match valD kvs k with
      | some d => some (.dat d, .md (delD kvs k))
      | none => none
    | none => none
  | _, _ => none
theorem jPopK : MuJ X R "dict.pop" mPopK := ⟨_, mt_popK, fun F H o lo vs lvs z lo' Q l r1 rl e k => by
  unfold mPopK at e
  split at e
  · rename_i kvs c
    cases e1 : keyD c with
    | none => simp [e1] at e
    | some kk1 =>
      cases e2 : valD kvs kk1 with
      | none => simp [e1, e2] at e
      | some d =>
        simp only [e1, e2, Option.some.injEq, Prod.mk.injEq] at e
        obtain ⟨rfl, rfl⟩ := e
        cases rl with
        | cons r2 rl =>
          cases rl
          cases r1 with
          | md f h kk rs =>
            have kr : KR R F kvs _ := ⟨kk, rs⟩
            cases r2 with
            | dat r2 =>
              have ev := keyD_rep r2 e1
              subst ev
              have kd := kr.del kk1
              rcases kr.val kk1 with ⟨z1, z2⟩ | ⟨d', v', z1, z2, z3⟩
              · rw [e2] at z1; cases z1
              · rw [e2] at z1
                cases z1
                exact ⟨_, _, kk1, v', rfl, rfl, h, z2, k v' F _ (.upd l f h fun _ _ z => by cases z) (.md f upd_same kd.k kd.v) (.dat z3) fun a o => by cases o.1⟩
  · cases e⟩
end
end PL
set_option maxRecDepth 100000
set_option maxHeartbeats 4000000
/-! repr of data, dicts and the empty dict compared. -/
namespace PL
open PySem L2 PyProof.Rows

section
variable {prog : Program} {w : World} {hp : Heap}
/-- no dict among these stands at sys.modules -/
def NoSys (hp : Heap) (as : List Addr) : Prop := ∀ b ∈ as, (∃ o es n, hp.get? b = some o ∧ o.data = .dict es n) → b ≠ sysModules
theorem NoSys.app {as bs : List Addr} (h : NoSys hp (as ++ bs)) : NoSys hp as ∧ NoSys hp bs := ⟨fun b m => h b (List.mem_append_left _ m), fun b m => h b (List.mem_append_right _ m)⟩
theorem NoSys.join {as bs : List Addr} (h : NoSys hp as) (g : NoSys hp bs) : NoSys hp (as ++ bs) := fun b m => (List.mem_append.mp m).elim (h b) (g b)
mutual
theorem repr_one : ∀ {v : Value} {d : PyData} {as : List Addr}, Reads hp v d as → d.showable = true → NoSys hp as → d.shown.length ≤ sizeLine → ∃ cs, ReadAtMost hp d.depth cs ∧ ReprK prog w cs hp d.depth v d.shown
  | _, _, _, .none, _, _, _ => ⟨[], (fun _ z => nomatch z), by simp only [PyData.shown]; exact .of_is ReprIs.none _ _ _⟩
  | _, _, _, .bool c, _, _, _ => ⟨[], (fun _ z => nomatch z), by simp only [PyData.shown]; exact .of_is (ReprIs.bool c) _ _ _⟩
  | _, _, _, .int i k, q, _, _ => ⟨[], (fun _ z => nomatch z), by simp only [PyData.shown]; exact .of_is (ReprIs.int k (by simpa [PyData.showable] using q)) _ _ _⟩
  | _, _, _, .str x k, _, _, sz => ⟨[], (fun _ z => nomatch z), by simp only [PyData.shown]; exact .of_is (ReprIs.str x k (by simpa only [PyData.shown] using sz)) _ _ _⟩
  | _, _, _, .list (a := a) (vs := us) (xs := ds) e1 e2 e3 e4, q, ns, sz => by
    have sz1 : (listText (PyData.shownAll ds)).length ≤ sizeLine := by simpa only [PyData.shown] using sz
    obtain ⟨cs, c1, c2⟩ := repr_all e4 (by simpa [PyData.showable] using q) (fun b m => ns b (List.mem_cons_of_mem _ m)) (fun t m => Nat.le_trans (listText_mem_le m) sz1)
    have rd : Reads hp (.ref a) (.list ds) _ := .list e1 e2 e3 e4
    have out : a ∉ cs := not_mem_of_deeper rd (by simp only [PyData.depth]; omega) c1
    refine ⟨a :: cs, ReadAtMost.cons rd (by simp only [PyData.depth]; omega) c1, ?_⟩
    simp only [PyData.depth, PyData.shown]
    obtain ⟨l⟩ := us
    cases l with
    | nil =>
      have e5 : ReadsAll hp [] ds _ := e4
      cases e5
      simp only [PyData.shownAll, listText_nil]
      exact ReprK.listEmpty e1 e2 e3
    | cons x l => exact ReprK.list e1 e2 e3 out (by simpa using c2.length_eq) (fun i y e => c2.item i y (by simpa using e))
  | _, _, _, .tuple (a := a) (xs := ds) e1 e2 e3 e4, q, ns, sz => by
    have sz1 : (tupleText (PyData.shownAll ds)).length ≤ sizeLine := by simpa only [PyData.shown] using sz
    obtain ⟨cs, c1, c2⟩ := repr_all e4 (by simpa [PyData.showable] using q) ns (fun t m => Nat.le_trans (tupleText_mem_le m) sz1)
    have rd : Reads hp (.ref a) (.tuple ds) _ := .tuple e1 e2 e3 e4
    have out : a ∉ cs := not_mem_of_deeper rd (by simp only [PyData.depth]; omega) c1
    refine ⟨a :: cs, ReadAtMost.cons rd (by simp only [PyData.depth]; omega) c1, ?_⟩
    simp only [PyData.depth, PyData.shown]
    exact ReprK.tuple e1 e2 e3 out c2
  | _, _, _, .dict (a := a) (es := es) (kvs := kvs) (as := as1) (bs := bs1) e1 e2 e3 e4 e5, q, ns, sz => by
    have sz1 : (dictText (PyData.shownKv kvs)).length ≤ sizeLine := by simpa only [PyData.shown] using sz
    obtain ⟨q1, q2⟩ := PyData.showableKv_split kvs (by simpa [PyData.showable] using q)
    obtain ⟨n1, n2⟩ := NoSys.app ns
    obtain ⟨c1, d1, k1⟩ := repr_all e4 q1 (fun b m => n1 b (List.mem_cons_of_mem _ m)) (fun t m => let ⟨p, g, z⟩ := PyData.shownKv_key_le kvs t m; Nat.le_trans z (Nat.le_trans (dictText_mem_le g) sz1))
    obtain ⟨c2, d2, k2⟩ := repr_all e5 q2 n2 (fun t m => let ⟨p, g, z⟩ := PyData.shownKv_val_le kvs t m; Nat.le_trans z (Nat.le_trans (dictText_mem_le g) sz1))
    have rd : Reads hp (.ref a) (.dict kvs) _ := .dict e1 e2 e3 e4 e5
    have lvl : ReadAtMost hp (PyData.depthKv kvs) (c1 ++ c2) := (d1.mono (PyData.depthAll_keys_le kvs)).append (d2.mono (PyData.depthAll_vals_le kvs))
    have out : a ∉ c1 ++ c2 := not_mem_of_deeper rd (by simp only [PyData.depth]; omega) lvl
    have sys : (a == sysModules) = false := beq_eq_false_iff_ne.mpr (n1 a List.mem_cons_self ⟨_, _, _, e1, e3⟩)
    refine ⟨a :: (c1 ++ c2), ReadAtMost.cons rd (by simp only [PyData.depth]; omega) lvl, ?_⟩
    simp only [PyData.depth, PyData.shown, PyData.shownKv_eq]
    exact ReprK.dict e1 e2 e3 sys out (ReprEntriesK.of_two es.toList _ _
      (k1.more_le (fun b m => List.mem_append_left _ m) (PyData.depthAll_keys_le kvs)) (k2.more_le (fun b m => List.mem_append_right _ m) (PyData.depthAll_vals_le kvs)))
theorem repr_all : ∀ {vs : List Value} {ds : List PyData} {as : List Addr}, ReadsAll hp vs ds as → PyData.showableAll ds = true → NoSys hp as → (∀ t ∈ PyData.shownAll ds, t.length ≤ sizeLine) →
    ∃ cs, ReadAtMost hp (PyData.depthAll ds) cs ∧ ReprAllK prog w cs hp (PyData.depthAll ds) vs (PyData.shownAll ds)
  | _, _, _, .nil, _, _, _ => ⟨[], (fun _ z => nomatch z), by simp only [PyData.shownAll]; exact .nil⟩
  | _, _, _, .cons (d := d) (ds := ds) r rs, q, ns, sz => by
    have q1 : d.showable = true ∧ PyData.showableAll ds = true := by simpa [PyData.showableAll] using q
    obtain ⟨n1, n2⟩ := NoSys.app ns
    obtain ⟨c1, d1, k1⟩ := repr_one r q1.1 n1 (sz _ (by simp only [PyData.shownAll]; exact List.mem_cons_self ..))
    obtain ⟨c2, d2, k2⟩ := repr_all rs q1.2 n2 (fun t m => sz t (by simp only [PyData.shownAll]; exact List.mem_cons_of_mem _ m))
    refine ⟨c1 ++ c2, ?_, ?_⟩
    · simp only [PyData.depthAll]
      exact (d1.mono (Nat.le_max_left _ _)).append (d2.mono (Nat.le_max_right _ _))
    · simp only [PyData.depthAll, PyData.shownAll]
      exact .cons ((k1.more fun b m => List.mem_append_left _ m).level_le (Nat.le_max_left _ _)) (k2.more_le (fun b m => List.mem_append_right _ m) (Nat.le_max_right _ _))
end
end
end PL
set_option maxRecDepth 100000
set_option maxHeartbeats 4000000
/-! Defs called where no text of an object is under way: then a text of a list, a tuple, a dict is told. -/
namespace PL
open PySem L2 PyProof.Rows PySem.W

/-- a def's promise, where no text of an object is under way -/
structure FnG (P : Program) (w : World) (K : PySem.W.Frag) (mg : Str → Option Value) (bs : Heap) (k : Nat) (f : Addr) (fd : FuncData) (ps : List Str) (sp : Sp) : Prop where
  size : ∀ vs H Q E, sp vs H Q E → vs.length = ps.length
  runs : ∀ (A : Around) (out : List PySem.Env) (t : Shared) (H : Hp) (args : Args) (us : List Value) (vs : List V) (Q : VK) (E : XK), Room k A → A.guards = some [] → Env0 P w K mg bs A out t H → BindsTo t fd args (ps.zip us) → Vals vs us → sp vs H Q E →
    codeAny (model P w) A (.call (.ref f) args) (L2.CR (L2.CX P w) out P w H t Q E) t
section
variable {P : Program} {w : World} {K : PySem.W.Frag} {mg : Str → Option Value} {bs : Heap}
theorem FnG.up {j k : Nat} {f : Addr} {fd : FuncData} {ps : List Str} {sp : Sp} (F : FnG P w K mg bs j f fd ps sp) (le : j ≤ k) : FnG P w K mg bs k f fd ps sp :=
  ⟨F.size, fun A out t H args us vs Q E r => F.runs A out t H args us vs Q E (r.mono le)⟩
theorem FnG.imp {k : Nat} {f : Addr} {fd : FuncData} {ps : List Str} {sp sp' : Sp} (F : FnG P w K mg bs k f fd ps sp) (i : ∀ vs H Q E, sp' vs H Q E → sp vs H Q E) : FnG P w K mg bs k f fd ps sp' :=
  ⟨fun vs H Q E q => F.size vs H Q E (i _ _ _ _ q), fun A out t H args us vs Q E r g e b v q => F.runs A out t H args us vs Q E r g e b v (i _ _ _ _ q)⟩
/-- a def by its body -/
theorem fun_g {x : Str} {st : Stmt} {f : Addr} {fd : FuncData} {N ps : List Str} {k : Nat} {sp : Sp} (D : Fun K x x st f fd) (S : FnScope N ps (defScope st)) (sz : ∀ vs H Q E, sp vs H Q E → vs.length = ps.length)
    (bd : ∀ (cv : Value) (A : Around) (out : List PySem.Env) (t : Shared) (H : Hp) (vs : List V) (Q : VK) (E : XK), Room k (A.deeper (envOfC x (defScope st) t.heap.objs.size f cv)) → A.guards = some [] → sp vs H Q E →
      ∃ u, PSs (cxOf (L2.CX P w) P w K mg bs N x (defScope st) f cv A out t H E) (defBody st) u ∧ u { nx := fun _ H' => Q .non H', rt := Q } (L2.start N vs) H) : FnG P w K mg bs (k + 1) f fd ps sp := by
  obtain ⟨oc, od, kV, doc, pm, an, cv, ct, osl, rfl, lk, cd⟩ := D.ex
  refine ⟨sz, fun A out t H args us vs Q E room gd en bi rel pre => ?_⟩
  have n1 := sz _ _ _ _ pre
  have kin : K.In t.heap := en.mod.kin.keeps fun b o e => (en.bs b o e).1
  have lim : t.heap.NoLimit := en.mod.nolimit.keeps fun b o e => (en.bs b o e).1
  refine codeAny_call_function room.depth (kin _ _ lk) rfl S.co S.gen rfl (PySem.W.codeRec_of kin cd) (bi _ _ _ _ ?_)
  refine wpAny_newFunctionEnv_cells S.kind (fun y m => ?_) fun env he t1 x1 => ?_
  · obtain ⟨n, v⟩ := y
    rcases S.par n (List.of_mem_zip m).1 with z | z
    · exact .inl z
    · exact .inr ⟨z, PySem.W.cellsFrom_some _ _ _ (.inl z)⟩
  · subst he
    refine ⟨lim.keeps x1.toInCall.keep, codeAny_func ?_⟩
    obtain ⟨u, hu, wish⟩ := bd cv A out t H vs Q E (room.deeper _) gd pre
    have I := inv_start (CX := L2.CX P w) (E := E) S room.hd en n1 rel x1
    refine wpAny_mono (hu.run [] t1 (L2.start N vs) H _ I wish) (fun fl t2 z => ?_) fun e t2 z => z
    cases fl with
    | brk => obtain ⟨_, _, _, z⟩ := z; exact z.elim
    | cont => obtain ⟨_, _, _, z⟩ := z; exact z.elim
    | next => obtain ⟨σ1, H1, J, z⟩ := z; exact ⟨V.non, H1, J.os, J.bare, J.base, J.hok, rfl, z⟩
    | ret v => obtain ⟨y, σ1, H1, J, rv, z⟩ := z; exact ⟨y, H1, J.os, J.bare, J.base, J.hok, rv, z⟩
end
section
variable {X : Cx} {k : Nat} {f : Addr} {fd : FuncData} {ps : List Str} {sp : Sp} {E : L2.St → XK} {x : Str} {p pos : Pos} {e : Expr} {es : List Expr} {ta : TA}
/-- f(..), where no text is under way -/
theorem pe_callG (F : FnG X.prog X.w X.K X.mg X.base k f fd ps sp) (room : Room k X.A) (gd : X.A.guards = some []) (gl : Gl X x) (gm : X.mg x = some (.ref f)) (kp : PySem.W.keepIn X.K (.ref f) = true) (bi : Binds X.K fd ps []) (ps1 : ∀ σ, PassesAt (L2.CX X.prog X.w) X σ (E σ))
    (ha : PA X (e :: es) ta) (nd : (x == ("__debug__" : Str)) = false := by decide) (h1 : starEach (e :: es) X.env = (false, eval e X.env) :: starEach es X.env := by rfl) (h2 : (backTo pos (starEach es X.env)).any (·.1) = false := by rfl) :
    PE X (.Call (.Name x p) (e :: es) [] pos) (tCallS sp E ta) := by
  refine ⟨fun pins t σ H Q I wish => wpAny_Call_Name_kw (ld_glob I gl gm ?_ nd)⟩
  refine PySem.W.callWith_K (h₀ := X.base) I.ok.mod.kin kp (thn (ha.run pos pins t σ H _ I wish) fun us t1 z => ?_) h1 h2
  obtain ⟨vs, H1, I1, rel, pre⟩ := z
  refine ⟨I1.kIn, ?_⟩
  have n1 : us.length = ps.length := by rw [← rel.length]; exact F.size _ _ _ _ pre
  have b1 := bi t1 us I1.kIn (by rw [List.append_nil]; exact n1)
  rw [List.append_nil] at b1
  refine wpAny_call (codeAny_mono (F.runs X.A X.stack t1 H1 ⟨us, []⟩ us vs Q (E σ) room gd I1.env0 b1 rel pre) fun r t2 z => ?_)
  match r, z with
  | .error u, z => exact ps1 σ pins H1 t1 u t2 I1 z
  | .ok (.ret u), z => exact I1.after z
  | .ok .next, z => exact z.elim
  | .ok .brk, z => exact z.elim
  | .ok .cont, z => exact z.elim
end
/-! ### the law's own call -/
theorem law_in {P : Program} {w : World} {K : PySem.W.Frag} {mg mb : Str → Option Value} {k : Nat} {fa l0 : Addr} {fd : FuncData} {x : Str} {sp : Sp} {t : Shared} {vs : List Value} {ns : List Int}
    (kin : K.In t.heap) (gs : t.heap.Ns mainGlobals mg) (bn : t.heap.Ns builtinsNs mb) (bb : ∀ y : Str, y ≠ "__name__" → mb y = bootBuiltins y) (lim : t.heap.NoLimit) (ge : t.gens = #[])
    (ob : t.heap.get? l0 = some { cls := .type "list", data := .seq vs.toArray }) (ia : IntsAre vs ns) (sz : ns.length ≤ sizeLine) (room : Room k callerA)
    (F : ∀ bs : Heap, K.In bs → bs.Ns mainGlobals mg → FnG P w K mg bs k fa fd [x] sp) (bi : ∀ (t : Shared) (u : Value), BindsTo t fd ⟨[u], []⟩ [(x, u)])
    (pre : ∀ H : Hp, SqL K H l0 (ns.map V.int) → (∀ b, H b = none ∨ ∃ o xs, H b = some (.frz o (.lst xs))) → sp [.ref l0] H (fun v _ => v = .bl true) fun _ _ _ => False) :
    codeAny (model P w) callerA (.call (.ref fa) ⟨[.ref l0], []⟩) (fun r t' => r = .ok (.ret (.bool true)) ∧ OldK t.heap t'.heap ∧ t'.os = t.os ∧ AllBare t'.gens) t := by
  have go : ∀ H : Hp, SqL K H l0 (ns.map V.int) → (∀ b, H b = none ∨ (b = l0 ∧ K.lookup l0 = none ∧ ∃ o xs, H b = some (.frz o (.lst xs)))) → HOk P w H t.heap →
      codeAny (model P w) callerA (.call (.ref fa) ⟨[.ref l0], []⟩) (fun r t' => r = .ok (.ret (.bool true)) ∧ OldK t.heap t'.heap ∧ t'.os = t.os ∧ AllBare t'.gens) t := by
    intro H sq one ok
    have hide : ∀ {b : Addr} {o : Obj}, t.heap.get? b = some o → H b = none → (hidT t.heap H).get? b = some o := fun e n => hidT_get e n
    have dicts : ∀ {b : Addr} {m : Str → Option Value}, t.heap.Ns b m → (hidT t.heap H).Ns b m := fun {b m} ⟨o, es, ep, e, d, r⟩ => ⟨o, es, ep, hide e (by
      rcases one b with z | ⟨z, _⟩
      · exact z
      · subst z
        rw [ob] at e
        cases e
        exact (nomatch (show Data.seq vs.toArray _ = Data.dict es ep from d))), d, r⟩
    have kin1 : K.In (hidT t.heap H) := fun b o e => hide (kin b o e) (by
      rcases one b with z | ⟨z, n, _⟩
      · exact z
      · subst z
        rw [n] at e
        cases e)
    have md : Mod K mg (hidT t.heap H) := ⟨kin1, dicts gs, ⟨mb, dicts bn, bb⟩, let ⟨mc, q1, q2⟩ := lim; ⟨mc, dicts q1, q2⟩⟩
    have en : Env0 P w K mg (hidT t.heap H) callerA [] t H := ⟨rfl, md, fun b o e => of_hidT e, Nat.le_of_eq (hidT_size _ _), trivial, fun b m => absurd m List.not_mem_nil, ok, .of_eq ge⟩
    refine codeAny_mono ((F _ kin1 (dicts gs)).runs callerA [] t H ⟨[.ref l0], []⟩ [.ref l0] [.ref l0] _ _ room rfl en (bi t (.ref l0)) (.cons rfl .nil) (pre H sq fun b => (one b).elim .inl fun z => .inr z.2.2)) fun r t' z => ?_
    match r, z with
    | .error e, z => obtain ⟨_, _, _, _, _, _, _, _, _, _, _, _, z⟩ := z; exact z.elim
    | .ok .next, z => exact z.elim
    | .ok .brk, z => exact z.elim
    | .ok .cont, z => exact z.elim
    | .ok (.ret u), z =>
      obtain ⟨v, H1, os, bare, un, ok1, rel, rfl⟩ := z
      obtain rfl : u = Value.bool true := rel
      refine ⟨rfl, OldK.of_keep fun b o e => ?_, os, bare⟩
      rcases one b with z | ⟨_, _, o1, xs, z⟩
      · exact un.keep b o e z (fun m => absurd m List.not_mem_nil) (by simp)
      · obtain ⟨q1, _⟩ := ok b _ z
        obtain ⟨q2, _⟩ := ok1 b _ (un.frzs b o1 _ z)
        rw [e] at q1
        cases q1
        exact q2
  have rel := vals_ints ia
  have n1 := ia.length
  cases lk : K.lookup l0 with
  | some o =>
    have e := kin l0 o lk
    rw [ob] at e
    cases e
    exact go (fun _ => none) (.inr ⟨_, vs.toArray, _, lk, rfl, rfl, rfl, by rw [List.size_toArray, n1]; exact sz, by simpa using rel⟩) (fun _ => .inl rfl) fun b u z => nomatch (show (none : Option HO) = some u from z)
  | none =>
    refine go (fun b => if b = l0 then some (.frz { cls := .type "list", data := .seq vs.toArray } (.lst (ns.map V.int))) else none) (.inl (.inr ⟨_, if_pos rfl⟩)) (fun b => ?_) fun b u z => ?_
    · by_cases c : b = l0
      · exact .inr ⟨c, lk, _, _, if_pos c⟩
      · exact .inl (if_neg c)
    · by_cases c : b = l0
      · have z1 := (if_pos c).symm.trans z
        cases z1
        subst c
        exact ⟨ob, by rw [List.length_map]; exact sz, vs, _, rel, ob⟩
      · exact nomatch ((if_neg c).symm.trans z)
/-- what k_head leaves -/
theorem walk_in {l : PySem.W.OpenLaw} {n k : Nat} {q : Program} {loose : List Str} {XP : (Str → Option Value) → Heap → Prop} {YP : World → Heap → Prop} {d : DefRec} {K : Params → PySem.W.Frag} {sp : World → Sp} {x : Str}
    (most : l.most = some n) (few : n ≤ sizeLine) (nodef : d.params.defaults = []) (room : Room k callerA) (kin : ∀ (w : World) (h : Heap), YP w h → (K w.params).In h)
    (F : ∀ (w : World) (mg : Str → Option Value) (fa : Addr) (h : Heap), (K w.params).In h → h.Ns mainGlobals mg → mg d.name = some (.ref fa) →
      ∃ fd : FuncData, (∀ (t : Shared) (u : Value), BindsTo t fd ⟨[u], []⟩ [(x, u)]) ∧ ∀ bs : Heap, (K w.params).In bs → bs.Ns mainGlobals mg → FnG l.prog w (K w.params) mg bs k fa fd [x] (sp w))
    (pre : ∀ (w : World) (H : Hp) (a : Addr) (ns : List Int), ns.length ≤ n → SqL (K w.params) H a (ns.map V.int) → (∀ b, H b = none ∨ ∃ o xs, H b = some (.frz o (.lst xs))) → sp w [.ref a] H (fun v _ => v = .bl true) fun _ _ _ => False) :
    PySem.W.WalkO q loose XP YP l.row.toRowW d [] (fun f vs => PySem.call f vs) := by
  refine Att.attach_call most nodef fun w s0 t mg mb fa o pm cd doc a vs ns G Y hof hdd hcr gm ob ia le ge => ?_
  have k1 := kin w _ Y
  obtain ⟨fd, bi, F1⟩ := F w mg fa _ k1 G.T.g gm
  exact law_in k1 G.T.g G.T.b G.T.builtins G.T.nolimit ge ob ia (Nat.le_trans le few) room F1 bi fun H sq one => pre w H a ns le sq one
end PL
set_option maxRecDepth 100000
set_option maxHeartbeats 4000000
/-! repr(d), a dict against {}, defs by name. -/
namespace PL
open PySem L2 PyProof.Rows PySem.W

def kPy : L2.Key → PyData
  | .inl i => .int i
  | .inr x => .str x
mutual
def D.pyR : D → Option PyData
  | .non => some .none
  | .bl b => some (.bool b)
  | .int i => some (.int i)
  | .str x => some (.str x)
  | .tup ds => match D.pyRs ds with
    | some ps => some (.tuple ps)
    | none => none
  | .lst ds => match D.pyRs ds with
    | some ps => some (.list ps)
    | none => none
  | .dic kvs => match D.pyRk kvs with
    | some ps => some (.dict ps)
    | none => none
  | _ => none
def D.pyRs : List D → Option (List PyData)
  | [] => some []
  | d :: ds => match D.pyR d, D.pyRs ds with
    | some p, some ps => some (p :: ps)
    | _, _ => none
def D.pyRk : List (L2.Key × D) → Option (List (PyData × PyData))
  | [] => some []
  | (k, d) :: ds => match D.pyR d, D.pyRk ds with
    | some p, some ps => some ((kPy k, p) :: ps)
    | _, _ => none
end
theorem kPy_reads {h : Heap} {k : L2.Key} {u : Value} (r : keyIs k u = true) : Reads h u (kPy k) [] := by
  rcases keyIs_shape r with ⟨i, t, rfl, rfl⟩ | ⟨x, t, rfl, rfl⟩
  · exact .int i t
  · exact .str x t
section
variable {X : Cx} {R : RE} {F H : Hp} {pins : List (Addr × Obj)} {σ : L2.St} {s : Shared}
theorem NoSys.nil {h : Heap} : NoSys h [] := fun b m => absurd m List.not_mem_nil
theorem NoSys.cons {h : Heap} {a : Addr} {as : List Addr} (x : ∀ o es n, h.get? a = some o → o.data = .dict es n → a ≠ sysModules) (r : NoSys h as) : NoSys h (a :: as) := fun b m q => by
  rcases List.mem_cons.mp m with rfl | m
  · obtain ⟨o, es, n, e1, e2⟩ := q
    exact x o es n e1 e2
  · exact r b m q
mutual
theorem Rep.reads (I : L2.Inv X pins σ H s) (l : Le F H) : ∀ {d : D} {v : V} {u : Value} {p : PyData}, Rep R F d v → RelV v u → d.pyR = some p → ∃ as, Reads s.heap u p as ∧ NoSys s.heap as
  | _, _, u, p, .non, r, e => by simp only [D.pyR, Option.some.injEq] at e; subst e; cases r; exact ⟨_, .none, .nil⟩
  | _, _, u, p, .bl b, r, e => by simp only [D.pyR, Option.some.injEq] at e; subst e; cases r; exact ⟨_, .bool b, .nil⟩
  | _, _, u, p, .int i, r, e => by simp only [D.pyR, Option.some.injEq] at e; subst e; obtain ⟨t, rfl⟩ := r; exact ⟨_, .int i t, .nil⟩
  | _, _, u, p, .str x, r, e => by simp only [D.pyR, Option.some.injEq] at e; subst e; obtain ⟨t, rfl⟩ := r; exact ⟨_, .str x t, .nil⟩
  | .tup ds, _, u, p, .tup h r, ru, e => by
    unfold D.pyR at e
    cases e1 : D.pyRs ds with
    | none => rw [e1] at e; cases e
    | some ps =>
      rw [e1] at e
      cases e
      cases ru
      obtain ⟨its, rv, ⟨o, ho, hc, n, hd⟩, _⟩ := I.tuple (.inl (.inl (l.tupE h)))
      obtain ⟨as, q1, q2⟩ := RepL.reads I l r rv e1
      exact ⟨as, .tuple ho hc hd q1, q2⟩
  | .lst ds, _, u, p, .lst h r, ru, e => by
    unfold D.pyR at e
    cases e1 : D.pyRs ds with
    | none => rw [e1] at e; cases e
    | some ps =>
      rw [e1] at e
      cases e
      cases ru
      obtain ⟨its, rv, ⟨o, n, ho, hc, _, hd⟩, _⟩ := I.list (.inl (.inl (l.lstE h)))
      obtain ⟨as, q1, q2⟩ := RepL.reads I l r rv e1
      refine ⟨_, .list ho hc hd q1, q2.cons fun o' es n' e1 e2 => ?_⟩
      rw [ho] at e1
      cases e1
      rw [hd] at e2
      cases e2
  | .dic kvs, _, u, p, .dic h k r, ru, e => by
    unfold D.pyR at e
    cases e1 : D.pyRk kvs with
    | none => rw [e1] at e; cases e
    | some ps =>
      rw [e1] at e
      cases e
      cases ru
      obtain ⟨_, hs, vs, kv, o, es, ep, ho, hx, hd, _, pr, _⟩ := dk_rd I.hok (l.dic (u := .dK _) trivial h)
      obtain ⟨as, bs, q1, q2, q3, q4⟩ := KR.reads I l k r kv pr e1
      exact ⟨_, .dict ho hx.1 hd q1 q2, NoSys.join (q3.cons fun _ _ _ _ _ => beq_eq_false_iff_ne.mp hs) q4⟩
  | _, _, u, p, .slst _ _, _, e => by simp [D.pyR] at e
  | _, _, u, p, .dit _ _ _, _, e => by simp [D.pyR] at e
  | _, _, u, p, .ins _ _ _, _, e => by simp [D.pyR] at e
  | _, _, u, p, .cst _, _, e => by simp [D.pyR] at e
  | _, _, u, p, .opq, _, e => by simp [D.pyR] at e
theorem RepL.reads (I : L2.Inv X pins σ H s) (l : Le F H) : ∀ {ds : List D} {vs : List V} {us : List Value} {ps : List PyData}, RepL R F ds vs → Vals vs us → D.pyRs ds = some ps → ∃ as, ReadsAll s.heap us ps as ∧ NoSys s.heap as
  | _, _, us, ps, .nil, r, e => by simp only [D.pyRs, Option.some.injEq] at e; subst e; cases r; exact ⟨_, .nil, .nil⟩
  | d :: ds, _, us, ps, .cons h r, rv, e => by
    unfold D.pyRs at e
    cases e1 : D.pyR d with
    | none => simp [e1] at e
    | some p =>
      cases e2 : D.pyRs ds with
      | none => simp [e1, e2] at e
      | some ps' =>
        simp only [e1, e2, Option.some.injEq] at e
        subst e
        cases rv with
        | cons r1 r2 =>
          obtain ⟨as, q1, q2⟩ := Rep.reads I l h r1 e1
          obtain ⟨bs, q3, q4⟩ := RepL.reads I l r r2 e2
          exact ⟨_, .cons q1 q3, q2.join q4⟩
theorem KR.reads (I : L2.Inv X pins σ H s) (l : Le F H) : ∀ {kvs : List (L2.Key × D)} {xs : List (L2.Key × V)} {us : List (L2.Key × Value)} {es : List DictEntry} {ps : List (PyData × PyData)}, kvs.map (·.1) = xs.map (·.1) → RepL R F (kvs.map (·.2)) (xs.map (·.2)) → KV xs us → Pairs (mixKind X.prog X.w) es us → D.pyRk kvs = some ps →
    ∃ as bs, ReadsAll s.heap (es.map (·.key)) (ps.map (·.1)) as ∧ ReadsAll s.heap (es.map (·.val)) (ps.map (·.2)) bs ∧ NoSys s.heap as ∧ NoSys s.heap bs
  | [], [], _, _, ps, _, _, .nil, .nil, e => by simp only [D.pyRk, Option.some.injEq] at e; subst e; exact ⟨_, _, .nil, .nil, .nil, .nil⟩
  | [], _ :: _, _, _, ps, k, _, _, _, e => by cases k
  | (_, _) :: _, [], _, _, ps, k, _, _, _, e => by cases k
  | (k0, d) :: kvs, x :: xs, u :: us, en :: es, ps, k, .cons h r, .cons kv1 kv, .cons p1 p2 p3, e => by
    unfold D.pyRk at e
    cases e1 : D.pyR d with
    | none => simp [e1] at e
    | some p =>
      cases e2 : D.pyRk kvs with
      | none => simp [e1, e2] at e
      | some ps' =>
        simp only [e1, e2, Option.some.injEq] at e
        subst e
        simp only [List.map_cons, List.cons.injEq] at k
        obtain ⟨as, q1, q2⟩ := Rep.reads I l h kv1.2 e1
        obtain ⟨bs, cs, q3, q4, q5, q6⟩ := KR.reads I l k.2 r kv p3 e2
        rw [← p2] at q1
        have e3 : k0 = u.1 := k.1.trans kv1.1
        have q0 : Reads s.heap en.key (kPy k0) [] := kPy_reads (by rw [e3]; exact p1)
        exact ⟨_, _, .cons q0 q3, .cons q1 q4, NoSys.nil.join q5, q2.join q6⟩
end
end
end PL
set_option maxRecDepth 100000
set_option maxHeartbeats 4000000
/-! repr(d) called, a dict against {}, defs by name. -/
namespace PL
open PySem L2 PyProof.Rows PySem.W

section
variable {prog : Program} {w : World} {A : Around} {E : Value → Shared → Prop} {s : Shared}
theorem repr_call {u : Value} {p : PyData} {as : List Addr} {Q : Value → Shared → Prop} (rd : Reads s.heap u p as) (ns : NoSys s.heap as) (sh : p.showable = true) (sz : p.shown.length ≤ sizeLine) (gd : A.guards = some []) (un : A.units + (p.depth + 1) < cLine)
    (hq : ∀ h' t k, (∀ b o, s.heap.get? b = some o → h'.get? b = some o) → Q (.str p.shown t) { s with heap := h', toks := k }) : wpAny (model prog w) A (call (.builtin "repr") [u]) Q E s := by
  cases rd with
  | none => simp only [PyData.shown] at hq; exact PySem.P.repr_of_none (hq s.heap _ _ fun _ _ e => e)
  | bool b => simp only [PyData.shown] at hq; exact PySem.P.repr_of_bool (hq s.heap _ _ fun _ _ e => e)
  | int i t => simp only [PyData.shown] at hq; exact PySem.P.repr_of_int (by simpa [PyData.showable] using sh) (hq s.heap _ _ fun _ _ e => e)
  | str x t => simp only [PyData.shown] at hq sz; exact PySem.P.repr_of_str (hq s.heap _ _ fun _ _ e => e) sz
  | @list a o vs n ds as0 e1 e2 e3 e4 =>
    have sz1 : (listText (PyData.shownAll ds)).length ≤ sizeLine := by simpa only [PyData.shown] using sz
    obtain ⟨cs, c1, c2⟩ := repr_all (prog := prog) (w := w) e4 (by simpa [PyData.showable] using sh) (fun b m => ns b (List.mem_cons_of_mem _ m)) (fun t m => Nat.le_trans (listText_mem_le m) sz1)
    have out : a ∉ cs := not_mem_of_deeper (.list e1 e2 e3 e4) (by simp only [PyData.depth]; omega) c1
    simp only [PyData.depth] at un
    simp only [PyData.shown] at hq
    refine call_repr_slot (by omega) ⟨o, e1, e2⟩ PySem.F.slot_list_repr.toG ?_
    obtain ⟨l⟩ := vs
    cases l with
    | nil =>
      cases (show ReadsAll s.heap [] ds _ from e4)
      simp only [PyData.shownAll, listText_nil] at hq
      exact call_list_repr_empty ⟨o, e1, e2⟩ e1 e3 ⟨_, _, rfl, hq s.heap _ _ fun _ _ e => e⟩
    | cons x l => exact call_list_reprK e1 e2 e3 out (by simpa using c2.length_eq) (fun i y e => c2.item i y (by simpa using e)) gd (fun b _ => Clear.nil b) (by show A.units + 1 + _ < cLine; omega) (fun _ _ e => e) (fun h' t k q => ⟨_, _, rfl, hq h' t k q⟩) sz1
  | @tuple a o vs n ds as0 e1 e2 e3 e4 =>
    have sz1 : (tupleText (PyData.shownAll ds)).length ≤ sizeLine := by simpa only [PyData.shown] using sz
    obtain ⟨cs, c1, c2⟩ := repr_all (prog := prog) (w := w) e4 (by simpa [PyData.showable] using sh) ns (fun t m => Nat.le_trans (tupleText_mem_le m) sz1)
    have out : a ∉ cs := not_mem_of_deeper (.tuple e1 e2 e3 e4) (by simp only [PyData.depth]; omega) c1
    simp only [PyData.depth] at un
    simp only [PyData.shown] at hq
    exact call_repr_slot (by omega) ⟨o, e1, e2⟩ PySem.F.slot_tuple_repr (call_tuple_reprK e1 e2 e3 out c2 gd (fun b _ => Clear.nil b) (by show A.units + 1 + _ < cLine; omega) (fun _ _ e => e) (fun h' t k q => ⟨_, _, rfl, hq h' t k q⟩) sz1)
  | @dict a o es n kvs as1 bs1 e1 e2 e3 e4 e5 =>
    have sz1 : (dictText (PyData.shownKv kvs)).length ≤ sizeLine := by simpa only [PyData.shown] using sz
    obtain ⟨q1, q2⟩ := PyData.showableKv_split kvs (by simpa [PyData.showable] using sh)
    obtain ⟨n1, n2⟩ := NoSys.app ns
    obtain ⟨c1, d1, k1⟩ := repr_all (prog := prog) (w := w) e4 q1 (fun b m => n1 b (List.mem_cons_of_mem _ m)) (fun t m => let ⟨p, g, z⟩ := PyData.shownKv_key_le kvs t m; Nat.le_trans z (Nat.le_trans (dictText_mem_le g) sz1))
    obtain ⟨c2, d2, k2⟩ := repr_all (prog := prog) (w := w) e5 q2 n2 (fun t m => let ⟨p, g, z⟩ := PyData.shownKv_val_le kvs t m; Nat.le_trans z (Nat.le_trans (dictText_mem_le g) sz1))
    have lvl : ReadAtMost s.heap (PyData.depthKv kvs) (c1 ++ c2) := (d1.mono (PyData.depthAll_keys_le kvs)).append (d2.mono (PyData.depthAll_vals_le kvs))
    have out : a ∉ c1 ++ c2 := not_mem_of_deeper (.dict e1 e2 e3 e4 e5) (by simp only [PyData.depth]; omega) lvl
    have sys : (a == sysModules) = false := beq_eq_false_iff_ne.mpr (n1 a List.mem_cons_self ⟨_, _, _, e1, e3⟩)
    simp only [PyData.depth] at un
    simp only [PyData.shown, PyData.shownKv_eq] at hq
    exact call_repr_slot (by omega) ⟨o, e1, e2⟩ PySem.F.slot_dict_repr (call_dict_reprK e1 e2 e3 sys out (ReprEntriesK.of_two es.toList _ _
      (k1.more_le (fun b m => List.mem_append_left _ m) (PyData.depthAll_keys_le kvs)) (k2.more_le (fun b m => List.mem_append_right _ m) (PyData.depthAll_vals_le kvs))) gd (fun b _ => Clear.nil b) (by show A.units + 1 + _ < cLine; omega) (fun _ _ e => e)
      (fun h' t k q => ⟨_, _, rfl, hq h' t k q⟩) (by rw [← PyData.shownKv_eq]; exact sz1))
end
section
variable {X : Cx} {R : RE} {W : WX} {P : List Nat} {pos : Pos} {e a b : Expr} {m : OM} {F H : Hp}
def rReprA (R : RE) : List V → Hp → VK → Prop := fun vs H Q => ∃ (F : Hp) (v : V) (d : D) (p : PyData), vs = [v] ∧ Le F H ∧ Rep R F d v ∧ d.pyR = some p ∧ p.showable = true ∧ p.shown.length ≤ sizeLine ∧ p.depth ≤ 100 ∧ Q (.str p.shown) H
theorem cr_repr (gd : X.A.guards = some []) (un : X.A.units + 200 < cLine) : CallR X (.builtin "repr") (rReprA R) := by
  intro pins s σ H vs us Q I r hw
  obtain ⟨F, v, d, p, rfl, l, rp, e1, e2, e3, e4, q⟩ := hw
  obtain ⟨u, rfl, ru⟩ := vals1 r
  obtain ⟨as, q1, q2⟩ := rp.reads I l ru e1
  exact repr_call q1 q2 e2 e3 gd (by omega) fun h' t k keep => ⟨.str _, H, I.kept keep, ⟨t, rfl⟩, q⟩
def gRepr : LV → Option LV := fun x => match x with
  | .dat d => match d.pyR with
    | some p => if p.showable = true ∧ p.shown.length ≤ sizeLine ∧ p.depth ≤ 100 then some (.dat (.str p.shown)) else none
    | none => none
  | _ => none
theorem jRepr (gd : X.A.guards = some []) (un : X.A.units + 200 < cLine) : CallJ X R (.builtin "repr") (f1 gRepr) := .mk (cr_repr (R := R) gd un) (rsc1 fun F H x lx z Q l r1 e k => by
  unfold gRepr at e
  split at e
  · rename_i d
    cases e1 : d.pyR with
    | none => simp [e1] at e
    | some p =>
      simp only [e1] at e
      split at e
      · rename_i hz
        cases e
        cases r1 with
        | dat rp => exact ⟨F, x, d, p, rfl, l, rp, e1, hz.1, hz.2.1, hz.2.2, kdat l k rfl (.str _)⟩
      · cases e
  · cases e)
/-! a dict == {}, != {} -/
def rDe (neg : Bool) : R2 := fun x y H Q => ∃ (a b : Addr) (ka kb : List (L2.Key × V)), x = .ref a ∧ y = .ref b ∧ Rd H a (.dK ka) ∧ Rd H b (.dK kb) ∧ (ka = [] ∨ kb = []) ∧ Q (.bl (if neg then !decide (ka.length = kb.length) else decide (ka.length = kb.length))) H
theorem hits_empty {A : Around} {s : Shared} {ka kb : List (L2.Key × Value)} (e : ka = [] ∨ kb = []) : ka.length = kb.length → PySem.W.KeqHits A s kb ka true := fun q => by
  have z : ka = [] := by
    rcases e with rfl | rfl
    · rfl
    · exact List.length_eq_zero_iff.mp (by simpa using q)
  subst z
  exact .nil
theorem op_de (un : X.A.units < cLine) : OpR X (compareOp .Eq) (rDe false) := by
  intro pins s σ H x y v u Q I rx ry hw
  obtain ⟨a, b, ka, kb, rfl, rfl, ha, hb, em, q⟩ := hw
  cases rx
  cases ry
  obtain ⟨_, sa, va, kva, da⟩ := dk_rd I.hok ha
  obtain ⟨_, sb, vb, kvb, db⟩ := dk_rd I.hok hb
  have l1 : ka.length = va.length := Paired.length kva
  have l2 : kb.length = vb.length := Paired.length kvb
  refine PySem.W.keq_eq (knd := mixKind X.prog X.w) (r := true) sa sb da db un (hits_empty ?_) ⟨.bl _, H, I, rfl, ?_⟩
  · exact em.imp (fun z => List.length_eq_zero_iff.mp (by rw [← l1, z]; rfl)) fun z => List.length_eq_zero_iff.mp (by rw [← l2, z]; rfl)
  · rw [← l1, ← l2]
    rw [Bool.and_true, show (ka.length == kb.length) = decide (ka.length = kb.length) from by rw [Bool.eq_iff_iff]; simp]; simpa using q
theorem op_dn (un : X.A.units < cLine) : OpR X (compareOp .NotEq) (rDe true) := by
  intro pins s σ H x y v u Q I rx ry hw
  obtain ⟨a, b, ka, kb, rfl, rfl, ha, hb, em, q⟩ := hw
  cases rx
  cases ry
  obtain ⟨_, sa, va, kva, da⟩ := dk_rd I.hok ha
  obtain ⟨_, sb, vb, kvb, db⟩ := dk_rd I.hok hb
  have l1 : ka.length = va.length := Paired.length kva
  have l2 : kb.length = vb.length := Paired.length kvb
  refine PySem.W.keq_ne (knd := mixKind X.prog X.w) (r := true) sa sb da db un (hits_empty ?_) ⟨.bl _, H, I, rfl, ?_⟩
  · exact em.imp (fun z => List.length_eq_zero_iff.mp (by rw [← l1, z]; rfl)) fun z => List.length_eq_zero_iff.mp (by rw [← l2, z]; rfl)
  · rw [← l1, ← l2]
    rw [Bool.and_true, show (ka.length == kb.length) = decide (ka.length = kb.length) from by rw [Bool.eq_iff_iff]; simp]; simpa using q
def gDe (neg : Bool) : LV → LV → Option LV := fun x y => match x.dicK, y.dicK with
  | some ka, some kb => if ka.isEmpty || kb.isEmpty then some (.dat (.bl (if neg then !decide (ka.length = kb.length) else decide (ka.length = kb.length)))) else none
  | _, _ => none
theorem rs_de (neg : Bool) : RS R (r2L (rDe neg)) (f2 (gDe neg)) := rs2 fun F H x y lx ly z Q l r1 r2 e k => by
  unfold gDe at e
  cases e1 : lx.dicK with
  | none => simp [e1] at e
  | some ka =>
    cases e2 : ly.dicK with
    | none => simp [e1, e2] at e
    | some kb =>
      simp only [e1, e2] at e
      split at e
      · rename_i hz
        cases e
        obtain ⟨a, xa, rfl, ha, k1⟩ := r1.dicK l e1
        obtain ⟨b, xb, rfl, hb, k2⟩ := r2.dicK l e2
        refine ⟨a, b, xa, xb, rfl, rfl, ha, hb, ?_, by rw [← k1.length, ← k2.length]; exact kdat l k rfl (.bl _)⟩
        rcases Bool.or_eq_true_iff.mp hz with z | z
        · exact .inl (List.length_eq_zero_iff.mp (by rw [← k1.length]; simpa using z))
        · exact .inr (List.length_eq_zero_iff.mp (by rw [← k2.length]; simpa using z))
      · cases e
/-! a tuple == () -/
def rTe : R2 := fun x y H Q => ∃ (a b : Addr) (xs ys : List V), x = .ref a ∧ y = .ref b ∧ H a = some (.tup xs) ∧ H b = some (.tup ys) ∧ (xs = [] ∨ ys = []) ∧ Q (.bl (decide (xs.length = ys.length))) H
theorem op_te (un : X.A.units < cLine) : OpR X (compareOp .Eq) rTe := by
  intro pins s σ H x y v u Q I rx ry hw
  obtain ⟨a, b, xs, ys, rfl, rfl, ha, hb, em, q⟩ := hw
  cases rx
  cases ry
  obtain ⟨ia, r1, p1, _⟩ := I.tuple (.inl (.inl ha))
  obtain ⟨ib, r2, p2, _⟩ := I.tuple (.inl (.inl hb))
  have l1 := r1.length
  have l2 := r2.length
  refine SeqAt.eq_tupleAt (e := fun _ => true) p1 p2 un (fun j h1 h2 => ?_) ⟨.bl _, H, I, rfl, ?_⟩
  · exfalso
    rw [List.size_toArray] at h1 h2
    rcases em with rfl | rfl <;> simp at l1 l2 <;> omega
  · rw [List.size_toArray, List.size_toArray, ← l1, ← l2, show ((List.range (min xs.length ys.length)).all (fun _ => true) && xs.length == ys.length) = decide (xs.length = ys.length) from by rw [Bool.eq_iff_iff]; simp]
    exact q
def gTe : LV → LV → Option LV := fun x y => match x, y with
  | .dat (.tup ds), .dat (.tup es) => if ds.isEmpty || es.isEmpty then some (.dat (.bl (decide (ds.length = es.length)))) else none
  | _, _ => none
theorem rs_te : RS R (r2L rTe) (f2 gTe) := rs2 fun F H x y lx ly z Q l r1 r2 e k => by
  unfold gTe at e
  split at e
  · rename_i ds es
    split at e
    · rename_i hz
      cases e
      cases r1 with
      | dat r1 =>
        cases r1 with
        | tup ha ra =>
          cases r2 with
          | dat r2 =>
            cases r2 with
            | tup hb rb =>
              refine ⟨_, _, _, _, rfl, rfl, l.tupE ha, l.tupE hb, ?_, by rw [← ra.length, ← rb.length]; exact kdat l k rfl (.bl _)⟩
              rcases Bool.or_eq_true_iff.mp hz with z | z
              · exact .inl (List.length_eq_zero_iff.mp (by rw [← ra.length]; simpa using z))
              · exact .inr (List.length_eq_zero_iff.mp (by rw [← rb.length]; simpa using z))
    · cases e
  · cases e
/-! a list == [], != [] -/
def rLe (neg : Bool) : R2 := fun x y H Q => ∃ (a b : Addr) (xs ys : List V), x = .ref a ∧ y = .ref b ∧ H a = some (.lst xs) ∧ H b = some (.lst ys) ∧ (xs = [] ∨ ys = []) ∧ Q (.bl (if neg then !decide (xs.length = ys.length) else decide (xs.length = ys.length))) H
theorem both_nil {xs ys : List V} (em : xs = [] ∨ ys = []) (c : xs.length = ys.length) : xs = [] := by
  rcases em with rfl | rfl
  · rfl
  · exact List.length_eq_zero_iff.mp (by simpa using c)
theorem op_le0 (un : X.A.units < cLine) : OpR X (compareOp .Eq) (rLe false) := by
  intro pins s σ H x y v u Q I rx ry hw
  obtain ⟨a, b, xs, ys, rfl, rfl, ha, hb, em, q⟩ := hw
  cases rx
  cases ry
  obtain ⟨ia, r1, ⟨oa, na, ga, ca, _, da⟩, _⟩ := I.list (.inl (.inl ha))
  obtain ⟨ib, r2, ⟨ob, nb, gb, cb, _, db⟩, _⟩ := I.list (.inl (.inl hb))
  have l1 := r1.length
  have l2 := r2.length
  have pa : s.heap.IsList a ia.toArray := ⟨oa, ga, ca, na, da⟩
  have pb : s.heap.IsList b ib.toArray := ⟨ob, gb, cb, nb, db⟩
  by_cases c : xs.length = ys.length
  · have e1 := both_nil em c
    subst e1
    have z : ia.length = 0 := by rw [← l1]; rfl
    refine SeqAt.eq_listAt (e := fun _ => true) pa pb (by rw [List.size_toArray, List.size_toArray, ← l1, ← l2, c]) un (fun j h1 h2 => ?_) ⟨.bl _, H, I, rfl, ?_⟩
    · exfalso
      rw [List.size_toArray] at h1
      omega
    · rw [show (List.range ia.toArray.size).all (fun _ => true) = true from by simp]
      simpa [← c] using q
  · refine SeqAt.eq_list_lengthsAt pa pb (by rw [List.size_toArray, List.size_toArray, ← l1, ← l2]; simpa using c) un ⟨.bl _, H, I, rfl, ?_⟩
    simpa [c] using q
theorem op_ln0 (un : X.A.units < cLine) : OpR X (compareOp .NotEq) (rLe true) := by
  intro pins s σ H x y v u Q I rx ry hw
  obtain ⟨a, b, xs, ys, rfl, rfl, ha, hb, em, q⟩ := hw
  cases rx
  cases ry
  obtain ⟨ia, r1, ⟨oa, na, ga, ca, _, da⟩, _⟩ := I.list (.inl (.inl ha))
  obtain ⟨ib, r2, ⟨ob, nb, gb, cb, _, db⟩, _⟩ := I.list (.inl (.inl hb))
  have l1 := r1.length
  have l2 := r2.length
  have pa : s.heap.IsList a ia.toArray := ⟨oa, ga, ca, na, da⟩
  have pb : s.heap.IsList b ib.toArray := ⟨ob, gb, cb, nb, db⟩
  by_cases c : xs.length = ys.length
  · have e1 := both_nil em c
    subst e1
    have z : ia.length = 0 := by rw [← l1]; rfl
    refine SeqAt.RcNeAt.lists (e := fun _ => true) pa pb (by rw [List.size_toArray, List.size_toArray, ← l1, ← l2, c]) un (fun j h1 h2 => ?_) _ _ _ _ ⟨.bl _, H, I, rfl, ?_⟩
    · exfalso
      rw [List.size_toArray] at h1
      omega
    · rw [show (List.range ia.toArray.size).all (fun _ => true) = true from by simp]
      simpa [← c] using q
  · refine SeqAt.RcNeAt.lists_lengths pa pb (by rw [List.size_toArray, List.size_toArray, ← l1, ← l2]; simpa using c) un _ _ _ _ ⟨.bl _, H, I, rfl, ?_⟩
    simpa [c] using q
def gLe (neg : Bool) : LV → LV → Option LV := fun x y => match x.items, y.items with
  | some ds, some es => if ds.isEmpty || es.isEmpty then some (.dat (.bl (if neg then !decide (ds.length = es.length) else decide (ds.length = es.length)))) else none
  | _, _ => none
theorem rs_le (neg : Bool) : RS R (r2L (rLe neg)) (f2 (gLe neg)) := rs2 fun F H x y lx ly z Q l r1 r2 e k => by
  unfold gLe at e
  cases e1 : lx.items with
  | none => simp [e1] at e
  | some ds =>
    cases e2 : ly.items with
    | none => simp [e1, e2] at e
    | some es =>
      simp only [e1, e2] at e
      split at e
      · rename_i hz
        cases e
        obtain ⟨a, xa, rfl, ha, k1⟩ := r1.items l e1
        obtain ⟨b, xb, rfl, hb, k2⟩ := r2.items l e2
        refine ⟨a, b, xa, xb, rfl, rfl, ha, hb, ?_, by rw [← k1.length, ← k2.length]; exact kdat l k rfl (.bl _)⟩
        rcases Bool.or_eq_true_iff.mp hz with z | z
        · exact .inl (List.length_eq_zero_iff.mp (by rw [← k1.length]; simpa using z))
        · exact .inr (List.length_eq_zero_iff.mp (by rw [← k2.length]; simpa using z))
      · cases e
/-! texts -/
def gEqS (neg : Bool) : LV → LV → Option LV := fun x y => match x, y with
  | .dat (.str a), .dat (.str b) => some (.dat (.bl (if neg then !decide (a = b) else decide (a = b))))
  | .dat (.str _), .dat .non => some (.dat (.bl neg))
  | .dat .non, .dat (.str _) => some (.dat (.bl neg))
  | _, _ => none
theorem rs_eqS : RS R (r2L rEq) (f2 (gEqS false)) := rs2 fun F H x y lx ly z Q l r1 r2 e k => by
  unfold gEqS at e
  split at e
  · cases e
    cases r1 with
    | dat r1 =>
      cases r1
      cases r2 with
      | dat r2 =>
        cases r2
        exact ⟨rfl, by simpa using kdat l k rfl (.bl _)⟩
  · cases e
    cases r1 with
    | dat r1 =>
      cases r1
      cases r2 with
      | dat r2 =>
        cases r2
        exact ⟨rfl, by simpa using kdat l k rfl (.bl _)⟩
  · cases e
    cases r1 with
    | dat r1 =>
      cases r1
      cases r2 with
      | dat r2 =>
        cases r2
        exact ⟨rfl, by simpa using kdat l k rfl (.bl _)⟩
  · cases e
theorem rs_neS : RS R (r2L rNe) (f2 (gEqS true)) := rs2 fun F H x y lx ly z Q l r1 r2 e k => by
  unfold gEqS at e
  split at e
  · cases e
    cases r1 with
    | dat r1 =>
      cases r1
      cases r2 with
      | dat r2 =>
        cases r2
        exact ⟨rfl, by simpa using kdat l k rfl (.bl _)⟩
  · cases e
    cases r1 with
    | dat r1 =>
      cases r1
      cases r2 with
      | dat r2 =>
        cases r2
        exact ⟨rfl, by simpa using kdat l k rfl (.bl _)⟩
  · cases e
    cases r1 with
    | dat r1 =>
      cases r1
      cases r2 with
      | dat r2 =>
        cases r2
        exact ⟨rfl, by simpa using kdat l k rfl (.bl _)⟩
  · cases e
def fEqA := fOr (f2 (gEqS false)) (fOr fEqD (fOr (f2 (gDe false)) (fOr (f2 gTe) (f2 (gLe false)))))
def fNeA := fOr (f2 (gEqS true)) (fOr fNeD (fOr (f2 (gDe true)) (f2 (gLe true))))
theorem jEqA (hK : R.K = X.K) (hu : X.A.units + 64 < cLine) : OpJ X R (compareOp .Eq) fEqA := (OpJ.mk op_eq rs_eqS).or ((jEqD hK hu).or ((OpJ.mk (op_de (by omega)) (rs_de false)).or ((OpJ.mk (op_te (by omega)) rs_te).or (.mk (op_le0 (by omega)) (rs_le false)))))
theorem jNeA (hK : R.K = X.K) (hu : X.A.units + 64 < cLine) : OpJ X R (compareOp .NotEq) fNeA := (OpJ.mk op_ne rs_neS).or ((jNeD hK hu).or ((OpJ.mk (op_dn (by omega)) (rs_de true)).or (.mk (op_ln0 (by omega)) (rs_le true))))
end
end PL
set_option maxRecDepth 100000
set_option maxHeartbeats 4000000
/-! Words for printed proofs. -/
namespace PL
open PySem L2 PyProof.Rows PySem.W

/-- the def x computes g, by level k, where no text is under way -/
def DJ (B : Base) (x : Str) (k : Nat) (ps : List Str) (g : FM) : Prop :=
  ∃ (f : Addr) (fd : FuncData), B.mg x = some (.ref f) ∧ PySem.W.keepIn B.R.K (.ref f) = true ∧ Binds B.R.K fd ps [] ∧ (∃ oc od sl, B.R.K.lookup f = some ⟨oc, od, .func fd, sl⟩) ∧ FnG B.P B.w B.R.K B.mg B.base k f fd ps (spOf B.R ps.length g)
theorem dj_mk {B : Base} {x : Str} {st : Stmt} {N ps : List Str} {k : Nat} {P : List Nat} {m : SM} (D : DefAt B x st ps) (S : FnScope N ps (defScope st))
    (hbody : ∀ (f : Addr) (cdv : Value) (A : Around) (outer : List PySem.Env) (s : Shared) (H : Hp) (E : XK), Room k (bx B x st N f cdv A outer s H E).A → (bx B x st N f cdv A outer s H E).A.guards = some [] → Takes (bx B x st N f cdv A outer s H E) (wx E) →
      PassesOwn (model B.P B.w) (bx B x st N f cdv A outer s H E).A (bx B x st N f cdv A outer s H E).env (bx B x st N f cdv A outer s H E).xe → BJ (bx B x st N f cdv A outer s H E) B.R (wx E) P (defBody st) m) :
    DJ B x (k + 1) ps (defM N.length P m) := by
  obtain ⟨f, fd, Fn, hm, hb⟩ := D
  refine ⟨f, fd, hm, Fn.kp, hb, (let ⟨_, _, _, _, _, _, _, _, _, _, e, _⟩ := Fn.ex; ⟨_, _, _, e⟩), ?_⟩
  have hpl : ps.length ≤ N.length := by have := congrArg List.length S.pre; rw [List.length_take] at this; omega
  refine fun_g Fn S (fun vs H Q E h => h.1) (fun cdv A outer s H vs Q E hr gd h => ?_)
  obtain ⟨hl, F, lvs, l, er, p⟩ := h
  obtain ⟨t, h1, h2⟩ := hbody f cdv A outer s H E hr gd (takes_of rfl rfl rfl rfl) (passes_of rfl)
  exact ⟨t, h1, body_post (fun _ _ _ _ e => e) (by omega) h2 l er p⟩
theorem dj_bad {B : Base} {x : Str} {st : Stmt} {ps : List Str} {k : Nat} (D : DefAt B x st ps) : DJ B x k ps (fun _ => .bad) := by
  obtain ⟨f, fd, Fn, hm, hb⟩ := D
  refine ⟨f, fd, hm, Fn.kp, hb, (let ⟨_, _, _, _, _, _, _, _, _, _, e, _⟩ := Fn.ex; ⟨_, _, _, e⟩), fun vs H Q E h => h.1, fun A outer s H args us vs Q E hr gd he hb' hv h => ?_⟩
  obtain ⟨_, F, lvs, l, er, p⟩ := h
  exact p.elim
theorem DJ.up {B : Base} {x : Str} {j k : Nat} {ps : List Str} {g : FM} (h : DJ B x j ps g) (e : j ≤ k) : DJ B x k ps g := by
  obtain ⟨f, fd, h2, h3, h4, h6, h5⟩ := h
  exact ⟨f, fd, h2, h3, h4, h6, h5.up e⟩
theorem o_def {B : Base} {X : Cx} {W : WX} {j k n : Nat} {ps : List Str} {g : FM} {x : Str} {p pos : Pos} {e : Expr} {es : List Expr} {ms : AM} (h : DJ B x j ps g) (hr : Room k X.A) (gd : X.A.guards = some []) (tk : Takes X W)
    (ha : AJ X B.R W (e :: es) ms) (hn : AM.len ms n) (hj : j ≤ k := by first | omega | (simp only [Nat.add_eq]; omega) | exact Nat.le_refl _) (hl : n = ps.length := by rfl)
    (e1 : X.prog = B.P := by rfl) (e2 : X.w = B.w := by rfl) (e3 : X.K = B.R.K := by rfl) (e4 : X.mg = B.mg := by rfl) (e5 : X.base = B.base := by rfl)
    (hg : Gl X x := by rfl) (hd : (x == ("__debug__" : Str)) = false := by decide)
    (he : starEach (e :: es) X.env = (false, eval e X.env) :: starEach es X.env := by rfl) (hpl : (backTo pos (starEach es X.env)).any (·.1) = false := by rfl) : OJ X B.R W (.Call (.Name x p) (e :: es) [] pos) (oCall g ms) := by
  obtain ⟨f, fd, h2, h3, h4, _, h5⟩ := h.up hj
  rw [← e1, ← e2, ← e3, ← e4, ← e5] at h5
  rw [← e3] at h3 h4
  rw [← e4] at h2
  subst hl
  obtain ⟨t, a1, a2⟩ := ha
  exact ⟨_, pe_callG h5 hr gd hg h2 h3 h4 (fun σ => passAt tk σ) a1 hd he hpl, os_call a2 hn⟩
theorem tk0 {X : Cx} : Takes X W0 := fun u s' ⟨_, _, _, _, _, _, _, _, _, _, _, _, _, _, _, _, z⟩ => z.elim

section
variable {X : Cx} {R : RE} {W : WX} {P : List Nat} {pos : Pos} {e a b : Expr} {m ma mb : OM} {ms : AM}
def fMulA := fOr fMul (f2 gRepT)
theorem jMulA : OpJ X R (binaryOp .Mult) fMulA := jMul.or jRepT
def fIxA := fOr fIx fIxD
theorem jIxA (hK : R.K = X.K) (hu : X.A.units + 1 < cLine) : IxJ X R fIxA := (jIx hK).or (jIxD hu)
def fInA := fOr fIn fInK
def fNiA := fOr fNi fNiK
theorem jInA (hK : R.K = X.K) (hu : X.A.units + 65 < cLine) : OpJ X R (compareOp .In) fInA := (jIn hK hu).or (jInK (by omega))
theorem jNiA (hK : R.K = X.K) (hu : X.A.units + 65 < cLine) : OpJ X R (compareOp .NotIn) fNiA := (jNi hK hu).or (jNiK (by omega))
def fIsiA := fOr fIsi fIsi2
theorem jIsiA (hK : R.K = X.K) : CallJ X R (.builtin "isinstance") fIsiA := (jIsi hK).or (jIsi2 hK)
def fListA := fOr fList (f1 gListK)
theorem jListA (hc : X.calm = true) : CallJ X R (.type "list") fListA := jList.or (jListK hc)
def stA : StF := fun a b c => match stL a b c with | some z => some z | none => stD a b c
theorem jStA (hu : X.A.units + 1 < cLine) : StJ X R stA := jStL.or (jStD hu)
theorem hu200 {k : Nat} {A : Around} (r : Room k A) : A.units + 200 < cLine := by have := r.un; omega
theorem boot_len' : bootBuiltins ("len" : Str) = some (.builtin "len") := by decide +kernel
theorem boot_abs' : bootBuiltins ("abs" : Str) = some (.builtin "abs") := by decide +kernel
theorem boot_isinstance' : bootBuiltins ("isinstance" : Str) = some (.builtin "isinstance") := by decide +kernel
theorem boot_sum' : bootBuiltins ("sum" : Str) = some (.builtin "sum") := by decide +kernel
theorem boot_all' : bootBuiltins ("all" : Str) = some (.builtin "all") := by decide +kernel
theorem boot_any' : bootBuiltins ("any" : Str) = some (.builtin "any") := by decide +kernel
theorem boot_sorted' : bootBuiltins ("sorted" : Str) = some (.builtin "sorted") := by decide +kernel
theorem boot_repr' : bootBuiltins ("repr" : Str) = some (.builtin "repr") := by decide +kernel
theorem boot_list' : bootBuiltins ("list" : Str) = some (.type "list") := by decide +kernel
theorem boot_tuple' : bootBuiltins ("tuple" : Str) = some (.type "tuple") := by decide +kernel
theorem boot_dict' : bootBuiltins ("dict" : Str) = some (.type "dict") := by decide +kernel
theorem boot_int' : bootBuiltins ("int" : Str) = some (.type "int") := by decide +kernel
theorem boot_bool' : bootBuiltins ("bool" : Str) = some (.type "bool") := by decide +kernel
theorem boot_str' : bootBuiltins ("str" : Str) = some (.type "str") := by decide +kernel
/-- a built-in class as a value -/
theorem o_ty {x : Str} {t : String} (hm : X.mg x = none) (hv : bootBuiltins x = some (.type t)) (hg : Gl X x := by rfl) (hn : x ≠ "__name__" := by decide) (hd : (x == ("__debug__" : Str)) = false := by decide) : OJ X R W (.Name x pos) (oC (.cst (.ty t))) := oj_cst (pe_bltn hg hm hv rfl hn hd)
/-- a name of the module that holds a text -/
theorem o_gs {x y : Str} {u : Tok} (hm : X.mg x = some (.str y u)) (hg : Gl X x := by rfl) (hd : (x == ("__debug__" : Str)) = false := by decide) : OJ X R W (.Name x pos) (oC (.str y)) := oj_gstr hg hm (pe_glob hg hm ⟨u, rfl⟩ hd)
theorem o_gi {x : Str} {i : Int} {u : Tok} (hm : X.mg x = some (.int i u)) (hg : Gl X x := by rfl) (hd : (x == ("__debug__" : Str)) = false := by decide) : OJ X R W (.Name x pos) (oC (.int i)) := ⟨_, pe_glob (v := .int i) hg hm ⟨u, rfl⟩ hd, os_c fun _ => .int i⟩
/-- what is walked: a list, a tuple, a dict's keys -/
def iAnyK (m : OM) : IM := iOr (iOr (iSeq m) (iTp m)) (iDic keysL m)
theorem ij_anyK {tg : Expr} (h : OJ X R W e m) : IJ X R W tg e (iAnyK m) := ij_or (ij_or (ij_seq h) (ij_tup h)) (ij_keys h)
end
end PL
set_option maxRecDepth 100000
set_option maxHeartbeats 4000000
/-! Pairs and triples stored where a name is a cell. -/
namespace PL
open PySem L2 PyProof.Rows PySem.W

section
variable {X : Cx} {R : RE} {W : WX} {P : List Nat} {pos : Pos} {a b c : Expr} {ms : AM} {F H F1 H1 : Hp} {σ : L2.St} {env env1 : LEnv} {O : Addr → Prop}
theorem par2_at {i j : Nat} {u v : LV} {x y : V} (hPi : i ∉ P) (hPj : j ∉ P) (er1 : ER R F1 H1 σ env1) (q1 : RfR R F1 H1 σ (.tmp u) x) (q2 : RfR R F1 H1 σ (.tmp v) y) (d1 : ∀ z, RsO [.tmp u, .tmp v] [x, y] z → ¬ Own env1 σ z) (dd1 : RsD [.tmp u, .tmp v] [x, y])
    (g1 : Gr O F H (fun z => Own env1 σ z ∨ RsO [.tmp u, .tmp v] [x, y] z) F1 H1) : At R P O σ F H ((env1.set i u).set j v) ((σ.set i (some x)).set j (some y)) F1 H1 := by
  have o1 : ∀ z, Owns u x z → RsO [.tmp u, .tmp v] [x, y] z := fun z o => ⟨0, _, _, rfl, rfl, o⟩
  have o2 : ∀ z, Owns v y z → RsO [.tmp u, .tmp v] [x, y] z := fun z o => ⟨1, _, _, rfl, rfl, o⟩
  have er2 := er1.set (i := i) q1.1 q1.2 fun z o => d1 z (o1 z o)
  have er3 := er2.set (i := j) q2.1 q2.2 fun z o w => (own_setv w).elim (d1 z (o2 z o)) fun w => by
    have := dd1 0 1 _ _ _ _ z rfl rfl rfl rfl w o
    cases this
  refine ⟨er3, g1.weak fun z o => ?_, (Fix.set hPi).trans (Fix.set hPj)⟩
  rcases own_setv o with o | o
  · rcases own_setv o with o | o
    · exact .inl o
    · exact .inr (o1 z o)
  · exact .inr (o2 z o)
theorem par3_at {i j k : Nat} {u v w : LV} {x y t : V} (hPi : i ∉ P) (hPj : j ∉ P) (hPk : k ∉ P) (er1 : ER R F1 H1 σ env1) (q1 : RfR R F1 H1 σ (.tmp u) x) (q2 : RfR R F1 H1 σ (.tmp v) y) (q3 : RfR R F1 H1 σ (.tmp w) t)
    (d1 : ∀ z, RsO [.tmp u, .tmp v, .tmp w] [x, y, t] z → ¬ Own env1 σ z) (dd1 : RsD [.tmp u, .tmp v, .tmp w] [x, y, t])
    (g1 : Gr O F H (fun z => Own env1 σ z ∨ RsO [.tmp u, .tmp v, .tmp w] [x, y, t] z) F1 H1) : At R P O σ F H (((env1.set i u).set j v).set k w) (((σ.set i (some x)).set j (some y)).set k (some t)) F1 H1 := by
  have o1 : ∀ z, Owns u x z → RsO [.tmp u, .tmp v, .tmp w] [x, y, t] z := fun z o => ⟨0, _, _, rfl, rfl, o⟩
  have o2 : ∀ z, Owns v y z → RsO [.tmp u, .tmp v, .tmp w] [x, y, t] z := fun z o => ⟨1, _, _, rfl, rfl, o⟩
  have o3 : ∀ z, Owns w t z → RsO [.tmp u, .tmp v, .tmp w] [x, y, t] z := fun z o => ⟨2, _, _, rfl, rfl, o⟩
  have er2 := er1.set (i := i) q1.1 q1.2 fun z o => d1 z (o1 z o)
  have er3 := er2.set (i := j) q2.1 q2.2 fun z o s => (own_setv s).elim (d1 z (o2 z o)) fun s => by
    have := dd1 0 1 _ _ _ _ z rfl rfl rfl rfl s o
    cases this
  have er4 := er3.set (i := k) q3.1 q3.2 fun z o s => (own_setv s).elim (fun s => (own_setv s).elim (d1 z (o3 z o)) fun s => by
    have := dd1 0 2 _ _ _ _ z rfl rfl rfl rfl s o
    cases this) fun s => by
    have := dd1 1 2 _ _ _ _ z rfl rfl rfl rfl s o
    cases this
  refine ⟨er4, g1.weak fun z o => ?_, ((Fix.set hPi).trans (Fix.set hPj)).trans (Fix.set hPk)⟩
  rcases own_setv o with o | o
  · rcases own_setv o with o | o
    · rcases own_setv o with o | o
      · exact .inl o
      · exact .inr (o1 z o)
    · exact .inr (o2 z o)
  · exact .inr (o3 z o)
theorem ss_parC2 {K : PySem.W.Frag} {i j : Nat} {t : TA} (hPi : i ∉ P) (hPj : j ∉ P) (h : AS R W t ms) : SSd R W P (tAsg (tTup t) (gTup K 2 (gCons (gName i) (gCons (gName j) gNil)))) (sPar2 i j ms) := by
  intro σ F H env D er l p
  unfold sPar2 at p
  refine h σ F H env _ er l ?_
  cases e1 : ms env with
  | bad => rw [e1] at p; exact p.elim
  | exc x env1 => rw [e1] at p; exact XPost.stm p
  | val rs env1 =>
    rw [e1] at p
    intro vs F1 H1 er1 rr d1 dd1 g1
    match rs, vs, rr, p, d1, dd1, g1 with
    | [.tmp u, .tmp v], [x, y], .cons q1 (.cons q2 .nil), p, d1, dd1, g1 =>
      refine ⟨by rw [sizeLine_eq]; simp, fun q hq => ⟨q, [x, y], rfl, .inl (.inl upd_same), rfl, x, [y], rfl, y, [], rfl, rfl, ?_⟩⟩
      have nw : Nw F1 H1 F1 (L2.upd H1 q (.tup [x, y])) := .new g1.sub hq
      exact p _ _ _ (par2_at hPi hPj (er1.nw nw) (q1.nw nw) (q2.nw nw) d1 dd1 (g1.trans l (nw.gr fun z o => .inl o)))
    | [.tmp u, .var _], _, _, p, _, _, _ => exact (show False from p).elim
    | [.var _, _], _, _, p, _, _, _ => exact (show False from p).elim
    | [], _, _, p, _, _, _ => exact (show False from p).elim
    | [r], _, _, p, _, _, _ => cases r <;> exact (show False from p).elim
    | r :: r' :: _ :: _, _, _, p, _, _, _ => cases r <;> cases r' <;> exact (show False from p).elim
theorem ss_parC3 {K : PySem.W.Frag} {i j k : Nat} {t : TA} (hPi : i ∉ P) (hPj : j ∉ P) (hPk : k ∉ P) (h : AS R W t ms) : SSd R W P (tAsg (tTup t) (gTup K 3 (gCons (gName i) (gCons (gName j) (gCons (gName k) gNil))))) (sPar3 i j k ms) := by
  intro σ F H env D er l p
  unfold sPar3 at p
  refine h σ F H env _ er l ?_
  cases e1 : ms env with
  | bad => rw [e1] at p; exact p.elim
  | exc x env1 => rw [e1] at p; exact XPost.stm p
  | val rs env1 =>
    rw [e1] at p
    intro vs F1 H1 er1 rr d1 dd1 g1
    match rs, vs, rr, p, d1, dd1, g1 with
    | [.tmp u, .tmp v, .tmp w], [x, y, t], .cons q1 (.cons q2 (.cons q3 .nil)), p, d1, dd1, g1 =>
      refine ⟨by rw [sizeLine_eq]; simp, fun q hq => ⟨q, [x, y, t], rfl, .inl (.inl upd_same), rfl, x, [y, t], rfl, y, [t], rfl, t, [], rfl, rfl, ?_⟩⟩
      have nw : Nw F1 H1 F1 (L2.upd H1 q (.tup [x, y, t])) := .new g1.sub hq
      exact p _ _ _ (par3_at hPi hPj hPk (er1.nw nw) (q1.nw nw) (q2.nw nw) (q3.nw nw) d1 dd1 (g1.trans l (nw.gr fun z o => .inl o)))
    | [.tmp u, .tmp v, .var _], _, _, p, _, _, _ => exact (show False from p).elim
    | [.tmp u, .var _, _], _, _, p, _, _, _ => exact (show False from p).elim
    | [.var _, _, _], _, _, p, _, _, _ => exact (show False from p).elim
    | [], _, _, p, _, _, _ => exact (show False from p).elim
    | [r], _, _, p, _, _, _ => cases r <;> exact (show False from p).elim
    | [r, r'], _, _, p, _, _, _ => cases r <;> cases r' <;> exact (show False from p).elim
    | r :: r' :: q :: _ :: _, _, _, p, _, _, _ => cases r <;> cases r' <;> cases q <;> exact (show False from p).elim
theorem sj_parC2 {i j : Nat} {x y : Str} {px py pt : Pos} {kt k2 pt2} (hc : X.calm = true) (hN : X.N.Nodup) (ha : AJ X R W [a, b] ms) (hx : Loc X.env.scope x) (hy : Loc X.env.scope y) (hi : X.N[i]? = some x := by rfl) (hj : X.N[j]? = some y := by rfl)
    (fx : X.fn x = true ∨ X.env.scope.names.lookup x = some .local := by first | exact .inl rfl | exact .inr rfl) (fy : X.fn y = true ∨ X.env.scope.names.lookup y = some .local := by first | exact .inl rfl | exact .inr rfl)
    (hPi : i ∉ P := by decide) (hPj : j ∉ P := by decide)
    (hs : swapsWithSole [.Tuple [.Name x px, .Name y py] kt pt] (.Tuple [a, b] k2 pt2) pos.line X.env = pure false := by rfl)
    (hw : swappedStores [.Tuple [.Name x px, .Name y py] kt pt] (.Tuple [a, b] k2 pt2) X.env = pure none := by rfl) :
    SJ X R W P (.Assign [.Tuple [.Name x px, .Name y py] kt pt] (.Tuple [a, b] k2 pt2) pos) (sPar2 i j ms) :=
  let ⟨_, a1, a2⟩ := ha; ⟨_, ps_asg (pe_tup a1) (pg_tup hc (pgs_cons (pg_name hN hi hx fx) (pgs_cons (pg_name hN hj hy fy) pgs_nil))) hs hw, ss_parC2 hPi hPj a2⟩
theorem sj_parC3 {i j k : Nat} {x y z : Str} {px py pz pt : Pos} {kt k2 pt2} (hc : X.calm = true) (hN : X.N.Nodup) (ha : AJ X R W [a, b, c] ms) (hx : Loc X.env.scope x) (hy : Loc X.env.scope y) (hz : Loc X.env.scope z) (hi : X.N[i]? = some x := by rfl) (hj : X.N[j]? = some y := by rfl) (hk : X.N[k]? = some z := by rfl)
    (fx : X.fn x = true ∨ X.env.scope.names.lookup x = some .local := by first | exact .inl rfl | exact .inr rfl) (fy : X.fn y = true ∨ X.env.scope.names.lookup y = some .local := by first | exact .inl rfl | exact .inr rfl) (fz : X.fn z = true ∨ X.env.scope.names.lookup z = some .local := by first | exact .inl rfl | exact .inr rfl)
    (hPi : i ∉ P := by decide) (hPj : j ∉ P := by decide) (hPk : k ∉ P := by decide)
    (hs : swapsWithSole [.Tuple [.Name x px, .Name y py, .Name z pz] kt pt] (.Tuple [a, b, c] k2 pt2) pos.line X.env = pure false := by rfl)
    (hw : swappedStores [.Tuple [.Name x px, .Name y py, .Name z pz] kt pt] (.Tuple [a, b, c] k2 pt2) X.env = pure none := by rfl) :
    SJ X R W P (.Assign [.Tuple [.Name x px, .Name y py, .Name z pz] kt pt] (.Tuple [a, b, c] k2 pt2) pos) (sPar3 i j k ms) :=
  let ⟨_, a1, a2⟩ := ha; ⟨_, ps_asg (pe_tup a1) (pg_tup hc (pgs_cons (pg_name hN hi hx fx) (pgs_cons (pg_name hN hj hy fy) (pgs_cons (pg_name hN hk hz fz) pgs_nil)))) hs hw, ss_parC3 hPi hPj hPk a2⟩
end
def isX (x : Str) : Str → Option Bool := fun y => if y = x then some true else none
theorem isX_ok {K : PySem.W.Frag} {ct : Str → Addr} {x : Str} {c : Value} (h : PySem.W.exmOne K (.ref (ct x)) c = some true) : ∀ y b, isX x y = some b → PySem.W.exmOne K (.ref (ct y)) c = some b := fun y b e => by
  unfold isX at e
  split at e
  · cases e
    rename_i z
    rw [z]
    exact h
  · cases e
theorem lenN : AM.len aNil 0 := AM.len_nil
theorem lenC {m : OM} {ms : AM} {n : Nat} (h : AM.len ms n) : AM.len (aCons m ms) (n + 1) := AM.len_cons h
theorem nmem {i : Nat} {l : List Nat} (h : l.contains i = false) : i ∉ l := fun m => by
  rw [List.contains_iff_mem.mpr m] at h
  cases h
end PL
set_option maxRecDepth 100000
set_option maxHeartbeats 4000000
/-! The end: a law by the function of its def. -/
namespace PL
open PySem L2 PyProof.Rows PySem.W

/-- a law's promise: a list of at most 63 ints is handed in, True comes out -/
def spLaw (K : PySem.W.Frag) : Sp := fun vs H Q _ => ∃ (a : Addr) (ns : List Int), vs = [.ref a] ∧ SqL K H a (ns.map V.int) ∧ ns.length ≤ 63 ∧ ∀ v H', v = .bl true → Q v H'
def scr (ns : List Int) : LV := .dat (.slst (ns.map .int))
theorem repL_ints {R : RE} {F : Hp} : ∀ ns : List Int, RepL R F (ns.map D.int) (ns.map V.int)
  | [] => .nil
  | n :: ns => .cons (.int n) (repL_ints ns)
theorem sp_law {R : RE} {g : FM} (h : ∀ ns : List Int, ns.length ≤ 63 → ∃ lvs, g [scr ns] = .ret (.dat (.bl true)) lvs) : ∀ vs H Q E, spLaw R.K vs H Q E → spOf R 1 g vs H Q E := fun vs H Q E ⟨a, ns, e, sq, le, q⟩ => by
  subst e
  refine ⟨rfl, H, [scr ns], .refl H, ⟨rfl, fun i lv e n => ?_, fun i j lv lv' b h1 h2 o1 o2 s1 s2 => ?_⟩, ?_⟩
  · match i, e with
    | 0, e =>
      cases e
      exact ⟨.ref a, rfl, .dat (.slst sq (repL_ints ns))⟩
    | i + 1, e => simp at e
  · match i, h1 with
    | 0, h1 => cases h1; cases o1
    | i + 1, h1 => simp at h1
  · obtain ⟨lvs, e⟩ := h ns le
    rw [e]
    intro v F' H' _ _ lr _ _
    cases lr with
    | dat r => cases r; exact q _ _ rfl
theorem law_fn {B : Base} {k : Nat} {g : FM} {fa : Addr} {fd : FuncData} {oc : Value} {od : Option Addr} {sl : Array (Option Value)} (h : DJ B "law" k ["script"] g) (hm : B.mg "law" = some (.ref fa)) (lk : B.R.K.lookup fa = some ⟨oc, od, .func fd, sl⟩)
    (t : ∀ ns : List Int, ns.length ≤ 63 → ∃ lvs, g [scr ns] = .ret (.dat (.bl true)) lvs) : FnG B.P B.w B.R.K B.mg B.base k fa fd ["script"] (spLaw B.R.K) := by
  obtain ⟨f, fd', h2, _, _, ⟨_, _, _, h3⟩, h4⟩ := h
  have e : f = fa := by
    rw [h2] at hm
    cases hm
    rfl
  subst e
  rw [h3] at lk
  cases lk
  exact h4.imp (sp_law t)
theorem walk_end {l : PySem.W.OpenLaw} {k : Nat} {q : Program} {loose : List Str} {XP : (Str → Option Value) → Heap → Prop} {YP : World → Heap → Prop} {d : DefRec} {K : Params → PySem.W.Frag}
    (most : l.most = some 63) (nodef : d.params.defaults = []) (room : Room k callerA) (kin : ∀ (w : World) (h : Heap), YP w h → (K w.params).In h)
    (F : ∀ (w : World) (mg : Str → Option Value) (fa : Addr) (h : Heap), (K w.params).In h → h.Ns mainGlobals mg → mg d.name = some (.ref fa) →
      ∃ fd : FuncData, (∀ (t : Shared) (u : Value), BindsTo t fd ⟨[u], []⟩ [("script", u)]) ∧ ∀ bs : Heap, (K w.params).In bs → bs.Ns mainGlobals mg → FnG l.prog w (K w.params) mg bs k fa fd ["script"] (spLaw (K w.params))) :
    PySem.W.WalkO q loose XP YP l.row.toRowW d [] (fun f vs => PySem.call f vs) :=
  walk_in (n := 63) (sp := fun w => spLaw (K w.params)) most (by decide) nodef room kin F fun w H a ns le sq _ => ⟨a, ns, rfl, sq, le, fun v H' e => e⟩
/-- a def stands, as the top has written it -/
theorem defAt {B : Base} {h : Heap} {x : Str} {st : Stmt} {ps : List Str} {f : Addr} {oc : Value} {od an : Option Addr} {osl : Array (Option Value)} {kV doc pm cdv ct : Value} (X : B.R.K.In h) (G : h.Ns mainGlobals B.mg) (a : PySem.W.nsIn B.R.K mainGlobals x = some (some (.ref f)))
    (l : B.R.K.lookup f = some ⟨oc, od, .func (PySem.W.fnOf x x (defArgs st) (defBody st) (defScope st) .none kV doc pm an cdv ct), osl⟩) (c : PySem.W.codeIn B.R.K cdv x = true) (k : PySem.W.keepIn B.R.K (.ref f) = true)
    (hb : ∀ (kV doc pm : Value) (an : Option Addr) (cdv ct : Value) (us : List Value), us.length = ps.length → bindArgs (PySem.W.fnOf x x (defArgs st) (defBody st) (defScope st) .none kV doc pm an cdv ct) ⟨us, []⟩ = pure (ps.zip us)) : DefAt B x st ps :=
  have F := fun_mk (st := st) l c k
  ⟨f, _, F, PySem.W.mg_of X G a, F.binds hb⟩
/-- an own class of errors stands -/
theorem excAt {B : Base} {h : Heap} {x : Str} {C : Addr} (X : B.R.K.In h) (G : h.Ns mainGlobals B.mg) (e : B.R.ct x = C) (a : PySem.W.nsIn B.R.K mainGlobals x = some (some (.ref C))) (q : PySem.W.excIn B.R.K C [.type "ValueError", .type "Exception", .type "BaseException", .type "object"] "ValueError.__new__" = true)
    (k : PySem.W.keepIn B.R.K (.ref C) = true) (s : PySem.W.subIn B.R.K (.ref C) (.type "BaseException") = some true) (t : PySem.W.typeIn B.R.K (.ref C) = some (.type "type")) : ExcAt B x := by
  subst e
  exact ⟨q, PySem.W.mg_of X G a, k, s, t⟩
end PL
set_option maxRecDepth 100000
set_option maxHeartbeats 4000000
namespace Lw
open PySem PL
/-! _law_at -/
def m__law_at : SM :=
  sSeq (sFor (iAnyK (oVar 1)) (gmName 2) (sSet 0 (o2 (oVar 0) (o2 (oVar 2) (oC (.int 1)) fAdd) fIxA))) (sRet (oFrz (oVar 0)))
def g__law_at : FM := defM 3 [] m__law_at
/-! _law_kneaded -/
def m__law_kneaded : SM :=
  sSeq (sSet 2 (oC (.int 2305843009213693907))) (sSeq (sSet 3 (o2 (o2 (o2 (o2 (oVar 0) (oC (.int 2862933555777941757)) fMulA) (o2 (oVar 1) (oC (.int 3037000493)) fMulA) fAdd) (oC (.int 29)) fAdd) (oVar 2) fModI)) (sSeq (sFor (iRange1 (aCons (oC (.int 4)) (aNil))) (gmName 4) (sSet 3 (o2 (o2 (o2 (o2 (o2 (oVar 3) (oVar 3) fMulA) (o2 (oC (.int 11)) (oVar 3) fMulA) fAdd) (o2 (oC (.int 4099)) (oVar 4) fMulA) fAdd) (oVar 1) fAdd) (oVar 2) fModI))) (sRet (o2 (o2 (oVar 3) (oVar 2) fMulA) (o2 (o2 (o2 (oVar 3) (oC (.int 69621)) fMulA) (oVar 1) fAdd) (oVar 2) fModI) fAdd))))
def g__law_kneaded : FM := defM 5 [] m__law_kneaded
/-! _law_below -/
def m__law_below : SM :=
  sSeq (sIf (tOf (o2 (o2 (oVar 0) (oC (.int 3)) fIxA) (oVar 1) fLtI)) (sSeq (sPar2 2 3 (aCons (o2 (oVar 0) (oC (.int 0)) fIxA) (aCons (o2 (oVar 0) (oC (.int 1)) fIxA) (aNil)))) (sSeq (sSet 4 (oIf (tOf (o2 (oVar 2) (oOp (aNil) fLst) fNeA)) (o2 (oVar 2) (o2 (oVar 3) (oOp (aCons (oVar 2) (aNil)) fLenA) fModI) fIxA) (oC (.int 0)))) (sSeq (sIf (tmOr (tOf (o2 (oVar 3) (oOp (aCons (oVar 2) (aNil)) fLenA) fGeI)) (tOf (o2 (oVar 4) (o2 (oC (.int 10)) (oC (.int 16)) fPowI) fLtI))) (sSet 4 (oCall g__law_kneaded (aCons (oFrz (o2 (oOp (aCons (oVar 4) (aNil)) fInt) (oC (.int 982451629)) fModI)) (aCons (oFrz (oVar 3)) (aNil))))) (sNil)) (sSeq (sPut (o2 (oVar 3) (oC (.int 1)) fAdd) (oVar 0) (oC (.int 1)) stA) (sSeq (sPut (oVar 4) (oVar 0) (oC (.int 2)) stA) (sPut (oVar 4) (oVar 0) (oC (.int 3)) stA)))))) (sNil)) (sSeq (sSet 5 (o2 (oOp (aCons (o2 (oVar 0) (oC (.int 2)) fIxA) (aNil)) fInt) (oVar 1) fModI)) (sSeq (sPut (o2 (o2 (oVar 0) (oC (.int 2)) fIxA) (oVar 1) fDivI) (oVar 0) (oC (.int 2)) stA) (sSeq (sPut (o2 (o2 (oVar 0) (oC (.int 3)) fIxA) (oVar 1) fDivI) (oVar 0) (oC (.int 3)) stA) (sRet (oMove (oVar 5))))))
def g__law_below : FM := defM 6 [0] m__law_below
/-! _law_pick -/
def m__law_pick : SM :=
  sRet (o2 (oVar 1) (oCall g__law_below (aCons (oVar 0) (aCons (oFrz (oOp (aCons (oVar 1) (aNil)) fLenA)) (aNil)))) fIxA)
def g__law_pick : FM := defM 2 [0] m__law_pick
/-! _law_bent -/
def m__law_bent (g__law_bentn : FM) : SM :=
  sSeq (sSet 2 (oOp (aCons (oC .non) (aCons (oC (.bl true)) (aCons (oC (.bl false)) (aCons (oC (.int 0)) (aCons (oC (.int 1)) (aCons (oC (.int 2)) (aCons (oC (.int 3)) (aCons (oC (.str "")) (aCons (oC (.str "a")) (aCons (oC (.str "A")) (aCons (oC (.str "b2")) (aCons (oC (.str "zz")) (aCons (oC (.str "abcdefghi")) (aCons (oFrz (oOp (aNil) fTup)) (aCons (oFrz (oOp (aNil) fLst)) (aCons (oFrz (oNewK)) (aCons (oFrz (oOp (aCons (oC (.str "a")) (aNil)) fTup)) (aCons (oFrz (oOp (aCons (oC (.str "a")) (aCons (oFrz (oOp (aNil) fTup)) (aNil))) fTup)) (aCons (oFrz (oOp (aCons (oC (.int 0)) (aNil)) fTup)) (aNil)))))))))))))))))))) fLst)) (sSeq (sIf (tmAnd (tTru (oOp (aCons (oVar 1) (aCons (oC (.cst (.ty "dict"))) (aNil))) fIsiA)) (tmAnd (tOf (o2 (oVar 1) (oNewK) fNeA)) (tOf (o2 (oCall g__law_below (aCons (oVar 0) (aCons (oC (.int 5)) (aNil)))) (oC (.int 0)) fGtI)))) (sSeq (sPar3 3 4 5 (aCons (oOp (aCons (oVar 1) (aNil)) fListA) (aCons (oOp (aCons (oVar 1) (aNil)) (f1 gDictK)) (aCons (oCall g__law_below (aCons (oVar 0) (aCons (oC (.int 5)) (aNil)))) (aNil))))) (sSeq (sSet 6 (oCall g__law_pick (aCons (oVar 0) (aCons (oFrz (oVar 3)) (aNil))))) (sSeq (sIf (tOf (o2 (oVar 5) (oC (.int 0)) fEqA)) (sExpr (oMu "dict" (oVar 4) (aCons (oFrz (oVar 6)) (aNil)) mPopK)) (sIf (tOf (o2 (oVar 5) (oC (.int 1)) fEqA)) (sPut (o2 (oVar 1) (oVar 6) fIxA) (oVar 4) (oCall g__law_pick (aCons (oVar 0) (aCons (oFrz (oOp (aCons (oC (.str "zz")) (aCons (oC (.str "A")) (aCons (oC (.int 1)) (aCons (oC (.str "")) (aCons (oC (.str "b2")) (aNil)))))) fLst)) (aNil)))) stA) (sPut (oCall g__law_bentn (aCons (oVar 0) (aCons (oFrz (o2 (oVar 1) (oVar 6) fIxA)) (aNil)))) (oVar 4) (oVar 6) stA))) (sRet (oMove (oVar 4)))))) (sNil)) (sSeq (sIf (tmAnd (tTru (oOp (aCons (oVar 1) (aCons (oOp (aCons (oFrz (oC (.cst (.ty "tuple")))) (aCons (oFrz (oC (.cst (.ty "list")))) (aNil))) fTup) (aNil))) fIsiA)) (tmAnd (tOf (o2 (oOp (aCons (oVar 1) (aNil)) fLenA) (oC (.int 0)) fGtI)) (tOf (o2 (oCall g__law_below (aCons (oVar 0) (aCons (oC (.int 5)) (aNil)))) (oC (.int 0)) fGtI)))) (sSeq (sPar3 6 5 7 (aCons (oCall g__law_below (aCons (oVar 0) (aCons (oFrz (oOp (aCons (oVar 1) (aNil)) fLenA)) (aNil)))) (aCons (oCall g__law_below (aCons (oVar 0) (aCons (oC (.int 7)) (aNil)))) (aCons (oOp (aCons (oVar 1) (aNil)) fListA) (aNil))))) (sSeq (sIf (tOf (o2 (oVar 5) (oC (.int 0)) fEqA)) (sExpr (oMu "list" (oVar 7) (aCons (oFrz (oVar 6)) (aNil)) mPop)) (sIf (tOf (o2 (oVar 5) (oC (.int 1)) fEqA)) (sSet 7 (o2 (oSl (oVar 7) (pNone) (pSome (o2 (oVar 6) (oC (.int 1)) fAdd)) slA) (oSl (oVar 7) (pSome (oVar 6)) (pNone) slA) fAdd)) (sIf (tOf (o2 (oVar 5) (oC (.int 2)) fEqA)) (sPut (oCall g__law_pick (aCons (oVar 0) (aCons (oFrz (oVar 2)) (aNil)))) (oVar 7) (oVar 6) stA) (sPut (oCall g__law_bentn (aCons (oVar 0) (aCons (oFrz (o2 (oVar 1) (oVar 6) fIxA)) (aNil)))) (oVar 7) (oVar 6) stA)))) (sRet (oIf (tmOr (tTru (oOp (aCons (oVar 1) (aCons (oC (.cst (.ty "list"))) (aNil))) fIsiA)) (tOf (o2 (oCall g__law_below (aCons (oVar 0) (aCons (oC (.int 30)) (aNil)))) (oC (.int 0)) fEqA))) (oMove (oVar 7)) (oOp (aCons (oVar 7) (aNil)) fTuple))))) (sNil)) (sSeq (sIf (tmAnd (tTru (oOp (aCons (oVar 1) (aCons (oC (.cst (.ty "int"))) (aNil))) fIsiA)) (tmAnd (tmNot (tTru (oOp (aCons (oVar 1) (aCons (oC (.cst (.ty "bool"))) (aNil))) fIsiA))) (tOf (o2 (oCall g__law_below (aCons (oVar 0) (aCons (oC (.int 2)) (aNil)))) (oC (.int 0)) fEqA)))) (sRet (oCall g__law_pick (aCons (oVar 0) (aCons (oFrz (oOp (aCons (oFrz (o2 (oC (.int 0)) (oVar 1) fSubI)) (aCons (oFrz (o2 (oVar 1) (oC (.int 1)) fAdd)) (aCons (oFrz (o2 (oVar 1) (oC (.int 1)) fSubI)) (aCons (oFrz (o2 (oC (.int 10)) (oC (.int 6)) fPowI)) (aCons (oFrz (o2 (o2 (oC (.int 10)) (oC (.int 6)) fPowI) (oC (.int 1)) fAdd)) (aCons (oFrz (o2 (oVar 1) (o2 (oC (.int 10)) (oC (.int 6)) fPowI) fMulA)) (aNil))))))) fLst)) (aNil))))) (sNil)) (sRet (oCall g__law_pick (aCons (oVar 0) (aCons (oFrz (oVar 2)) (aNil))))))))
def g__law_bent : Nat → FM
  | 0 => fun _ => .bad
  | n + 1 => defM 8 [0] (m__law_bent (g__law_bent n))
/-! _law_full_schema -/
def m__law_full_schema : SM :=
  sSeq (sPar3 1 2 3 (aCons (oSl (oOp (aCons (oC (.str "root")) (aCons (oC (.str "b2")) (aCons (oC (.str "c")) (aNil)))) fLst) (pNone) (pSome (o2 (oC (.int 1)) (oCall g__law_below (aCons (oVar 0) (aCons (oC (.int 3)) (aNil)))) fAdd)) slA) (aCons (oNewK) (aCons (oC (.int 0)) (aNil))))) (sSeq (sFor (iAnyK (oVar 1)) (gmName 4) (sSeq (sSet 5 (oOp (aCons (oFrz (oOp (aCons (oFrz (o2 (oC (.str "t")) (oOp (aCons (oVar 3) (aNil)) (f1 gStrN)) fAdd)) (aCons (oFrz (oOp (aNil) fTup)) (aNil))) fTup)) (aNil)) fLst)) (sSeq (sFor (iRange1 (aCons (oCall g__law_pick (aCons (oVar 0) (aCons (oFrz (oOp (aCons (oC (.int 1)) (aCons (oC (.int 1)) (aCons (oC (.int 2)) (aCons (oC (.int 2)) (aNil))))) fLst)) (aNil)))) (aNil))) (gmName 6) (sSeq (sSet 3 (o2 (oVar 3) (oC (.int 1)) fAdd)) (sSeq (sSet 7 (oCall g__law_pick (aCons (oVar 0) (aCons (oFrz (oOp (aCons (oC (.int 0)) (aCons (oC (.int 1)) (aCons (oC (.int 2)) (aCons (oC (.int 2)) (aCons (oC (.int 3)) (aNil)))))) fLst)) (aNil))))) (sExpr (oMu "list" (oVar 5) (aCons (oFrz (oOp (aCons (oFrz (o2 (oC (.str "t")) (oOp (aCons (oVar 3) (aNil)) (f1 gStrN)) fAdd)) (aCons (oFrz (oOp (aCons (oLc (iRange1 (aCons (oVar 7) (aNil))) (gmName 9) (tYesM) (oCall g__law_pick (aCons (oVar 0) (aCons (oFrz (oVar 1)) (aNil)))) [9]) (aNil)) fTuple)) (aNil))) fTup)) (aNil)) mAppend))))) (sSeq (sPar2 3 8 (aCons (o2 (oVar 3) (oC (.int 1)) fAdd) (aCons (oCall g__law_below (aCons (oVar 0) (aCons (oFrz (oOp (aCons (oVar 5) (aNil)) fLenA)) (aNil)))) (aNil)))) (sPut (oOp (aCons (o2 (oSl (oVar 5) (pSome (oVar 8)) (pNone) slA) (oSl (oVar 5) (pNone) (pSome (oVar 8)) slA) fAdd) (aNil)) fTuple) (oVar 2) (oVar 4) stA))))) (sRet (oMove (oVar 2))))
def g__law_full_schema : FM := defM 10 [0] m__law_full_schema
/-! _law_paths -/
def m__law_paths (g__law_pathsn : FM) : SM :=
  sSeq (sSet 1 (oOp (aCons (oFrz (oOp (aNil) fTup)) (aNil)) fLst)) (sSeq (sFor (iEnumA (oSl (oVar 0) (pSome (oC (.int 1))) (pNone) slA)) (gmTup 2 (gmCons (gmName 2) (gmCons (gmName 3) (gmNil)))) (sSet 1 (o2 (oVar 1) (oLc (iAnyK (oCall g__law_pathsn (aCons (oFrz (oVar 3)) (aNil)))) (gmName 4) (tYesM) (o2 (oOp (aCons (oFrz (oVar 2)) (aNil)) fTup) (oVar 4) fAdd) [4]) fAdd))) (sRet (oMove (oVar 1))))
def g__law_paths : Nat → FM
  | 0 => fun _ => .bad
  | n + 1 => defM 5 [] (m__law_paths (g__law_paths n))
/-! _law_is_path -/
def m__law_is_path : SM :=
  sSeq (sIf (tmNot (tTru (oOp (aCons (oVar 1) (aCons (oC (.cst (.ty "tuple"))) (aNil))) fIsiA))) (sRet (oC (.bl false))) (sNil)) (sSeq (sIf (tOf (o2 (oLc (iAnyK (oVar 1)) (gmName 2) (tmOr (tmNot (tTru (oOp (aCons (oVar 2) (aCons (oC (.cst (.ty "int"))) (aNil))) fIsiA))) (tTru (oOp (aCons (oVar 2) (aCons (oC (.cst (.ty "bool"))) (aNil))) fIsiA))) (oVar 2) [2]) (oOp (aNil) fLst) fNeA)) (sRet (oC (.bl false))) (sNil)) (sRet (o2 (oVar 1) (oCall (g__law_paths 20) (aCons (oFrz (oVar 0)) (aNil))) fInA)))
def g__law_is_path : FM := defM 3 [] m__law_is_path
/-! _law_is_tree -/
def m__law_is_tree (g__law_is_treen : FM) : SM :=
  sSeq (sIf (tmOr (tmNot (tTru (oOp (aCons (oVar 2) (aCons (oC (.cst (.ty "tuple"))) (aNil))) fIsiA))) (tmOr (tOf (o2 (oOp (aCons (oVar 2) (aNil)) fLenA) (oC (.int 0)) fEqA)) (tmNot (tTru (oOp (aCons (o2 (oVar 2) (oC (.int 0)) fIxA) (aCons (oC (.cst (.ty "str"))) (aNil))) fIsiA))))) (sRet (oC (.bl false))) (sNil)) (sSeq (sFor (iAnyK (o2 (oVar 0) (oVar 1) fIxA)) (gmTup 2 (gmCons (gmName 3) (gmCons (gmName 4) (gmNil)))) (sIf (tOf (o2 (oVar 3) (o2 (oVar 2) (oC (.int 0)) fIxA) fEqA)) (sSeq (sIf (tOf (o2 (oOp (aCons (oVar 2) (aNil)) fLenA) (o2 (oC (.int 1)) (oOp (aCons (oVar 4) (aNil)) fLenA) fAdd) fNeA)) (sRet (oC (.bl false))) (sNil)) (sSeq (sSet 5 (oLc (iZipM (aCons (oFrz (oVar 4)) (aCons (oFrz (oSl (oVar 2) (pSome (oC (.int 1))) (pNone) slA)) (aNil)))) (gmTup 2 (gmCons (gmName 6) (gmCons (gmName 7) (gmNil)))) (tYesM) (oCall g__law_is_treen (aCons (oFrz (oVar 0)) (aCons (oFrz (oVar 6)) (aCons (oFrz (oVar 7)) (aNil))))) [6, 7])) (sRet (o2 (oC (.bl false)) (oVar 5) fNiA)))) (sNil))) (sRet (oC (.bl false))))
def g__law_is_tree : Nat → FM
  | 0 => fun _ => .bad
  | n + 1 => defM 8 [] (m__law_is_tree (g__law_is_tree n))
/-! _law_pot_of -/
def m__law_pot_of : SM :=
  sSeq (sSet 1 (oLc (iAnyK (oSl (oVar 0) (pNone) (pSome (oC (.int 17))) slA)) (gmName 3) (tYesM) (oOp (aCons (oVar 3) (aNil)) fAbs) [3])) (sSeq (sFor (iEnumA (oSl (oVar 0) (pSome (oC (.int 17))) (pSome (oC (.int 60))) slA)) (gmTup 2 (gmCons (gmName 2) (gmCons (gmName 3) (gmNil)))) (sPut (o2 (o2 (oVar 1) (o2 (oVar 2) (oC (.int 17)) fModI) fIxA) (oOp (aCons (oVar 3) (aNil)) fAbs) fAdd) (oVar 1) (o2 (oVar 2) (oC (.int 17)) fModI) stA)) (sRet (oOp (aCons (oFrz (oVar 1)) (aCons (oC (.int 0)) (aCons (oC (.int 0)) (aCons (oC (.int 0)) (aNil))))) fLst)))
def g__law_pot_of : FM := defM 4 [] m__law_pot_of
/-! is_integer -/
def m_is_integer : SM :=
  sRet (oAnd (oOp (aCons (oVar 0) (aCons (oC (.cst (.ty "int"))) (aNil))) fIsiA) (oNot (oOp (aCons (oVar 0) (aCons (oC (.cst (.ty "bool"))) (aNil))) fIsiA)))
def g_is_integer : FM := defM 1 [] m_is_integer
/-! part_at -/
def m_part_at : SM :=
  sSeq (sIf (tmNot (tTru (oOp (aCons (oVar 1) (aCons (oC (.cst (.ty "tuple"))) (aNil))) fIsiA))) (sRaise "NoPath") (sNil)) (sSeq (sFor (iAnyK (oVar 1)) (gmName 2) (sSeq (sIf (tmOr (tmNot (tTru (oCall g_is_integer (aCons (oFrz (oVar 2)) (aNil))))) (tmNot (tOf (oChain (oC (.int 0)) (oVar 2) (o2 (oOp (aCons (oVar 0) (aNil)) fLenA) (oC (.int 1)) fSubI) fLeI fLtI)))) (sRaise "NoPath") (sNil)) (sSet 0 (o2 (oVar 0) (o2 (oVar 2) (oC (.int 1)) fAdd) fIxA)))) (sRet (oFrz (oVar 0))))
def g_part_at : FM := defM 3 [] m_part_at
/-! put_at -/
def m_put_at (g_put_atn : FM) : SM :=
  sSeq (sExpr (oCall g_part_at (aCons (oFrz (oVar 0)) (aCons (oFrz (oVar 1)) (aNil))))) (sSeq (sIf (tOf (o2 (oVar 1) (oOp (aNil) fTup) fEqA)) (sRet (oFrz (oVar 2))) (sNil)) (sSeq (sStar 3 4 (oVar 1)) (sRet (o2 (o2 (oSl (oVar 0) (pNone) (pSome (o2 (oVar 3) (oC (.int 1)) fAdd)) slA) (oOp (aCons (oFrz (oCall g_put_atn (aCons (oFrz (o2 (oVar 0) (o2 (oVar 3) (oC (.int 1)) fAdd) fIxA)) (aCons (oFrz (oOp (aCons (oVar 4) (aNil)) fTuple)) (aCons (oFrz (oVar 2)) (aNil)))))) (aNil)) fTup) fAdd) (oSl (oVar 0) (pSome (o2 (oVar 3) (oC (.int 2)) fAdd)) (pNone) slA) fAdd))))
def g_put_at : Nat → FM
  | 0 => fun _ => .bad
  | n + 1 => defM 5 [] (m_put_at (g_put_at n))
/-! _law_refused -/
def m__law_refused : SM :=
  sSeq (sSet 3 (oC .non)) (sSeq (sTry (isX "NoPath") 4 (sIf (tOf (o2 (oVar 0) (oC (.int 0)) fEqA)) (sExpr (oCall g_part_at (aCons (oFrz (oVar 1)) (aCons (oFrz (oVar 2)) (aNil))))) (sExpr (oCall (g_put_at 20) (aCons (oFrz (oVar 1)) (aCons (oFrz (oVar 2)) (aCons (oFrz (oOp (aCons (oC (.str "t0")) (aNil)) fTup)) (aNil))))))) (sSet 3 (oFrz (oVar 4)))) (sRet (o2 (oVar 3) (oC .non) fNt)))
def g__law_refused : FM := defM 5 [] m__law_refused
/-! _law_size -/
def m__law_size (g__law_sizen : FM) : SM :=
  sRet (o2 (oC (.int 1)) (oOp (aCons (oLc (iAnyK (oSl (oVar 0) (pSome (oC (.int 1))) (pNone) slA)) (gmName 1) (tYesM) (oCall g__law_sizen (aCons (oFrz (oVar 1)) (aNil))) [1]) (aNil)) (f1 gSum)) fAdd)
def g__law_size : Nat → FM
  | 0 => fun _ => .bad
  | n + 1 => defM 2 [] (m__law_size (g__law_size n))
/-! _law_some_tree -/
def m__law_some_tree (g__law_some_treen : FM) : SM :=
  sSeq (sSet 4 (oLc (iAnyK (o2 (oVar 1) (oVar 2) fIxA)) (gmName 7) (tmOr (tOf (o2 (o2 (oVar 7) (oC (.int 1)) fIxA) (oOp (aNil) fTup) fEqA)) (tOf (o2 (oVar 3) (oC (.int 1)) fGtI))) (oVar 7) [7])) (sSeq (sTgt (gmTup 2 (gmCons (gmName 5) (gmCons (gmName 6) (gmNil)))) (oCall g__law_pick (aCons (oVar 0) (aCons (oFrz (oVar 4)) (aNil))))) (sRet (o2 (oOp (aCons (oFrz (oVar 5)) (aNil)) fTup) (oOp (aCons (oLc (iAnyK (oVar 6)) (gmName 8) (tYesM) (oCall g__law_some_treen (aCons (oVar 0) (aCons (oFrz (oVar 1)) (aCons (oFrz (oVar 8)) (aCons (oFrz (o2 (oVar 3) (oC (.int 1)) fSubI)) (aNil)))))) [8]) (aNil)) fTuple) fAdd)))
def g__law_some_tree : Nat → FM
  | 0 => fun _ => .bad
  | n + 1 => defM 9 [0] (m__law_some_tree (g__law_some_tree n))
/-! _law_with -/
def m__law_with (g__law_withn : FM) : SM :=
  sSeq (sIf (tOf (o2 (oVar 1) (oOp (aNil) fTup) fEqA)) (sRet (oFrz (oVar 2))) (sNil)) (sSeq (sSet 3 (oOp (aCons (oVar 0) (aNil)) fListA)) (sSeq (sPut (oCall g__law_withn (aCons (oFrz (o2 (oVar 0) (o2 (o2 (oVar 1) (oC (.int 0)) fIxA) (oC (.int 1)) fAdd) fIxA)) (aCons (oFrz (oSl (oVar 1) (pSome (oC (.int 1))) (pNone) slA)) (aCons (oFrz (oVar 2)) (aNil))))) (oVar 3) (o2 (o2 (oVar 1) (oC (.int 0)) fIxA) (oC (.int 1)) fAdd) stA) (sRet (oOp (aCons (oVar 3) (aNil)) fTuple))))
def g__law_with : Nat → FM
  | 0 => fun _ => .bad
  | n + 1 => defM 4 [] (m__law_with (g__law_with n))
/-! children_of -/
def m_children_of : SM :=
  sSeq (sFor (iDic valsL (oVar 0)) (gmName 2) (sFor (iAnyK (oVar 2)) (gmTup 2 (gmCons (gmName 3) (gmCons (gmName 4) (gmNil)))) (sIf (tOf (o2 (oVar 3) (oVar 1) fEqA)) (sRet (oMove (oVar 4))) (sNil)))) (sRet (oC .non))
def g_children_of : FM := defM 5 [] m_children_of
/-! kind_of -/
def m_kind_of : SM :=
  sSeq (sFor (iDic itemsL (oVar 0)) (gmTup 2 (gmCons (gmName 2) (gmCons (gmName 3) (gmNil)))) (sIf (tOf (o2 (oVar 1) (oLc (iAnyK (oVar 3)) (gmName 4) (tYesM) (o2 (oVar 4) (oC (.int 0)) fIxA) [4]) fInA)) (sRet (oMove (oVar 2))) (sNil))) (sRet (oC .non))
def g_kind_of : FM := defM 5 [] m_kind_of
/-! is_tree -/
def m_is_tree (g_is_treen : FM) : SM :=
  sSeq (sIf (tmOr (tmNot (tTru (oOp (aCons (oVar 2) (aCons (oC (.cst (.ty "tuple"))) (aNil))) fIsiA))) (tmOr (tOf (o2 (oVar 2) (oOp (aNil) fTup) fEqA)) (tmNot (tTru (oOp (aCons (o2 (oVar 2) (oC (.int 0)) fIxA) (aCons (oC (.cst (.ty "str"))) (aNil))) fIsiA))))) (sRet (oC (.bl false))) (sNil)) (sSeq (sIf (tOf (o2 (oCall g_kind_of (aCons (oFrz (oVar 0)) (aCons (oFrz (o2 (oVar 2) (oC (.int 0)) fIxA)) (aNil)))) (oVar 1) fNeA)) (sRet (oC (.bl false))) (sNil)) (sSeq (sSet 3 (oCall g_children_of (aCons (oFrz (oVar 0)) (aCons (oFrz (o2 (oVar 2) (oC (.int 0)) fIxA)) (aNil))))) (sSeq (sIf (tOf (o2 (oOp (aCons (oVar 2) (aNil)) fLenA) (o2 (oOp (aCons (oVar 3) (aNil)) fLenA) (oC (.int 1)) fAdd) fNeA)) (sRet (oC (.bl false))) (sNil)) (sRet (oOp (aCons (oLc (iZipM (aCons (oFrz (oVar 3)) (aCons (oFrz (oSl (oVar 2) (pSome (oC (.int 1))) (pNone) slA)) (aNil)))) (gmTup 2 (gmCons (gmName 4) (gmCons (gmName 5) (gmNil)))) (tYesM) (oCall g_is_treen (aCons (oFrz (oVar 0)) (aCons (oFrz (oVar 4)) (aCons (oFrz (oVar 5)) (aNil))))) [4, 5]) (aNil)) fAll)))))
def g_is_tree : Nat → FM
  | 0 => fun _ => .bad
  | n + 1 => defM 6 [] (m_is_tree (g_is_tree n))
/-! paths -/
def m_paths (g_pathsn : FM) : SM :=
  sSeq (sSet 1 (oOp (aCons (oFrz (oOp (aNil) fTup)) (aNil)) fLst)) (sSeq (sFor (iEnumA (oSl (oVar 0) (pSome (oC (.int 1))) (pNone) slA)) (gmTup 2 (gmCons (gmName 2) (gmCons (gmName 3) (gmNil)))) (sExpr (oMu "list" (oVar 1) (aCons (oFrz (oLc (iAnyK (oCall g_pathsn (aCons (oFrz (oVar 3)) (aNil)))) (gmName 4) (tYesM) (o2 (oOp (aCons (oFrz (oVar 2)) (aNil)) fTup) (oVar 4) fAdd) [4])) (aNil)) mExtend))) (sRet (oMove (oVar 1))))
def g_paths : Nat → FM
  | 0 => fun _ => .bad
  | n + 1 => defM 5 [] (m_paths (g_paths n))
/-! size_of -/
def m_size_of (g_size_ofn : FM) : SM :=
  sRet (o2 (oC (.int 1)) (oOp (aCons (oLc (iAnyK (oSl (oVar 0) (pSome (oC (.int 1))) (pNone) slA)) (gmName 1) (tYesM) (oCall g_size_ofn (aCons (oFrz (oVar 1)) (aNil))) [1]) (aNil)) (f1 gSum)) fAdd)
def g_size_of : Nat → FM
  | 0 => fun _ => .bad
  | n + 1 => defM 2 [] (m_size_of (g_size_of n))
/-! law -/
def m_law : SM :=
  sSeq (sSet 1 (oCall g__law_pot_of (aCons (oFrz (oVar 0)) (aNil)))) (sSeq (sFor (iRange1 (aCons (oC (.int 7)) (aNil))) (gmName 2) (sSeq (sSet 3 (oCall g__law_full_schema (aCons (oVar 1) (aNil)))) (sSeq (sSet 4 (oCall g__law_pick (aCons (oVar 1) (aCons (oFrz (oOp (aCons (oVar 3) (aNil)) fListA)) (aNil))))) (sSeq (sPar2 5 6 (aCons (oCall (g__law_some_tree 20) (aCons (oVar 1) (aCons (oFrz (oVar 3)) (aCons (oFrz (oVar 4)) (aCons (oC (.int 4)) (aNil)))))) (aCons (oCall (g__law_some_tree 20) (aCons (oVar 1) (aCons (oFrz (oVar 3)) (aCons (oFrz (oVar 4)) (aCons (oC (.int 3)) (aNil)))))) (aNil)))) (sSeq (sPar2 7 8 (aCons (oOp (aCons (oFrz (oVar 5)) (aCons (oC .non) (aCons (oFrz (oOp (aNil) fTup)) (aCons (oFrz (oOp (aCons (oC (.str "t0")) (aNil)) fTup)) (aCons (oFrz (oSl (oVar 5) (pNone) (pSome (oC (.int 1))) slA)) (aCons (oFrz (oOp (aCons (oVar 5) (aNil)) fListA)) (aCons (oC (.str "t0")) (aNil)))))))) fLst) (aCons (oCall (g__law_paths 20) (aCons (oFrz (oVar 5)) (aNil))) (aNil)))) (sSeq (sSet 9 (oOp (aCons (oFrz (oOp (aCons (oFrz (oVar 3)) (aCons (oFrz (oVar 5)) (aNil))) fLst)) (aNil)) (f1 gRepr))) (sSeq (sFor (iRange1 (aCons (oC (.int 6)) (aNil))) (gmName 10) (sExpr (oMu "list" (oVar 7) (aCons (oFrz (oCall (g__law_bent 20) (aCons (oVar 1) (aCons (oFrz (oCall g__law_pick (aCons (oVar 1) (aCons (oFrz (oOp (aCons (oFrz (oVar 5)) (aCons (oFrz (o2 (oVar 7) (o1 (oC (.int 1)) fNegI) fIxA)) (aNil))) fLst)) (aNil))))) (aNil))))) (aNil)) mAppend))) (sSeq (sFor (iAnyK (oVar 7)) (gmName 11) (sFor (iAnyK (oVar 3)) (gmName 12) (sIf (tOf (o2 (oOp (aCons (oFrz (oCall (g_is_tree 20) (aCons (oFrz (oVar 3)) (aCons (oFrz (oVar 12)) (aCons (oFrz (oVar 11)) (aNil)))))) (aNil)) (f1 gRepr)) (oOp (aCons (oFrz (oCall (g__law_is_tree 20) (aCons (oFrz (oVar 3)) (aCons (oFrz (oVar 12)) (aCons (oFrz (oVar 11)) (aNil)))))) (aNil)) (f1 gRepr)) fNeA)) (sRet (oC (.bl false))) (sNil)))) (sSeq (sIf (tmOr (tOf (o2 (oCall (g_size_of 20) (aCons (oFrz (oVar 5)) (aNil))) (oCall (g__law_size 20) (aCons (oFrz (oVar 5)) (aNil))) fNeA)) (tOf (o2 (oCall (g_paths 20) (aCons (oFrz (oVar 5)) (aNil))) (oVar 8) fNeA))) (sRet (oC (.bl false))) (sNil)) (sSeq (sFor (iAnyK (o2 (oSl (oVar 8) (pNone) (pSome (oC (.int 6))) slA) (oSl (oVar 8) (pSome (o1 (oC (.int 4)) fNegI)) (pNone) slA) fAdd)) (gmName 13) (sIf (tmOr (tOf (o2 (oCall g_part_at (aCons (oFrz (oVar 5)) (aCons (oFrz (oVar 13)) (aNil)))) (oCall g__law_at (aCons (oFrz (oVar 5)) (aCons (oFrz (oVar 13)) (aNil)))) fNeA)) (tOf (o2 (oCall (g_put_at 20) (aCons (oFrz (oVar 5)) (aCons (oFrz (oVar 13)) (aCons (oFrz (oVar 6)) (aNil))))) (oCall (g__law_with 20) (aCons (oFrz (oVar 5)) (aCons (oFrz (oVar 13)) (aCons (oFrz (oVar 6)) (aNil))))) fNeA))) (sRet (oC (.bl false))) (sNil))) (sSeq (sSet 14 (oOp (aCons (oC .non) (aCons (oFrz (oOp (aNil) fLst)) (aCons (oC (.str "")) (aCons (oC (.int 0)) (aCons (oFrz (oOp (aCons (oC (.bl true)) (aNil)) fTup)) (aCons (oFrz (oOp (aCons (oC (.int 0)) (aCons (oC (.bl true)) (aNil))) fTup)) (aCons (oFrz (oOp (aCons (oC (.int 9)) (aNil)) fTup)) (aCons (oFrz (oOp (aCons (oFrz (o2 (oC (.int 0)) (oC (.int 1)) fSubI)) (aNil)) fTup)) (aCons (oFrz (oOp (aCons (oC (.str "0")) (aNil)) fTup)) (aCons (oFrz (o2 (oOp (aCons (oC (.int 0)) (aNil)) fTup) (oC (.int 9)) fMulA)) (aCons (oFrz (oOp (aCons (oC .non) (aNil)) fTup)) (aCons (oFrz (oOp (aCons (oFrz (oOp (aCons (oC (.int 0)) (aNil)) fTup)) (aNil)) fTup)) (aCons (oFrz (oOp (aCons (oC (.int 0)) (aNil)) fLst)) (aNil)))))))))))))) fLst)) (sSeq (sFor (iAnyK (o2 (oVar 14) (oLc (iRange1 (aCons (oC (.int 8)) (aNil))) (gmName 10) (tYesM) (oCall (g__law_bent 20) (aCons (oVar 1) (aCons (oFrz (oCall g__law_pick (aCons (oVar 1) (aCons (oFrz (oVar 8)) (aNil))))) (aNil)))) [10]) fAdd)) (gmName 13) (sIf (tOf (o2 (oLc (iRange1 (aCons (oC (.int 2)) (aNil))) (gmName 15) (tOf (o2 (oCall g__law_refused (aCons (oFrz (oVar 15)) (aCons (oFrz (oVar 5)) (aCons (oFrz (oVar 13)) (aNil))))) (oCall g__law_is_path (aCons (oFrz (oVar 5)) (aCons (oFrz (oVar 13)) (aNil)))) fEqA)) (oVar 15) [15]) (oOp (aNil) fLst) fNeA)) (sRet (oC (.bl false))) (sNil))) (sIf (tOf (o2 (oOp (aCons (oFrz (oOp (aCons (oFrz (oVar 3)) (aCons (oFrz (oVar 5)) (aNil))) fLst)) (aNil)) (f1 gRepr)) (oVar 9) fNeA)) (sRet (oC (.bl false))) (sNil)))))))))))))) (sRet (oC (.bl true))))
def g_law : FM := defM 16 [] m_law
end Lw
set_option maxRecDepth 100000
set_option maxHeartbeats 1000000
namespace Lw
open PySem PL
abbrev li (i : Int) : LV := .dat (.int i)
theorem mul_ok {i j : Int} (h : cMulB i j = true) : fMulA [li i, li j] = some (li (i * j)) := by
  simp [fMulA, fOr, fMul, fMulI, f2, gI, h]
theorem mul_c {i j : Int} (h : -(2 ^ 64) < i ∧ i < 2 ^ 64 ∨ -(2 ^ 64) < j ∧ j < 2 ^ 64) : cMulB i j = true := by
  unfold cMulB
  simp only [Bool.or_eq_true, decide_eq_true_eq]
  exact .inl h
theorem fm0 (i : Int) {p : Int} (h : 0 < p) : 0 ≤ i.fmod p := by
  rw [Int.fmod_eq_emod_of_nonneg _ (Int.le_of_lt h)]
  exact Int.emod_nonneg _ (by omega)
theorem mod_ok {i j : Int} (h : j ≠ 0) : fModI [li i, li j] = some (li (i.fmod j)) := by simp [fModI, f2, gI, h]
theorem add_ok {i j : Int} : fAdd [li i, li j] = some (li (i + j)) := by simp [fAdd, fOr, fAddI, f2, gI, cT]
def KP : Int := 2305843009213693907
def knBody : SM := sSet 3 (o2 (o2 (o2 (o2 (o2 (oVar 3) (oVar 3) fMulA) (o2 (oC (.int 11)) (oVar 3) fMulA) fAdd) (o2 (oC (.int 4099)) (oVar 4) fMulA) fAdd) (oVar 1) fAdd) (oVar 2) fModI)
theorem kn_step (a b x k : Int) (h0 : 0 ≤ x) (h1 : x < KP) : ∃ x', knBody [li a, li b, li KP, li x, li k] = .nx [li a, li b, li KP, li x', li k] ∧ 0 ≤ x' ∧ x' < KP := by
  have m1 : fMulA [li x, li x] = some (li (x * x)) := mul_ok (mul_c (.inl (by unfold KP at h1; omega)))
  have m2 : fMulA [li 11, li x] = some (li (11 * x)) := mul_ok (mul_c (.inl (by omega)))
  have m3 : fMulA [li 4099, li k] = some (li (4099 * k)) := mul_ok (mul_c (.inl (by omega)))
  have m4 : ∀ i, fModI [li i, li KP] = some (li (i.fmod KP)) := fun i => mod_ok (by decide)
  refine ⟨(x * x + 11 * x + 4099 * k + b).fmod KP, ?_, fm0 _ (by decide), Int.fmod_lt_of_pos _ (by decide)⟩
  simp [knBody, sSet, o2, oOp, aCons, aNil, gets, Rf.get, oVar, oC, LV.ok, m1, m2, m3, m4, add_ok]
theorem kn_loop (a b : Int) : ∀ (ds : List Int) (x : Int) (t : LV), 0 ≤ x → x < KP → ∃ x' t', forD (gmName 4) knBody (ds.map .int) [li a, li b, li KP, li x, t] = .nx [li a, li b, li KP, li x', t'] ∧ 0 ≤ x' ∧ x' < KP
  | [], x, t, h0, h1 => ⟨x, t, rfl, h0, h1⟩
  | d :: ds, x, t, h0, h1 => by
    obtain ⟨x1, e1, h2, h3⟩ := kn_step a b x d h0 h1
    obtain ⟨x2, t2, e2, h4, h5⟩ := kn_loop a b ds x1 (li d) h2 h3
    refine ⟨x2, t2, ?_, h4, h5⟩
    simp only [List.map_cons, forD, gmName, List.set]
    rw [e1]
    exact e2
theorem kneaded (a b : Int) : ∃ r, g__law_kneaded [li a, li b] = .ret (li r) [li a, li b] ∧ 0 ≤ r := by
  obtain ⟨x', t', e, h0, h1⟩ := kn_loop a b [0, 1, 2, 3] ((a * 2862933555777941757 + b * 3037000493 + 29).fmod KP) .un (fm0 _ (by decide)) (Int.fmod_lt_of_pos _ (by decide))
  have m1 : ∀ x : Int, fMulA [li x, li 2862933555777941757] = some (li (x * 2862933555777941757)) := fun x => mul_ok (mul_c (.inr (by omega)))
  have m2 : ∀ x : Int, fMulA [li x, li 3037000493] = some (li (x * 3037000493)) := fun x => mul_ok (mul_c (.inr (by omega)))
  have m3 : ∀ x : Int, fMulA [li x, li KP] = some (li (x * KP)) := fun x => mul_ok (mul_c (.inr (by unfold KP; omega)))
  have m4 : ∀ i, fModI [li i, li KP] = some (li (i.fmod KP)) := fun i => mod_ok (by decide)
  have m5 : ∀ x : Int, fMulA [li x, li 69621] = some (li (x * 69621)) := fun x => mul_ok (mul_c (.inr (by omega)))
  refine ⟨x' * KP + (x' * 69621 + b).fmod KP, ?_, ?_⟩
  · have hb : m__law_kneaded = sSeq (sSet 2 (oC (.int KP))) (sSeq (sSet 3 (o2 (o2 (o2 (o2 (oVar 0) (oC (.int 2862933555777941757)) fMulA) (o2 (oVar 1) (oC (.int 3037000493)) fMulA) fAdd) (oC (.int 29)) fAdd) (oVar 2) fModI)) (sSeq (sFor (iRange1 (aCons (oC (.int 4)) aNil)) (gmName 4) knBody) (sRet (o2 (o2 (oVar 3) (oVar 2) fMulA) (o2 (o2 (o2 (oVar 3) (oC (.int 69621)) fMulA) (oVar 1) fAdd) (oVar 2) fModI) fAdd)))) := rfl
    have e' : forD (gmName 4) knBody [D.int 0, D.int 1, D.int 2, D.int 3] [li a, li b, li KP, li ((a * 2862933555777941757 + b * 3037000493 + 29).fmod KP), .un] = .nx [li a, li b, li KP, li x', t'] := e
    unfold g__law_kneaded
    rw [hb]
    simp [defM, okArgs, back, sSeq, sSet, sFor, iRange1, rangeD, List.range, List.range.loop, sRet, o2, oOp, aCons, aNil, gets, Rf.get, oVar, oC, LV.ok, LV.isOwn, m1, m2, m3, m4, m5, add_ok, e']
  · have := fm0 (x' * 69621 + b) (p := KP) (by decide)
    have : 0 ≤ x' * KP := Int.mul_nonneg h0 (by decide)
    omega
end Lw
set_option maxRecDepth 100000
set_option maxHeartbeats 2000000
namespace Lw
open PySem PL
/-! what is drawn -/
abbrev lst (cs : List Int) : D := .lst (cs.map .int)
def Pot (cs : List Int) (i a b : Int) : LV := .ml [lst cs, .int i, .int a, .int b]
structure PotOk (p : LV) : Prop where
  ex : ∃ cs i a b, p = Pot cs i a b ∧ (∀ c ∈ cs, (0 : Int) ≤ c) ∧ 0 ≤ i ∧ 0 ≤ a ∧ 0 ≤ b ∧ cs.length ≤ 17
theorem pys_ints : ∀ cs : List Int, D.pys (cs.map .int) = some (cs.map .int)
  | [] => rfl
  | c :: cs => by simp [D.pys, D.py, pys_ints cs]
theorem lay_ints : ∀ cs : List Int, PyData.canLayAll0 (cs.map .int) = true
  | [] => rfl
  | c :: cs => by simp [PyData.canLayAll0, PyData.canLay0, lay_ints cs]
theorem dep_ints : ∀ cs : List Int, PyData.depthAll (cs.map .int) = 0
  | [] => rfl
  | c :: cs => by simp [PyData.depthAll, PyData.depth, dep_ints cs]
theorem ne_nil_ints (cs : List Int) : fNeA [.dat (lst cs), .ml []] = some (.dat (.bl (decide (cs ≠ [])))) := by
  have h1 : SeqAt.shaped (.list (cs.map .int)) = true := by
    simp [SeqAt.shaped, PyData.canLay0, PyData.depth, lay_ints, dep_ints]
  have h2 : SeqAt.shaped (.list []) = true := by decide +kernel
  cases cs with
  | nil => simp [fNeA, fOr, fNeD, f2, gEqS, gEqD, LV.py, D.py, D.pys, h2, PyData.eqv, PyData.eqvAll]
  | cons c cs =>
    have h1' : SeqAt.shaped (.list (.int c :: cs.map .int)) = true := h1
    simp [fNeA, fOr, fNeD, f2, gEqS, gEqD, LV.py, D.py, D.pys, pys_ints, h1', h2, PyData.eqv, PyData.eqvAll]
theorem ix_ok {ds : List D} {k : Nat} {d : D} (h : ds[k]? = some d) : L2.atI ds (k : Int) = some d := by
  have hk : k < ds.length := (List.getElem?_eq_some_iff.mp h).1
  unfold L2.atI L2.ixN
  rw [if_pos (by omega), if_pos (by omega)]
  simpa using h
theorem ix_lst {ds : List D} {k : Nat} {d : D} (h : ds[k]? = some d) : fIxA [.dat (.lst ds), li (k : Int)] = some (.dat d) := by
  simp [fIxA, fOr, fIx, fIxL, f2, gIxL, LV.items, ix_ok h]
theorem ix_ml {ds : List D} {k : Nat} {d : D} (h : ds[k]? = some d) : fIxA [.ml ds, li (k : Int)] = some (.dat d) := by
  simp [fIxA, fOr, fIx, fIxL, f2, gIxL, LV.items, ix_ok h]
theorem ix_tup {ds : List D} {k : Nat} {d : D} (h : ds[k]? = some d) : fIxA [.dat (.tup ds), li (k : Int)] = some (.dat d) := by
  simp [fIxA, fOr, fIx, fIxL, fIxT, f2, gIxL, gIxT, LV.items, ix_ok h]
theorem put_ml {ds : List D} {k : Nat} {d : D} (h : k < ds.length) : stA (.ml ds) (li (k : Int)) d = some (.ml (ds.set k d)) := by
  have : ∀ hh : L2.ixN ds.length (k : Int) = some k, stA (.ml ds) (li (k : Int)) d = some (.ml (ds.set k d)) := fun hh => by simp [stA, stL, hh]
  apply this
  unfold L2.ixN
  rw [if_pos (by omega), if_pos (by omega)]
  simp
theorem ix_pot0 {cs : List Int} {i a b : Int} : fIxA [Pot cs i a b, li 0] = some (.dat (lst cs)) := ix_ml (k := 0) rfl
theorem ix_pot1 {cs : List Int} {i a b : Int} : fIxA [Pot cs i a b, li 1] = some (li i) := ix_ml (k := 1) rfl
theorem ix_pot2 {cs : List Int} {i a b : Int} : fIxA [Pot cs i a b, li 2] = some (li a) := ix_ml (k := 2) rfl
theorem ix_pot3 {cs : List Int} {i a b : Int} : fIxA [Pot cs i a b, li 3] = some (li b) := ix_ml (k := 3) rfl
theorem put_pot1 {cs : List Int} {i a b j : Int} : stA (Pot cs i a b) (li 1) (.int j) = some (Pot cs j a b) := put_ml (k := 1) (by simp)
theorem put_pot2 {cs : List Int} {i a b j : Int} : stA (Pot cs i a b) (li 2) (.int j) = some (Pot cs i j b) := put_ml (k := 2) (by simp)
theorem put_pot3 {cs : List Int} {i a b j : Int} : stA (Pot cs i a b) (li 3) (.int j) = some (Pot cs i a j) := put_ml (k := 3) (by simp)
theorem len_lst {ds : List D} : fLenA [.dat (.lst ds)] = some (li ds.length) := by simp [fLenA, fOr, fLen, f1, gLen]
theorem len_ml {ds : List D} : fLenA [.ml ds] = some (li ds.length) := by simp [fLenA, fOr, fLen, f1, gLen]
theorem len_tup {ds : List D} : fLenA [.dat (.tup ds)] = some (li ds.length) := by simp [fLenA, fOr, fLen, f1, gLen]
theorem lt_ok {i j : Int} : fLtI [li i, li j] = some (.dat (.bl (decide (i < j)))) := by simp [fLtI, f2, gI, cT]
theorem ge_ok {i j : Int} : fGeI [li i, li j] = some (.dat (.bl (decide (j ≤ i)))) := by simp [fGeI, f2, gI, cT]
theorem int_ok {i : Int} : fInt [li i] = some (li i) := by simp [fInt, f1, gInt]
theorem div_ok {i j : Int} (h : 0 < j ∧ j < 1073741824) : fDivI [li i, li j] = some (li (i.fdiv j)) := by
  have : (j ≠ 0 ∧ j.natAbs < 1073741824) := by omega
  simp [fDivI, f2, gI, this]
theorem p16 : fPowI [li 10, li 16] = some (li (10 ^ 16)) := by
  have h : (10 : Int).natAbs < 2 ^ 64 := by decide
  simp [fPowI, f2, gI]
theorem pot_ok {cs : List Int} {i a b : Int} : (Pot cs i a b).ok = true := rfl
theorem pot_own {cs : List Int} {i a b : Int} : (Pot cs i a b).isOwn = true := rfl
theorem pot_frz {cs : List Int} {i a b : Int} : (Pot cs i a b) ≠ .un := by unfold Pot; simp
end Lw
set_option maxRecDepth 100000
set_option maxHeartbeats 4000000
namespace Lw
open PySem PL
theorem dat_ok {d : D} : (LV.dat d).ok = true := rfl
theorem ml_ok {d : List D} : (LV.ml d).ok = true := rfl
theorem md_ok {d : List (L2.Key × D)} : (LV.md d).ok = true := rfl
theorem dat_own {d : D} : (LV.dat d).isOwn = false := rfl
theorem ml_own {d : List D} : (LV.ml d).isOwn = true := rfl
theorem md_own {d : List (L2.Key × D)} : (LV.md d).isOwn = true := rfl
theorem un_own : LV.un.isOwn = false := rfl
def Drawn (p : LV) : Prop := ∃ cs i a b, p = Pot cs i a b ∧ (∀ c ∈ cs, (0 : Int) ≤ c) ∧ 0 ≤ i ∧ 0 ≤ a ∧ 0 ≤ b
/-- the last part: a number below n -/
def blTail : SM := sSeq (sSet 5 (o2 (oOp (aCons (o2 (oVar 0) (oC (.int 2)) fIxA) (aNil)) fInt) (oVar 1) fModI)) (sSeq (sPut (o2 (o2 (oVar 0) (oC (.int 2)) fIxA) (oVar 1) fDivI) (oVar 0) (oC (.int 2)) stA) (sSeq (sPut (o2 (o2 (oVar 0) (oC (.int 3)) fIxA) (oVar 1) fDivI) (oVar 0) (oC (.int 3)) stA) (sRet (oMove (oVar 5)))))
theorem bl_tail (cs : List Int) (i a b n : Int) (u v w : LV) (f : LV) (h : 0 < n ∧ n < 1073741824) :
    blTail [Pot cs i a b, li n, u, v, w, f] = .rt (li (a.fmod n)) [Pot cs i (a.fdiv n) (b.fdiv n), li n, u, v, w, .un] := by
  have d1 : ∀ x, fDivI [li x, li n] = some (li (x.fdiv n)) := fun x => div_ok h
  have m1 : ∀ x, fModI [li x, li n] = some (li (x.fmod n)) := fun x => mod_ok (by omega)
  simp [blTail, sSeq, sSet, sPut, sRet, o2, oOp, aCons, aNil, gets, Rf.get, oVar, oC, dat_ok, ml_ok, dat_own, ml_own, oFrz, LV.frz, oMove, pot_ok, pot_own, ix_pot2, ix_pot3, put_pot2, put_pot3, int_ok, d1, m1]
def blNew : SM := (sSeq (sPar2 2 3 (aCons (o2 (oVar 0) (oC (.int 0)) fIxA) (aCons (o2 (oVar 0) (oC (.int 1)) fIxA) (aNil)))) (sSeq (sSet 4 (oIf (tOf (o2 (oVar 2) (oOp (aNil) fLst) fNeA)) (o2 (oVar 2) (o2 (oVar 3) (oOp (aCons (oVar 2) (aNil)) fLenA) fModI) fIxA) (oC (.int 0)))) (sSeq (sIf (tmOr (tOf (o2 (oVar 3) (oOp (aCons (oVar 2) (aNil)) fLenA) fGeI)) (tOf (o2 (oVar 4) (o2 (oC (.int 10)) (oC (.int 16)) fPowI) fLtI))) (sSet 4 (oCall g__law_kneaded (aCons (oFrz (o2 (oOp (aCons (oVar 4) (aNil)) fInt) (oC (.int 982451629)) fModI)) (aCons (oFrz (oVar 3)) (aNil))))) (sNil)) (sSeq (sPut (o2 (oVar 3) (oC (.int 1)) fAdd) (oVar 0) (oC (.int 1)) stA) (sSeq (sPut (oVar 4) (oVar 0) (oC (.int 2)) stA) (sPut (oVar 4) (oVar 0) (oC (.int 3)) stA))))))
theorem bl_new (cs : List Int) (i a b n : Int) (u v w f : LV) (hc : ∀ c ∈ cs, (0 : Int) ≤ c) (hi : 0 ≤ i) :
    ∃ x w', 0 ≤ x ∧ blNew [Pot cs i a b, li n, u, v, w, f] = .nx [Pot cs (i + 1) x x, li n, .dat (lst cs), li i, w', f] := by
  -- the amount first found
  have am : ∃ x : Int, 0 ≤ x ∧ (oIf (tOf (o2 (oVar 2) (oOp (aNil) fLst) fNeA)) (o2 (oVar 2) (o2 (oVar 3) (oOp (aCons (oVar 2) (aNil)) fLenA) fModI) fIxA) (oC (.int 0))) [Pot cs i a b, li n, .dat (lst cs), li i, w, f] = .val (.tmp (li x)) [Pot cs i a b, li n, .dat (lst cs), li i, w, f] := by
    by_cases e : cs = []
    · refine ⟨0, by omega, ?_⟩
      simp [oIf, tOf, o2, oOp, aCons, aNil, gets, Rf.get, oVar, oC, dat_ok, ml_ok, fLst, data, ne_nil_ints, e]
    · have hl : 0 < cs.length := List.length_pos_iff.mpr e
      have h0 := fm0 i (p := (cs.length : Int)) (by omega)
      have h1 := Int.fmod_lt_of_pos i (b := (cs.length : Int)) (by omega)
      obtain ⟨k, hk⟩ : ∃ k : Nat, i.fmod (cs.length : Int) = k := ⟨_, (Int.toNat_of_nonneg h0).symm⟩
      have hk' : k < cs.length := by omega
      have hx : (cs.map D.int)[k]? = some (.int cs[k]) := by rw [List.getElem?_map, List.getElem?_eq_getElem hk']; rfl
      refine ⟨cs[k], hc _ (List.getElem_mem hk'), ?_⟩
      have m1 : fModI [li i, li (cs.length : Int)] = some (li (i.fmod (cs.length : Int))) := mod_ok (by omega)
      have x1 := ix_lst hx
      simp [oIf, tOf, o2, oOp, aCons, aNil, gets, Rf.get, oVar, oC, dat_ok, ml_ok, fLst, data, ne_nil_ints, e, len_lst, m1, hk, x1]
  obtain ⟨x, hx0, ex⟩ := am
  -- perhaps kneaded
  have kn : ∃ x' : Int, 0 ≤ x' ∧ (sIf (tmOr (tOf (o2 (oVar 3) (oOp (aCons (oVar 2) (aNil)) fLenA) fGeI)) (tOf (o2 (oVar 4) (o2 (oC (.int 10)) (oC (.int 16)) fPowI) fLtI))) (sSet 4 (oCall g__law_kneaded (aCons (oFrz (o2 (oOp (aCons (oVar 4) (aNil)) fInt) (oC (.int 982451629)) fModI)) (aCons (oFrz (oVar 3)) (aNil))))) (sNil)) [Pot cs i a b, li n, .dat (lst cs), li i, li x, f] = .nx [Pot cs i a b, li n, .dat (lst cs), li i, li x', f] := by
    obtain ⟨r, er, r0⟩ := kneaded (x.fmod 982451629) i
    have m1 : fModI [li x, li 982451629] = some (li (x.fmod 982451629)) := mod_ok (by decide)
    have call : (sSet 4 (oCall g__law_kneaded (aCons (oFrz (o2 (oOp (aCons (oVar 4) (aNil)) fInt) (oC (.int 982451629)) fModI)) (aCons (oFrz (oVar 3)) (aNil))))) [Pot cs i a b, li n, .dat (lst cs), li i, li x, f] = .nx [Pot cs i a b, li n, .dat (lst cs), li i, li r, f] := by
      simp [sSet, oCall, o2, oOp, aCons, aNil, gets, Rf.get, oVar, oC, dat_ok, ml_ok, dat_own, ml_own, oFrz, LV.frz, int_ok, m1, er, ownVars, okBack, wb]
    by_cases c1 : (cs.length : Int) ≤ i
    · refine ⟨r, r0, ?_⟩
      simp only [sIf, tmOr]
      rw [← call]
      simp [tOf, o2, oOp, aCons, aNil, gets, Rf.get, oVar, oC, dat_ok, ml_ok, len_lst, ge_ok, c1]
    · by_cases c2 : x < 10000000000000000
      · refine ⟨r, r0, ?_⟩
        simp only [sIf, tmOr]
        rw [← call]
        simp [tOf, o2, oOp, aCons, aNil, gets, Rf.get, oVar, oC, dat_ok, ml_ok, len_lst, ge_ok, c1, p16, lt_ok, c2]
      · refine ⟨x, hx0, ?_⟩
        simp [sIf, tmOr, sNil, tOf, o2, oOp, aCons, aNil, gets, Rf.get, oVar, oC, dat_ok, ml_ok, len_lst, ge_ok, c1, p16, lt_ok, c2]
  obtain ⟨x', hx1, ex'⟩ := kn
  refine ⟨x', li x', hx1, ?_⟩
  unfold blNew
  have s1 : (sPar2 2 3 (aCons (o2 (oVar 0) (oC (.int 0)) fIxA) (aCons (o2 (oVar 0) (oC (.int 1)) fIxA) (aNil)))) [Pot cs i a b, li n, u, v, w, f] = .nx [Pot cs i a b, li n, .dat (lst cs), li i, w, f] := by
    simp [sPar2, o2, oOp, aCons, aNil, gets, Rf.get, oVar, oC, dat_ok, ml_ok, pot_ok, ix_pot0, ix_pot1]
  simp only [sSeq, s1, sSet, ex, List.set]
  rw [ex']
  simp [sPut, o2, oOp, aCons, aNil, gets, Rf.get, oVar, oC, dat_ok, ml_ok, dat_own, ml_own, oFrz, LV.frz, pot_ok, pot_own, put_pot1, put_pot2, put_pot3, add_ok]
theorem below (p : LV) (n : Int) (hp : Drawn p) (h : 0 < n ∧ n < 1073741824) : ∃ r p', g__law_below [p, li n] = .ret (li r) [p', li n] ∧ 0 ≤ r ∧ r < n ∧ Drawn p' := by
  obtain ⟨cs, i, a, b, rfl, hc, hi, ha, hb⟩ := hp
  have hm : m__law_below = sSeq (sIf (tOf (o2 (o2 (oVar 0) (oC (.int 3)) fIxA) (oVar 1) fLtI)) blNew sNil) blTail := rfl
  have fin : ∀ (i a b : Int) (u v w : LV), 0 ≤ i → 0 ≤ a → 0 ≤ b → (sIf (tOf (o2 (o2 (oVar 0) (oC (.int 3)) fIxA) (oVar 1) fLtI)) blNew sNil) ([Pot cs i a b, li n] ++ List.replicate 4 .un) = .nx [Pot cs i a b, li n, u, v, w, .un] → True := fun _ _ _ _ _ _ _ _ _ _ => trivial
  by_cases c : b < n
  · obtain ⟨x, w', hx, e⟩ := bl_new cs i a b n .un .un .un .un hc hi
    refine ⟨x.fmod n, Pot cs (i + 1) (x.fdiv n) (x.fdiv n), ?_, fm0 _ h.1, Int.fmod_lt_of_pos _ h.1, cs, i + 1, _, _, rfl, hc, by omega, Int.fdiv_nonneg hx (by omega), Int.fdiv_nonneg hx (by omega)⟩
    have s1 : (sIf (tOf (o2 (o2 (oVar 0) (oC (.int 3)) fIxA) (oVar 1) fLtI)) blNew sNil) [Pot cs i a b, li n, .un, .un, .un, .un] = blNew [Pot cs i a b, li n, .un, .un, .un, .un] := by
      simp [sIf, tOf, o2, oOp, aCons, aNil, gets, Rf.get, oVar, oC, dat_ok, ml_ok, pot_ok, ix_pot3, lt_ok, c]
    unfold g__law_below
    rw [hm]
    simp [defM, okArgs, back, dat_own, ml_own, un_own, pot_own, sSeq, s1, e, bl_tail _ _ _ _ _ _ _ _ _ h]
  · refine ⟨a.fmod n, Pot cs i (a.fdiv n) (b.fdiv n), ?_, fm0 _ h.1, Int.fmod_lt_of_pos _ h.1, cs, i, _, _, rfl, hc, hi, Int.fdiv_nonneg ha (by omega), Int.fdiv_nonneg hb (by omega)⟩
    have s1 : (sIf (tOf (o2 (o2 (oVar 0) (oC (.int 3)) fIxA) (oVar 1) fLtI)) blNew sNil) [Pot cs i a b, li n, .un, .un, .un, .un] = .nx [Pot cs i a b, li n, .un, .un, .un, .un] := by
      simp [sIf, sNil, tOf, o2, oOp, aCons, aNil, gets, Rf.get, oVar, oC, dat_ok, ml_ok, pot_ok, ix_pot3, lt_ok, c]
    unfold g__law_below
    rw [hm]
    simp [defM, okArgs, back, dat_own, ml_own, un_own, pot_own, sSeq, s1, bl_tail _ _ _ _ _ _ _ _ _ h]
end Lw
set_option maxRecDepth 100000
set_option maxHeartbeats 4000000
namespace Lw
open PySem PL
/-! loops and comprehensions by what they keep -/
theorem forD_keep {g : GM} {n : SM} (I : List D → LEnv → Prop) : ∀ (ds pre : List D) (env : LEnv), I pre env → (∀ pre d e, d ∈ ds → I pre e → ∃ e1 e2, g d e = some e1 ∧ (n e1 = .nx e2 ∨ n e1 = .ct e2) ∧ I (pre ++ [d]) e2) → ∃ env', forD g n ds env = .nx env' ∧ I (pre ++ ds) env'
  | [], pre, env, h, _ => ⟨env, rfl, by simpa using h⟩
  | d :: ds, pre, env, h, s => by
    obtain ⟨e1, e2, h1, h2, h3⟩ := s pre d env List.mem_cons_self h
    obtain ⟨env', h4, h5⟩ := forD_keep I ds (pre ++ [d]) e2 h3 fun pre d e m => s pre d e (List.mem_cons_of_mem _ m)
    refine ⟨env', ?_, by simpa using h5⟩
    unfold forD
    simp only [h1]
    rcases h2 with h2 | h2 <;> simp only [h2] <;> exact h4
theorem lcD_keep {g : GM} {t : TM} {m : OM} {vs : List Nat} (I : List D → List D → LEnv → Prop) : ∀ (ds pre acc : List D) (env : LEnv), I pre acc env → acc.length + ds.length ≤ sizeLine →
    (∀ pre acc d e, d ∈ ds → I pre acc e → ∃ e1 b e2, g d e = some e1 ∧ t e1 = .val b e2 ∧ (b = false → I (pre ++ [d]) acc (wipeE e2 vs)) ∧ (b = true → ∃ y e3, oFrz m e2 = .val (.tmp (.dat y)) e3 ∧ I (pre ++ [d]) (acc ++ [y]) (wipeE e3 vs))) →
    ∃ acc' env', lcD g t m vs ds acc env = .val acc' env' ∧ I (pre ++ ds) acc' env' ∧ acc'.length ≤ acc.length + ds.length
  | [], pre, acc, env, h, _, _ => ⟨acc, env, rfl, by simpa using h, by simp⟩
  | d :: ds, pre, acc, env, h, z, s => by
    obtain ⟨e1, b, e2, h1, h2, h3, h4⟩ := s pre acc d env List.mem_cons_self h
    have z' : acc.length + 1 + ds.length ≤ sizeLine := by rw [List.length_cons] at z; omega
    cases b with
    | false =>
      obtain ⟨a', env', q1, q2, q3⟩ := lcD_keep I ds (pre ++ [d]) acc _ (h3 rfl) (by omega) fun pre acc d e m => s pre acc d e (List.mem_cons_of_mem _ m)
      refine ⟨a', env', ?_, by simpa using q2, by rw [List.length_cons]; omega⟩
      unfold lcD
      simp only [h1, h2]
      exact q1
    | true =>
      obtain ⟨y, e3, p1, p2⟩ := h4 rfl
      obtain ⟨a', env', q1, q2, q3⟩ := lcD_keep I ds (pre ++ [d]) (acc ++ [y]) _ p2 (by rw [List.length_append, List.length_singleton]; omega) fun pre acc d e m => s pre acc d e (List.mem_cons_of_mem _ m)
      refine ⟨a', env', ?_, by simpa using q2, by rw [List.length_append, List.length_singleton] at q3; rw [List.length_cons]; omega⟩
      unfold lcD
      simp only [h1, h2, p1]
      rw [if_pos (by omega)]
      exact q1
/-- the same, nothing changing: a filter and a map -/
theorem lcD_map {g : GM} {t : TM} {m : OM} {vs : List Nat} {c : D → Bool} {f : D → D} {ds : List D} {env : LEnv} (z : ds.length ≤ sizeLine)
    (s : ∀ d ∈ ds, ∃ e, g d env = some e ∧ t e = .val (c d) e ∧ (c d = true → oFrz m e = .val (.tmp (.dat (f d))) e) ∧ wipeE e vs = env) : lcD g t m vs ds [] env = .val ((ds.filter c).map f) env := by
  obtain ⟨a, e, h1, ⟨h2, h3⟩, _⟩ := lcD_keep (g := g) (t := t) (m := m) (vs := vs) (fun pre acc e => acc = (pre.filter c).map f ∧ e = env) ds [] [] env ⟨rfl, rfl⟩ (by simpa using z) fun pre acc d e hd ⟨i1, i2⟩ => by
    subst i2
    obtain ⟨e1, q1, q2, q3, q4⟩ := s d hd
    refine ⟨e1, c d, e1, q1, q2, fun hc => ⟨?_, q4⟩, fun hc => ⟨f d, e1, q3 hc, ?_, q4⟩⟩
    · rw [List.filter_append, List.map_append, i1]; simp [hc]
    · rw [List.filter_append, List.map_append, i1]; simp [hc]
  subst h3
  rw [h1, h2]
  simp
/-! the calls that draw -/
theorem own_getD {env : LEnv} {i : Nat} {lv : LV} (h : env[i]? = some lv) : env.getD i .un = lv := by rw [List.getD_eq_getElem?_getD, h]; rfl
theorem var_of {env : LEnv} {i : Nat} {lv : LV} (h : env[i]? = some lv) (k : lv.ok = true) : oVar i env = .val (.var i) env := by simp [oVar, h, k]
theorem Drawn.ok {p : LV} (h : Drawn p) : p.ok = true := by obtain ⟨_, _, _, _, rfl, _⟩ := h; rfl
theorem Drawn.own {p : LV} (h : Drawn p) : p.isOwn = true := by obtain ⟨_, _, _, _, rfl, _⟩ := h; rfl
theorem call_below {env : LEnv} {i : Nat} {p : LV} {m : OM} {n : Int} (h : env[i]? = some p) (d : Drawn p) (hm : m env = .val (.tmp (li n)) env) (hn : 0 < n ∧ n < 1073741824) :
    ∃ r p', oCall g__law_below (aCons (oVar i) (aCons m aNil)) env = .val (.tmp (li r)) (env.set i p') ∧ 0 ≤ r ∧ r < n ∧ Drawn p' := by
  obtain ⟨r, p', e, h0, h1, d'⟩ := below p n d hn
  refine ⟨r, p', ?_, h0, h1, d'⟩
  simp [oCall, aCons, aNil, var_of h d.ok, hm, gets, Rf.get, h, d.ok, ownVars, own_getD h, d.own, e, okBack, dat_ok, dat_own, wb, d'.own]
theorem pick (p : LV) (ds : List D) (hp : Drawn p) (h : ds ≠ []) (hz : ds.length < 1073741824) : ∃ d p', g__law_pick [p, .dat (.lst ds)] = .ret (.dat d) [p', .dat (.lst ds)] ∧ d ∈ ds ∧ Drawn p' := by
  have hl : 0 < ds.length := List.length_pos_iff.mpr h
  obtain ⟨r, p', e, h0, h1, d'⟩ := call_below (env := [p, .dat (.lst ds)]) (i := 0) (m := oFrz (oOp (aCons (oVar 1) (aNil)) fLenA)) (n := ds.length) rfl hp (by simp [oFrz, oOp, aCons, aNil, gets, Rf.get, oVar, dat_ok, len_lst, LV.frz]) ⟨by omega, by omega⟩
  obtain ⟨k, hk⟩ : ∃ k : Nat, r = k := ⟨_, (Int.toNat_of_nonneg h0).symm⟩
  subst hk
  have hk' : k < ds.length := by omega
  have hx := List.getElem?_eq_getElem hk'
  refine ⟨ds[k], p', ?_, List.getElem_mem hk', d'⟩
  have x1 := ix_lst hx
  have e1 : oVar 1 [p, .dat (.lst ds)] = .val (.var 1) [p, .dat (.lst ds)] := rfl
  have e2 : oCall g__law_below (aCons (oVar 0) (aCons (oFrz (oOp (aCons (oVar 1) (aNil)) fLenA)) (aNil))) [p, .dat (.lst ds)] = .val (.tmp (li k)) [p', .dat (.lst ds)] := e
  have hm : m__law_pick = sRet (o2 (oVar 1) (oCall g__law_below (aCons (oVar 0) (aCons (oFrz (oOp (aCons (oVar 1) (aNil)) fLenA)) (aNil)))) fIxA) := rfl
  unfold g__law_pick
  rw [hm]
  simp [defM, okArgs, back, dat_own, sRet, o2, oOp, aCons, aNil] at e2 ⊢
  simp [e1, e2, gets, Rf.get, dat_ok, x1]
theorem call_pick {env : LEnv} {i : Nat} {p : LV} {m : OM} {ds : List D} (h : env[i]? = some p) (d : Drawn p) (hm : m env = .val (.tmp (.dat (.lst ds))) env) (hn : ds ≠ []) (hz : ds.length < 1073741824) :
    ∃ y p', oCall g__law_pick (aCons (oVar i) (aCons m aNil)) env = .val (.tmp (.dat y)) (env.set i p') ∧ y ∈ ds ∧ Drawn p' := by
  obtain ⟨y, p', e, h0, d'⟩ := pick p ds d hn hz
  refine ⟨y, p', ?_, h0, d'⟩
  simp [oCall, aCons, aNil, var_of h d.ok, hm, gets, Rf.get, h, d.ok, ownVars, own_getD h, d.own, e, okBack, dat_ok, dat_own, wb, d'.own]
end Lw
set_option maxRecDepth 100000
set_option maxHeartbeats 4000000
namespace Lw
open PySem PL
theorem abs_ok {i : Int} : fAbs [li i] = some (li (if i < 0 then -i else i)) := by simp [fAbs, f1, gAbs]
theorem sl_s {ds : List D} {lo hi : Option Int} : slA (.dat (.slst ds)) lo hi = some (.ml (cutD ds lo hi)) := by simp [slA, slL]
theorem cut17 (ds : List D) : cutD ds none (some 17) = ds.take 17 := by
  unfold cutD
  simp [HT.sIx]
theorem cut60 (ds : List D) : (∀ d ∈ cutD ds (some 17) (some 60), d ∈ ds) ∧ (cutD ds (some 17) (some 60) ≠ [] → 17 < ds.length) := by
  unfold cutD
  constructor
  · intro d hd
    exact List.mem_of_mem_drop (List.mem_of_mem_take hd)
  · intro h
    rcases Nat.lt_or_ge 17 ds.length with c | c
    · exact c
    · exfalso
      apply h
      have : HT.sIx ds.length 0 (some 17) = ds.length := by simp [HT.sIx]; omega
      rw [this]
      simp
theorem enum_mem : ∀ {ds : List D} {n : Nat} {d : D}, d ∈ enumD n ds → ∃ k x, d = .tup [.int (k : Nat), x] ∧ x ∈ ds
  | [], _, _, h => by simp [enumD] at h
  | x :: ds, n, d, h => by
    unfold enumD at h
    rcases List.mem_cons.mp h with rfl | h
    · exact ⟨n, x, rfl, List.mem_cons_self⟩
    · obtain ⟨k, y, e, m⟩ := enum_mem h
      exact ⟨k, y, e, List.mem_cons_of_mem _ m⟩
def absI (i : Int) : Int := if i < 0 then -i else i
theorem abs0 (i : Int) : 0 ≤ absI i := by unfold absI; split <;> omega
theorem pot_of (ns : List Int) (hns : ns.length ≤ 63) : ∃ p, g__law_pot_of [scr ns] = .ret p [scr ns] ∧ Drawn p := by
  have hm : m__law_pot_of = sSeq (sSet 1 (oLc (iAnyK (oSl (oVar 0) (pNone) (pSome (oC (.int 17))) slA)) (gmName 3) (tYesM) (oOp (aCons (oVar 3) (aNil)) fAbs) [3])) (sSeq (sFor (iEnumA (oSl (oVar 0) (pSome (oC (.int 17))) (pSome (oC (.int 60))) slA)) (gmTup 2 (gmCons (gmName 2) (gmCons (gmName 3) (gmNil)))) (sPut (o2 (o2 (oVar 1) (o2 (oVar 2) (oC (.int 17)) fModI) fIxA) (oOp (aCons (oVar 3) (aNil)) fAbs) fAdd) (oVar 1) (o2 (oVar 2) (oC (.int 17)) fModI) stA)) (sRet (oOp (aCons (oFrz (oVar 1)) (aCons (oC (.int 0)) (aCons (oC (.int 0)) (aCons (oC (.int 0)) (aNil))))) fLst))) := rfl
  -- the cells
  have c1 : lcD (gmName 3) tYesM (oOp (aCons (oVar 3) (aNil)) fAbs) [3] ((ns.map D.int).take 17) [] [scr ns, .un, .un, .un] = .val (((ns.take 17).map absI).map .int) [scr ns, .un, .un, .un] := by
    have q := lcD_map (g := gmName 3) (t := tYesM) (m := oOp (aCons (oVar 3) (aNil)) fAbs) (vs := [3]) (c := fun _ => true) (f := fun d => match d with | .int i => .int (absI i) | x => x) (ds := (ns.map D.int).take 17) (env := [scr ns, .un, .un, .un])
      (by rw [sizeLine_eq, List.length_take]; omega) (fun d hd => by
        obtain ⟨i, _, rfl⟩ := List.mem_map.mp (List.mem_of_mem_take hd)
        refine ⟨[scr ns, .un, .un, li i], rfl, rfl, fun _ => ?_, rfl⟩
        simp [oFrz, oOp, aCons, aNil, gets, Rf.get, oVar, dat_ok, abs_ok, LV.frz, absI])
    rw [q]
    congr 1
    rw [List.filter_eq_self.mpr (fun _ _ => rfl), ← List.map_take, List.map_map, List.map_map]
    rfl
  have s1 : (sSet 1 (oLc (iAnyK (oSl (oVar 0) (pNone) (pSome (oC (.int 17))) slA)) (gmName 3) (tYesM) (oOp (aCons (oVar 3) (aNil)) fAbs) [3])) [scr ns, .un, .un, .un] = .nx [scr ns, .ml (((ns.take 17).map absI).map .int), .un, .un] := by
    have i1 : (iAnyK (oSl (oVar 0) (pNone) (pSome (oC (.int 17))) slA)) [scr ns, .un, .un, .un] = .val ((ns.map D.int).take 17) [scr ns, .un, .un, .un] := by
      simp [iAnyK, iOr, iSeq, oSl, pNone, pSome, oVar, oC, Rf.get, scr, dat_ok, ml_ok, sl_s, cut17, oFrz, LV.frz]
    simp only [sSet, oLc, i1, wipeE, List.set, c1, restE, List.getElem?_cons_succ, List.getElem?_cons_zero]
  -- the rest is added
  have s2 : ∃ (cs : List Int) (x y : LV), (∀ c ∈ cs, (0 : Int) ≤ c) ∧ (sFor (iEnumA (oSl (oVar 0) (pSome (oC (.int 17))) (pSome (oC (.int 60))) slA)) (gmTup 2 (gmCons (gmName 2) (gmCons (gmName 3) (gmNil)))) (sPut (o2 (o2 (oVar 1) (o2 (oVar 2) (oC (.int 17)) fModI) fIxA) (oOp (aCons (oVar 3) (aNil)) fAbs) fAdd) (oVar 1) (o2 (oVar 2) (oC (.int 17)) fModI) stA)) [scr ns, .ml (((ns.take 17).map absI).map .int), .un, .un] = .nx [scr ns, .ml (cs.map .int), x, y] := by
    have i1 : (iEnumA (oSl (oVar 0) (pSome (oC (.int 17))) (pSome (oC (.int 60))) slA)) [scr ns, .ml (((ns.take 17).map absI).map .int), .un, .un] = .val (enumD 0 (cutD (ns.map D.int) (some 17) (some 60))) [scr ns, .ml (((ns.take 17).map absI).map .int), .un, .un] := by
      simp [iEnumA, iOr, iEnumM, oSl, pNone, pSome, oVar, oC, Rf.get, scr, dat_ok, ml_ok, sl_s, oFrz, LV.frz]
    obtain ⟨k1, k2⟩ := cut60 (ns.map D.int)
    obtain ⟨env', h1, cs, x, y, h2, h3, _⟩ := forD_keep (g := gmTup 2 (gmCons (gmName 2) (gmCons (gmName 3) (gmNil)))) (n := sPut (o2 (o2 (oVar 1) (o2 (oVar 2) (oC (.int 17)) fModI) fIxA) (oOp (aCons (oVar 3) (aNil)) fAbs) fAdd) (oVar 1) (o2 (oVar 2) (oC (.int 17)) fModI) stA)
      (fun _ env => ∃ (cs : List Int) (x y : LV), env = [scr ns, .ml (cs.map .int), x, y] ∧ (∀ c ∈ cs, (0 : Int) ≤ c) ∧ (17 < ns.length → cs.length = 17)) (enumD 0 (cutD (ns.map D.int) (some 17) (some 60))) [] [scr ns, .ml (((ns.take 17).map absI).map .int), .un, .un]
      ⟨(ns.take 17).map absI, .un, .un, rfl, fun c hc => by obtain ⟨i, _, rfl⟩ := List.mem_map.mp hc; exact abs0 i, fun h => by rw [List.length_map, List.length_take]; omega⟩ (fun pre d e hd ⟨cs, x, y, he, h0, hl⟩ => by
        subst he
        obtain ⟨k, z, rfl, hz⟩ := enum_mem hd
        obtain ⟨i, _, rfl⟩ := List.mem_map.mp (k1 _ hz)
        have h17 : cs.length = 17 := hl (by
          have := k2 (fun q => by rw [q] at hd; simp [enumD] at hd)
          simpa using this)
        have f0 := fm0 (k : Int) (p := 17) (by decide)
        have f1 := Int.fmod_lt_of_pos (k : Int) (b := 17) (by decide)
        obtain ⟨j, hj⟩ : ∃ j : Nat, (k : Int).fmod 17 = j := ⟨_, (Int.toNat_of_nonneg f0).symm⟩
        have hj' : j < cs.length := by omega
        have x1 : fIxA [.ml (cs.map .int), li (j : Int)] = some (.dat (.int cs[j])) := ix_ml (by rw [List.getElem?_map, List.getElem?_eq_getElem hj']; rfl)
        have m1 : fModI [li (k : Int), li 17] = some (li (j : Int)) := by rw [← hj]; exact mod_ok (by decide)
        have p1 : stA (.ml (cs.map .int)) (li (j : Int)) (.int (cs[j] + absI i)) = some (.ml ((cs.map .int).set j (.int (cs[j] + absI i)))) := put_ml (by simpa using hj')
        have a1 : fAbs [li i] = some (li (absI i)) := abs_ok
        refine ⟨[scr ns, .ml (cs.map .int), li k, li i], [scr ns, .ml ((cs.set j (cs[j] + absI i)).map .int), li k, li i], rfl, .inl ?_, cs.set j (cs[j] + absI i), li k, li i, rfl, fun c hc => ?_, fun h => by rw [List.length_set]; exact hl h⟩
        · rw [List.map_set]
          simp [sPut, o2, oOp, aCons, aNil, gets, Rf.get, oVar, oC, dat_ok, ml_ok, ml_own, oFrz, LV.frz, m1, x1, a1, add_ok, p1]
        · rcases List.mem_or_eq_of_mem_set hc with hc | rfl
          · exact h0 c hc
          · have := h0 _ (List.getElem_mem hj')
            have := abs0 i
            omega)
    exact ⟨cs, x, y, h3, by simp only [sFor, i1]; rw [h1, h2]⟩
  obtain ⟨cs, x, y, h0, s2⟩ := s2
  refine ⟨Pot cs 0 0 0, ?_, cs, 0, 0, 0, rfl, h0, by omega, by omega, by omega⟩
  unfold g__law_pot_of
  rw [hm]
  have e0 : [scr ns] ++ List.replicate (4 - [scr ns].length) LV.un = [scr ns, .un, .un, .un] := rfl
  have ok : okArgs [] [scr ns] = true := rfl
  unfold defM
  rw [if_pos ok, e0]
  simp only [sSeq, s1, s2]
  simp [sRet, oOp, aCons, aNil, gets, Rf.get, oVar, oC, dat_ok, ml_ok, oFrz, LV.frz, fLst, data, LV.datum, back, Pot, sizeLine_eq]
end Lw
set_option maxRecDepth 100000
set_option maxHeartbeats 4000000
namespace Lw
open PySem PL
/-! a drawn schema -/
def tagOf (n : Nat) : Str := ("t" : Str) ++ (toString ((n : Nat) : Int) : Str)
theorem tag_inj : ∀ m < 20, ∀ n < 20, tagOf m = tagOf n → m = n := by decide +kernel
theorem tag_ok : ∀ m < 20, PyData.strOk (tagOf m) = true := by decide +kernel
abbrev Vn := Nat × List Str
abbrev Sc := List (Str × List Vn)
def encV (v : Vn) : D := .tup [.str (tagOf v.1), .tup (v.2.map .str)]
def encK (kv : Str × List Vn) : L2.Key × D := (.inr kv.1, .tup (kv.2.map encV))
def tagsOf (S : Sc) : List Nat := S.flatMap fun kv => kv.2.map (·.1)
/-- the variants of a kind that is done -/
structure VarOk (K : List Str) (vs : List Vn) : Prop where
  leaf : ∃ v ∈ vs, v.2 = []
  few : vs.length ≤ 3
  kids : ∀ v ∈ vs, (∀ k ∈ v.2, k ∈ K) ∧ v.2.length ≤ 3
structure SchOk (K : List Str) (S : Sc) (n : Nat) : Prop where
  vars : ∀ kv ∈ S, VarOk K kv.2
  nodup : (tagsOf S).Nodup
  less : ∀ t ∈ tagsOf S, t < n
theorem tag_lt {m : Nat} (h : m < 20) : ((m : Int)).natAbs.log2 < 1920 := by
  have : ((m : Int)).natAbs = m := by simp
  rw [this]
  have : m.log2 ≤ m := Nat.log2_le_self m
  omega
theorem tag_len : ∀ m < 20, ("t" : Str).length + (toString ((m : Nat) : Int) : Str).length ≤ 100 := by decide +kernel
theorem eval_tag {env : LEnv} {n : Nat} (h : env[3]? = some (li (n : Int))) (hn : n < 20) : (o2 (oC (.str "t")) (oOp (aCons (oVar 3) aNil) (f1 gStrN)) fAdd) env = .val (.tmp (.dat (.str (tagOf n)))) env := by
  have z : ("t" : Str).length + (toString ((n : Nat) : Int) : Str).length ≤ sizeLine := by have := tag_len n hn; rw [sizeLine_eq]; omega
  have v : oVar 3 env = .val (.var 3) env := var_of h rfl
  have q1 : f1 gStrN [li (n : Int)] = some (.dat (.str (toString (n : Int) : Str))) := by
    simp only [f1, gStrN, tag_lt hn, if_true]
  have q2 : fAdd [.dat (.str "t"), .dat (.str (toString (n : Int) : Str))] = some (.dat (.str (tagOf n))) := by
    simp only [fAdd, fOr, fAddI, f2, gI, fAddS, gAddS, z, if_true, tagOf]
  simp only [o2, oOp, aCons, aNil, gets, Rf.get, v, oC, h, dat_ok, if_true, q1, q2]
theorem cut_to (ds : List D) (r : Nat) : cutD ds none (some (r : Int)) = ds.take r := by
  unfold cutD
  have e : HT.sIx ds.length ds.length (some (r : Int)) = min r ds.length := by
    unfold HT.sIx
    simp only
    rw [if_neg (by omega)]
    simp
  have e0 : HT.sIx ds.length 0 none = 0 := rfl
  rw [e, e0]
  simp
theorem cut_from (ds : List D) (r : Nat) : cutD ds (some (r : Int)) none = ds.drop r := by
  unfold cutD
  have e : HT.sIx ds.length 0 (some (r : Int)) = min r ds.length := by
    unfold HT.sIx
    simp only
    rw [if_neg (by omega)]
    simp
  have e0 : HT.sIx ds.length ds.length none = ds.length := rfl
  rw [e, e0]
  rcases Nat.le_total r ds.length with h | h
  · rw [Nat.min_eq_left h]
    exact List.take_of_length_le (by simp)
  · rw [Nat.min_eq_right h]
    rw [List.drop_eq_nil_of_le h]
    simp
theorem addL_ok {as bs : List D} (h : as.length + bs.length ≤ sizeLine) : fAdd [.ml as, .ml bs] = some (.ml (as ++ bs)) := by
  simp [fAdd, fOr, fAddI, f2, gI, fAddS, gAddS, fAddL, gAddL, LV.items, h]
theorem sl_ml {ds : List D} {lo hi : Option Int} : slA (.ml ds) lo hi = some (.ml (cutD ds lo hi)) := by simp [slA, slL]
theorem tuple_ml {ds : List D} : fTuple [.ml ds] = some (.dat (.tup ds)) := by simp [fTuple, f1, gTuple]
theorem str_items : ∀ l : List Str, (l.map D.str) = l.map D.str := fun _ => rfl
/-- the children of a new variant -/
theorem kids (env : LEnv) (p : LV) (K : List Str) (many : Nat) (hp : env[0]? = some p) (dr : Drawn p) (hk : env[1]? = some (.dat (.lst (K.map .str)))) (hK : K ≠ []) (hKz : K.length < 1000) (h7 : env[7]? = some (li (many : Int))) (h9 : env[9]? = some .un) (hm : many ≤ 3) :
    ∃ (cs : List Str) (p' : LV), (oLc (iRange1 (aCons (oVar 7) (aNil))) (gmName 9) (tYesM) (oCall g__law_pick (aCons (oVar 0) (aCons (oFrz (oVar 1)) (aNil)))) [9]) env = .val (.tmp (.ml (cs.map .str))) (env.set 0 p') ∧ Drawn p' ∧ (∀ k ∈ cs, k ∈ K) ∧ cs.length ≤ 3 := by
  have l9 : 9 < env.length := (List.getElem?_eq_some_iff.mp h9).1
  have w0 : env.set 9 .un = env := by
    apply List.ext_getElem?
    intro j
    by_cases e : j = 9
    · subst e; rw [h9, List.getElem?_set_self l9]
    · rw [List.getElem?_set_ne (Ne.symm e)]
  have i1 : (iRange1 (aCons (oVar 7) (aNil))) env = .val (rangeD 0 many) env := by
    have v : oVar 7 env = .val (.var 7) env := var_of h7 rfl
    have z : -(2 ^ 62) ≤ (many : Int) ∧ (many : Int) < 2 ^ 62 := by omega
    simp only [iRange1, aCons, v, aNil, gets, Rf.get, h7, dat_ok, if_true]
    rw [if_pos z]
    simp
  obtain ⟨acc, env', h1, ⟨p', cs, rfl, rfl, d', hc⟩, hl⟩ := lcD_keep (g := gmName 9) (t := tYesM) (m := oCall g__law_pick (aCons (oVar 0) (aCons (oFrz (oVar 1)) (aNil)))) (vs := [9])
    (fun pre acc e => ∃ (p' : LV) (cs : List Str), e = env.set 0 p' ∧ acc = cs.map .str ∧ Drawn p' ∧ ∀ k ∈ cs, k ∈ K) (rangeD 0 many) [] [] env ⟨p, [], by
      apply List.ext_getElem?
      intro j
      by_cases e : j = 0
      · subst e; rw [hp, List.getElem?_set_self (by omega)]
      · rw [List.getElem?_set_ne (Ne.symm e)], rfl, dr, by simp⟩ (by unfold rangeD; simp [sizeLine_eq]; omega) (fun pre acc d e hd ⟨p1, cs, he, ha, d1, hc⟩ => by
      subst he ha
      have g0 : ((env.set 0 p1).set 9 (.dat d))[0]? = some p1 := by rw [List.getElem?_set_ne (by decide), List.getElem?_set_self (by omega)]
      have g1 : ((env.set 0 p1).set 9 (.dat d))[1]? = some (.dat (.lst (K.map .str))) := by rw [List.getElem?_set_ne (by decide), List.getElem?_set_ne (by decide), hk]
      have fz : oFrz (oVar 1) ((env.set 0 p1).set 9 (.dat d)) = .val (.tmp (.dat (.lst (K.map .str)))) ((env.set 0 p1).set 9 (.dat d)) := by
        have v : oVar 1 ((env.set 0 p1).set 9 (.dat d)) = .val (.var 1) ((env.set 0 p1).set 9 (.dat d)) := var_of g1 rfl
        have w : ((env.set 0 p1).set 9 (.dat d)).set 1 (.dat (.lst (K.map .str))) = (env.set 0 p1).set 9 (.dat d) := by
          apply List.ext_getElem?
          intro j
          by_cases e : j = 1
          · subst e; rw [g1, List.getElem?_set_self (by simp; omega)]
          · rw [List.getElem?_set_ne (Ne.symm e)]
        simp only [oFrz, v, g1, LV.frz, w]
      obtain ⟨y, p2, e2, hy, d2⟩ := call_pick g0 d1 fz (by simpa using hK) (by simp; omega)
      obtain ⟨k, hkK, rfl⟩ := List.mem_map.mp hy
      refine ⟨(env.set 0 p1).set 9 (.dat d), true, (env.set 0 p1).set 9 (.dat d), rfl, rfl, (fun z => by cases z), fun _ => ⟨.str k, ((env.set 0 p1).set 9 (.dat d)).set 0 p2, ?_, p2, cs ++ [k], ?_, by simp, d2, fun x hx => ?_⟩⟩
      · simp only [oFrz, e2, LV.frz]
      · simp only [wipeE]
        rw [List.set_comm _ _ (by decide : (0:Nat) ≠ 9), List.set_set, List.set_comm _ _ (by decide : (9 : Nat) ≠ 0), List.set_set, List.set_comm _ _ (by decide : (0:Nat) ≠ 9), w0]
      · rcases List.mem_append.mp hx with h | h
        · exact hc x h
        · have : x = k := by simpa using h
          subst this; exact hkK)
  refine ⟨cs, p', ?_, d', hc, ?_⟩
  · have r9 : (env.set 0 p').set 9 .un = env.set 0 p' := by rw [List.set_comm _ _ (by decide : (0:Nat) ≠ 9), w0]
    have w1 : wipeE env [9] = env := by simp only [wipeE]; exact w0
    simp only [oLc, i1, w1, h1, restE, h9, r9]
  · have : (cs.map D.str).length ≤ 0 + (rangeD 0 many).length := hl
    unfold rangeD at this
    simp at this
    omega
end Lw
set_option maxRecDepth 100000
set_option maxHeartbeats 4000000
namespace Lw
open PySem PL
def envF (p : LV) (K : List Str) (s : LV) (n : Nat) (a4 a5 a6 a7 a8 : LV) : LEnv := [p, .dat (.lst (K.map .str)), s, li (n : Int), a4, a5, a6, a7, a8, .un]
structure InOk (K : List Str) (n0 : Nat) (k : Nat) (vs : List Vn) : Prop where
  tags : vs.map (·.1) = List.range' n0 (k + 1)
  leaf : ∃ v ∈ vs, v.2 = []
  kids : ∀ v ∈ vs, (∀ c ∈ v.2, c ∈ K) ∧ v.2.length ≤ 3
def inBody : SM := (sSeq (sSet 3 (o2 (oVar 3) (oC (.int 1)) fAdd)) (sSeq (sSet 7 (oCall g__law_pick (aCons (oVar 0) (aCons (oFrz (oOp (aCons (oC (.int 0)) (aCons (oC (.int 1)) (aCons (oC (.int 2)) (aCons (oC (.int 2)) (aCons (oC (.int 3)) (aNil)))))) fLst)) (aNil))))) (sExpr (oMu "list" (oVar 5) (aCons (oFrz (oOp (aCons (oFrz (o2 (oC (.str "t")) (oOp (aCons (oVar 3) (aNil)) (f1 gStrN)) fAdd)) (aCons (oFrz (oOp (aCons (oLc (iRange1 (aCons (oVar 7) (aNil))) (gmName 9) (tYesM) (oCall g__law_pick (aCons (oVar 0) (aCons (oFrz (oVar 1)) (aNil)))) [9]) (aNil)) fTuple)) (aNil))) fTup)) (aNil)) mAppend))))
theorem mu_append {env env1 : LEnv} {i : Nat} {ms : AM} {ds : List D} {d : D} (h : env[i]? = some (.ml ds)) (hm : ms env = .val [.tmp (.dat d)] env1) (h1 : env1[i]? = some (.ml ds)) (hz : ds.length < sizeLine) : sExpr (oMu "list" (oVar i) ms mAppend) env = .nx (env1.set i (.ml (ds ++ [d]))) := by
  have v : oVar i env = .val (.var i) env := var_of h rfl
  have g0 : (Rf.var i).get env = some (.ml ds) := by simp [Rf.get, h, ml_ok]
  have g1 : (Rf.var i).get env1 = some (.ml ds) := by simp [Rf.get, h1, ml_ok]
  have g2 : gets [.tmp (.dat d)] env1 = some [.dat d] := by simp [gets, Rf.get, dat_ok]
  have ty : (LV.ml ds).ty = "list" := rfl
  have ap : mAppend (.ml ds) [.dat d] = some (.dat .non, .ml (ds ++ [d])) := by simp only [mAppend, hz, if_true]
  simp only [sExpr, oMu, v, g0, ty, if_true, hm, g1, g2, ap, dat_ok, ml_own, Bool.and_self]
theorem frz_tuple {m : OM} {e1 e2 : LEnv} {ds : List D} (h : m e1 = .val (.tmp (.ml ds)) e2) : (oFrz (oOp (aCons m aNil) fTuple)) e1 = .val (.tmp (.dat (.tup ds))) e2 := by
  simp only [oFrz, oOp, aCons, h, aNil, gets, Rf.get, ml_ok, dat_ok, if_true, tuple_ml, LV.frz]
theorem frz_dat {m : OM} {e1 e2 : LEnv} {d : D} (h : m e1 = .val (.tmp (.dat d)) e2) : oFrz m e1 = .val (.tmp (.dat d)) e2 := by
  simp only [oFrz, h, LV.frz]
theorem frz_tup2 {m1 m2 : OM} {x y : LV} {e1 e2 e3 : LEnv} (q1 : m1 e1 = .val (.tmp x) e2) (q2 : m2 e2 = .val (.tmp y) e3) (k1 : x.ok = true) (k2 : y.ok = true) {z : D} (q3 : fTup [x, y] = some (.dat z)) : (aCons (oFrz (oOp (aCons m1 (aCons m2 aNil)) fTup)) aNil) e1 = .val [.tmp (.dat z)] e3 := by
  simp only [aCons, oFrz, oOp, q1, q2, aNil, gets, Rf.get, k1, k2, if_true, q3, dat_ok, LV.frz]
theorem in_body (p : LV) (K : List Str) (s : LV) (n n0 k : Nat) (vs : List Vn) (a4 a6 a7 a8 : LV) (d : Drawn p) (hK : K ≠ []) (hKz : K.length < 1000) (hn : n + 1 < 20) (hk : n = n0 + k) (iv : InOk K n0 k vs) (hk3 : k ≤ 3) :
    ∃ p' a7' vs', inBody (envF p K s n a4 (.ml (vs.map encV)) a6 a7 a8) = .nx (envF p' K s (n + 1) a4 (.ml (vs'.map encV)) a6 a7' a8) ∧ Drawn p' ∧ InOk K n0 (k + 1) vs' := by
  -- number + 1
  have s1 : (sSet 3 (o2 (oVar 3) (oC (.int 1)) fAdd)) (envF p K s n a4 (.ml (vs.map encV)) a6 a7 a8) = .nx (envF p K s (n + 1) a4 (.ml (vs.map encV)) a6 a7 a8) := by
    have e : ((n : Int) + 1) = ((n + 1 : Nat) : Int) := by omega
    simp only [sSet, envF, o2, oOp, aCons, aNil, gets, Rf.get, oVar, oC, List.getElem?_cons_succ, List.getElem?_cons_zero, dat_ok, if_true, add_ok, List.set, e]
  -- many
  have lits : (oFrz (oOp (aCons (oC (.int 0)) (aCons (oC (.int 1)) (aCons (oC (.int 2)) (aCons (oC (.int 2)) (aCons (oC (.int 3)) (aNil)))))) fLst)) (envF p K s (n + 1) a4 (.ml (vs.map encV)) a6 a7 a8) = .val (.tmp (.dat (.lst [.int 0, .int 1, .int 2, .int 2, .int 3]))) (envF p K s (n + 1) a4 (.ml (vs.map encV)) a6 a7 a8) := by
    simp [oFrz, oOp, aCons, aNil, oC, gets, Rf.get, dat_ok, ml_ok, fLst, data, LV.datum, LV.frz, sizeLine_eq]
  obtain ⟨y, p1, e1, hy, d1⟩ := call_pick (env := envF p K s (n + 1) a4 (.ml (vs.map encV)) a6 a7 a8) (i := 0) rfl d lits (by simp) (by simp)
  obtain ⟨many, rfl, hm⟩ : ∃ many : Nat, y = .int (many : Int) ∧ many ≤ 3 := by
    simp at hy
    rcases hy with rfl | rfl | rfl | rfl
    · exact ⟨0, rfl, by omega⟩
    · exact ⟨1, rfl, by omega⟩
    · exact ⟨2, rfl, by omega⟩
    · exact ⟨3, rfl, by omega⟩
  have s2 : (sSet 7 (oCall g__law_pick (aCons (oVar 0) (aCons (oFrz (oOp (aCons (oC (.int 0)) (aCons (oC (.int 1)) (aCons (oC (.int 2)) (aCons (oC (.int 2)) (aCons (oC (.int 3)) (aNil)))))) fLst)) (aNil))))) (envF p K s (n + 1) a4 (.ml (vs.map encV)) a6 a7 a8) = .nx (envF p1 K s (n + 1) a4 (.ml (vs.map encV)) a6 (li (many : Int)) a8) := by
    simp only [sSet, e1]
    rfl
  -- the new variant
  obtain ⟨cs, p2, e3, d2, hc, hc3⟩ := kids (envF p1 K s (n + 1) a4 (.ml (vs.map encV)) a6 (li (many : Int)) a8) p1 K many rfl d1 rfl hK hKz rfl rfl hm
  have tg := eval_tag (env := envF p1 K s (n + 1) a4 (.ml (vs.map encV)) a6 (li (many : Int)) a8) (n := n + 1) rfl hn
  have e3' : (oLc (iRange1 (aCons (oVar 7) (aNil))) (gmName 9) (tYesM) (oCall g__law_pick (aCons (oVar 0) (aCons (oFrz (oVar 1)) (aNil)))) [9]) (envF p1 K s (n + 1) a4 (.ml (vs.map encV)) a6 (li (many : Int)) a8) = .val (.tmp (.ml (cs.map .str))) (envF p2 K s (n + 1) a4 (.ml (vs.map encV)) a6 (li (many : Int)) a8) := e3
  have arg : (aCons (oFrz (oOp (aCons (oFrz (o2 (oC (.str "t")) (oOp (aCons (oVar 3) (aNil)) (f1 gStrN)) fAdd)) (aCons (oFrz (oOp (aCons (oLc (iRange1 (aCons (oVar 7) (aNil))) (gmName 9) (tYesM) (oCall g__law_pick (aCons (oVar 0) (aCons (oFrz (oVar 1)) (aNil)))) [9]) (aNil)) fTuple)) (aNil))) fTup)) (aNil)) (envF p1 K s (n + 1) a4 (.ml (vs.map encV)) a6 (li (many : Int)) a8) = .val [.tmp (.dat (encV (n + 1, cs)))] (envF p2 K s (n + 1) a4 (.ml (vs.map encV)) a6 (li (many : Int)) a8) := by
    have f3 : fTup [.dat (.str (tagOf (n + 1))), .dat (.tup (cs.map .str))] = some (.dat (encV (n + 1, cs))) := by
      simp [fTup, data, LV.datum, encV, sizeLine_eq]
    exact frz_tup2 (frz_dat tg) (frz_tuple e3') rfl rfl f3
  have s3 : (sExpr (oMu "list" (oVar 5) (aCons (oFrz (oOp (aCons (oFrz (o2 (oC (.str "t")) (oOp (aCons (oVar 3) (aNil)) (f1 gStrN)) fAdd)) (aCons (oFrz (oOp (aCons (oLc (iRange1 (aCons (oVar 7) (aNil))) (gmName 9) (tYesM) (oCall g__law_pick (aCons (oVar 0) (aCons (oFrz (oVar 1)) (aNil)))) [9]) (aNil)) fTuple)) (aNil))) fTup)) (aNil)) mAppend)) (envF p1 K s (n + 1) a4 (.ml (vs.map encV)) a6 (li (many : Int)) a8) = .nx (envF p2 K s (n + 1) a4 (.ml ((vs ++ [(n + 1, cs)]).map encV)) a6 (li (many : Int)) a8) := by
    have hv : vs.length < 1000 := by have := congrArg List.length iv.tags; simp at this; omega
    rw [mu_append (env1 := envF p2 K s (n + 1) a4 (.ml (vs.map encV)) a6 (li (many : Int)) a8) (ds := vs.map encV) rfl arg rfl (by rw [sizeLine_eq]; simp; omega)]
    rw [List.map_append]
    rfl
  refine ⟨p2, li (many : Int), vs ++ [(n + 1, cs)], ?_, d2, ⟨?_, ?_, ?_⟩⟩
  · unfold inBody
    simp only [sSeq, s1, s2]
    exact s3
  · rw [List.map_append, iv.tags]
    have : n + 1 = n0 + (k + 1) := by omega
    simp [this, List.range'_concat]
  · obtain ⟨v, h1, h2⟩ := iv.leaf
    exact ⟨v, List.mem_append_left _ h1, h2⟩
  · intro v hv
    rcases List.mem_append.mp hv with h | h
    · exact iv.kids v h
    · have : v = (n + 1, cs) := by simpa using h
      subst this
      exact ⟨hc, hc3⟩
end Lw
set_option maxRecDepth 100000
set_option maxHeartbeats 4000000
namespace Lw
open PySem PL
/-! abstract steps -/
theorem range_val {m : OM} {e1 e2 : LEnv} {k : Nat} (h : m e1 = .val (.tmp (li (k : Int))) e2) (hk : k < 1000000) : iRange1 (aCons m aNil) e1 = .val (rangeD 0 k) e2 := by
  have z : -(2 ^ 62) ≤ (k : Int) ∧ (k : Int) < 2 ^ 62 := by omega
  simp only [iRange1, aCons, h, aNil, gets, Rf.get, dat_ok, if_true]
  rw [if_pos z]
  simp
theorem par2_val {i j : Nat} {m1 m2 : OM} {x y : LV} {e1 e2 e3 : LEnv} (q1 : m1 e1 = .val (.tmp x) e2) (q2 : m2 e2 = .val (.tmp y) e3) : sPar2 i j (aCons m1 (aCons m2 aNil)) e1 = .nx ((e3.set i x).set j y) := by
  simp only [sPar2, aCons, q1, q2, aNil]
theorem set_val {i : Nat} {m : OM} {x : LV} {e1 e2 : LEnv} (q : m e1 = .val (.tmp x) e2) : sSet i m e1 = .nx (e2.set i x) := by simp only [sSet, q]
theorem seq_nx {n1 n2 : SM} {e1 e2 : LEnv} (h : n1 e1 = .nx e2) : sSeq n1 n2 e1 = n2 e2 := by simp only [sSeq, h]
theorem for_val {i : IM} {g : GM} {n : SM} {ds : List D} {e1 e2 : LEnv} (h : i e1 = .val ds e2) : sFor i g n e1 = forD g n ds e2 := by simp only [sFor, h]
theorem var_get {env : LEnv} {i : Nat} {lv : LV} (h : env[i]? = some lv) (k : lv.ok = true) : (Rf.var i).get env = some lv := by simp [Rf.get, h, k]
theorem tmp_get {env : LEnv} {lv : LV} (k : lv.ok = true) : (Rf.tmp lv).get env = some lv := by simp [Rf.get, k]
theorem len_val {i : Nat} {env : LEnv} {ds : List D} (h : env[i]? = some (.ml ds)) : oFrz (oOp (aCons (oVar i) aNil) fLenA) env = .val (.tmp (li (ds.length : Int))) env := by
  have v := var_of h rfl
  have g := var_get h rfl
  simp only [oFrz, oOp, aCons, v, aNil, gets, g, len_ml, dat_ok, if_true, LV.frz]
theorem inc_val {i : Nat} {env : LEnv} {n : Nat} (h : env[i]? = some (li (n : Int))) : o2 (oVar i) (oC (.int 1)) fAdd env = .val (.tmp (li ((n + 1 : Nat) : Int))) env := by
  have v := var_of h rfl
  have g := var_get h rfl
  have t : (Rf.tmp (li 1)).get env = some (li 1) := rfl
  have e : ((n : Int) + 1) = ((n + 1 : Nat) : Int) := by omega
  simp only [o2, oOp, aCons, v, oC, aNil, gets, g, t, add_ok, e, dat_ok, if_true]
/-- tuple(x[at:] + x[:at]) -/
theorem rot_val {i j : Nat} {env : LEnv} {ds : List D} {r : Nat} (h : env[i]? = some (.ml ds)) (h2 : env[j]? = some (li (r : Int))) (hz : ds.length + ds.length ≤ sizeLine) :
    oOp (aCons (o2 (oSl (oVar i) (pSome (oVar j)) pNone slA) (oSl (oVar i) pNone (pSome (oVar j)) slA) fAdd) aNil) fTuple env = .val (.tmp (.dat (.tup (ds.drop r ++ ds.take r)))) env := by
  have v := var_of h rfl
  have g := var_get h rfl
  have v2 := var_of h2 rfl
  have g2 := var_get h2 rfl
  have p : pSome (oVar j) env = .val (some (r : Int)) env := by simp only [pSome, v2, g2]
  have a1 : oSl (oVar i) (pSome (oVar j)) pNone slA env = .val (.tmp (.ml (ds.drop r))) env := by simp only [oSl, v, p, pNone, g, sl_ml, cut_from, ml_ok, if_true]
  have a2 : oSl (oVar i) pNone (pSome (oVar j)) slA env = .val (.tmp (.ml (ds.take r))) env := by simp only [oSl, v, p, pNone, g, sl_ml, cut_to, ml_ok, if_true]
  have ad : fAdd [.ml (ds.drop r), .ml (ds.take r)] = some (.ml (ds.drop r ++ ds.take r)) := addL_ok (by simp only [List.length_drop, List.length_take]; omega)
  simp only [oOp, aCons, o2, a1, a2, aNil, gets, tmp_get ml_ok, ad, ml_ok, if_true, tuple_ml, dat_ok]
theorem put_dict {i j : Nat} {m : OM} {env env1 : LEnv} {kvs : List (L2.Key × D)} {x : Str} {d : D} (hm : m env = .val (.tmp (.dat d)) env1) (h : env1[i]? = some (.md kvs)) (h2 : env1[j]? = some (.dat (.str x))) (hn : ∀ kv ∈ kvs, kv.1 ≠ .inr x) (hz : kvs.length < sizeLine) :
    sPut m (oVar i) (oVar j) stA env = .nx (env1.set i (.md (kvs ++ [(.inr x, d)]))) := by
  have v := var_of h rfl
  have g := var_get h rfl
  have v2 := var_of h2 rfl
  have g2 := var_get h2 rfl
  have f := frz_dat hm
  have pu : putD kvs (.inr x) d = kvs ++ [(.inr x, d)] := by
    unfold putD
    rw [if_neg]
    intro q
    obtain ⟨kv, h1, h2⟩ := List.any_eq_true.mp q
    exact hn kv h1 (of_decide_eq_true h2)
  have st : stA (.md kvs) (.dat (.str x)) d = some (.md (kvs ++ [(.inr x, d)])) := by simp only [stA, stL, stD, keyD, hz, if_true, pu]
  simp only [sPut, aCons, f, v, v2, aNil, tmp_get dat_ok, g, g2, st, md_own, Bool.and_self, if_true]
end Lw
set_option maxRecDepth 100000
set_option maxHeartbeats 4000000
namespace Lw
open PySem PL
theorem forD_pre {g : GM} {n : SM} (I : List D → LEnv → Prop) (ds0 : List D) (s : ∀ pre d suf e, pre ++ d :: suf = ds0 → I pre e → ∃ e1 e2, g d e = some e1 ∧ (n e1 = .nx e2 ∨ n e1 = .ct e2) ∧ I (pre ++ [d]) e2) : ∀ (ds pre : List D) (env : LEnv), I pre env → pre ++ ds = ds0 → ∃ env', forD g n ds env = .nx env' ∧ I ds0 env'
  | [], pre, env, h, e => ⟨env, rfl, by rw [List.append_nil] at e; rw [← e]; exact h⟩
  | d :: ds, pre, env, h, e => by
    obtain ⟨e1, e2, h1, h2, h3⟩ := s pre d ds env e h
    obtain ⟨env', h4, h5⟩ := forD_pre I ds0 s ds (pre ++ [d]) e2 h3 (by simpa using e)
    refine ⟨env', ?_, h5⟩
    unfold forD
    simp only [h1]
    rcases h2 with h2 | h2 <;> simp only [h2] <;> exact h4
theorem rangeD_len (lo : Int) (n : Nat) : (rangeD lo n).length = n := by simp [rangeD]
theorem call_pickc {env : LEnv} {p : LV} {m : OM} {ds : List D} (h : env[0]? = some p) (d : Drawn p) (hm : m env = .val (.tmp (.dat (.lst ds))) env) (hn : ds ≠ []) (hz : ds.length < 1000) :
    ∃ y p', oCall g__law_pick (aCons (oVar 0) (aCons m aNil)) env = .val (.tmp (.dat y)) (env.set 0 p') ∧ y ∈ ds ∧ Drawn p' := call_pick h d hm hn (by omega)
theorem disp4 (a b c d : Int) (env : LEnv) : oFrz (oOp (aCons (oC (.int a)) (aCons (oC (.int b)) (aCons (oC (.int c)) (aCons (oC (.int d)) aNil)))) fLst) env = .val (.tmp (.dat (.lst [.int a, .int b, .int c, .int d]))) env := by
  have f : fLst [li a, li b, li c, li d] = some (.ml [.int a, .int b, .int c, .int d]) := by simp [fLst, data, LV.datum, sizeLine_eq]
  simp only [oFrz, oOp, aCons, oC, aNil, gets, tmp_get dat_ok, f, ml_ok, if_true, LV.frz]
def inLoop : SM := sFor (iRange1 (aCons (oCall g__law_pick (aCons (oVar 0) (aCons (oFrz (oOp (aCons (oC (.int 1)) (aCons (oC (.int 1)) (aCons (oC (.int 2)) (aCons (oC (.int 2)) (aNil))))) fLst)) (aNil)))) (aNil))) (gmName 6) inBody
theorem in_loop (p : LV) (K : List Str) (s : LV) (n0 : Nat) (a4 a6 a7 a8 : LV) (d : Drawn p) (hK : K ≠ []) (hKz : K.length < 1000) (hn : n0 + 2 < 20) :
    ∃ p' k vs a6' a7', inLoop (envF p K s n0 a4 (.ml [encV (n0, [])]) a6 a7 a8) = .nx (envF p' K s (n0 + k) a4 (.ml (vs.map encV)) a6' a7' a8) ∧ Drawn p' ∧ k ≤ 2 ∧ InOk K n0 k vs := by
  obtain ⟨y, p1, e1, hy, d1⟩ := call_pickc (env := envF p K s n0 a4 (.ml [encV (n0, [])]) a6 a7 a8) rfl d (disp4 1 1 2 2 _) (by simp) (by simp)
  obtain ⟨t, rfl, ht⟩ : ∃ t : Nat, y = .int (t : Int) ∧ t ≤ 2 := by
    simp at hy
    rcases hy with rfl | rfl
    · exact ⟨1, rfl, by omega⟩
    · exact ⟨2, rfl, by omega⟩
  have e1' : oCall g__law_pick (aCons (oVar 0) (aCons (oFrz (oOp (aCons (oC (.int 1)) (aCons (oC (.int 1)) (aCons (oC (.int 2)) (aCons (oC (.int 2)) (aNil))))) fLst)) (aNil))) (envF p K s n0 a4 (.ml [encV (n0, [])]) a6 a7 a8) = .val (.tmp (li (t : Int))) (envF p1 K s n0 a4 (.ml [encV (n0, [])]) a6 a7 a8) := e1
  have e2 := for_val (g := gmName 6) (n := inBody) (range_val e1' (by omega))
  obtain ⟨env', h1, p', vs, a6', a7', h2, d', iv⟩ := forD_pre (g := gmName 6) (n := inBody) (fun pre env => ∃ p' vs a6' a7', env = envF p' K s (n0 + pre.length) a4 (.ml (vs.map encV)) a6' a7' a8 ∧ Drawn p' ∧ InOk K n0 pre.length vs) (rangeD 0 t)
    (fun pre x suf e hx ⟨p2, vs, a6', a7', he, d2, iv⟩ => by
      subst he
      have hl : pre.length + 1 ≤ t := by
        have := congrArg List.length hx
        rw [rangeD_len] at this
        simp at this
        omega
      obtain ⟨p3, a7'', vs', h3, d3, iv3⟩ := in_body p2 K s (n0 + pre.length) n0 pre.length vs a4 (.dat x) a7' a8 d2 hK hKz (by omega) rfl iv (by omega)
      refine ⟨envF p2 K s (n0 + pre.length) a4 (.ml (vs.map encV)) (.dat x) a7' a8, _, rfl, .inl h3, p3, vs', .dat x, a7'', ?_, d3, ?_⟩
      · rw [List.length_append, List.length_singleton]; rfl
      · rw [List.length_append, List.length_singleton]; exact iv3) (rangeD 0 t) [] (envF p1 K s n0 a4 (.ml [encV (n0, [])]) a6 a7 a8)
    ⟨p1, [(n0, [])], a6, a7, rfl, d1, ⟨by simp [List.range'], ⟨(n0, []), by simp, rfl⟩, by simp⟩⟩ rfl
  rw [rangeD_len] at h2 iv
  refine ⟨p', t, vs, a6', a7', ?_, d', ht, iv⟩
  unfold inLoop
  rw [e2, h1, h2]
end Lw
set_option maxRecDepth 100000
set_option maxHeartbeats 4000000
namespace Lw
open PySem PL
theorem lst1_val {m : AM} {e1 e2 : LEnv} {d : D} (h : m e1 = .val [.tmp (.dat d)] e2) : oOp m fLst e1 = .val (.tmp (.ml [d])) e2 := by
  have f : fLst [.dat d] = some (.ml [d]) := by simp [fLst, data, LV.datum, sizeLine_eq]
  simp only [oOp, h, gets, tmp_get dat_ok, f, ml_ok, if_true]
theorem tup0 (e : LEnv) : oFrz (oOp aNil fTup) e = .val (.tmp (.dat (.tup []))) e := by
  have f : fTup [] = some (.dat (.tup [])) := by simp [fTup, data]
  simp only [oFrz, oOp, aNil, gets, f, dat_ok, if_true, LV.frz]
theorem tagsOf_snoc (S : Sc) (kv : Str × List Vn) : tagsOf (S ++ [kv]) = tagsOf S ++ kv.2.map (·.1) := by simp [tagsOf]
def outBody : SM := (sSeq (sSet 5 (oOp (aCons (oFrz (oOp (aCons (oFrz (o2 (oC (.str "t")) (oOp (aCons (oVar 3) (aNil)) (f1 gStrN)) fAdd)) (aCons (oFrz (oOp (aNil) fTup)) (aNil))) fTup)) (aNil)) fLst)) (sSeq inLoop (sSeq (sPar2 3 8 (aCons (o2 (oVar 3) (oC (.int 1)) fAdd) (aCons (oCall g__law_below (aCons (oVar 0) (aCons (oFrz (oOp (aCons (oVar 5) (aNil)) fLenA)) (aNil)))) (aNil)))) (sPut (oOp (aCons (o2 (oSl (oVar 5) (pSome (oVar 8)) (pNone) slA) (oSl (oVar 5) (pNone) (pSome (oVar 8)) slA) fAdd) (aNil)) fTuple) (oVar 2) (oVar 4) stA))))
theorem out_body (p : LV) (K : List Str) (S : Sc) (n : Nat) (x : Str) (a5 a6 a7 a8 : LV) (d : Drawn p) (hK : K ≠ []) (hKz : K.length < 1000) (hn : n + 3 < 20) (ok : SchOk K S n) (hx : ∀ kv ∈ S, kv.1 ≠ x) (hS : S.length < 1000) :
    ∃ p' k vs a5' a6' a7' a8', outBody (envF p K (.md (S.map encK)) n (.dat (.str x)) a5 a6 a7 a8) = .nx (envF p' K (.md ((S ++ [(x, vs)]).map encK)) (n + k) (.dat (.str x)) a5' a6' a7' a8') ∧ Drawn p' ∧ k ≤ 3 ∧ SchOk K (S ++ [(x, vs)]) (n + k) := by
  have tg := eval_tag (env := envF p K (.md (S.map encK)) n (.dat (.str x)) a5 a6 a7 a8) (n := n) rfl (by omega)
  have f3 : fTup [.dat (.str (tagOf n)), .dat (.tup [])] = some (.dat (encV (n, []))) := by
    simp [fTup, data, LV.datum, encV, sizeLine_eq]
  have s1 := set_val (i := 5) (lst1_val (frz_tup2 (frz_dat tg) (tup0 _) rfl rfl f3))
  have s1' : (sSet 5 (oOp (aCons (oFrz (oOp (aCons (oFrz (o2 (oC (.str "t")) (oOp (aCons (oVar 3) (aNil)) (f1 gStrN)) fAdd)) (aCons (oFrz (oOp (aNil) fTup)) (aNil))) fTup)) (aNil)) fLst)) (envF p K (.md (S.map encK)) n (.dat (.str x)) a5 a6 a7 a8) = .nx (envF p K (.md (S.map encK)) n (.dat (.str x)) (.ml [encV (n, [])]) a6 a7 a8) := s1
  obtain ⟨p1, k, vs, a6', a7', s2, d1, hk, iv⟩ := in_loop p K (.md (S.map encK)) n (.dat (.str x)) a6 a7 a8 d hK hKz (by omega)
  have hvl : vs.length = k + 1 := by have := congrArg List.length iv.tags; simpa using this
  have ic := inc_val (i := 3) (env := envF p1 K (.md (S.map encK)) (n + k) (.dat (.str x)) (.ml (vs.map encV)) a6' a7' a8) (n := n + k) rfl
  have le := len_val (i := 5) (env := envF p1 K (.md (S.map encK)) (n + k) (.dat (.str x)) (.ml (vs.map encV)) a6' a7' a8) rfl
  obtain ⟨r, p2, e3, r0, r1, d2⟩ := call_below (env := envF p1 K (.md (S.map encK)) (n + k) (.dat (.str x)) (.ml (vs.map encV)) a6' a7' a8) (i := 0) rfl d1 le (by rw [List.length_map]; omega)
  obtain ⟨r', rfl⟩ : ∃ r' : Nat, r = r' := ⟨_, (Int.toNat_of_nonneg r0).symm⟩
  have s3 := par2_val (i := 3) (j := 8) ic e3
  have s3' : (sPar2 3 8 (aCons (o2 (oVar 3) (oC (.int 1)) fAdd) (aCons (oCall g__law_below (aCons (oVar 0) (aCons (oFrz (oOp (aCons (oVar 5) (aNil)) fLenA)) (aNil)))) (aNil)))) (envF p1 K (.md (S.map encK)) (n + k) (.dat (.str x)) (.ml (vs.map encV)) a6' a7' a8) = .nx (envF p2 K (.md (S.map encK)) (n + k + 1) (.dat (.str x)) (.ml (vs.map encV)) a6' a7' (li (r' : Int))) := s3
  have rt := rot_val (i := 5) (j := 8) (env := envF p2 K (.md (S.map encK)) (n + k + 1) (.dat (.str x)) (.ml (vs.map encV)) a6' a7' (li (r' : Int))) (ds := vs.map encV) (r := r') rfl rfl (by rw [sizeLine_eq, List.length_map]; omega)
  have s4 := put_dict (i := 2) (j := 4) (env1 := envF p2 K (.md (S.map encK)) (n + k + 1) (.dat (.str x)) (.ml (vs.map encV)) a6' a7' (li (r' : Int))) (kvs := S.map encK) (x := x) rt rfl rfl (fun kv h => by
    obtain ⟨q, h1, rfl⟩ := List.mem_map.mp h
    intro e
    exact hx q h1 (Sum.inr.inj e)) (by rw [sizeLine_eq, List.length_map]; omega)
  refine ⟨p2, k + 1, vs.drop r' ++ vs.take r', .ml (vs.map encV), a6', a7', li (r' : Int), ?_, d2, by omega, ?_⟩
  · unfold outBody
    rw [seq_nx s1', seq_nx s2, seq_nx s3', s4]
    have : (S ++ [(x, vs.drop r' ++ vs.take r')]).map encK = S.map encK ++ [(.inr x, .tup ((vs.map encV).drop r' ++ (vs.map encV).take r'))] := by
      simp [encK, List.map_drop, List.map_take]
    rw [this]
    rfl
  · have tg2 : ((vs.drop r' ++ vs.take r').map (·.1)).Perm (List.range' n (k + 1)) := by
      rw [← iv.tags]
      refine List.Perm.map _ ?_
      have : (vs.drop r' ++ vs.take r').Perm (vs.take r' ++ vs.drop r') := List.perm_append_comm
      rwa [List.take_append_drop] at this
    have mem : ∀ v, v ∈ vs.drop r' ++ vs.take r' → v ∈ vs := fun v h => by
      rcases List.mem_append.mp h with h | h
      · exact List.mem_of_mem_drop h
      · exact List.mem_of_mem_take h
    have mem2 : ∀ v, v ∈ vs → v ∈ vs.drop r' ++ vs.take r' := fun v h => by
      rw [← List.take_append_drop r' vs] at h
      rcases List.mem_append.mp h with h | h
      · exact List.mem_append_right _ h
      · exact List.mem_append_left _ h
    refine ⟨fun kv h => ?_, ?_, ?_⟩
    · rcases List.mem_append.mp h with h | h
      · exact ok.vars kv h
      · have e : kv = (x, vs.drop r' ++ vs.take r') := by simpa using h
        subst e
        refine ⟨?_, ?_, fun v hv => iv.kids v (mem v hv)⟩
        · obtain ⟨v, h1, h2⟩ := iv.leaf
          exact ⟨v, mem2 v h1, h2⟩
        · show (vs.drop r' ++ vs.take r').length ≤ 3
          rw [List.length_append, List.length_drop, List.length_take]
          omega
    · rw [tagsOf_snoc]
      refine List.nodup_append.mpr ⟨ok.nodup, tg2.nodup_iff.mpr List.nodup_range', fun a ha b hb e => ?_⟩
      have h1 := ok.less a ha
      have h2 := (tg2.mem_iff).mp hb
      rw [List.mem_range'] at h2
      obtain ⟨i, hi, rfl⟩ := h2
      omega
    · intro t ht
      rw [tagsOf_snoc] at ht
      rcases List.mem_append.mp ht with h | h
      · have := ok.less t h; omega
      · have h2 := (tg2.mem_iff).mp h
        rw [List.mem_range'] at h2
        obtain ⟨i, hi, rfl⟩ := h2
        omega
end Lw
set_option maxRecDepth 100000
set_option maxHeartbeats 4000000
namespace Lw
open PySem PL
def K3 : List Str := ["root", "b2", "c"]
theorem K3_nodup : K3.Nodup := by decide +kernel
structure SchemaOk (S : Sc) : Prop where
  keys : ∃ m, 1 ≤ m ∧ m ≤ 3 ∧ S.map (·.1) = K3.take m
  ok : ∃ n, n < 20 ∧ SchOk (S.map (·.1)) S n
theorem par3_val {i j k : Nat} {m1 m2 m3 : OM} {x y z : LV} {e1 e2 e3 e4 : LEnv} (q1 : m1 e1 = .val (.tmp x) e2) (q2 : m2 e2 = .val (.tmp y) e3) (q3 : m3 e3 = .val (.tmp z) e4) : sPar3 i j k (aCons m1 (aCons m2 (aCons m3 aNil))) e1 = .nx (((e4.set i x).set j y).set k z) := by
  simp only [sPar3, aCons, q1, q2, q3, aNil]
theorem disp_str3 (a b c : Str) (env : LEnv) : oOp (aCons (oC (.str a)) (aCons (oC (.str b)) (aCons (oC (.str c)) aNil))) fLst env = .val (.tmp (.ml [.str a, .str b, .str c])) env := by
  have f : fLst [.dat (.str a), .dat (.str b), .dat (.str c)] = some (.ml [.str a, .str b, .str c]) := by simp [fLst, data, LV.datum, sizeLine_eq]
  simp only [oOp, aCons, oC, aNil, gets, tmp_get dat_ok, f, ml_ok, if_true]
theorem walk_own {i : Nat} {env : LEnv} {ds : List D} (h : env[i]? = some (.ml ds)) : iAnyK (oVar i) env = .val ds (env.set i (.dat (.lst ds))) := by
  have v := var_of h rfl
  have f : oFrz (oVar i) env = .val (.tmp (.dat (.lst ds))) (env.set i (.dat (.lst ds))) := by simp only [oFrz, v, h, LV.frz]
  simp only [iAnyK, iOr, iSeq, f]
theorem full_schema (p : LV) (d : Drawn p) : ∃ S p', g__law_full_schema [p] = .ret (.md (S.map encK)) [p'] ∧ Drawn p' ∧ SchemaOk S := by
  have hm : m__law_full_schema = sSeq (sPar3 1 2 3 (aCons (oSl (oOp (aCons (oC (.str "root")) (aCons (oC (.str "b2")) (aCons (oC (.str "c")) (aNil)))) fLst) (pNone) (pSome (o2 (oC (.int 1)) (oCall g__law_below (aCons (oVar 0) (aCons (oC (.int 3)) (aNil)))) fAdd)) slA) (aCons (oNewK) (aCons (oC (.int 0)) (aNil))))) (sSeq (sFor (iAnyK (oVar 1)) (gmName 4) outBody) (sRet (oMove (oVar 2)))) := rfl
  obtain ⟨r, p1, e1, r0, r1, d1⟩ := call_below (env := [p, .un, .un, .un, .un, .un, .un, .un, .un, .un]) (i := 0) (m := oC (.int 3)) (n := 3) rfl d rfl (by decide)
  obtain ⟨r', rfl⟩ : ∃ r' : Nat, r = r' := ⟨_, (Int.toNat_of_nonneg r0).symm⟩
  have hr : r' ≤ 2 := by omega
  have pl : pSome (o2 (oC (.int 1)) (oCall g__law_below (aCons (oVar 0) (aCons (oC (.int 3)) (aNil)))) fAdd) [p, .un, .un, .un, .un, .un, .un, .un, .un, .un] = .val (some ((1 + r' : Nat) : Int)) [p1, .un, .un, .un, .un, .un, .un, .un, .un, .un] := by
    have e : (1 : Int) + (r' : Int) = ((1 + r' : Nat) : Int) := by omega
    simp only [pSome, o2, oOp, aCons, oC, e1, aNil, gets, tmp_get dat_ok, add_ok, dat_ok, if_true, e, List.set]
  have s1 : oSl (oOp (aCons (oC (.str "root")) (aCons (oC (.str "b2")) (aCons (oC (.str "c")) (aNil)))) fLst) (pNone) (pSome (o2 (oC (.int 1)) (oCall g__law_below (aCons (oVar 0) (aCons (oC (.int 3)) (aNil)))) fAdd)) slA [p, .un, .un, .un, .un, .un, .un, .un, .un, .un] = .val (.tmp (.ml ((K3.take (1 + r')).map .str))) [p1, .un, .un, .un, .un, .un, .un, .un, .un, .un] := by
    have e : ([D.str "root", D.str "b2", D.str "c"] : List D) = K3.map .str := rfl
    simp only [oSl, disp_str3, pNone, pl, tmp_get ml_ok, sl_ml, cut_to, ml_ok, if_true, e, List.map_take]
  have s2 := par3_val (i := 1) (j := 2) (k := 3) (m2 := oNewK) (m3 := oC (.int 0)) s1 rfl rfl
  have s2' : (sPar3 1 2 3 (aCons (oSl (oOp (aCons (oC (.str "root")) (aCons (oC (.str "b2")) (aCons (oC (.str "c")) (aNil)))) fLst) (pNone) (pSome (o2 (oC (.int 1)) (oCall g__law_below (aCons (oVar 0) (aCons (oC (.int 3)) (aNil)))) fAdd)) slA) (aCons (oNewK) (aCons (oC (.int 0)) (aNil))))) [p, .un, .un, .un, .un, .un, .un, .un, .un, .un] = .nx [p1, .ml ((K3.take (1 + r')).map .str), .md [], li 0, .un, .un, .un, .un, .un, .un] := s2
  have hKne : K3.take (1 + r') ≠ [] := by
    rw [show 1 + r' = r' + 1 by omega]
    simp [K3]
  have hKl : (K3.take (1 + r')).length = 1 + r' := by
    rw [List.length_take]
    show min (1 + r') 3 = 1 + r'
    omega
  have w := for_val (g := gmName 4) (n := outBody) (walk_own (i := 1) (env := [p1, .ml ((K3.take (1 + r')).map .str), .md [], li 0, .un, .un, .un, .un, .un, .un]) rfl)
  obtain ⟨env', h1, p', S, n, a4, a5, a6, a7, a8, h2, d', hkeys, ok, hn⟩ := forD_pre (g := gmName 4) (n := outBody) (fun pre env => ∃ (p' : LV) (S : Sc) (n : Nat) (a4 a5 a6 a7 a8 : LV), env = envF p' (K3.take (1 + r')) (.md (S.map encK)) n a4 a5 a6 a7 a8 ∧ Drawn p' ∧ (S.map fun kv => D.str kv.1) = pre ∧ SchOk (K3.take (1 + r')) S n ∧ n ≤ 3 * pre.length) ((K3.take (1 + r')).map .str)
    (fun pre x suf e hx ⟨p2, S, n, a4, a5, a6, a7, a8, he, d2, hk, ok, hn⟩ => by
      subst he
      have hl : pre.length + 1 ≤ 1 + r' := by
        have := congrArg List.length hx
        rw [List.length_map, hKl, List.length_append, List.length_cons] at this
        omega
      obtain ⟨y, hy, rfl⟩ : ∃ y, y ∈ K3.take (1 + r') ∧ D.str y = x := by
        have : x ∈ (K3.take (1 + r')).map D.str := by rw [← hx]; simp
        obtain ⟨y, h1, h2⟩ := List.mem_map.mp this
        exact ⟨y, h1, h2⟩
      have nd : ((K3.take (1 + r')).map D.str).Nodup := by
        exact List.pairwise_map.mpr (List.Pairwise.imp (fun h e => h (D.str.inj e)) (K3_nodup.sublist (List.take_sublist _ _)))
      have notin : ∀ kv ∈ S, kv.1 ≠ y := fun kv hkv e => by
        rw [← hx] at nd
        have h3 : D.str y ∈ pre := by rw [← hk]; exact List.mem_map.mpr ⟨kv, hkv, by rw [e]⟩
        exact (List.nodup_append.mp nd).2.2 _ h3 _ List.mem_cons_self rfl
      have hSl : S.length = pre.length := by rw [← hk]; simp
      obtain ⟨p3, k, vs, b5, b6, b7, b8, e3, d3, hk3, ok3⟩ := out_body p2 (K3.take (1 + r')) S n y a5 a6 a7 a8 d2 hKne (by rw [hKl]; omega) (by omega) ok notin (by omega)
      refine ⟨envF p2 (K3.take (1 + r')) (.md (S.map encK)) n (.dat (.str y)) a5 a6 a7 a8, _, rfl, .inl e3, p3, S ++ [(y, vs)], n + k, .dat (.str y), b5, b6, b7, b8, rfl, d3, ?_, ok3, ?_⟩
      · rw [List.map_append, hk]; rfl
      · rw [List.length_append, List.length_singleton]; omega) ((K3.take (1 + r')).map .str) [] (envF p1 (K3.take (1 + r')) (.md []) 0 .un .un .un .un .un)
    ⟨p1, [], 0, .un, .un, .un, .un, .un, rfl, d1, rfl, ⟨by simp, by simp [tagsOf], by simp [tagsOf]⟩, by simp⟩ rfl
  have hkeys' : S.map (·.1) = K3.take (1 + r') := by
    have : (S.map (·.1)).map D.str = (K3.take (1 + r')).map D.str := by rw [List.map_map]; exact hkeys
    exact (List.map_inj_right (fun x y h => D.str.inj h)).mp this
  refine ⟨S, p', ?_, d', ⟨1 + r', by omega, by omega, hkeys'⟩, n, ?_, ?_⟩
  · have e0 : [p] ++ List.replicate (10 - [p].length) LV.un = [p, .un, .un, .un, .un, .un, .un, .un, .un, .un] := rfl
    have okA : okArgs [0] [p] = true := by simp [okArgs]
    have w' : sFor (iAnyK (oVar 1)) (gmName 4) outBody [p1, .ml ((K3.take (1 + r')).map .str), .md [], li 0, .un, .un, .un, .un, .un, .un] = .nx (envF p' (K3.take (1 + r')) (.md (S.map encK)) n a4 a5 a6 a7 a8) := by
      rw [w, ← h2, ← h1]
      rfl
    have rt : sRet (oMove (oVar 2)) (envF p' (K3.take (1 + r')) (.md (S.map encK)) n a4 a5 a6 a7 a8) = .rt (.md (S.map encK)) ((envF p' (K3.take (1 + r')) (.md (S.map encK)) n a4 a5 a6 a7 a8).set 2 .un) := rfl
    unfold g__law_full_schema defM
    rw [if_pos okA, e0, hm, seq_nx s2', seq_nx w', rt]
    rfl
  · rw [List.length_map, hKl] at hn; omega
  · rw [hkeys']; exact ok
end Lw
set_option maxRecDepth 100000
set_option maxHeartbeats 4000000
namespace Lw
open PySem PL
/-- a loop that returns at the first of a kind -/
theorem forD_find {g : GM} {n : SM} (I : LEnv → Prop) (c : D → Bool) (r : D → LV) : ∀ (ds : List D) (env : LEnv), I env → (∀ d e, d ∈ ds → I e → ∃ e1, g d e = some e1 ∧ ((c d = false ∧ ∃ e2, n e1 = .nx e2 ∧ I e2) ∨ (c d = true ∧ ∃ e2, n e1 = .rt (r d) e2 ∧ I e2))) →
    ∃ e2, forD g n ds env = (match ds.find? c with | some d => .rt (r d) e2 | none => .nx e2) ∧ I e2
  | [], env, h, _ => ⟨env, rfl, h⟩
  | d :: ds, env, h, s => by
    obtain ⟨e1, h1, q⟩ := s d env List.mem_cons_self h
    rcases q with ⟨hc, e2, h2, h3⟩ | ⟨hc, e2, h2, h3⟩
    · obtain ⟨e3, h4, h5⟩ := forD_find I c r ds e2 h3 fun d e m => s d e (List.mem_cons_of_mem _ m)
      refine ⟨e3, ?_, h5⟩
      unfold forD
      simp only [h1, h2, List.find?_cons, hc]
      exact h4
    · refine ⟨e2, ?_, h3⟩
      unfold forD
      simp only [h1, h2, List.find?_cons, hc]
abbrev DS (S : Sc) : D := .dic (S.map encK)
theorem frz_var {env : LEnv} {i : Nat} {d : D} (h : env[i]? = some (.dat d)) : oFrz (oVar i) env = .val (.tmp (.dat d)) env := by
  have v := var_of h rfl
  have w : env.set i (.dat d) = env := by
    apply List.ext_getElem?
    intro j
    by_cases e : j = i
    · subst e; rw [h, List.getElem?_set_self (List.getElem?_eq_some_iff.mp h).1]
    · rw [List.getElem?_set_ne (Ne.symm e)]
  simp only [oFrz, v, h, LV.frz, w]
theorem items_val {env : LEnv} {i : Nat} {kvs : List (L2.Key × D)} {f : List (L2.Key × D) → List D} (h : env[i]? = some (.dat (.dic kvs))) : iDic f (oVar i) env = .val (f kvs) env := by simp only [iDic, frz_var h]
theorem walk_tup {m : OM} {e1 e2 : LEnv} {ds : List D} (h : oFrz m e1 = .val (.tmp (.dat (.tup ds))) e2) (h' : e2 = e1) : iAnyK m e1 = .val ds e1 := by
  subst h'
  simp only [iAnyK, iOr, iSeq, iTp, h]
theorem ix_tup0 {ds : List D} {d : D} : fIxA [.dat (.tup (d :: ds)), li 0] = some (.dat d) := ix_tup (k := 0) rfl
theorem ix_tup1 {ds : List D} {d d' : D} : fIxA [.dat (.tup (d :: d' :: ds)), li 1] = some (.dat d') := ix_tup (k := 1) rfl
theorem ix_val {i : Nat} {env : LEnv} {lv : LV} {k : Int} {d : D} (h : env[i]? = some lv) (ok : lv.ok = true) (x : fIxA [lv, li k] = some (.dat d)) : o2 (oVar i) (oC (.int k)) fIxA env = .val (.tmp (.dat d)) env := by
  have v := var_of h ok
  have g := var_get h ok
  simp only [o2, oOp, aCons, v, oC, aNil, gets, g, tmp_get dat_ok, x, dat_ok, if_true]
/-! a text in a list of texts -/
theorem pys_strs : ∀ l : List Str, D.pys (l.map .str) = some (l.map .str)
  | [] => rfl
  | c :: cs => by simp [D.pys, D.py, pys_strs cs]
theorem lay_strs : ∀ l : List Str, (∀ x ∈ l, PyData.strOk x = true) → PyData.canLayAll0 (l.map .str) = true
  | [], _ => rfl
  | c :: cs, h => by simp [PyData.canLayAll0, PyData.canLay0, h c List.mem_cons_self, lay_strs cs fun x m => h x (List.mem_cons_of_mem _ m)]
theorem dep_strs : ∀ l : List Str, PyData.depthAll (l.map .str) = 0
  | [] => rfl
  | c :: cs => by simp [PyData.depthAll, PyData.depth, dep_strs cs]
theorem in_strs {x : Str} {l : List Str} (hx : PyData.strOk x = true) (hl : ∀ y ∈ l, PyData.strOk y = true) : fInA [.dat (.str x), .ml (l.map .str)] = some (.dat (.bl (l.any fun y => y == x))) := by
  have s1 : SeqAt.shaped (.str x) = true := by simp [SeqAt.shaped, PyData.canLay0, PyData.depth, hx]
  have s2 : SeqAt.shaped (.list (l.map .str)) = true := by simp [SeqAt.shaped, PyData.canLay0, PyData.depth, lay_strs l hl, dep_strs]
  have e : (l.map PyData.str).any (fun z => PyData.eqv z (.str x)) = l.any fun y => y == x := by
    rw [List.any_map]
    congr 1
  simp only [fInA, fOr, fIn, fInD, f2, gInD, LV.py, D.py, pys_strs, s1, s2, Bool.and_self, if_true, e]
  rfl
def tagIn (x : Str) (kv : Str × List Vn) : Bool := kv.2.any fun v => tagOf v.1 == x
def kindD (S : Sc) (x : Str) : D := match S.find? (tagIn x) with
  | some kv => .str kv.1
  | none => .non
theorem kind_of (S : Sc) (x : Str) (hS : ∀ t ∈ tagsOf S, t < 20) (hx : PyData.strOk x = true) (hz : ∀ kv ∈ S, kv.2.length < 1000) : g_kind_of [.dat (DS S), .dat (.str x)] = .ret (.dat (kindD S x)) [.dat (DS S), .dat (.str x)] := by
  have hm : m_kind_of = sSeq (sFor (iDic itemsL (oVar 0)) (gmTup 2 (gmCons (gmName 2) (gmCons (gmName 3) (gmNil)))) (sIf (tOf (o2 (oVar 1) (oLc (iAnyK (oVar 3)) (gmName 4) (tYesM) (o2 (oVar 4) (oC (.int 0)) fIxA) [4]) fInA)) (sRet (oMove (oVar 2))) (sNil))) (sRet (oC .non)) := rfl
  have it := items_val (f := itemsL) (i := 0) (env := [.dat (DS S), .dat (.str x), .un, .un, .un]) rfl
  have body : ∀ (kv : Str × List Vn), kv ∈ S → (sIf (tOf (o2 (oVar 1) (oLc (iAnyK (oVar 3)) (gmName 4) (tYesM) (o2 (oVar 4) (oC (.int 0)) fIxA) [4]) fInA)) (sRet (oMove (oVar 2))) (sNil)) [.dat (DS S), .dat (.str x), .dat (.str kv.1), .dat (.tup (kv.2.map encV)), .un] = if tagIn x kv then .rt (.dat (.str kv.1)) [.dat (DS S), .dat (.str x), .un, .dat (.tup (kv.2.map encV)), .un] else .nx [.dat (DS S), .dat (.str x), .dat (.str kv.1), .dat (.tup (kv.2.map encV)), .un] := fun kv hkv => by
    have i1 := walk_tup (m := oVar 3) (e1 := [.dat (DS S), .dat (.str x), .dat (.str kv.1), .dat (.tup (kv.2.map encV)), .un]) (frz_var rfl) rfl
    have q := lcD_map (g := gmName 4) (t := tYesM) (m := o2 (oVar 4) (oC (.int 0)) fIxA) (vs := [4]) (c := fun _ => true) (f := fun d => match d with | .tup (t :: _) => t | y => y) (ds := kv.2.map encV) (env := [.dat (DS S), .dat (.str x), .dat (.str kv.1), .dat (.tup (kv.2.map encV)), .un])
      (by have := hz kv hkv; rw [sizeLine_eq, List.length_map]; omega) (fun d hd => by
        obtain ⟨v, _, rfl⟩ := List.mem_map.mp hd
        exact ⟨[.dat (DS S), .dat (.str x), .dat (.str kv.1), .dat (.tup (kv.2.map encV)), .dat (encV v)], rfl, rfl, fun _ => frz_dat (ix_val (i := 4) rfl rfl ix_tup0), rfl⟩)
    have q2 : ((kv.2.map encV).filter (fun _ => true)).map (fun d => match d with | .tup (t :: _) => t | y => y) = (kv.2.map fun v => tagOf v.1).map D.str := by
      rw [List.filter_eq_self.mpr (fun _ _ => rfl), List.map_map, List.map_map]
      rfl
    have lc : oLc (iAnyK (oVar 3)) (gmName 4) (tYesM) (o2 (oVar 4) (oC (.int 0)) fIxA) [4] [.dat (DS S), .dat (.str x), .dat (.str kv.1), .dat (.tup (kv.2.map encV)), .un] = .val (.tmp (.ml ((kv.2.map fun v => tagOf v.1).map D.str))) [.dat (DS S), .dat (.str x), .dat (.str kv.1), .dat (.tup (kv.2.map encV)), .un] := by
      have w : wipeE [.dat (DS S), .dat (.str x), .dat (.str kv.1), .dat (.tup (kv.2.map encV)), .un] [4] = [.dat (DS S), .dat (.str x), .dat (.str kv.1), .dat (.tup (kv.2.map encV)), .un] := rfl
      have z : restE [.dat (DS S), .dat (.str x), .dat (.str kv.1), .dat (.tup (kv.2.map encV)), .un] [.dat (DS S), .dat (.str x), .dat (.str kv.1), .dat (.tup (kv.2.map encV)), .un] [4] = [.dat (DS S), .dat (.str x), .dat (.str kv.1), .dat (.tup (kv.2.map encV)), .un] := rfl
      simp only [oLc, i1, w, q, q2, z]
    have inn := in_strs (x := x) (l := kv.2.map fun v => tagOf v.1) hx (fun y hy => by
      obtain ⟨v, hv, rfl⟩ := List.mem_map.mp hy
      exact tag_ok _ (hS _ (by
        unfold tagsOf
        exact List.mem_flatMap.mpr ⟨kv, hkv, List.mem_map.mpr ⟨v, hv, rfl⟩⟩)))
    have v1 : oVar 1 [.dat (DS S), .dat (.str x), .dat (.str kv.1), .dat (.tup (kv.2.map encV)), .un] = .val (.var 1) [.dat (DS S), .dat (.str x), .dat (.str kv.1), .dat (.tup (kv.2.map encV)), .un] := rfl
    have g1 : (Rf.var 1).get [.dat (DS S), .dat (.str x), .dat (.str kv.1), .dat (.tup (kv.2.map encV)), .un] = some (.dat (.str x)) := rfl
    have an : ((kv.2.map fun v => tagOf v.1).any fun y => y == x) = tagIn x kv := by unfold tagIn; rw [List.any_map]; rfl
    have t : tOf (o2 (oVar 1) (oLc (iAnyK (oVar 3)) (gmName 4) (tYesM) (o2 (oVar 4) (oC (.int 0)) fIxA) [4]) fInA) [.dat (DS S), .dat (.str x), .dat (.str kv.1), .dat (.tup (kv.2.map encV)), .un] = .val (tagIn x kv) [.dat (DS S), .dat (.str x), .dat (.str kv.1), .dat (.tup (kv.2.map encV)), .un] := by
      simp only [tOf, o2, oOp, aCons, v1, lc, aNil, gets, g1, tmp_get ml_ok, inn, an, dat_ok, if_true, tmp_get dat_ok]
    simp only [sIf, t]
    cases tagIn x kv <;> rfl
  have loop : ∀ (T : Sc) (a b : LV), (∀ kv ∈ T, kv ∈ S) → ∃ e2, forD (gmTup 2 (gmCons (gmName 2) (gmCons (gmName 3) (gmNil)))) (sIf (tOf (o2 (oVar 1) (oLc (iAnyK (oVar 3)) (gmName 4) (tYesM) (o2 (oVar 4) (oC (.int 0)) fIxA) [4]) fInA)) (sRet (oMove (oVar 2))) (sNil)) (itemsL (T.map encK)) [.dat (DS S), .dat (.str x), a, b, .un] = (match T.find? (tagIn x) with | some kv => .rt (.dat (.str kv.1)) e2 | none => .nx e2) := by
    intro T
    induction T with
    | nil => exact fun a b _ => ⟨_, rfl⟩
    | cons kv T ih =>
      intro a b hT
      have bd := body kv (hT kv List.mem_cons_self)
      have g0 : (gmTup 2 (gmCons (gmName 2) (gmCons (gmName 3) (gmNil)))) (.tup [dKey (encK kv).1, (encK kv).2]) [.dat (DS S), .dat (.str x), a, b, .un] = some [.dat (DS S), .dat (.str x), .dat (.str kv.1), .dat (.tup (kv.2.map encV)), .un] := rfl
      have it1 : itemsL ((kv :: T).map encK) = .tup [dKey (encK kv).1, (encK kv).2] :: itemsL (T.map encK) := rfl
      rw [it1]
      unfold forD
      simp only [g0, bd, List.find?_cons]
      cases c : tagIn x kv with
      | true => exact ⟨_, rfl⟩
      | false =>
        obtain ⟨e2, h⟩ := ih (.dat (.str kv.1)) (.dat (.tup (kv.2.map encV))) fun q m => hT q (List.mem_cons_of_mem _ m)
        refine ⟨e2, ?_⟩
        simp only [if_neg (show ¬ (false = true) by decide)]
        exact h
  obtain ⟨e2, lp⟩ := loop S .un .un fun _ m => m
  have e0 : [LV.dat (DS S), .dat (.str x)] ++ List.replicate (5 - [LV.dat (DS S), .dat (.str x)].length) LV.un = [.dat (DS S), .dat (.str x), .un, .un, .un] := rfl
  have okA : okArgs [] [LV.dat (DS S), .dat (.str x)] = true := rfl
  unfold g_kind_of defM
  rw [if_pos okA, e0, hm]
  have fv := for_val (g := gmTup 2 (gmCons (gmName 2) (gmCons (gmName 3) (gmNil)))) (n := sIf (tOf (o2 (oVar 1) (oLc (iAnyK (oVar 3)) (gmName 4) (tYesM) (o2 (oVar 4) (oC (.int 0)) fIxA) [4]) fInA)) (sRet (oMove (oVar 2))) (sNil)) it
  rw [lp] at fv
  unfold kindD
  cases c : S.find? (tagIn x) with
  | some kv =>
    simp only [c] at fv
    simp only [sSeq, fv]
    rfl
  | none =>
    simp only [c] at fv
    simp only [sSeq, fv]
    rfl
/-! children_of -/
def kidsD (S : Sc) (x : Str) : D := match (S.flatMap (·.2)).find? (fun v => tagOf v.1 == x) with
  | some v => .tup (v.2.map .str)
  | none => .non
end Lw
set_option maxRecDepth 100000
set_option maxHeartbeats 4000000
namespace Lw
open PySem PL
theorem eq_str {a b : Str} : fEqA [.dat (.str a), .dat (.str b)] = some (.dat (.bl (decide (a = b)))) := by simp [fEqA, fOr, f2, gEqS]
theorem tOf2 {i j : Nat} {env : LEnv} {x y : LV} {b : Bool} {f : List LV → Option LV} (h : env[i]? = some x) (kx : x.ok = true) (h2 : env[j]? = some y) (ky : y.ok = true) (hf : f [x, y] = some (.dat (.bl b))) : tOf (o2 (oVar i) (oVar j) f) env = .val b env := by
  have v := var_of h kx
  have g := var_get h kx
  have v2 := var_of h2 ky
  have g2 := var_get h2 ky
  simp only [tOf, o2, oOp, aCons, v, v2, aNil, gets, g, g2, hf, dat_ok, if_true, tmp_get dat_ok]
theorem children_of (S : Sc) (x : Str) : g_children_of [.dat (DS S), .dat (.str x)] = .ret (.dat (kidsD S x)) [.dat (DS S), .dat (.str x)] := by
  have hm : m_children_of = sSeq (sFor (iDic valsL (oVar 0)) (gmName 2) (sFor (iAnyK (oVar 2)) (gmTup 2 (gmCons (gmName 3) (gmCons (gmName 4) (gmNil)))) (sIf (tOf (o2 (oVar 3) (oVar 1) fEqA)) (sRet (oMove (oVar 4))) (sNil)))) (sRet (oC .non)) := rfl
  have it := items_val (f := valsL) (i := 0) (env := [.dat (DS S), .dat (.str x), .un, .un, .un]) rfl
  have inner : ∀ (vs : List Vn) (w a b : LV), ∃ e2 a' b', forD (gmTup 2 (gmCons (gmName 3) (gmCons (gmName 4) (gmNil)))) (sIf (tOf (o2 (oVar 3) (oVar 1) fEqA)) (sRet (oMove (oVar 4))) (sNil)) (vs.map encV) [.dat (DS S), .dat (.str x), w, a, b] = (match vs.find? (fun v => tagOf v.1 == x) with | some v => .rt (.dat (.tup (v.2.map .str))) e2 | none => .nx [.dat (DS S), .dat (.str x), w, a', b']) := by
    intro vs w
    induction vs with
    | nil => exact fun a b => ⟨[], a, b, rfl⟩
    | cons v vs ih =>
      intro a b
      have g0 : (gmTup 2 (gmCons (gmName 3) (gmCons (gmName 4) (gmNil)))) (encV v) [.dat (DS S), .dat (.str x), w, a, b] = some [.dat (DS S), .dat (.str x), w, .dat (.str (tagOf v.1)), .dat (.tup (v.2.map .str))] := rfl
      have t := tOf2 (i := 3) (j := 1) (env := [.dat (DS S), .dat (.str x), w, .dat (.str (tagOf v.1)), .dat (.tup (v.2.map .str))]) rfl rfl rfl rfl (eq_str (a := tagOf v.1) (b := x))
      rw [List.map_cons]
      unfold forD
      simp only [g0, sIf, t, List.find?_cons]
      by_cases c : tagOf v.1 = x
      · have c1 : (tagOf v.1 == x) = true := beq_iff_eq.mpr c
        simp only [c, c1, decide_true]
        refine ⟨[.dat (DS S), .dat (.str x), w, .dat (.str x), .un], a, b, ?_⟩
        simp only [beq_self_eq_true]
        rfl
      · have c1 : (tagOf v.1 == x) = false := beq_eq_false_iff_ne.mpr c
        obtain ⟨e2, a', b', h⟩ := ih (.dat (.str (tagOf v.1))) (.dat (.tup (v.2.map .str)))
        refine ⟨e2, a', b', ?_⟩
        simp only [c, c1, decide_false, sNil]
        exact h
  have loop : ∀ (T : Sc) (w a b : LV), ∃ e2, forD (gmName 2) (sFor (iAnyK (oVar 2)) (gmTup 2 (gmCons (gmName 3) (gmCons (gmName 4) (gmNil)))) (sIf (tOf (o2 (oVar 3) (oVar 1) fEqA)) (sRet (oMove (oVar 4))) (sNil))) (valsL (T.map encK)) [.dat (DS S), .dat (.str x), w, a, b] = (match (T.flatMap (·.2)).find? (fun v => tagOf v.1 == x) with | some v => .rt (.dat (.tup (v.2.map .str))) e2 | none => .nx e2) := by
    intro T
    induction T with
    | nil => exact fun w a b => ⟨_, rfl⟩
    | cons kv T ih =>
      intro w a b
      have g0 : (gmName 2) (encK kv).2 [.dat (DS S), .dat (.str x), w, a, b] = some [.dat (DS S), .dat (.str x), .dat (.tup (kv.2.map encV)), a, b] := rfl
      have i1 := for_val (g := gmTup 2 (gmCons (gmName 3) (gmCons (gmName 4) (gmNil)))) (n := sIf (tOf (o2 (oVar 3) (oVar 1) fEqA)) (sRet (oMove (oVar 4))) (sNil)) (walk_tup (m := oVar 2) (e1 := [.dat (DS S), .dat (.str x), .dat (.tup (kv.2.map encV)), a, b]) (frz_var rfl) rfl)
      obtain ⟨e2, a', b', h1⟩ := inner kv.2 (.dat (.tup (kv.2.map encV))) a b
      have it1 : valsL ((kv :: T).map encK) = (encK kv).2 :: valsL (T.map encK) := rfl
      rw [it1, List.flatMap_cons, List.find?_append]
      unfold forD
      simp only [g0, i1, h1]
      cases c : kv.2.find? (fun v => tagOf v.1 == x) with
      | some v => exact ⟨e2, rfl⟩
      | none =>
        obtain ⟨e3, h⟩ := ih (.dat (.tup (kv.2.map encV))) a' b'
        exact ⟨e3, by simpa using h⟩
  obtain ⟨e2, lp⟩ := loop S .un .un .un
  have e0 : [LV.dat (DS S), .dat (.str x)] ++ List.replicate (5 - [LV.dat (DS S), .dat (.str x)].length) LV.un = [.dat (DS S), .dat (.str x), .un, .un, .un] := rfl
  have okA : okArgs [] [LV.dat (DS S), .dat (.str x)] = true := rfl
  unfold g_children_of defM
  rw [if_pos okA, e0, hm]
  have fv := for_val (g := gmName 2) (n := sFor (iAnyK (oVar 2)) (gmTup 2 (gmCons (gmName 3) (gmCons (gmName 4) (gmNil)))) (sIf (tOf (o2 (oVar 3) (oVar 1) fEqA)) (sRet (oMove (oVar 4))) (sNil))) it
  rw [lp] at fv
  unfold kidsD
  cases c : (S.flatMap (·.2)).find? (fun v => tagOf v.1 == x) with
  | some v =>
    simp only [c] at fv
    simp only [sSeq, fv]
    rfl
  | none =>
    simp only [c] at fv
    simp only [sSeq, fv]
    rfl
end Lw
set_option maxRecDepth 100000
set_option maxHeartbeats 4000000
namespace Lw
open PySem PL
/-- data of a kind that the walk knows, so deep at most -/
def Fine : Nat → D → Prop
  | _, .non => True
  | _, .bl _ => True
  | _, .int _ => True
  | _, .str x => PyData.strOk x = true
  | n + 1, .tup ds => ∀ e ∈ ds, Fine n e
  | n + 1, .lst ds => ∀ e ∈ ds, Fine n e
  | n + 1, .dic kvs => ∀ kv ∈ kvs, Fine n kv.2
  | _, _ => False
def isTupD : D → Bool
  | .tup _ => true
  | _ => false
def isStrD : D → Bool
  | .str _ => true
  | _ => false
theorem b_tup : isB "NoneType" "tuple" = some false ∧ isB "bool" "tuple" = some false ∧ isB "int" "tuple" = some false ∧ isB "str" "tuple" = some false ∧ isB "tuple" "tuple" = some true ∧ isB "list" "tuple" = some false ∧ isB "dict" "tuple" = some false := by
  refine ⟨?_, ?_, ?_, ?_, ?_, ?_, ?_⟩ <;> decide +kernel
theorem b_str : isB "NoneType" "str" = some false ∧ isB "bool" "str" = some false ∧ isB "int" "str" = some false ∧ isB "str" "str" = some true ∧ isB "tuple" "str" = some false ∧ isB "list" "str" = some false ∧ isB "dict" "str" = some false := by
  refine ⟨?_, ?_, ?_, ?_, ?_, ?_, ?_⟩ <;> decide +kernel
theorem isi_tup {n : Nat} {d : D} (h : Fine n d) : fIsiA [.dat d, .dat (.cst (.ty "tuple"))] = some (.dat (.bl (isTupD d))) := by
  obtain ⟨h1, h2, h3, h4, h5, h6, h7⟩ := b_tup
  cases d <;> first | (exfalso; cases n <;> exact h.elim) | simp [fIsiA, fOr, fIsi, f2, gIsi, LV.tn, h1, h2, h3, h4, h5, h6, h7, isTupD]
theorem isi_str {n : Nat} {d : D} (h : Fine n d) : fIsiA [.dat d, .dat (.cst (.ty "str"))] = some (.dat (.bl (isStrD d))) := by
  obtain ⟨h1, h2, h3, h4, h5, h6, h7⟩ := b_str
  cases d <;> first | (exfalso; cases n <;> exact h.elim) | simp [fIsiA, fOr, fIsi, f2, gIsi, LV.tn, h1, h2, h3, h4, h5, h6, h7, isStrD]
theorem pys_len : ∀ {ds : List D} {ps : List PyData}, D.pys ds = some ps → ps.length = ds.length
  | [], ps, h => by simp [D.pys] at h; subst h; rfl
  | d :: ds, ps, h => by
    unfold D.pys at h
    cases e1 : D.py d with
    | none => simp [e1] at h
    | some p =>
      cases e2 : D.pys ds with
      | none => simp [e1, e2] at h
      | some ps' =>
        simp only [e1, e2, Option.some.injEq] at h
        subst h
        simp [pys_len e2]
theorem eq_unit (ds : List D) : fEqA [.dat (.tup ds), .dat (.tup [])] = some (.dat (.bl ds.isEmpty)) := by
  have t : gTe (.dat (.tup ds)) (.dat (.tup [])) = some (.dat (.bl ds.isEmpty)) := by
    cases ds <;> simp [gTe]
  have k : gDe false (.dat (.tup ds)) (.dat (.tup [])) = none := by simp [gDe, LV.dicK]
  have q : fEqD [.dat (.tup ds), .dat (.tup [])] = none ∨ fEqD [.dat (.tup ds), .dat (.tup [])] = some (.dat (.bl ds.isEmpty)) := by
    show gEqD false (.dat (.tup ds)) (.dat (.tup [])) = none ∨ gEqD false (.dat (.tup ds)) (.dat (.tup [])) = some (.dat (.bl ds.isEmpty))
    unfold gEqD
    simp only [LV.py, D.py, D.pys]
    cases e : D.pys ds with
    | none => left; rfl
    | some ps =>
      have l := pys_len e
      simp only
      split
      · right
        cases ds with
        | nil => cases ps with
          | nil => rfl
          | cons _ _ => simp at l
        | cons _ _ => cases ps with
          | nil => simp at l
          | cons _ _ => rfl
      · left; rfl
  have s : f2 (gEqS false) [.dat (.tup ds), .dat (.tup [])] = none := rfl
  rw [fEqA, fOr, s]
  rcases q with q | q <;> simp only [fOr, q, f2, k, t]
theorem tru_val {i : Nat} {env : LEnv} {x : LV} {c : D} {f : List LV → Option LV} {b : Bool} (h : env[i]? = some x) (kx : x.ok = true) (hf : f [x, .dat c] = some (.dat (.bl b))) : tTru (oOp (aCons (oVar i) (aCons (oC c) aNil)) f) env = .val b env := by
  have v := var_of h kx
  have g := var_get h kx
  simp only [tTru, oOp, aCons, v, oC, aNil, gets, g, tmp_get dat_ok, hf, dat_ok, if_true, LV.truth]
/-- no tuple, or empty, or one whose first item is no text -/
def noTag : D → Bool
  | .tup (.str _ :: _) => false
  | _ => true
theorem test1 {n : Nat} {env : LEnv} {d : D} (h : env[2]? = some (.dat d)) (hf : Fine n d) :
    (tmOr (tmNot (tTru (oOp (aCons (oVar 2) (aCons (oC (.cst (.ty "tuple"))) (aNil))) fIsiA))) (tmOr (tOf (o2 (oVar 2) (oOp (aNil) fTup) fEqA)) (tmNot (tTru (oOp (aCons (o2 (oVar 2) (oC (.int 0)) fIxA) (aCons (oC (.cst (.ty "str"))) (aNil))) fIsiA))))) env = .val (noTag d) env := by
  have t1 := tru_val (c := .cst (.ty "tuple")) (f := fIsiA) h rfl (isi_tup hf)
  have v := var_of h rfl
  have g := var_get h rfl
  have tup0 : oOp aNil fTup env = .val (.tmp (.dat (.tup []))) env := by
    have f : fTup [] = some (.dat (.tup [])) := by simp [fTup, data]
    simp only [oOp, aNil, gets, f, dat_ok, if_true]
  simp only [tmOr, tmNot, t1]
  cases d with
  | tup ds =>
    have t2 : tOf (o2 (oVar 2) (oOp (aNil) fTup) fEqA) env = .val ds.isEmpty env := by
      simp only [tOf, o2, oOp, aCons, v, aNil, gets, g]
      have f : fTup [] = some (.dat (.tup [])) := by simp [fTup, data]
      simp only [f, dat_ok, if_true, tmp_get dat_ok, g, gets, eq_unit]
    simp only [isTupD, Bool.not_true, t2]
    cases ds with
    | nil => rfl
    | cons x xs =>
      have ix := ix_val (k := 0) h rfl (ix_tup0 (ds := xs) (d := x))
      have fx : ∃ m, Fine m x := by
        cases n with
        | zero => exact hf.elim
        | succ n => exact ⟨n, hf x List.mem_cons_self⟩
      obtain ⟨m, fx⟩ := fx
      have t3 : tTru (oOp (aCons (o2 (oVar 2) (oC (.int 0)) fIxA) (aCons (oC (.cst (.ty "str"))) (aNil))) fIsiA) env = .val (isStrD x) env := by
        simp only [tTru, oOp, aCons, ix, oC, aNil, gets, tmp_get dat_ok, isi_str fx, dat_ok, if_true, LV.truth]
      simp only [List.isEmpty_cons, t3]
      cases x <;> rfl
  | _ => rfl
end Lw
set_option maxRecDepth 100000
set_option maxHeartbeats 4000000
namespace Lw
open PySem PL
theorem call2 {g : FM} {m1 m2 : OM} {d1 d2 r : D} {e : LEnv} (q1 : m1 e = .val (.tmp (.dat d1)) e) (q2 : m2 e = .val (.tmp (.dat d2)) e) (hg : g [.dat d1, .dat d2] = .ret (.dat r) [.dat d1, .dat d2]) : oCall g (aCons m1 (aCons m2 aNil)) e = .val (.tmp (.dat r)) e := by
  simp only [oCall, aCons, q1, q2, aNil, gets, tmp_get dat_ok, hg]
  rfl
theorem call3 {g : FM} {m1 m2 m3 : OM} {d1 d2 d3 r : D} {e : LEnv} (q1 : m1 e = .val (.tmp (.dat d1)) e) (q2 : m2 e = .val (.tmp (.dat d2)) e) (q3 : m3 e = .val (.tmp (.dat d3)) e) (hg : g [.dat d1, .dat d2, .dat d3] = .ret (.dat r) [.dat d1, .dat d2, .dat d3]) : oCall g (aCons m1 (aCons m2 (aCons m3 aNil))) e = .val (.tmp (.dat r)) e := by
  simp only [oCall, aCons, q1, q2, q3, aNil, gets, tmp_get dat_ok, hg]
  rfl
theorem ne_int (a b : Int) : fNeA [li a, li b] = some (.dat (.bl (!decide (a = b)))) := by
  have s : ∀ i : Int, SeqAt.shaped (.int i) = true := fun i => by simp [SeqAt.shaped, PyData.canLay0, PyData.depth]
  have e : PyData.eqv (.int a) (.int b) = decide (a = b) := by
    rw [Bool.eq_iff_iff]
    simp [PyData.eqv]
  simp [fNeA, fOr, f2, gEqS, fNeD, gEqD, LV.py, D.py, s, e]
theorem ne_str (a b : Str) : fNeA [.dat (.str a), .dat (.str b)] = some (.dat (.bl (!decide (a = b)))) := by simp [fNeA, fOr, f2, gEqS]
theorem ne_non (b : Str) : fNeA [.dat .non, .dat (.str b)] = some (.dat (.bl true)) := by simp [fNeA, fOr, f2, gEqS]
theorem sl_tup {ds : List D} {lo hi : Option Int} : slA (.dat (.tup ds)) lo hi = some (.dat (.tup (cutD ds lo hi))) := by simp [slA, slL, slT]
theorem tail_val {i : Nat} {env : LEnv} {x : D} {ds : List D} (h : env[i]? = some (.dat (.tup (x :: ds)))) : oSl (oVar i) (pSome (oC (.int 1))) pNone slA env = .val (.tmp (.dat (.tup ds))) env := by
  have v := var_of h rfl
  have g := var_get h rfl
  have p : pSome (oC (.int 1)) env = .val (some 1) env := by simp only [pSome, oC, tmp_get dat_ok]
  have c : cutD (x :: ds) (some 1) none = ds := cut_from (x :: ds) 1
  simp only [oSl, v, p, pNone, g, sl_tup, c, dat_ok, if_true]
theorem zip_val {m1 m2 : OM} {xs ys : List D} {e : LEnv} (q1 : m1 e = .val (.tmp (.dat (.tup xs))) e) (q2 : m2 e = .val (.tmp (.dat (.tup ys))) e) : iZipM (aCons m1 (aCons m2 aNil)) e = .val (zipD xs ys) e := by
  simp only [iZipM, aCons, q1, q2, aNil, gets, tmp_get dat_ok]
theorem zipD_mem : ∀ {xs ys : List D} {d : D}, d ∈ zipD xs ys → ∃ x y, d = .tup [x, y] ∧ x ∈ xs ∧ y ∈ ys
  | [], _, _, h => by simp [zipD] at h
  | _ :: _, [], _, h => by simp [zipD] at h
  | x :: xs, y :: ys, d, h => by
    unfold zipD at h
    rcases List.mem_cons.mp h with rfl | h
    · exact ⟨x, y, rfl, List.mem_cons_self, List.mem_cons_self⟩
    · obtain ⟨a, b, e, h1, h2⟩ := zipD_mem h
      exact ⟨a, b, e, List.mem_cons_of_mem _ h1, List.mem_cons_of_mem _ h2⟩
theorem zipD_short {xs ys : List D} : (zipD xs ys).length ≤ xs.length := by rw [zipD_length]; omega
theorem bools_map : ∀ l : List Bool, bools (l.map .bl) = some l
  | [] => rfl
  | b :: l => by simp [bools, bools_map l]
theorem all_ml (l : List Bool) : fAll [.ml (l.map .bl)] = some (.dat (.bl (l.all id))) := by
  simp [fAll, f1, gAll, LV.items, bools_map]
def kidsOf (S : Sc) (x : Str) : Option (List Str) := ((S.flatMap (·.2)).find? (fun v => tagOf v.1 == x)).map (·.2)
theorem kidsD_eq (S : Sc) (x : Str) : kidsD S x = match kidsOf S x with | some cs => .tup (cs.map .str) | none => .non := by
  unfold kidsD kidsOf
  cases (S.flatMap (·.2)).find? (fun v => tagOf v.1 == x) <;> rfl
theorem kids_some {S : Sc} {x : Str} {kv : Str × List Vn} (h : S.find? (tagIn x) = some kv) : ∃ cs, kidsOf S x = some cs := by
  unfold kidsOf
  have h1 := List.find?_some h
  have h2 := List.mem_of_find?_eq_some h
  unfold tagIn at h1
  obtain ⟨v, hv, hx⟩ := List.any_eq_true.mp h1
  cases e : (S.flatMap (·.2)).find? (fun v => tagOf v.1 == x) with
  | some w => exact ⟨_, rfl⟩
  | none =>
    rw [List.find?_eq_none] at e
    exact absurd hx (e v (List.mem_flatMap.mpr ⟨kv, h2, hv⟩))
def allT (f : Str → D → Bool) : List Str → List D → Bool
  | c :: cs, d :: ds => f c d && allT f cs ds
  | _, _ => true
theorem allT_zip (f : Str → D → Bool) : ∀ (cs : List Str) (ds : List D), ((zipD (cs.map .str) ds).map fun d => match d with | .tup [.str c, x] => f c x | _ => false).all id = allT f cs ds
  | [], _ => rfl
  | _ :: _, [] => rfl
  | c :: cs, d :: ds => by
    simp only [List.map_cons, zipD, List.all_cons, id, allT]
    rw [allT_zip f cs ds]
def isT (S : Sc) : Nat → Str → D → Bool
  | n + 1, k, .tup (.str x :: ds) => match S.find? (tagIn x), kidsOf S x with
    | some kv, some cs => decide (kv.1 = k) && (decide (cs.length = ds.length) && allT (isT S n) cs ds)
    | _, _ => false
  | _, _, _ => false
end Lw
set_option maxRecDepth 100000
set_option maxHeartbeats 4000000
namespace Lw
open PySem PL
theorem back_nil (lvs : List LV) (env : LEnv) : back [] lvs env = lvs := by
  unfold back
  simp
theorem def_rt {N : Nat} {body : SM} {lvs : List LV} {lv : LV} {e0 e2 : LEnv} (ok : okArgs [] lvs = true) (he : lvs ++ List.replicate (N - lvs.length) LV.un = e0) (h : body e0 = .rt lv e2) : defM N [] body lvs = .ret lv lvs := by
  unfold defM
  rw [if_pos ok, he, h]
  simp only [back_nil]
theorem if_t {t : TM} {n1 n2 : SM} {e e1 : LEnv} (h : t e = .val true e1) : sIf t n1 n2 e = n1 e1 := by simp only [sIf, h]
theorem if_f {t : TM} {n1 n2 : SM} {e e1 : LEnv} (h : t e = .val false e1) : sIf t n1 n2 e = n2 e1 := by simp only [sIf, h]
theorem if_n {t : TM} {n1 : SM} {e e1 : LEnv} (h : t e = .val false e1) : sIf t n1 sNil e = .nx e1 := by simp only [sIf, h]; rfl
theorem seq_rt {n1 n2 : SM} {e1 e2 : LEnv} {lv : LV} (h : n1 e1 = .rt lv e2) : sSeq n1 n2 e1 = .rt lv e2 := by simp only [sSeq, h]
theorem ret_c (d : D) (e : LEnv) : sRet (oC d) e = .rt (.dat d) e := rfl
theorem len_tupv {i : Nat} {env : LEnv} {ds : List D} (h : env[i]? = some (.dat (.tup ds))) : oOp (aCons (oVar i) aNil) fLenA env = .val (.tmp (li (ds.length : Int))) env := by
  have v := var_of h rfl
  have g := var_get h rfl
  have l : fLenA [.dat (.tup ds)] = some (li (ds.length : Int)) := by simp [fLenA, fOr, fLen, f1, gLen]
  simp only [oOp, aCons, v, aNil, gets, g, l, dat_ok, if_true]
theorem op_val {m1 m2 : OM} {x y : LV} {z : D} {f : List LV → Option LV} {e : LEnv} (q1 : m1 e = .val (.tmp x) e) (q2 : m2 e = .val (.tmp y) e) (k1 : x.ok = true) (k2 : y.ok = true) (h : f [x, y] = some (.dat z)) : o2 m1 m2 f e = .val (.tmp (.dat z)) e := by
  simp only [o2, oOp, aCons, q1, q2, aNil, gets, tmp_get k1, tmp_get k2, h, dat_ok, if_true]
theorem of_val {m : OM} {b : Bool} {e : LEnv} (h : m e = .val (.tmp (.dat (.bl b))) e) : tOf m e = .val b e := by simp only [tOf, h, tmp_get dat_ok]
theorem op_val2 {m1 : OM} {j : Nat} {x y : LV} {z : D} {f : List LV → Option LV} {e : LEnv} (q1 : m1 e = .val (.tmp x) e) (h2 : e[j]? = some y) (k1 : x.ok = true) (k2 : y.ok = true) (h : f [x, y] = some (.dat z)) : o2 m1 (oVar j) f e = .val (.tmp (.dat z)) e := by
  simp only [o2, oOp, aCons, q1, var_of h2 k2, aNil, gets, tmp_get k1, var_get h2 k2, h, dat_ok, if_true]
theorem frz_tmp {m : OM} {d : D} {e : LEnv} (h : m e = .val (.tmp (.dat d)) e) : oFrz m e = .val (.tmp (.dat d)) e := frz_dat h
theorem add1 (n : Nat) : fAdd [li (n : Int), li 1] = some (li ((n + 1 : Nat) : Int)) := by
  have e : ((n : Int) + 1) = ((n + 1 : Nat) : Int) := by omega
  rw [add_ok, e]
def zf (f : Str → D → Bool) : D → Bool
  | .tup [.str c, x] => f c x
  | _ => false
theorem zf_zip (f : Str → D → Bool) : ∀ (cs : List Str) (ds : List D), ((zipD (cs.map .str) ds).map (zf f)).all id = allT f cs ds
  | [], _ => rfl
  | _ :: _, [] => rfl
  | c :: cs, d :: ds => by
    simp only [List.map_cons, zipD, List.all_cons, id, allT, zf]
    rw [zf_zip f cs ds]
theorem isT_not {S : Sc} {n : Nat} {k : Str} {d : D} (h : noTag d = true) : isT S (n + 1) k d = false := by
  cases d with
  | tup ds => cases ds with
    | nil => rfl
    | cons x xs => cases x <;> first | rfl | (simp [noTag] at h)
  | _ => rfl
theorem is_tree_spec {K : List Str} {S : Sc} {b : Nat} (ok : SchOk K S b) (hb : b ≤ 20) : ∀ (n m : Nat) (k : Str) (d : D), Fine m d → m < n → g_is_tree n [.dat (DS S), .dat (.str k), .dat d] = .ret (.dat (.bl (isT S n k d))) [.dat (DS S), .dat (.str k), .dat d] := by
  intro n
  induction n with
  | zero => exact fun m _ _ _ h => absurd h (by omega)
  | succ n ih =>
    intro m k d hf hm
    have hd : m_is_tree (g_is_tree n) = sSeq (sIf (tmOr (tmNot (tTru (oOp (aCons (oVar 2) (aCons (oC (.cst (.ty "tuple"))) (aNil))) fIsiA))) (tmOr (tOf (o2 (oVar 2) (oOp (aNil) fTup) fEqA)) (tmNot (tTru (oOp (aCons (o2 (oVar 2) (oC (.int 0)) fIxA) (aCons (oC (.cst (.ty "str"))) (aNil))) fIsiA))))) (sRet (oC (.bl false))) (sNil)) (sSeq (sIf (tOf (o2 (oCall g_kind_of (aCons (oFrz (oVar 0)) (aCons (oFrz (o2 (oVar 2) (oC (.int 0)) fIxA)) (aNil)))) (oVar 1) fNeA)) (sRet (oC (.bl false))) (sNil)) (sSeq (sSet 3 (oCall g_children_of (aCons (oFrz (oVar 0)) (aCons (oFrz (o2 (oVar 2) (oC (.int 0)) fIxA)) (aNil))))) (sSeq (sIf (tOf (o2 (oOp (aCons (oVar 2) (aNil)) fLenA) (o2 (oOp (aCons (oVar 3) (aNil)) fLenA) (oC (.int 1)) fAdd) fNeA)) (sRet (oC (.bl false))) (sNil)) (sRet (oOp (aCons (oLc (iZipM (aCons (oFrz (oVar 3)) (aCons (oFrz (oSl (oVar 2) (pSome (oC (.int 1))) (pNone) slA)) (aNil)))) (gmTup 2 (gmCons (gmName 4) (gmCons (gmName 5) (gmNil)))) (tYesM) (oCall (g_is_tree n) (aCons (oFrz (oVar 0)) (aCons (oFrz (oVar 4)) (aCons (oFrz (oVar 5)) (aNil))))) [4, 5]) (aNil)) fAll))))) := rfl
    have t1 := test1 (env := [.dat (DS S), .dat (.str k), .dat d, .un, .un, .un]) rfl hf
    have okA : okArgs [] [LV.dat (DS S), .dat (.str k), .dat d] = true := rfl
    have goal : ∃ e2, m_is_tree (g_is_tree n) [.dat (DS S), .dat (.str k), .dat d, .un, .un, .un] = .rt (.dat (.bl (isT S (n + 1) k d))) e2 := by
      rw [hd]
      cases hn : noTag d with
      | true =>
        rw [hn] at t1
        rw [isT_not hn]
        exact ⟨_, seq_rt ((if_t t1).trans (ret_c _ _))⟩
      | false =>
        rw [hn] at t1
        rw [seq_nx (if_n t1)]
        cases d with
        | tup ds => cases ds with
          | nil => simp [noTag] at hn
          | cons x xs => cases x with
            | str x =>
              cases m with
              | zero => exact hf.elim
              | succ m =>
              have hx : PyData.strOk x = true := by
                have := hf (.str x) List.mem_cons_self
                cases m <;> exact this
              have fr0 : ∀ w : LV, oFrz (oVar 0) [.dat (DS S), .dat (.str k), .dat (.tup (.str x :: xs)), w, .un, .un] = .val (.tmp (.dat (DS S))) [.dat (DS S), .dat (.str k), .dat (.tup (.str x :: xs)), w, .un, .un] := fun w => frz_var rfl
              have hd0 : oFrz (o2 (oVar 2) (oC (.int 0)) fIxA) [.dat (DS S), .dat (.str k), .dat (.tup (.str x :: xs)), .un, .un, .un] = .val (.tmp (.dat (.str x))) [.dat (DS S), .dat (.str k), .dat (.tup (.str x :: xs)), .un, .un, .un] := frz_tmp (ix_val (i := 2) rfl rfl ix_tup0)
              have kd := call2 (fr0 .un) hd0 (kind_of S x (fun t ht => by have := ok.less t ht; omega) hx (fun kv hkv => by have := (ok.vars kv hkv).few; omega))
              have ck := call2 (fr0 .un) hd0 (children_of S x)
              unfold isT
              cases e1 : S.find? (tagIn x) with
              | none =>
                have kn : kindD S x = .non := by unfold kindD; rw [e1]
                rw [kn] at kd
                have t := of_val (op_val2 (j := 1) kd rfl rfl rfl (ne_non k))
                exact ⟨_, seq_rt ((if_t t).trans (ret_c _ _))⟩
              | some kv =>
                have kn : kindD S x = .str kv.1 := by unfold kindD; rw [e1]
                obtain ⟨cs, e2⟩ := kids_some e1
                have cn := kidsD_eq S x
                rw [e2] at cn
                rw [e2]
                rw [kn] at kd
                simp only at cn
                rw [cn] at ck
                have t := of_val (op_val2 (j := 1) kd rfl rfl rfl (ne_str kv.1 k))
                by_cases c : kv.1 = k
                · simp only [c, decide_true, Bool.not_true] at t
                  rw [seq_nx (if_n t), seq_nx (set_val ck)]
                  simp only [c, decide_true, Bool.true_and]
                  have hcs : cs.length ≤ 3 := by
                    unfold kidsOf at e2
                    cases e3 : (S.flatMap (·.2)).find? (fun v => tagOf v.1 == x) with
                    | none => rw [e3] at e2; cases e2
                    | some v =>
                      rw [e3] at e2
                      cases e2
                      obtain ⟨kv', h1, h2⟩ := List.mem_flatMap.mp (List.mem_of_find?_eq_some e3)
                      exact ((ok.vars kv' h1).kids v h2).2
                  show ∃ e2, (sSeq (sIf (tOf (o2 (oOp (aCons (oVar 2) (aNil)) fLenA) (o2 (oOp (aCons (oVar 3) (aNil)) fLenA) (oC (.int 1)) fAdd) fNeA)) (sRet (oC (.bl false))) (sNil)) _) [.dat (DS S), .dat (.str k), .dat (.tup (.str x :: xs)), .dat (.tup (cs.map .str)), .un, .un] = _
                  have l2 := len_tupv (i := 2) (env := [.dat (DS S), .dat (.str k), .dat (.tup (.str x :: xs)), .dat (.tup (cs.map .str)), .un, .un]) rfl
                  have l3 := len_tupv (i := 3) (env := [.dat (DS S), .dat (.str k), .dat (.tup (.str x :: xs)), .dat (.tup (cs.map .str)), .un, .un]) rfl
                  have a3 := op_val l3 (rfl : oC (.int 1) _ = .val (.tmp (li 1)) _) rfl rfl (add1 _)
                  have tl := of_val (op_val l2 a3 rfl rfl (ne_int _ _))
                  simp only [List.length_cons, List.length_map] at tl
                  by_cases q : cs.length = xs.length
                  · have q1 : ((xs.length + 1 : Nat) : Int) = ((cs.length + 1 : Nat) : Int) := by omega
                    simp only [q1, decide_true, Bool.not_true] at tl
                    rw [seq_nx (if_n tl)]
                    have f3 : oFrz (oVar 3) [.dat (DS S), .dat (.str k), .dat (.tup (.str x :: xs)), .dat (.tup (cs.map .str)), .un, .un] = .val (.tmp (.dat (.tup (cs.map .str)))) [.dat (DS S), .dat (.str k), .dat (.tup (.str x :: xs)), .dat (.tup (cs.map .str)), .un, .un] := frz_var rfl
                    have f2 := frz_tmp (tail_val (i := 2) (env := [.dat (DS S), .dat (.str k), .dat (.tup (.str x :: xs)), .dat (.tup (cs.map .str)), .un, .un]) rfl)
                    have zz := zip_val f3 f2
                    have lc := lcD_map (g := gmTup 2 (gmCons (gmName 4) (gmCons (gmName 5) (gmNil)))) (t := tYesM) (m := oCall (g_is_tree n) (aCons (oFrz (oVar 0)) (aCons (oFrz (oVar 4)) (aCons (oFrz (oVar 5)) (aNil))))) (vs := [4, 5]) (c := fun _ => true) (f := fun d => .bl (zf (isT S n) d)) (ds := zipD (cs.map .str) xs) (env := [.dat (DS S), .dat (.str k), .dat (.tup (.str x :: xs)), .dat (.tup (cs.map .str)), .un, .un])
                      (by have := zipD_short (xs := cs.map D.str) (ys := xs); rw [List.length_map] at this; rw [sizeLine_eq]; omega) (fun d hd => by
                        obtain ⟨a, b, rfl, ha, hb⟩ := zipD_mem hd
                        obtain ⟨c, _, rfl⟩ := List.mem_map.mp ha
                        refine ⟨[.dat (DS S), .dat (.str k), .dat (.tup (.str x :: xs)), .dat (.tup (cs.map .str)), .dat (.str c), .dat b], rfl, rfl, fun _ => ?_, rfl⟩
                        have r := ih m c b (hf b (List.mem_cons_of_mem _ hb)) (by omega)
                        exact frz_tmp (call3 (frz_var rfl) (frz_var rfl) (frz_var rfl) r))
                    have fm : ((zipD (cs.map D.str) xs).filter (fun _ => true)).map (fun d => D.bl (zf (isT S n) d)) = ((zipD (cs.map D.str) xs).map (zf (isT S n))).map .bl := by
                      rw [List.filter_eq_self.mpr (fun _ _ => rfl), List.map_map]
                      rfl
                    rw [fm] at lc
                    have al := all_ml ((zipD (cs.map D.str) xs).map (zf (isT S n)))
                    rw [zf_zip] at al
                    have w : wipeE [.dat (DS S), .dat (.str k), .dat (.tup (.str x :: xs)), .dat (.tup (cs.map .str)), .un, .un] [4, 5] = [.dat (DS S), .dat (.str k), .dat (.tup (.str x :: xs)), .dat (.tup (cs.map .str)), .un, .un] := rfl
                    have ol : oLc (iZipM (aCons (oFrz (oVar 3)) (aCons (oFrz (oSl (oVar 2) (pSome (oC (.int 1))) (pNone) slA)) (aNil)))) (gmTup 2 (gmCons (gmName 4) (gmCons (gmName 5) (gmNil)))) (tYesM) (oCall (g_is_tree n) (aCons (oFrz (oVar 0)) (aCons (oFrz (oVar 4)) (aCons (oFrz (oVar 5)) (aNil))))) [4, 5] [.dat (DS S), .dat (.str k), .dat (.tup (.str x :: xs)), .dat (.tup (cs.map .str)), .un, .un] = .val (.tmp (.ml (((zipD (cs.map D.str) xs).map (zf (isT S n))).map .bl))) [.dat (DS S), .dat (.str k), .dat (.tup (.str x :: xs)), .dat (.tup (cs.map .str)), .un, .un] := by
                      simp only [oLc, zz, w, lc]
                      rfl
                    refine ⟨[.dat (DS S), .dat (.str k), .dat (.tup (.str x :: xs)), .dat (.tup (cs.map .str)), .un, .un], ?_⟩
                    simp only [q, decide_true, Bool.true_and]
                    simp only [sRet, oOp, aCons, ol, aNil, gets, tmp_get ml_ok, al, dat_ok, if_true]
                  · have q1 : ¬ (((xs.length + 1 : Nat) : Int) = ((cs.length + 1 : Nat) : Int)) := by omega
                    simp only [q1, decide_false, Bool.not_false] at tl
                    simp only [q, decide_false, Bool.false_and]
                    exact ⟨_, seq_rt ((if_t tl).trans (ret_c _ _))⟩
                · simp only [c, decide_false, Bool.not_false] at t
                  simp only [c, decide_false, Bool.false_and]
                  exact ⟨_, seq_rt ((if_t t).trans (ret_c _ _))⟩
            | _ => simp [noTag] at hn
        | _ => simp [noTag] at hn
    obtain ⟨e2, goal⟩ := goal
    exact def_rt okA rfl goal
end Lw
set_option maxRecDepth 100000
set_option maxHeartbeats 4000000
namespace Lw
open PySem PL
theorem map_one {α β : Type} (f : α → β) : ∀ l : List α, (l.map f).Nodup → ∀ a ∈ l, ∀ b ∈ l, f a = f b → a = b
  | [], _, a, ha, _, _, _ => by simp at ha
  | x :: l, h, a, ha, b, hb, e => by
    rw [List.map_cons, List.nodup_cons] at h
    rcases List.mem_cons.mp ha with rfl | ha
    · rcases List.mem_cons.mp hb with rfl | hb
      · rfl
      · exact absurd (List.mem_map.mpr ⟨b, hb, e.symm⟩) h.1
    · rcases List.mem_cons.mp hb with q | hb
      · exact absurd (List.mem_map.mpr ⟨a, ha, e.trans (congrArg f q)⟩) h.1
      · exact map_one f l h.2 a ha b hb e
theorem tags_one : ∀ S : Sc, (tagsOf S).Nodup → ∀ k1 ∈ S, ∀ k2 ∈ S, ∀ v1 ∈ k1.2, ∀ v2 ∈ k2.2, v1.1 = v2.1 → k1 = k2 ∧ v1 = v2
  | [], _, k1, h1, _, _, _, _, _, _, _ => by simp at h1
  | kv :: S, h, k1, h1, k2, h2, v1, m1, v2, m2, e => by
    have hs : tagsOf (kv :: S) = kv.2.map (·.1) ++ tagsOf S := rfl
    rw [hs, List.nodup_append] at h
    obtain ⟨ha, hb, hc⟩ := h
    have mem : ∀ k ∈ S, ∀ v ∈ k.2, v.1 ∈ tagsOf S := fun k hk v hv => List.mem_flatMap.mpr ⟨k, hk, List.mem_map.mpr ⟨v, hv, rfl⟩⟩
    rcases List.mem_cons.mp h1 with rfl | h1
    · rcases List.mem_cons.mp h2 with rfl | h2
      · exact ⟨rfl, map_one _ _ ha v1 m1 v2 m2 e⟩
      · exact absurd e (hc _ (List.mem_map.mpr ⟨v1, m1, rfl⟩) _ (mem k2 h2 v2 m2))
    · rcases List.mem_cons.mp h2 with q | h2
      · exact absurd e.symm (hc _ (List.mem_map.mpr ⟨v2, q ▸ m2, rfl⟩) _ (mem k1 h1 v1 m1))
      · exact tags_one S hb k1 h1 k2 h2 v1 m1 v2 m2 e
theorem find_one {K : List Str} {S : Sc} {b : Nat} (ok : SchOk K S b) (hb : b ≤ 20) {k : Str} {vs : List Vn} (hk : (k, vs) ∈ S) {x : Str} {v : Vn} (h : vs.find? (fun v => tagOf v.1 == x) = some v) : S.find? (tagIn x) = some (k, vs) ∧ kidsOf S x = some v.2 := by
  have hv := List.mem_of_find?_eq_some h
  have hx : tagOf v.1 = x := by simpa using List.find?_some h
  have lt : ∀ kv ∈ S, ∀ v ∈ kv.2, v.1 < 20 := fun kv h1 v h2 => by
    have := ok.less v.1 (List.mem_flatMap.mpr ⟨kv, h1, List.mem_map.mpr ⟨v, h2, rfl⟩⟩)
    omega
  refine ⟨?_, ?_⟩
  · cases e : S.find? (tagIn x) with
    | none =>
      rw [List.find?_eq_none] at e
      exact absurd (by unfold tagIn; exact List.any_eq_true.mpr ⟨v, hv, by simpa using hx⟩) (e _ hk)
    | some kv =>
      have h1 := List.mem_of_find?_eq_some e
      have h2 := List.find?_some e
      unfold tagIn at h2
      obtain ⟨v', m', e'⟩ := List.any_eq_true.mp h2
      have e'' := eq_of_beq e'
      have q := tag_inj _ (lt _ h1 _ m') _ (lt _ hk _ hv) (e''.trans hx.symm)
      rw [(tags_one S ok.nodup _ h1 _ hk _ m' _ hv q).1]
  · unfold kidsOf
    cases e : (S.flatMap (·.2)).find? (fun v => tagOf v.1 == x) with
    | none =>
      rw [List.find?_eq_none] at e
      exact absurd (by simpa using hx) (e v (List.mem_flatMap.mpr ⟨_, hk, hv⟩))
    | some v' =>
      have e'' : tagOf v'.1 = x := by simpa using List.find?_some e
      obtain ⟨kv, h1, m'⟩ := List.mem_flatMap.mp (List.mem_of_find?_eq_some e)
      have q := tag_inj _ (lt _ h1 _ m') _ (lt _ hk _ hv) (e''.trans hx.symm)
      rw [(tags_one S ok.nodup _ h1 _ hk _ m' _ hv q).2]
      rfl
theorem find_not {S : Sc} (hn : (S.map (·.1)).Nodup) {k : Str} {vs : List Vn} (hk : (k, vs) ∈ S) {x : Str} (h : vs.find? (fun v => tagOf v.1 == x) = none) {kv : Str × List Vn} (e : S.find? (tagIn x) = some kv) : kv.1 ≠ k := by
  intro q
  have h1 := List.mem_of_find?_eq_some e
  have h2 := List.find?_some e
  have := map_one _ _ hn _ h1 _ hk q
  subst this
  unfold tagIn at h2
  obtain ⟨v', m', e'⟩ := List.any_eq_true.mp h2
  rw [List.find?_eq_none] at h
  exact h v' m' e'
theorem eq_int (a b : Int) : fEqA [li a, li b] = some (.dat (.bl (decide (a = b)))) := by
  have s : ∀ i : Int, SeqAt.shaped (.int i) = true := fun i => by simp [SeqAt.shaped, PyData.canLay0, PyData.depth]
  have e : PyData.eqv (.int a) (.int b) = decide (a = b) := by
    rw [Bool.eq_iff_iff]
    simp [PyData.eqv]
  simp [fEqA, fOr, f2, gEqS, fEqD, gEqD, LV.py, D.py, s, e]
theorem pys_bl : ∀ l : List Bool, D.pys (l.map .bl) = some (l.map .bool)
  | [] => rfl
  | b :: l => by simp [D.pys, D.py, pys_bl l]
theorem lay_bl : ∀ l : List Bool, PyData.canLayAll0 (l.map .bool) = true
  | [] => rfl
  | b :: l => by simp [PyData.canLayAll0, PyData.canLay0, lay_bl l]
theorem dep_bl : ∀ l : List Bool, PyData.depthAll (l.map .bool) = 0
  | [] => rfl
  | b :: l => by simp [PyData.depthAll, PyData.depth, dep_bl l]
theorem ni_false (l : List Bool) : fNiA [.dat (.bl false), .ml (l.map .bl)] = some (.dat (.bl (l.all id))) := by
  have s1 : SeqAt.shaped (.bool false) = true := by simp [SeqAt.shaped, PyData.canLay0, PyData.depth]
  have s2 : SeqAt.shaped (.list (l.map .bool)) = true := by simp [SeqAt.shaped, PyData.canLay0, PyData.depth, lay_bl l, dep_bl]
  have e : (!(l.map PyData.bool).any (fun z => PyData.eqv z (.bool false))) = l.all id := by
    induction l with
    | nil => rfl
    | cons b l ih =>
      simp only [List.map_cons, List.any_cons, List.all_cons, Bool.not_or, id]
      rw [ih (by simp [SeqAt.shaped, PyData.canLay0, PyData.depth, lay_bl l, dep_bl])]
      cases b <;> rfl
  simp only [fNiA, fOr, fNi, fNiD, f2, gInD, LV.py, D.py, pys_bl, s1, s2, Bool.and_self, if_true, e]
theorem at_key {S : Sc} (hn : (S.map (·.1)).Nodup) {k : Str} {vs : List Vn} (hk : (k, vs) ∈ S) : fIxA [.dat (DS S), .dat (.str k)] = some (.dat (.tup (vs.map encV))) := by
  have f : (S.map encK).find? (fun kv => decide (kv.1 = .inr k)) = some (encK (k, vs)) := by
    induction S with
    | nil => simp at hk
    | cons kv S ih =>
      rw [List.map_cons, List.nodup_cons] at hn
      rw [List.map_cons, List.find?_cons]
      rcases List.mem_cons.mp hk with rfl | hk
      · simp [encK]
      · have ne : kv.1 ≠ k := fun q => hn.1 (List.mem_map.mpr ⟨_, hk, q.symm⟩)
        have : decide ((encK kv).1 = .inr k) = false := by simp [encK, ne]
        rw [this]
        exact ih hn.2 hk
  simp [fIxA, fOr, fIx, fIxL, fIxT, fIxS, f2, gIxL, gIxT, gIxS, LV.items, fIxD, gIxD, lookD, keyD, valD, f, encK]
end Lw
set_option maxRecDepth 100000
set_option maxHeartbeats 4000000
namespace Lw
open PySem PL
theorem test2 {n : Nat} {env : LEnv} {d : D} (h : env[2]? = some (.dat d)) (hf : Fine n d) :
    (tmOr (tmNot (tTru (oOp (aCons (oVar 2) (aCons (oC (.cst (.ty "tuple"))) (aNil))) fIsiA))) (tmOr (tOf (o2 (oOp (aCons (oVar 2) (aNil)) fLenA) (oC (.int 0)) fEqA)) (tmNot (tTru (oOp (aCons (o2 (oVar 2) (oC (.int 0)) fIxA) (aCons (oC (.cst (.ty "str"))) (aNil))) fIsiA))))) env = .val (noTag d) env := by
  have t1 := tru_val (c := .cst (.ty "tuple")) (f := fIsiA) h rfl (isi_tup hf)
  simp only [tmOr, tmNot, t1]
  cases d with
  | tup ds =>
    have t2 := of_val (op_val (len_tupv h) (rfl : oC (.int 0) env = .val (.tmp (li 0)) env) rfl rfl (eq_int _ _))
    simp only [isTupD, Bool.not_true, t2]
    cases ds with
    | nil => rfl
    | cons x xs =>
      have ix := ix_val (k := 0) h rfl (ix_tup0 (ds := xs) (d := x))
      have fx : ∃ m, Fine m x := by
        cases n with
        | zero => exact hf.elim
        | succ n => exact ⟨n, hf x List.mem_cons_self⟩
      obtain ⟨m, fx⟩ := fx
      have t3 : tTru (oOp (aCons (o2 (oVar 2) (oC (.int 0)) fIxA) (aCons (oC (.cst (.ty "str"))) (aNil))) fIsiA) env = .val (isStrD x) env := by
        simp only [tTru, oOp, aCons, ix, oC, aNil, gets, tmp_get dat_ok, isi_str fx, dat_ok, if_true, LV.truth]
      have ne : ¬ (((xs.length + 1 : Nat) : Int) = 0) := by omega
      simp only [List.length_cons, ne, decide_false, t3]
      cases x <;> rfl
  | _ => rfl
abbrev rowsBody (n : Nat) : SM := (sSeq (sIf (tOf (o2 (oOp (aCons (oVar 2) (aNil)) fLenA) (o2 (oC (.int 1)) (oOp (aCons (oVar 4) (aNil)) fLenA) fAdd) fNeA)) (sRet (oC (.bl false))) (sNil)) (sSeq (sSet 5 (oLc (iZipM (aCons (oFrz (oVar 4)) (aCons (oFrz (oSl (oVar 2) (pSome (oC (.int 1))) (pNone) slA)) (aNil)))) (gmTup 2 (gmCons (gmName 6) (gmCons (gmName 7) (gmNil)))) (tYesM) (oCall (g__law_is_tree n) (aCons (oFrz (oVar 0)) (aCons (oFrz (oVar 6)) (aCons (oFrz (oVar 7)) (aNil))))) [6, 7])) (sRet (o2 (oC (.bl false)) (oVar 5) fNiA))))
theorem add1' (n : Nat) : fAdd [li 1, li (n : Int)] = some (li ((n + 1 : Nat) : Int)) := by
  have e : (1 + (n : Int)) = ((n + 1 : Nat) : Int) := by omega
  rw [add_ok, e]
theorem rows_of {S : Sc} {n : Nat} (k x : Str) (xs : List D) (cs : List Str) (hcs : cs.length ≤ 3) (ih : ∀ c ∈ cs, ∀ d ∈ xs, g__law_is_tree n [.dat (DS S), .dat (.str c), .dat d] = .ret (.dat (.bl (isT S n c d))) [.dat (DS S), .dat (.str c), .dat d]) (t : LV) :
    ∃ e2, rowsBody n [.dat (DS S), .dat (.str k), .dat (.tup (.str x :: xs)), t, .dat (.tup (cs.map .str)), .un, .un, .un] = .rt (.dat (.bl (decide (cs.length = xs.length) && allT (isT S n) cs xs))) e2 := by
  have l2 := len_tupv (i := 2) (env := [.dat (DS S), .dat (.str k), .dat (.tup (.str x :: xs)), t, .dat (.tup (cs.map .str)), .un, .un, .un]) rfl
  have l3 := len_tupv (i := 4) (env := [.dat (DS S), .dat (.str k), .dat (.tup (.str x :: xs)), t, .dat (.tup (cs.map .str)), .un, .un, .un]) rfl
  have a3 := op_val (rfl : oC (.int 1) _ = .val (.tmp (li 1)) _) l3 rfl rfl (add1' _)
  have tl := of_val (op_val l2 a3 rfl rfl (ne_int _ _))
  simp only [List.length_cons, List.length_map] at tl
  by_cases q : cs.length = xs.length
  · have q1 : ((xs.length + 1 : Nat) : Int) = ((cs.length + 1 : Nat) : Int) := by omega
    simp only [q1, decide_true, Bool.not_true] at tl
    unfold rowsBody
    rw [seq_nx (if_n tl)]
    have f3 : oFrz (oVar 4) [.dat (DS S), .dat (.str k), .dat (.tup (.str x :: xs)), t, .dat (.tup (cs.map .str)), .un, .un, .un] = .val (.tmp (.dat (.tup (cs.map .str)))) [.dat (DS S), .dat (.str k), .dat (.tup (.str x :: xs)), t, .dat (.tup (cs.map .str)), .un, .un, .un] := frz_var rfl
    have f2 := frz_tmp (tail_val (i := 2) (env := [.dat (DS S), .dat (.str k), .dat (.tup (.str x :: xs)), t, .dat (.tup (cs.map .str)), .un, .un, .un]) rfl)
    have zz := zip_val f3 f2
    have lc := lcD_map (g := gmTup 2 (gmCons (gmName 6) (gmCons (gmName 7) (gmNil)))) (t := tYesM) (m := oCall (g__law_is_tree n) (aCons (oFrz (oVar 0)) (aCons (oFrz (oVar 6)) (aCons (oFrz (oVar 7)) (aNil))))) (vs := [6, 7]) (c := fun _ => true) (f := fun d => .bl (zf (isT S n) d)) (ds := zipD (cs.map .str) xs) (env := [.dat (DS S), .dat (.str k), .dat (.tup (.str x :: xs)), t, .dat (.tup (cs.map .str)), .un, .un, .un])
      (by have := zipD_short (xs := cs.map D.str) (ys := xs); rw [List.length_map] at this; rw [sizeLine_eq]; omega) (fun d hd => by
        obtain ⟨a, b, rfl, ha, hb⟩ := zipD_mem hd
        obtain ⟨c, hc, rfl⟩ := List.mem_map.mp ha
        refine ⟨[.dat (DS S), .dat (.str k), .dat (.tup (.str x :: xs)), t, .dat (.tup (cs.map .str)), .un, .dat (.str c), .dat b], rfl, rfl, fun _ => ?_, rfl⟩
        exact frz_tmp (call3 (frz_var rfl) (frz_var rfl) (frz_var rfl) (ih c hc b hb)))
    have fm : ((zipD (cs.map D.str) xs).filter (fun _ => true)).map (fun d => D.bl (zf (isT S n) d)) = ((zipD (cs.map D.str) xs).map (zf (isT S n))).map .bl := by
      rw [List.filter_eq_self.mpr (fun _ _ => rfl), List.map_map]
      rfl
    rw [fm] at lc
    have al := ni_false ((zipD (cs.map D.str) xs).map (zf (isT S n)))
    rw [zf_zip] at al
    have w : wipeE [.dat (DS S), .dat (.str k), .dat (.tup (.str x :: xs)), t, .dat (.tup (cs.map .str)), .un, .un, .un] [6, 7] = [.dat (DS S), .dat (.str k), .dat (.tup (.str x :: xs)), t, .dat (.tup (cs.map .str)), .un, .un, .un] := rfl
    have ol : oLc (iZipM (aCons (oFrz (oVar 4)) (aCons (oFrz (oSl (oVar 2) (pSome (oC (.int 1))) (pNone) slA)) (aNil)))) (gmTup 2 (gmCons (gmName 6) (gmCons (gmName 7) (gmNil)))) (tYesM) (oCall (g__law_is_tree n) (aCons (oFrz (oVar 0)) (aCons (oFrz (oVar 6)) (aCons (oFrz (oVar 7)) (aNil))))) [6, 7] [.dat (DS S), .dat (.str k), .dat (.tup (.str x :: xs)), t, .dat (.tup (cs.map .str)), .un, .un, .un] = .val (.tmp (.ml (((zipD (cs.map D.str) xs).map (zf (isT S n))).map .bl))) [.dat (DS S), .dat (.str k), .dat (.tup (.str x :: xs)), t, .dat (.tup (cs.map .str)), .un, .un, .un] := by
      simp only [oLc, zz, w, lc]
      rfl
    rw [seq_nx (set_val ol)]
    refine ⟨[.dat (DS S), .dat (.str k), .dat (.tup (.str x :: xs)), t, .dat (.tup (cs.map .str)), .ml (((zipD (cs.map D.str) xs).map (zf (isT S n))).map .bl), .un, .un], ?_⟩
    show sRet (o2 (oC (.bl false)) (oVar 5) fNiA) [.dat (DS S), .dat (.str k), .dat (.tup (.str x :: xs)), t, .dat (.tup (cs.map .str)), .ml (((zipD (cs.map D.str) xs).map (zf (isT S n))).map .bl), .un, .un] = _
    have fin := op_val2 (m1 := oC (.bl false)) (j := 5) (f := fNiA) (e := [.dat (DS S), .dat (.str k), .dat (.tup (.str x :: xs)), t, .dat (.tup (cs.map .str)), .ml (((zipD (cs.map D.str) xs).map (zf (isT S n))).map .bl), .un, .un]) rfl rfl rfl rfl al
    simp only [q, decide_true, Bool.true_and]
    simp only [sRet, fin]
  · have q1 : ¬ (((xs.length + 1 : Nat) : Int) = ((cs.length + 1 : Nat) : Int)) := by omega
    simp only [q1, decide_false, Bool.not_false] at tl
    simp only [q, decide_false, Bool.false_and]
    exact ⟨_, seq_rt ((if_t tl).trans (ret_c _ _))⟩
theorem law_is_tree_spec {K : List Str} {S : Sc} {b : Nat} (ok : SchOk K S b) (hb : b ≤ 20) (hn : (S.map (·.1)).Nodup) (hK : S.map (·.1) = K) : ∀ (n m : Nat) (k : Str) (d : D), k ∈ K → Fine m d → m < n → g__law_is_tree n [.dat (DS S), .dat (.str k), .dat d] = .ret (.dat (.bl (isT S n k d))) [.dat (DS S), .dat (.str k), .dat d] := by
  intro n
  induction n with
  | zero => exact fun m _ _ _ _ h => absurd h (by omega)
  | succ n ih =>
    intro m k d hk hf hm
    obtain ⟨⟨k', vs⟩, hkv, e0⟩ := List.mem_map.mp (hK ▸ hk)
    replace e0 : k' = k := e0
    rw [e0] at hkv
    clear e0
    have hd : m__law_is_tree (g__law_is_tree n) = sSeq (sIf (tmOr (tmNot (tTru (oOp (aCons (oVar 2) (aCons (oC (.cst (.ty "tuple"))) (aNil))) fIsiA))) (tmOr (tOf (o2 (oOp (aCons (oVar 2) (aNil)) fLenA) (oC (.int 0)) fEqA)) (tmNot (tTru (oOp (aCons (o2 (oVar 2) (oC (.int 0)) fIxA) (aCons (oC (.cst (.ty "str"))) (aNil))) fIsiA))))) (sRet (oC (.bl false))) (sNil)) (sSeq (sFor (iAnyK (o2 (oVar 0) (oVar 1) fIxA)) (gmTup 2 (gmCons (gmName 3) (gmCons (gmName 4) (gmNil)))) (sIf (tOf (o2 (oVar 3) (o2 (oVar 2) (oC (.int 0)) fIxA) fEqA)) (rowsBody n) (sNil))) (sRet (oC (.bl false)))) := rfl
    have t1 := test2 (env := [.dat (DS S), .dat (.str k), .dat d, .un, .un, .un, .un, .un]) rfl hf
    have okA : okArgs [] [LV.dat (DS S), .dat (.str k), .dat d] = true := rfl
    have goal : ∃ e2, m__law_is_tree (g__law_is_tree n) [.dat (DS S), .dat (.str k), .dat d, .un, .un, .un, .un, .un] = .rt (.dat (.bl (isT S (n + 1) k d))) e2 := by
      rw [hd]
      cases hn' : noTag d with
      | true =>
        rw [hn'] at t1
        rw [isT_not hn']
        exact ⟨_, seq_rt ((if_t t1).trans (ret_c _ _))⟩
      | false =>
        rw [hn'] at t1
        rw [seq_nx (if_n t1)]
        cases d with
        | tup ds => cases ds with
          | nil => simp [noTag] at hn'
          | cons x xs => cases x with
            | str x =>
              cases m with
              | zero => exact hf.elim
              | succ m =>
              have vk := ok.vars _ hkv
              have inner : ∀ (ws : List Vn), (∀ v ∈ ws, v ∈ vs) → ∀ (a c : LV), ∃ e2, forD (gmTup 2 (gmCons (gmName 3) (gmCons (gmName 4) (gmNil)))) (sIf (tOf (o2 (oVar 3) (o2 (oVar 2) (oC (.int 0)) fIxA) fEqA)) (rowsBody n) (sNil)) (ws.map encV) [.dat (DS S), .dat (.str k), .dat (.tup (.str x :: xs)), a, c, .un, .un, .un] = (match ws.find? (fun v => tagOf v.1 == x) with | some v => .rt (.dat (.bl (decide (v.2.length = xs.length) && allT (isT S n) v.2 xs))) e2 | none => .nx e2) := by
                intro ws
                induction ws with
                | nil => exact fun _ a c => ⟨_, rfl⟩
                | cons v ws ih2 =>
                  intro hw a c
                  have g0 : (gmTup 2 (gmCons (gmName 3) (gmCons (gmName 4) (gmNil)))) (encV v) [.dat (DS S), .dat (.str k), .dat (.tup (.str x :: xs)), a, c, .un, .un, .un] = some [.dat (DS S), .dat (.str k), .dat (.tup (.str x :: xs)), .dat (.str (tagOf v.1)), .dat (.tup (v.2.map .str)), .un, .un, .un] := rfl
                  have ixv := ix_val (k := 0) (i := 2) (env := [.dat (DS S), .dat (.str k), .dat (.tup (.str x :: xs)), .dat (.str (tagOf v.1)), .dat (.tup (v.2.map .str)), .un, .un, .un]) rfl rfl (ix_tup0 (ds := xs) (d := .str x))
                  have t : tOf (o2 (oVar 3) (o2 (oVar 2) (oC (.int 0)) fIxA) fEqA) [.dat (DS S), .dat (.str k), .dat (.tup (.str x :: xs)), .dat (.str (tagOf v.1)), .dat (.tup (v.2.map .str)), .un, .un, .un] = .val (decide (tagOf v.1 = x)) [.dat (DS S), .dat (.str k), .dat (.tup (.str x :: xs)), .dat (.str (tagOf v.1)), .dat (.tup (v.2.map .str)), .un, .un, .un] := by
                    have v3 : oVar 3 [.dat (DS S), .dat (.str k), .dat (.tup (.str x :: xs)), .dat (.str (tagOf v.1)), .dat (.tup (v.2.map .str)), .un, .un, .un] = .val (.var 3) [.dat (DS S), .dat (.str k), .dat (.tup (.str x :: xs)), .dat (.str (tagOf v.1)), .dat (.tup (v.2.map .str)), .un, .un, .un] := rfl
                    have g3 : (Rf.var 3).get [.dat (DS S), .dat (.str k), .dat (.tup (.str x :: xs)), .dat (.str (tagOf v.1)), .dat (.tup (v.2.map .str)), .un, .un, .un] = some (.dat (.str (tagOf v.1))) := rfl
                    apply of_val
                    generalize [LV.dat (DS S), .dat (.str k), .dat (.tup (.str x :: xs)), .dat (.str (tagOf v.1)), .dat (.tup (v.2.map .str)), .un, .un, .un] = E at v3 g3 ixv ⊢
                    rw [o2]
                    simp only [oOp, aCons, v3, ixv, aNil, gets, g3, tmp_get dat_ok, eq_str, dat_ok, if_true]
                  rw [List.map_cons, List.find?_cons]
                  unfold forD
                  simp only [g0]
                  by_cases q : tagOf v.1 = x
                  · have c1 : (tagOf v.1 == x) = true := beq_iff_eq.mpr q
                    simp only [q, decide_true] at t
                    obtain ⟨e2, r⟩ := rows_of k x xs v.2 (vk.kids v (hw v List.mem_cons_self)).2 (fun c hc d hd => ih m c d ((vk.kids v (hw v List.mem_cons_self)).1 c hc) (hf d (List.mem_cons_of_mem _ hd)) (by omega)) (.dat (.str x))
                    refine ⟨e2, ?_⟩
                    rw [q, if_t t, r]
                    simp only [beq_self_eq_true]
                  · have c1 : (tagOf v.1 == x) = false := beq_eq_false_iff_ne.mpr q
                    simp only [q, decide_false] at t
                    obtain ⟨e2, r⟩ := ih2 (fun w h => hw w (List.mem_cons_of_mem _ h)) (.dat (.str (tagOf v.1))) (.dat (.tup (v.2.map .str)))
                    refine ⟨e2, ?_⟩
                    rw [if_n t]
                    simp only [c1]
                    exact r
              obtain ⟨e2, lp⟩ := inner vs (fun _ h => h) .un .un
              have ixk : oFrz (o2 (oVar 0) (oVar 1) fIxA) [.dat (DS S), .dat (.str k), .dat (.tup (.str x :: xs)), .un, .un, .un, .un, .un] = .val (.tmp (.dat (.tup (vs.map encV)))) [.dat (DS S), .dat (.str k), .dat (.tup (.str x :: xs)), .un, .un, .un, .un, .un] := by
                apply frz_tmp
                have v0 := var_of (i := 0) (env := [.dat (DS S), .dat (.str k), .dat (.tup (.str x :: xs)), .un, .un, .un, .un, .un]) (lv := .dat (DS S)) rfl rfl
                have v1 := var_of (i := 1) (env := [.dat (DS S), .dat (.str k), .dat (.tup (.str x :: xs)), .un, .un, .un, .un, .un]) (lv := .dat (.str k)) rfl rfl
                have g0 := var_get (i := 0) (env := [.dat (DS S), .dat (.str k), .dat (.tup (.str x :: xs)), .un, .un, .un, .un, .un]) (lv := .dat (DS S)) rfl rfl
                have g1 := var_get (i := 1) (env := [.dat (DS S), .dat (.str k), .dat (.tup (.str x :: xs)), .un, .un, .un, .un, .un]) (lv := .dat (.str k)) rfl rfl
                generalize [LV.dat (DS S), .dat (.str k), .dat (.tup (.str x :: xs)), .un, .un, .un, .un, .un] = E at v0 v1 g0 g1 ⊢
                simp only [o2, oOp, aCons, v0, v1, aNil, gets, g0, g1, at_key hn hkv, dat_ok, if_true]
              have fv := for_val (g := gmTup 2 (gmCons (gmName 3) (gmCons (gmName 4) (gmNil)))) (n := sIf (tOf (o2 (oVar 3) (o2 (oVar 2) (oC (.int 0)) fIxA) fEqA)) (rowsBody n) (sNil)) (walk_tup ixk rfl)
              rw [lp] at fv
              cases e : vs.find? (fun v => tagOf v.1 == x) with
              | some v =>
                rw [e] at fv
                obtain ⟨f1, f2⟩ := find_one ok hb hkv e
                refine ⟨e2, ?_⟩
                rw [seq_rt fv]
                simp only [isT, f1, f2, decide_true, Bool.true_and]
              | none =>
                rw [e] at fv
                rw [seq_nx fv]
                refine ⟨e2, ?_⟩
                rw [ret_c]
                have : isT S (n + 1) k (.tup (.str x :: xs)) = false := by
                  unfold isT
                  cases e1 : S.find? (tagIn x) with
                  | none => rfl
                  | some kv =>
                    obtain ⟨cs, e2⟩ := kids_some e1
                    rw [e2]
                    have := find_not hn hkv e e1
                    simp [this]
                rw [this]
            | _ => simp [noTag] at hn'
        | _ => simp [noTag] at hn'
    obtain ⟨e2, goal⟩ := goal
    exact def_rt okA rfl goal
end Lw
set_option maxRecDepth 100000
set_option maxHeartbeats 4000000
namespace Lw
open PySem PL
/-! trees as the program draws them -/
def Tree : Nat → D → Prop
  | n + 1, .tup (.str x :: xs) => (∃ t, t < 20 ∧ x = tagOf t) ∧ xs.length ≤ 3 ∧ ∀ e ∈ xs, Tree n e
  | _, _ => False
theorem Tree.tup {n : Nat} {d : D} (h : Tree n d) : ∃ m t xs, n = m + 1 ∧ d = .tup (.str (tagOf t) :: xs) ∧ t < 20 ∧ xs.length ≤ 3 ∧ ∀ e ∈ xs, Tree m e := by
  cases n with
  | zero => cases d <;> exact h.elim
  | succ m => cases d with
    | tup ds => cases ds with
      | nil => exact h.elim
      | cons x xs => cases x with
        | str x =>
          obtain ⟨⟨t, h1, rfl⟩, h2, h3⟩ := h
          exact ⟨m, t, xs, rfl, rfl, h1, h2, h3⟩
        | _ => exact h.elim
    | _ => exact h.elim
theorem Tree.fine : ∀ {n : Nat} {d : D}, Tree n d → Fine (n + 1) d := by
  intro n
  induction n with
  | zero => intro d h; obtain ⟨_, _, _, h, _⟩ := h.tup; cases h
  | succ n ih =>
    intro d h
    obtain ⟨m, t, xs, e, rfl, h1, h2, h3⟩ := h.tup
    cases e
    show ∀ e ∈ _, Fine (n + 1) e
    intro e he
    rcases List.mem_cons.mp he with rfl | he
    · exact tag_ok t h1
    · exact ih (h3 e he)
theorem Tree.up : ∀ {n : Nat} {d : D}, Tree n d → Tree (n + 1) d := by
  intro n
  induction n with
  | zero => intro d h; obtain ⟨_, _, _, h, _⟩ := h.tup; cases h
  | succ n ih =>
    intro d h
    obtain ⟨m, t, xs, e, rfl, h1, h2, h3⟩ := h.tup
    cases e
    exact ⟨⟨t, h1, rfl⟩, h2, fun e he => ih (h3 e he)⟩
theorem call1 {g : FM} {m1 : OM} {d1 r : D} {e : LEnv} (q1 : m1 e = .val (.tmp (.dat d1)) e) (hg : g [.dat d1] = .ret (.dat r) [.dat d1]) : oCall g (aCons m1 aNil) e = .val (.tmp (.dat r)) e := by
  simp only [oCall, aCons, q1, aNil, gets, tmp_get dat_ok, hg]
  rfl
def szT : Nat → D → Int
  | n + 1, .tup (_ :: xs) => 1 + (xs.map (szT n)).sum
  | _, _ => 0
theorem sum_ml (l : List Int) : f1 gSum [.ml (l.map .int)] = some (li l.sum) := by
  have : ∀ l : List Int, intsD (l.map .int) = some l := fun l => by
    induction l with
    | nil => rfl
    | cons a l ih => simp [intsD, ih]
  simp [f1, gSum, this]
theorem size_eq : ∀ n, g_size_of n = g__law_size n
  | 0 => rfl
  | n + 1 => by
    show defM 2 [] (m_size_of (g_size_of n)) = defM 2 [] (m__law_size (g__law_size n))
    rw [size_eq n]
    rfl
theorem size_spec : ∀ (n m : Nat) (d : D), Tree m d → m ≤ n → g__law_size n [.dat d] = .ret (li (szT m d)) [.dat d] := by
  intro n
  induction n with
  | zero => intro m d h hm; obtain ⟨_, _, _, e, _⟩ := h.tup; omega
  | succ n ih =>
    intro m d h hm
    obtain ⟨m, t, xs, rfl, rfl, h1, h2, h3⟩ := h.tup
    have hd : m__law_size (g__law_size n) = sRet (o2 (oC (.int 1)) (oOp (aCons (oLc (iAnyK (oSl (oVar 0) (pSome (oC (.int 1))) (pNone) slA)) (gmName 1) (tYesM) (oCall (g__law_size n) (aCons (oFrz (oVar 1)) (aNil))) [1]) (aNil)) (f1 gSum)) fAdd) := rfl
    have w := walk_tup (frz_tmp (tail_val (i := 0) (env := [.dat (.tup (.str (tagOf t) :: xs)), .un]) rfl)) rfl
    have lc := lcD_map (g := gmName 1) (t := tYesM) (m := oCall (g__law_size n) (aCons (oFrz (oVar 1)) (aNil))) (vs := [1]) (c := fun _ => true) (f := fun d => .int (szT m d)) (ds := xs) (env := [.dat (.tup (.str (tagOf t) :: xs)), .un])
      (by rw [sizeLine_eq]; omega) (fun d hd => ⟨[.dat (.tup (.str (tagOf t) :: xs)), .dat d], rfl, rfl, fun _ => frz_tmp (call1 (frz_var rfl) (ih m d (h3 d hd) (by omega))), rfl⟩)
    have fm : (xs.filter (fun _ => true)).map (fun d => D.int (szT m d)) = (xs.map (szT m)).map .int := by
      rw [List.filter_eq_self.mpr (fun _ _ => rfl), List.map_map]
      rfl
    rw [fm] at lc
    have wp : wipeE [.dat (.tup (.str (tagOf t) :: xs)), .un] [1] = [.dat (.tup (.str (tagOf t) :: xs)), .un] := rfl
    have ol : oLc (iAnyK (oSl (oVar 0) (pSome (oC (.int 1))) (pNone) slA)) (gmName 1) (tYesM) (oCall (g__law_size n) (aCons (oFrz (oVar 1)) (aNil))) [1] [.dat (.tup (.str (tagOf t) :: xs)), .un] = .val (.tmp (.ml ((xs.map (szT m)).map .int))) [.dat (.tup (.str (tagOf t) :: xs)), .un] := by
      simp only [oLc, w, wp, lc]
      rfl
    apply def_rt rfl rfl
    rw [hd]
    show sRet _ [.dat (.tup (.str (tagOf t) :: xs)), .un] = _
    have sm : oOp (aCons (oLc (iAnyK (oSl (oVar 0) (pSome (oC (.int 1))) (pNone) slA)) (gmName 1) (tYesM) (oCall (g__law_size n) (aCons (oFrz (oVar 1)) (aNil))) [1]) (aNil)) (f1 gSum) [.dat (.tup (.str (tagOf t) :: xs)), .un] = .val (.tmp (li (xs.map (szT m)).sum)) [.dat (.tup (.str (tagOf t) :: xs)), .un] := by
      simp only [oOp, aCons, ol, aNil, gets, tmp_get ml_ok, sum_ml, dat_ok, if_true]
    have r := op_val (m1 := oC (.int 1)) (f := fAdd) rfl sm rfl rfl add_ok
    simp only [sRet, r]
    rfl
end Lw
set_option maxRecDepth 100000
set_option maxHeartbeats 4000000
namespace Lw
open PySem PL
theorem def_rtP {N : Nat} {P : List Nat} {body : SM} {lvs lvs' : List LV} {lv : LV} {e0 e2 : LEnv} (ok : okArgs P lvs = true) (he : lvs ++ List.replicate (N - lvs.length) LV.un = e0) (h : body e0 = .rt lv e2) (hb : back P lvs e2 = lvs') : defM N P body lvs = .ret lv lvs' := by
  unfold defM
  rw [if_pos ok, he, h]
  simp only [hb]
theorem call_pick' {env env1 : LEnv} {i : Nat} {p : LV} {m : OM} {ds : List D} (h : env[i]? = some p) (h1 : env1[i]? = some p) (d : Drawn p) (hm : m env = .val (.tmp (.dat (.lst ds))) env1) (hn : ds ≠ []) (hz : ds.length < 1000) :
    ∃ y p', oCall g__law_pick (aCons (oVar i) (aCons m aNil)) env = .val (.tmp (.dat y)) (env1.set i p') ∧ y ∈ ds ∧ Drawn p' := by
  obtain ⟨y, p', e, h0, d'⟩ := pick p ds d hn (by omega)
  refine ⟨y, p', ?_, h0, d'⟩
  simp [oCall, aCons, aNil, var_of h d.ok, hm, gets, Rf.get, h1, d.ok, ownVars, own_getD h1, d.own, e, okBack, dat_ok, dat_own, wb, d'.own]
theorem call_draw3 {g : FM} {env : LEnv} {p p' : LV} {m1 m2 m3 : OM} {a b c r : D} (h : env[0]? = some p) (d : Drawn p) (d' : Drawn p') (q1 : m1 env = .val (.tmp (.dat a)) env) (q2 : m2 env = .val (.tmp (.dat b)) env) (q3 : m3 env = .val (.tmp (.dat c)) env) (hg : g [p, .dat a, .dat b, .dat c] = .ret (.dat r) [p', .dat a, .dat b, .dat c]) :
    oCall g (aCons (oVar 0) (aCons m1 (aCons m2 (aCons m3 aNil)))) env = .val (.tmp (.dat r)) (env.set 0 p') := by
  simp [oCall, aCons, aNil, var_of h d.ok, q1, q2, q3, gets, Rf.get, h, d.ok, ownVars, own_getD h, d.own, hg, okBack, dat_ok, dat_own, wb, d'.own]
theorem call_draw1 {g : FM} {env : LEnv} {p p' : LV} {m1 : OM} {a r : D} (h : env[0]? = some p) (d : Drawn p) (d' : Drawn p') (q1 : m1 env = .val (.tmp (.dat a)) env) (hg : g [p, .dat a] = .ret (.dat r) [p', .dat a]) :
    oCall g (aCons (oVar 0) (aCons m1 aNil)) env = .val (.tmp (.dat r)) (env.set 0 p') := by
  simp [oCall, aCons, aNil, var_of h d.ok, q1, gets, Rf.get, h, d.ok, ownVars, own_getD h, d.own, hg, okBack, dat_ok, dat_own, wb, d'.own]
theorem frz_own {i : Nat} {env : LEnv} {ds : List D} (h : env[i]? = some (.ml ds)) : oFrz (oVar i) env = .val (.tmp (.dat (.lst ds))) (env.set i (.dat (.lst ds))) := by
  have v := var_of h rfl
  simp only [oFrz, v, h, LV.frz]
abbrev tSel : TM := tmOr (tOf (o2 (o2 (oVar 7) (oC (.int 1)) fIxA) (oOp (aNil) fTup) fEqA)) (tOf (o2 (oVar 3) (oC (.int 1)) fGtI))
def selD (deep : Nat) : D → Bool
  | .tup [_, .tup cs] => cs.isEmpty || decide (1 < deep)
  | _ => false
theorem sel_val {env : LEnv} {v : Vn} {deep : Nat} (h7 : env[7]? = some (.dat (encV v))) (h3 : env[3]? = some (li (deep : Int))) : tSel env = .val (selD deep (encV v)) env := by
  have ix := ix_val (k := 1) h7 rfl (ix_tup1 (d := .str (tagOf v.1)) (d' := .tup (v.2.map .str)) (ds := []))
  have tp : oOp aNil fTup env = .val (.tmp (.dat (.tup []))) env := by
    have f : fTup [] = some (.dat (.tup [])) := by simp [fTup, data]
    simp only [oOp, aNil, gets, f, dat_ok, if_true]
  have t1 := of_val (op_val ix tp rfl rfl (eq_unit (v.2.map .str)))
  have v3 := var_of h3 rfl
  have g3 := var_get h3 rfl
  have gt : fGtI [li (deep : Int), li 1] = some (.dat (.bl (decide ((1 : Int) < deep)))) := by simp [fGtI, f2, gI, cT]
  have t2 : tOf (o2 (oVar 3) (oC (.int 1)) fGtI) env = .val (decide ((1 : Int) < deep)) env := by
    simp only [tOf, o2, oOp, aCons, v3, oC, aNil, gets, g3, tmp_get dat_ok, gt, dat_ok, if_true]
  have e : decide ((1 : Int) < deep) = decide (1 < deep) := by
    rw [decide_eq_decide]
    omega
  rw [e] at t2
  show tSel env = TR.val (((v.2.map D.str).isEmpty) || decide (1 < deep)) env
  simp only [tSel, tmOr, t1]
  cases (v.2.map D.str).isEmpty
  · exact t2
  · rfl
end Lw
set_option maxRecDepth 100000
set_option maxHeartbeats 4000000
namespace Lw
open PySem PL
theorem sub1 (n : Nat) : fSubI [li ((n + 1 : Nat) : Int), li 1] = some (li (n : Int)) := by
  have e : ((n + 1 : Nat) : Int) - 1 = (n : Int) := by omega
  simp only [fSubI, f2, gI, cT, if_true, e]
theorem op_val3 {m1 m2 : OM} {x y : LV} {z : D} {f : List LV → Option LV} {e1 e2 e3 : LEnv} (q1 : m1 e1 = .val (.tmp x) e2) (q2 : m2 e2 = .val (.tmp y) e3) (k1 : x.ok = true) (k2 : y.ok = true) (h : f [x, y] = some (.dat z)) : o2 m1 m2 f e1 = .val (.tmp (.dat z)) e3 := by
  simp only [o2, oOp, aCons, q1, q2, aNil, gets, tmp_get k1, tmp_get k2, h, dat_ok, if_true]
theorem tuple_val {m : OM} {ds : List D} {e1 e2 : LEnv} (q : m e1 = .val (.tmp (.ml ds)) e2) : oOp (aCons m aNil) fTuple e1 = .val (.tmp (.dat (.tup ds))) e2 := by
  simp only [oOp, aCons, q, aNil, gets, tmp_get ml_ok, tuple_ml, dat_ok, if_true]
theorem ret_val {m : OM} {x : LV} {e1 e2 : LEnv} (q : m e1 = .val (.tmp x) e2) : sRet m e1 = .rt x e2 := by simp only [sRet, q]
theorem kids_own (S : Sc) (k : Str) (n : Nat) (K : List Str) (a4 a5 : LV) (m : Nat) (g : FM) (ih : ∀ p k, Drawn p → k ∈ K → ∃ d p', g [p, .dat (DS S), .dat (.str k), li (m : Int)] = .ret (.dat d) [p', .dat (DS S), .dat (.str k), li (m : Int)] ∧ Drawn p' ∧ Tree m d) (p : LV) (hp : Drawn p) (cs : List Str) (hc : ∀ c ∈ cs, c ∈ K) (hl : cs.length ≤ 3) :
    ∃ xs p', oLc (iAnyK (oVar 6)) (gmName 8) (tYesM) (oCall g (aCons (oVar 0) (aCons (oFrz (oVar 1)) (aCons (oFrz (oVar 8)) (aCons (oFrz (o2 (oVar 3) (oC (.int 1)) fSubI)) (aNil)))))) [8] [p, .dat (DS S), .dat (.str k), li ((m + 1 : Nat) : Int), a4, a5, .dat (.tup (cs.map .str)), .un, .un] = .val (.tmp (.ml xs)) [p', .dat (DS S), .dat (.str k), li ((m + 1 : Nat) : Int), a4, a5, .dat (.tup (cs.map .str)), .un, .un] ∧ Drawn p' ∧ xs.length ≤ 3 ∧ ∀ e ∈ xs, Tree m e := by
  have w := walk_tup (m := oVar 6) (e1 := [p, .dat (DS S), .dat (.str k), li ((m + 1 : Nat) : Int), a4, a5, .dat (.tup (cs.map .str)), .un, .un]) (frz_var rfl) rfl
  obtain ⟨xs, env', h1, ⟨p', he, hd, ht⟩, hlen⟩ := lcD_keep (g := gmName 8) (t := tYesM) (m := oCall g (aCons (oVar 0) (aCons (oFrz (oVar 1)) (aCons (oFrz (oVar 8)) (aCons (oFrz (o2 (oVar 3) (oC (.int 1)) fSubI)) (aNil)))))) (vs := [8])
    (fun pre acc e => ∃ p', e = [p', .dat (DS S), .dat (.str k), li ((m + 1 : Nat) : Int), a4, a5, .dat (.tup (cs.map .str)), .un, .un] ∧ Drawn p' ∧ ∀ y ∈ acc, Tree m y) (cs.map .str) [] [] [p, .dat (DS S), .dat (.str k), li ((m + 1 : Nat) : Int), a4, a5, .dat (.tup (cs.map .str)), .un, .un] ⟨p, rfl, hp, by simp⟩ (by rw [sizeLine_eq, List.length_map]; simp; omega) (fun pre acc d e hd ⟨p1, he, d1, ht⟩ => by
      subst he
      obtain ⟨c, hcs, rfl⟩ := List.mem_map.mp hd
      obtain ⟨y, p2, e2, d2, t2⟩ := ih p1 c d1 (hc c hcs)
      have sb : oFrz (o2 (oVar 3) (oC (.int 1)) fSubI) [p1, .dat (DS S), .dat (.str k), li ((m + 1 : Nat) : Int), a4, a5, .dat (.tup (cs.map .str)), .un, .dat (.str c)] = .val (.tmp (li (m : Int))) [p1, .dat (DS S), .dat (.str k), li ((m + 1 : Nat) : Int), a4, a5, .dat (.tup (cs.map .str)), .un, .dat (.str c)] := by
        apply frz_tmp
        have v3 := var_of (i := 3) (env := [p1, .dat (DS S), .dat (.str k), li ((m + 1 : Nat) : Int), a4, a5, .dat (.tup (cs.map .str)), .un, .dat (.str c)]) (lv := li ((m + 1 : Nat) : Int)) rfl rfl
        have g3 := var_get (i := 3) (env := [p1, .dat (DS S), .dat (.str k), li ((m + 1 : Nat) : Int), a4, a5, .dat (.tup (cs.map .str)), .un, .dat (.str c)]) (lv := li ((m + 1 : Nat) : Int)) rfl rfl
        generalize [p1, LV.dat (DS S), .dat (.str k), li ((m + 1 : Nat) : Int), a4, a5, .dat (.tup (cs.map .str)), .un, .dat (.str c)] = E at v3 g3 ⊢
        simp only [o2, oOp, aCons, v3, oC, aNil, gets, g3, tmp_get dat_ok, sub1, dat_ok, if_true]
      have cd := call_draw3 (g := g) (env := [p1, .dat (DS S), .dat (.str k), li ((m + 1 : Nat) : Int), a4, a5, .dat (.tup (cs.map .str)), .un, .dat (.str c)]) rfl d1 d2 (frz_var (i := 1) rfl) (frz_var (i := 8) rfl) sb e2
      have fz := frz_dat cd
      refine ⟨[p1, .dat (DS S), .dat (.str k), li ((m + 1 : Nat) : Int), a4, a5, .dat (.tup (cs.map .str)), .un, .dat (.str c)], true, _, rfl, rfl, (fun z => by cases z), fun _ => ⟨y, _, fz, p2, rfl, d2, fun z hz => ?_⟩⟩
      rcases List.mem_append.mp hz with h | h
      · exact ht z h
      · rw [List.mem_singleton.mp h]; exact t2)
  subst he
  refine ⟨xs, p', ?_, hd, by rw [List.length_map] at hlen; simp at hlen; omega, ht⟩
  have wp : wipeE [p, .dat (DS S), .dat (.str k), li ((m + 1 : Nat) : Int), a4, a5, .dat (.tup (cs.map .str)), .un, .un] [8] = [p, .dat (DS S), .dat (.str k), li ((m + 1 : Nat) : Int), a4, a5, .dat (.tup (cs.map .str)), .un, .un] := rfl
  simp only [oLc, w, wp, h1]
  rfl
theorem some_tree_spec {K : List Str} {S : Sc} {b : Nat} (ok : SchOk K S b) (hb : b ≤ 20) (hn : (S.map (·.1)).Nodup) (hK : S.map (·.1) = K) : ∀ (n m : Nat), m < n → ∀ (p : LV) (k : Str), Drawn p → k ∈ K → ∃ d p', g__law_some_tree n [p, .dat (DS S), .dat (.str k), li ((m + 1 : Nat) : Int)] = .ret (.dat d) [p', .dat (DS S), .dat (.str k), li ((m + 1 : Nat) : Int)] ∧ Drawn p' ∧ Tree (m + 1) d := by
  intro n
  induction n with
  | zero => exact fun m h => absurd h (by omega)
  | succ n ih =>
    intro m hm p k hp hk
    obtain ⟨⟨k', vs⟩, hkv, e0⟩ := List.mem_map.mp (hK ▸ hk)
    replace e0 : k' = k := e0
    rw [e0] at hkv
    clear e0
    have vk := ok.vars _ hkv
    have hd : m__law_some_tree (g__law_some_tree n) = sSeq (sSet 4 (oLc (iAnyK (o2 (oVar 1) (oVar 2) fIxA)) (gmName 7) tSel (oVar 7) [7])) (sSeq (sTgt (gmTup 2 (gmCons (gmName 5) (gmCons (gmName 6) (gmNil)))) (oCall g__law_pick (aCons (oVar 0) (aCons (oFrz (oVar 4)) (aNil))))) (sRet (o2 (oOp (aCons (oFrz (oVar 5)) (aNil)) fTup) (oOp (aCons (oLc (iAnyK (oVar 6)) (gmName 8) (tYesM) (oCall (g__law_some_tree n) (aCons (oVar 0) (aCons (oFrz (oVar 1)) (aCons (oFrz (oVar 8)) (aCons (oFrz (o2 (oVar 3) (oC (.int 1)) fSubI)) (aNil)))))) [8]) (aNil)) fTuple) fAdd))) := rfl
    have ixk : oFrz (o2 (oVar 1) (oVar 2) fIxA) [p, .dat (DS S), .dat (.str k), li ((m + 1 : Nat) : Int), .un, .un, .un, .un, .un] = .val (.tmp (.dat (.tup (vs.map encV)))) [p, .dat (DS S), .dat (.str k), li ((m + 1 : Nat) : Int), .un, .un, .un, .un, .un] := by
      apply frz_tmp
      have v0 := var_of (i := 1) (env := [p, .dat (DS S), .dat (.str k), li ((m + 1 : Nat) : Int), .un, .un, .un, .un, .un]) (lv := .dat (DS S)) rfl rfl
      have v1 := var_of (i := 2) (env := [p, .dat (DS S), .dat (.str k), li ((m + 1 : Nat) : Int), .un, .un, .un, .un, .un]) (lv := .dat (.str k)) rfl rfl
      have g0 := var_get (i := 1) (env := [p, .dat (DS S), .dat (.str k), li ((m + 1 : Nat) : Int), .un, .un, .un, .un, .un]) (lv := .dat (DS S)) rfl rfl
      have g1 := var_get (i := 2) (env := [p, .dat (DS S), .dat (.str k), li ((m + 1 : Nat) : Int), .un, .un, .un, .un, .un]) (lv := .dat (.str k)) rfl rfl
      generalize [p, LV.dat (DS S), .dat (.str k), li ((m + 1 : Nat) : Int), .un, .un, .un, .un, .un] = E at v0 v1 g0 g1 ⊢
      simp only [o2, oOp, aCons, v0, v1, aNil, gets, g0, g1, at_key hn hkv, dat_ok, if_true]
    have w := walk_tup ixk rfl
    have lc := lcD_map (g := gmName 7) (t := tSel) (m := oVar 7) (vs := [7]) (c := selD (m + 1)) (f := id) (ds := vs.map encV) (env := [p, .dat (DS S), .dat (.str k), li ((m + 1 : Nat) : Int), .un, .un, .un, .un, .un])
      (by have : vs.length ≤ 3 := vk.few; rw [sizeLine_eq, List.length_map]; omega) (fun d hd => by
        obtain ⟨v, _, rfl⟩ := List.mem_map.mp hd
        exact ⟨[p, .dat (DS S), .dat (.str k), li ((m + 1 : Nat) : Int), .un, .un, .un, .dat (encV v), .un], rfl, sel_val rfl rfl, fun _ => frz_var rfl, rfl⟩)
    rw [List.map_id] at lc
    have wp : wipeE [p, .dat (DS S), .dat (.str k), li ((m + 1 : Nat) : Int), .un, .un, .un, .un, .un] [7] = [p, .dat (DS S), .dat (.str k), li ((m + 1 : Nat) : Int), .un, .un, .un, .un, .un] := rfl
    have ol : oLc (iAnyK (o2 (oVar 1) (oVar 2) fIxA)) (gmName 7) tSel (oVar 7) [7] [p, .dat (DS S), .dat (.str k), li ((m + 1 : Nat) : Int), .un, .un, .un, .un, .un] = .val (.tmp (.ml ((vs.map encV).filter (selD (m + 1))))) [p, .dat (DS S), .dat (.str k), li ((m + 1 : Nat) : Int), .un, .un, .un, .un, .un] := by
      simp only [oLc, w, wp, lc]
      rfl
    have mem : ∀ y ∈ (vs.map encV).filter (selD (m + 1)), ∃ v ∈ vs, y = encV v ∧ (v.2 = [] ∨ 1 < m + 1) := fun y hy => by
      obtain ⟨h1, h2⟩ := List.mem_filter.mp hy
      obtain ⟨v, hv, rfl⟩ := List.mem_map.mp h1
      refine ⟨v, hv, rfl, ?_⟩
      have h3 : ((v.2.map D.str).isEmpty || decide (1 < m + 1)) = true := h2
      rw [Bool.or_eq_true] at h3
      rcases h3 with h3 | h3
      · left; simpa using h3
      · right; exact of_decide_eq_true h3
    have ne : (vs.map encV).filter (selD (m + 1)) ≠ [] := by
      obtain ⟨v, hv, h0⟩ := vk.leaf
      have : encV v ∈ (vs.map encV).filter (selD (m + 1)) := List.mem_filter.mpr ⟨List.mem_map.mpr ⟨v, hv, rfl⟩, by simp [encV, selD, h0]⟩
      exact List.ne_nil_of_mem this
    have len : ((vs.map encV).filter (selD (m + 1))).length < 1000 := by
      have h1 := List.length_filter_le (selD (m + 1)) (vs.map encV)
      rw [List.length_map] at h1
      have : vs.length ≤ 3 := vk.few
      omega
    generalize (vs.map encV).filter (selD (m + 1)) = F at ol mem ne len
    have s1 := set_val (i := 4) ol
    have f4 := frz_own (i := 4) (env := [p, .dat (DS S), .dat (.str k), li ((m + 1 : Nat) : Int), .ml F, .un, .un, .un, .un]) (ds := F) rfl
    obtain ⟨y, p1, e1, hy, d1⟩ := call_pick' (i := 0) rfl rfl hp f4 ne len
    obtain ⟨v, hv, rfl, hor⟩ := mem y hy
    have vt : v.1 < 20 := by
      have := ok.less v.1 (List.mem_flatMap.mpr ⟨_, hkv, List.mem_map.mpr ⟨v, hv, rfl⟩⟩)
      omega
    obtain ⟨vkk, vkl⟩ := vk.kids v hv
    have s2 : sTgt (gmTup 2 (gmCons (gmName 5) (gmCons (gmName 6) (gmNil)))) (oCall g__law_pick (aCons (oVar 0) (aCons (oFrz (oVar 4)) (aNil)))) [p, .dat (DS S), .dat (.str k), li ((m + 1 : Nat) : Int), .ml F, .un, .un, .un, .un] = .nx [p1, .dat (DS S), .dat (.str k), li ((m + 1 : Nat) : Int), .dat (.lst F), .dat (.str (tagOf v.1)), .dat (.tup (v.2.map .str)), .un, .un] := by
      simp only [sTgt, frz_dat e1]
      rfl
    have kd : ∃ xs p', oLc (iAnyK (oVar 6)) (gmName 8) (tYesM) (oCall (g__law_some_tree n) (aCons (oVar 0) (aCons (oFrz (oVar 1)) (aCons (oFrz (oVar 8)) (aCons (oFrz (o2 (oVar 3) (oC (.int 1)) fSubI)) (aNil)))))) [8] [p1, .dat (DS S), .dat (.str k), li ((m + 1 : Nat) : Int), .dat (.lst F), .dat (.str (tagOf v.1)), .dat (.tup (v.2.map .str)), .un, .un] = .val (.tmp (.ml xs)) [p', .dat (DS S), .dat (.str k), li ((m + 1 : Nat) : Int), .dat (.lst F), .dat (.str (tagOf v.1)), .dat (.tup (v.2.map .str)), .un, .un] ∧ Drawn p' ∧ xs.length ≤ 3 ∧ ∀ e ∈ xs, Tree m e := by
      cases m with
      | succ m => exact kids_own S k n K (.dat (.lst F)) (.dat (.str (tagOf v.1))) (m + 1) (g__law_some_tree n) (fun p k hp hk => ih m (by omega) p k hp hk) p1 d1 v.2 vkk vkl
      | zero =>
        have e0 : v.2 = [] := by rcases hor with h | h; exact h; omega
        rw [e0]
        exact ⟨[], p1, rfl, d1, by simp, by simp⟩
    obtain ⟨xs, p2, e2, d2, hl, ht⟩ := kd
    refine ⟨.tup (.str (tagOf v.1) :: xs), p2, ?_, d2, ⟨v.1, vt, rfl⟩, hl, ht⟩
    have t5 : oOp (aCons (oFrz (oVar 5)) (aNil)) fTup [p1, .dat (DS S), .dat (.str k), li ((m + 1 : Nat) : Int), .dat (.lst F), .dat (.str (tagOf v.1)), .dat (.tup (v.2.map .str)), .un, .un] = .val (.tmp (.dat (.tup [.str (tagOf v.1)]))) [p1, .dat (DS S), .dat (.str k), li ((m + 1 : Nat) : Int), .dat (.lst F), .dat (.str (tagOf v.1)), .dat (.tup (v.2.map .str)), .un, .un] := by
      have f : fTup [.dat (.str (tagOf v.1))] = some (.dat (.tup [.str (tagOf v.1)])) := by simp [fTup, data, LV.datum, sizeLine_eq]
      have fv := frz_var (i := 5) (env := [p1, .dat (DS S), .dat (.str k), li ((m + 1 : Nat) : Int), .dat (.lst F), .dat (.str (tagOf v.1)), .dat (.tup (v.2.map .str)), .un, .un]) (d := .str (tagOf v.1)) rfl
      simp only [oOp, aCons, fv, aNil, gets, tmp_get dat_ok, f, dat_ok, if_true]
    have ad : fAdd [.dat (.tup [.str (tagOf v.1)]), .dat (.tup xs)] = some (.dat (.tup (.str (tagOf v.1) :: xs))) := by
      have : (1 : Nat) + xs.length ≤ sizeLine := by rw [sizeLine_eq]; omega
      simp [fAdd, fOr, fAddI, fAddS, fAddL, fAddT, f2, gI, gAddS, gAddL, gAddT, LV.items]
      omega
    have okA : okArgs [0] [p, LV.dat (DS S), .dat (.str k), li ((m + 1 : Nat) : Int)] = true := by simp [okArgs, dat_own]
    refine def_rtP okA rfl (e2 := [p2, .dat (DS S), .dat (.str k), li ((m + 1 : Nat) : Int), .dat (.lst F), .dat (.str (tagOf v.1)), .dat (.tup (v.2.map .str)), .un, .un]) ?_ rfl
    rw [hd]
    show sSeq _ _ [p, .dat (DS S), .dat (.str k), li ((m + 1 : Nat) : Int), .un, .un, .un, .un, .un] = _
    rw [seq_nx s1]
    show sSeq _ _ [p, .dat (DS S), .dat (.str k), li ((m + 1 : Nat) : Int), .ml F, .un, .un, .un, .un] = _
    rw [seq_nx s2]
    exact ret_val (op_val3 t5 (tuple_val e2) rfl rfl ad)
end Lw
set_option maxRecDepth 100000
set_option maxHeartbeats 4000000
namespace Lw
open PySem PL
def consI (i : Nat) : D → D
  | .tup q => .tup (.int i :: q)
  | y => y
def goP (f : D → List D) : Nat → List D → List D
  | _, [] => []
  | i, x :: xs => (f x).map (consI i) ++ goP f (i + 1) xs
def pathsD : Nat → D → List D
  | m + 1, .tup (_ :: xs) => .tup [] :: goP (pathsD m) 0 xs
  | _, _ => []
theorem goP_len {f : D → List D} {b : Nat} : ∀ (xs : List D) (i : Nat), (∀ x ∈ xs, (f x).length ≤ b) → (goP f i xs).length ≤ xs.length * b
  | [], _, _ => by simp [goP]
  | x :: xs, i, h => by
    have h1 := goP_len xs (i + 1) fun y m => h y (List.mem_cons_of_mem _ m)
    have h2 := h x List.mem_cons_self
    simp only [goP, List.length_append, List.length_map, List.length_cons, Nat.add_mul]
    omega
theorem paths_len : ∀ {m : Nat} {d : D}, Tree m d → (pathsD m d).length ≤ 4 ^ m := by
  intro m
  induction m with
  | zero => intro d h; obtain ⟨_, _, _, h, _⟩ := h.tup; cases h
  | succ m ih =>
    intro d h
    obtain ⟨m', t, xs, e, rfl, h1, h2, h3⟩ := h.tup
    cases e
    have q := goP_len (f := pathsD m) xs 0 fun x hx => ih (h3 x hx)
    have := Nat.mul_le_mul_right (4 ^ m) h2
    have p : 1 ≤ 4 ^ m := Nat.one_le_pow _ _ (by decide)
    simp only [pathsD, List.length_cons, Nat.pow_succ]
    omega
/-- how long a path may be -/
def IsP (m : Nat) (y : D) : Prop := ∃ q : List Int, y = .tup (q.map .int) ∧ q.length < m
theorem goP_mem {f : D → List D} {y : D} : ∀ {xs : List D} {i : Nat}, y ∈ goP f i xs → ∃ j x z, xs[j]? = some x ∧ z ∈ f x ∧ y = consI (i + j) z
  | [], _, h => by simp [goP] at h
  | x :: xs, i, h => by
    unfold goP at h
    rcases List.mem_append.mp h with h | h
    · obtain ⟨z, hz, rfl⟩ := List.mem_map.mp h
      exact ⟨0, x, z, rfl, hz, rfl⟩
    · obtain ⟨j, x', z, h1, h2, rfl⟩ := goP_mem h
      exact ⟨j + 1, x', z, by simpa using h1, h2, by rw [show i + 1 + j = i + (j + 1) by omega]⟩
theorem paths_isP : ∀ {m : Nat} {d y : D}, Tree m d → y ∈ pathsD m d → IsP m y := by
  intro m
  induction m with
  | zero => intro d y h; obtain ⟨_, _, _, h, _⟩ := h.tup; cases h
  | succ m ih =>
    intro d y h hy
    obtain ⟨m', t, xs, e, rfl, h1, h2, h3⟩ := h.tup
    cases e
    rcases List.mem_cons.mp hy with rfl | hy
    · exact ⟨[], rfl, by simp⟩
    · obtain ⟨j, x, z, g1, g2, rfl⟩ := goP_mem hy
      obtain ⟨q, rfl, hq⟩ := ih (h3 x (List.mem_of_getElem? g1)) g2
      exact ⟨((0 + j : Nat) : Int) :: q, rfl, by simpa using hq⟩
abbrev lcP (g : FM) : OM := oLc (iAnyK (oCall g (aCons (oFrz (oVar 3)) (aNil)))) (gmName 4) (tYesM) (o2 (oOp (aCons (oFrz (oVar 2)) (aNil)) fTup) (oVar 4) fAdd) [4]
theorem call1m {g : FM} {m1 : OM} {d1 : D} {ds : List D} {e : LEnv} (q1 : m1 e = .val (.tmp (.dat d1)) e) (hg : g [.dat d1] = .ret (.ml ds) [.dat d1]) : oCall g (aCons m1 aNil) e = .val (.tmp (.ml ds)) e := by
  simp only [oCall, aCons, q1, aNil, gets, tmp_get dat_ok, hg]
  rfl
theorem frz_ml {m : OM} {ds : List D} {e : LEnv} (h : m e = .val (.tmp (.ml ds)) e) : oFrz m e = .val (.tmp (.dat (.lst ds))) e := by simp only [oFrz, h, LV.frz]
theorem walk_ml {m : OM} {e1 : LEnv} {ds : List D} (h : m e1 = .val (.tmp (.ml ds)) e1) : iAnyK m e1 = .val ds e1 := by
  simp only [iAnyK, iOr, iSeq, frz_ml h]
theorem lcP_val {g : FM} {d o x : D} {acc : LV} {i m : Nat} {ps : List D} (hg : g [.dat x] = .ret (.ml ps) [.dat x]) (hp : ∀ y ∈ ps, IsP m y) (hm : m < 1000) (hl : ps.length < 1000000) :
    lcP g [.dat d, acc, li (i : Int), .dat x, .un] = .val (.tmp (.ml (ps.map (consI i)))) [.dat d, acc, li (i : Int), .dat x, .un] := by
  have c := call1m (e := [.dat d, acc, li (i : Int), .dat x, .un]) (frz_var (i := 3) rfl) hg
  have w := walk_ml c
  have lc := lcD_map (g := gmName 4) (t := tYesM) (m := o2 (oOp (aCons (oFrz (oVar 2)) (aNil)) fTup) (oVar 4) fAdd) (vs := [4]) (c := fun _ => true) (f := consI i) (ds := ps) (env := [.dat d, acc, li (i : Int), .dat x, .un])
    (by rw [sizeLine_eq]; omega) (fun y hy => by
      obtain ⟨q, rfl, hq⟩ := hp y hy
      refine ⟨[.dat d, acc, li (i : Int), .dat x, .dat (.tup (q.map .int))], rfl, rfl, fun _ => ?_, rfl⟩
      have f : fTup [li (i : Int)] = some (.dat (.tup [.int i])) := by simp [fTup, data, LV.datum, sizeLine_eq]
      have fv := frz_var (i := 2) (env := [.dat d, acc, li (i : Int), .dat x, .dat (.tup (q.map .int))]) (d := .int i) rfl
      have t : oOp (aCons (oFrz (oVar 2)) (aNil)) fTup [.dat d, acc, li (i : Int), .dat x, .dat (.tup (q.map .int))] = .val (.tmp (.dat (.tup [.int i]))) [.dat d, acc, li (i : Int), .dat x, .dat (.tup (q.map .int))] := by
        simp only [oOp, aCons, fv, aNil, gets, tmp_get dat_ok, f, dat_ok, if_true]
      have ad : fAdd [.dat (.tup [.int i]), .dat (.tup (q.map .int))] = some (.dat (.tup (.int i :: q.map .int))) := by
        simp [fAdd, fOr, fAddI, fAddS, fAddL, fAddT, f2, gI, gAddS, gAddL, gAddT, LV.items, sizeLine_eq]
        omega
      exact frz_tmp (op_val2 (j := 4) t rfl rfl rfl ad))
  rw [List.filter_eq_self.mpr (fun _ _ => rfl)] at lc
  have wp : wipeE [.dat d, acc, li (i : Int), .dat x, .un] [4] = [.dat d, acc, li (i : Int), .dat x, .un] := rfl
  simp only [lcP, oLc, w, wp, lc]
  rfl
theorem mu_ext {env env1 : LEnv} {i : Nat} {ms : AM} {ds ds' : List D} {d : D} (h : env[i]? = some (.ml ds)) (hm : ms env = .val [.tmp (.dat d)] env1) (h1 : env1[i]? = some (.ml ds)) (ex : mExtend (.ml ds) [.dat d] = some (.dat .non, .ml ds')) : sExpr (oMu "list" (oVar i) ms mExtend) env = .nx (env1.set i (.ml ds')) := by
  have v := var_of h rfl
  have g := var_get h rfl
  have g1 := var_get h1 rfl
  have ty : (LV.ml ds).ty = "list" := rfl
  have ow : ∀ l, (LV.ml l).isOwn = true := fun _ => rfl
  simp only [sExpr, oMu, v, g, ty, if_true, hm, g1, gets, tmp_get dat_ok, ex, dat_ok, ow, Bool.and_self]
theorem paths_loop {m : Nat} {body : SM} (d : D) (hb : ∀ (x : D) (i : Nat) (acc : List D), Tree m x → acc.length < 1000000 → body [.dat d, .ml acc, li (i : Int), .dat x, .un] = .nx [.dat d, .ml (acc ++ (pathsD m x).map (consI i)), li (i : Int), .dat x, .un]) : ∀ (xs : List D) (i : Nat) (acc : List D) (a2 a3 : LV), (∀ x ∈ xs, Tree m x) → acc.length + (goP (pathsD m) i xs).length < 1000000 →
    ∃ b2 b3, forD (gmTup 2 (gmCons (gmName 2) (gmCons (gmName 3) (gmNil)))) body (enumD i xs) [.dat d, .ml acc, a2, a3, .un] = .nx [.dat d, .ml (acc ++ goP (pathsD m) i xs), b2, b3, .un]
  | [], i, acc, a2, a3, _, _ => ⟨a2, a3, by simp [goP]; rfl⟩
  | x :: xs, i, acc, a2, a3, h, hl => by
    have g0 : (gmTup 2 (gmCons (gmName 2) (gmCons (gmName 3) (gmNil)))) (.tup [.int i, x]) [.dat d, .ml acc, a2, a3, .un] = some [.dat d, .ml acc, li (i : Int), .dat x, .un] := rfl
    simp only [goP, List.length_append, List.length_map] at hl
    have b1 := hb x i acc (h x List.mem_cons_self) (by omega)
    obtain ⟨b2, b3, r⟩ := paths_loop d hb xs (i + 1) (acc ++ (pathsD m x).map (consI i)) (li (i : Int)) (.dat x) (fun y m => h y (List.mem_cons_of_mem _ m)) (by simp only [List.length_append, List.length_map]; omega)
    refine ⟨b2, b3, ?_⟩
    unfold enumD forD
    simp only [g0, b1]
    rw [r]
    simp only [goP, List.append_assoc]
theorem enum_tail {x : D} {xs : List D} {a1 a2 a3 a4 : LV} : iEnumA (oSl (oVar 0) (pSome (oC (.int 1))) (pNone) slA) [.dat (.tup (x :: xs)), a1, a2, a3, a4] = .val (enumD 0 xs) [.dat (.tup (x :: xs)), a1, a2, a3, a4] := by
  have t := frz_tmp (tail_val (i := 0) (env := [.dat (.tup (x :: xs)), a1, a2, a3, a4]) rfl)
  simp only [iEnumA, iOr, iEnumM, iEnumTM, t]
theorem start_paths (d : D) : sSet 1 (oOp (aCons (oFrz (oOp (aNil) fTup)) (aNil)) fLst) [.dat d, .un, .un, .un, .un] = .nx [.dat d, .ml [.tup []], .un, .un, .un] := by
  have a : (aCons (oFrz (oOp aNil fTup)) aNil) [.dat d, .un, .un, .un, .un] = .val [.tmp (.dat (.tup []))] [.dat d, .un, .un, .un, .un] := by simp only [aCons, tup0, aNil]
  exact set_val (lst1_val a)
theorem paths_law : ∀ (n m : Nat) (d : D), Tree m d → m ≤ n → m ≤ 8 → g__law_paths n [.dat d] = .ret (.ml (pathsD m d)) [.dat d] := by
  intro n
  induction n with
  | zero => intro m d h hm; obtain ⟨_, _, _, e, _⟩ := h.tup; omega
  | succ n ih =>
    intro m d h hm h8
    have hlen := paths_len h
    obtain ⟨m, t, xs, rfl, rfl, h1, h2, h3⟩ := h.tup
    have h4 : 4 ^ (m + 1) ≤ 4 ^ 8 := Nat.pow_le_pow_right (by decide) h8
    have hd : m__law_paths (g__law_paths n) = sSeq (sSet 1 (oOp (aCons (oFrz (oOp (aNil) fTup)) (aNil)) fLst)) (sSeq (sFor (iEnumA (oSl (oVar 0) (pSome (oC (.int 1))) (pNone) slA)) (gmTup 2 (gmCons (gmName 2) (gmCons (gmName 3) (gmNil)))) (sSet 1 (o2 (oVar 1) (lcP (g__law_paths n)) fAdd))) (sRet (oMove (oVar 1)))) := rfl
    obtain ⟨b2, b3, lp⟩ := paths_loop (m := m) (body := sSet 1 (o2 (oVar 1) (lcP (g__law_paths n)) fAdd)) (.tup (.str (tagOf t) :: xs)) (fun x i acc hx ha => by
      have hpl := paths_len hx
      have h5 : 4 ^ m ≤ 4 ^ 8 := Nat.pow_le_pow_right (by decide) (by omega)
      have lc := lcP_val (d := .tup (.str (tagOf t) :: xs)) (o := .non) (acc := .ml acc) (i := i) (ih m x hx (by omega) (by omega)) (fun y hy => paths_isP hx hy) (by omega) (by omega)
      have v := var_of (i := 1) (env := [.dat (.tup (.str (tagOf t) :: xs)), .ml acc, li (i : Int), .dat x, .un]) (lv := .ml acc) rfl rfl
      have g := var_get (i := 1) (env := [.dat (.tup (.str (tagOf t) :: xs)), .ml acc, li (i : Int), .dat x, .un]) (lv := .ml acc) rfl rfl
      have ad := addL_ok (as := acc) (bs := (pathsD m x).map (consI i)) (by rw [sizeLine_eq, List.length_map]; omega)
      have o : o2 (oVar 1) (lcP (g__law_paths n)) fAdd [.dat (.tup (.str (tagOf t) :: xs)), .ml acc, li (i : Int), .dat x, .un] = .val (.tmp (.ml (acc ++ (pathsD m x).map (consI i)))) [.dat (.tup (.str (tagOf t) :: xs)), .ml acc, li (i : Int), .dat x, .un] := by
        simp only [o2, oOp, aCons, v, lc, aNil, gets, g, tmp_get ml_ok, ad, ml_ok, if_true]
      exact set_val o) xs 0 [.tup []] .un .un h3 (by simp only [pathsD, List.length_cons] at hlen; simp only [List.length_singleton]; omega)
    refine def_rt rfl rfl (e2 := [.dat (.tup (.str (tagOf t) :: xs)), .un, b2, b3, .un]) ?_
    rw [hd]
    show sSeq _ _ [.dat (.tup (.str (tagOf t) :: xs)), .un, .un, .un, .un] = _
    rw [seq_nx (start_paths _), seq_nx ((for_val enum_tail).trans lp)]
    rfl
theorem paths_spec : ∀ (n m : Nat) (d : D), Tree m d → m ≤ n → m ≤ 8 → g_paths n [.dat d] = .ret (.ml (pathsD m d)) [.dat d] := by
  intro n
  induction n with
  | zero => intro m d h hm; obtain ⟨_, _, _, e, _⟩ := h.tup; omega
  | succ n ih =>
    intro m d h hm h8
    have hlen := paths_len h
    obtain ⟨m, t, xs, rfl, rfl, h1, h2, h3⟩ := h.tup
    have h4 : 4 ^ (m + 1) ≤ 4 ^ 8 := Nat.pow_le_pow_right (by decide) h8
    have hd : m_paths (g_paths n) = sSeq (sSet 1 (oOp (aCons (oFrz (oOp (aNil) fTup)) (aNil)) fLst)) (sSeq (sFor (iEnumA (oSl (oVar 0) (pSome (oC (.int 1))) (pNone) slA)) (gmTup 2 (gmCons (gmName 2) (gmCons (gmName 3) (gmNil)))) (sExpr (oMu "list" (oVar 1) (aCons (oFrz (lcP (g_paths n))) (aNil)) mExtend))) (sRet (oMove (oVar 1)))) := rfl
    obtain ⟨b2, b3, lp⟩ := paths_loop (m := m) (body := sExpr (oMu "list" (oVar 1) (aCons (oFrz (lcP (g_paths n))) (aNil)) mExtend)) (.tup (.str (tagOf t) :: xs)) (fun x i acc hx ha => by
      have hpl := paths_len hx
      have h5 : 4 ^ m ≤ 4 ^ 8 := Nat.pow_le_pow_right (by decide) (by omega)
      have lc := frz_ml (lcP_val (d := .tup (.str (tagOf t) :: xs)) (o := .non) (acc := .ml acc) (i := i) (ih m x hx (by omega) (by omega)) (fun y hy => paths_isP hx hy) (by omega) (by omega))
      have v := var_of (i := 1) (env := [.dat (.tup (.str (tagOf t) :: xs)), .ml acc, li (i : Int), .dat x, .un]) (lv := .ml acc) rfl rfl
      have g := var_get (i := 1) (env := [.dat (.tup (.str (tagOf t) :: xs)), .ml acc, li (i : Int), .dat x, .un]) (lv := .ml acc) rfl rfl
      have ex : mExtend (.ml acc) [.dat (.lst ((pathsD m x).map (consI i)))] = some (.dat .non, .ml (acc ++ (pathsD m x).map (consI i))) := by
        have : acc.length + ((pathsD m x).map (consI i)).length ≤ sizeLine := by rw [sizeLine_eq, List.length_map]; omega
        simp only [mExtend, LV.items, this, if_true]
      have ty : (LV.ml acc).ty = "list" := rfl
      have ow : ∀ l, (LV.ml l).isOwn = true := fun _ => rfl
      have ms : (aCons (oFrz (lcP (g_paths n))) aNil) [.dat (.tup (.str (tagOf t) :: xs)), .ml acc, li (i : Int), .dat x, .un] = .val [.tmp (.dat (.lst ((pathsD m x).map (consI i))))] [.dat (.tup (.str (tagOf t) :: xs)), .ml acc, li (i : Int), .dat x, .un] := by simp only [aCons, lc, aNil]
      exact mu_ext rfl ms rfl ex) xs 0 [.tup []] .un .un h3 (by simp only [pathsD, List.length_cons] at hlen; simp only [List.length_singleton]; omega)
    refine def_rt rfl rfl (e2 := [.dat (.tup (.str (tagOf t) :: xs)), .un, b2, b3, .un]) ?_
    rw [hd]
    show sSeq _ _ [.dat (.tup (.str (tagOf t) :: xs)), .un, .un, .un, .un] = _
    rw [seq_nx (start_paths _), seq_nx ((for_val enum_tail).trans lp)]
    rfl
end Lw
set_option maxRecDepth 100000
set_option maxHeartbeats 4000000
namespace Lw
open PySem PL
/-- data so deep and so wide at most, no dict but the empty one -/
def Thin (w : Nat) : Nat → D → Prop
  | _, .non => True
  | _, .bl _ => True
  | _, .int _ => True
  | _, .str x => PyData.strOk x = true
  | n + 1, .tup ds => ds.length ≤ w ∧ ∀ e ∈ ds, Thin w n e
  | n + 1, .lst ds => ds.length ≤ w ∧ ∀ e ∈ ds, Thin w n e
  | _ + 1, .dic kvs => kvs = []
  | _, _ => False
theorem Thin.fine {w : Nat} : ∀ {n : Nat} {d : D}, Thin w n d → Fine n d := by
  intro n
  induction n with
  | zero => intro d h; cases d <;> exact h
  | succ n ih =>
    intro d h
    cases d with
    | tup ds => exact fun e he => ih (h.2 e he)
    | lst ds => exact fun e he => ih (h.2 e he)
    | dic kvs => intro kv hkv; have : kvs = [] := h; subst this; cases hkv
    | _ => exact h
theorem Thin.up {w w' : Nat} (hw : w ≤ w') : ∀ {n n' : Nat} {d : D}, n ≤ n' → Thin w n d → Thin w' n' d := by
  intro n
  induction n with
  | zero =>
    intro n' d _ h
    cases d <;> first | exact h.elim | (cases n' <;> exact h)
  | succ n ih =>
    intro n' d hn h
    cases n' with
    | zero => omega
    | succ n' =>
      cases d with
      | tup ds => exact ⟨by have := h.1; omega, fun e he => ih (by omega) (h.2 e he)⟩
      | lst ds => exact ⟨by have := h.1; omega, fun e he => ih (by omega) (h.2 e he)⟩
      | _ => exact h
theorem Tree.thin {w : Nat} (hw : 4 ≤ w) : ∀ {n : Nat} {d : D}, Tree n d → Thin w (n + 1) d := by
  intro n
  induction n with
  | zero => intro d h; obtain ⟨_, _, _, h, _⟩ := h.tup; cases h
  | succ n ih =>
    intro d h
    obtain ⟨m, t, xs, e, rfl, h1, h2, h3⟩ := h.tup
    cases e
    refine ⟨by simp only [List.length_cons]; omega, fun e he => ?_⟩
    rcases List.mem_cons.mp he with rfl | he
    · exact tag_ok t h1
    · exact ih (h3 e he)
def isLstD : D → Bool
  | .lst _ => true
  | _ => false
def isDicD : D → Bool
  | .dic _ => true
  | _ => false
def isIntD : D → Bool
  | .int _ => true
  | .bl _ => true
  | _ => false
def isBlD : D → Bool
  | .bl _ => true
  | _ => false
theorem b_dic : isB "NoneType" "dict" = some false ∧ isB "bool" "dict" = some false ∧ isB "int" "dict" = some false ∧ isB "str" "dict" = some false ∧ isB "tuple" "dict" = some false ∧ isB "list" "dict" = some false ∧ isB "dict" "dict" = some true := by
  refine ⟨?_, ?_, ?_, ?_, ?_, ?_, ?_⟩ <;> decide +kernel
theorem b_lst : isB "NoneType" "list" = some false ∧ isB "bool" "list" = some false ∧ isB "int" "list" = some false ∧ isB "str" "list" = some false ∧ isB "tuple" "list" = some false ∧ isB "list" "list" = some true ∧ isB "dict" "list" = some false := by
  refine ⟨?_, ?_, ?_, ?_, ?_, ?_, ?_⟩ <;> decide +kernel
theorem b_int : isB "NoneType" "int" = some false ∧ isB "bool" "int" = some true ∧ isB "int" "int" = some true ∧ isB "str" "int" = some false ∧ isB "tuple" "int" = some false ∧ isB "list" "int" = some false ∧ isB "dict" "int" = some false := by
  refine ⟨?_, ?_, ?_, ?_, ?_, ?_, ?_⟩ <;> decide +kernel
theorem b_bool : isB "NoneType" "bool" = some false ∧ isB "bool" "bool" = some true ∧ isB "int" "bool" = some false ∧ isB "str" "bool" = some false ∧ isB "tuple" "bool" = some false ∧ isB "list" "bool" = some false ∧ isB "dict" "bool" = some false := by
  refine ⟨?_, ?_, ?_, ?_, ?_, ?_, ?_⟩ <;> decide +kernel
theorem isi_dic {n : Nat} {d : D} (h : Fine n d) : fIsiA [.dat d, .dat (.cst (.ty "dict"))] = some (.dat (.bl (isDicD d))) := by
  obtain ⟨h1, h2, h3, h4, h5, h6, h7⟩ := b_dic
  cases d <;> first | (exfalso; cases n <;> exact h.elim) | simp [fIsiA, fOr, fIsi, f2, gIsi, LV.tn, h1, h2, h3, h4, h5, h6, h7, isDicD]
theorem isi_lst {n : Nat} {d : D} (h : Fine n d) : fIsiA [.dat d, .dat (.cst (.ty "list"))] = some (.dat (.bl (isLstD d))) := by
  obtain ⟨h1, h2, h3, h4, h5, h6, h7⟩ := b_lst
  cases d <;> first | (exfalso; cases n <;> exact h.elim) | simp [fIsiA, fOr, fIsi, f2, gIsi, LV.tn, h1, h2, h3, h4, h5, h6, h7, isLstD]
theorem isi_int {n : Nat} {d : D} (h : Fine n d) : fIsiA [.dat d, .dat (.cst (.ty "int"))] = some (.dat (.bl (isIntD d))) := by
  obtain ⟨h1, h2, h3, h4, h5, h6, h7⟩ := b_int
  cases d <;> first | (exfalso; cases n <;> exact h.elim) | simp [fIsiA, fOr, fIsi, f2, gIsi, LV.tn, h1, h2, h3, h4, h5, h6, h7, isIntD]
theorem isi_bool {n : Nat} {d : D} (h : Fine n d) : fIsiA [.dat d, .dat (.cst (.ty "bool"))] = some (.dat (.bl (isBlD d))) := by
  obtain ⟨h1, h2, h3, h4, h5, h6, h7⟩ := b_bool
  cases d <;> first | (exfalso; cases n <;> exact h.elim) | simp [fIsiA, fOr, fIsi, f2, gIsi, LV.tn, h1, h2, h3, h4, h5, h6, h7, isBlD]
theorem isi_seq {n : Nat} {d : D} (h : Fine n d) : fIsiA [.dat d, .dat (.tup [.cst (.ty "tuple"), .cst (.ty "list")])] = some (.dat (.bl (isTupD d || isLstD d))) := by
  obtain ⟨h1, h2, h3, h4, h5, h6, h7⟩ := b_lst
  obtain ⟨t1, t2, t3, t4, t5, t6, t7⟩ := b_tup
  cases d <;> first | (exfalso; cases n <;> exact h.elim) | simp [fIsiA, fOr, fIsi, fIsi2, f2, gIsi, gIsi2, LV.tn, h1, h2, h3, h4, h5, h6, h7, t1, t2, t3, t4, t5, t6, t7, isLstD, isTupD]
def othersD : List D := [.non, .bl true, .bl false, .int 0, .int 1, .int 2, .int 3, .str "", .str "a", .str "A", .str "b2", .str "zz", .str "abcdefghi", .tup [], .lst [], .dic [], .tup [.str "a"], .tup [.str "a", .tup []], .tup [.int 0]]
theorem others_thin : ∀ d ∈ othersD, Thin 2 2 d := by
  intro d hd
  simp only [othersD, List.mem_cons, List.not_mem_nil, or_false] at hd
  rcases hd with rfl | rfl | rfl | rfl | rfl | rfl | rfl | rfl | rfl | rfl | rfl | rfl | rfl | rfl | rfl | rfl | rfl | rfl | rfl <;> simp [Thin] <;> decide +kernel
theorem others_val (E : LEnv) : sSet 2 (oOp (aCons (oC .non) (aCons (oC (.bl true)) (aCons (oC (.bl false)) (aCons (oC (.int 0)) (aCons (oC (.int 1)) (aCons (oC (.int 2)) (aCons (oC (.int 3)) (aCons (oC (.str "")) (aCons (oC (.str "a")) (aCons (oC (.str "A")) (aCons (oC (.str "b2")) (aCons (oC (.str "zz")) (aCons (oC (.str "abcdefghi")) (aCons (oFrz (oOp (aNil) fTup)) (aCons (oFrz (oOp (aNil) fLst)) (aCons (oFrz (oNewK)) (aCons (oFrz (oOp (aCons (oC (.str "a")) (aNil)) fTup)) (aCons (oFrz (oOp (aCons (oC (.str "a")) (aCons (oFrz (oOp (aNil) fTup)) (aNil))) fTup)) (aCons (oFrz (oOp (aCons (oC (.int 0)) (aNil)) fTup)) (aNil)))))))))))))))))))) fLst) E = .nx (E.set 2 (.ml othersD)) := by
  apply set_val
  have l0 : oFrz (oOp aNil fLst) E = .val (.tmp (.dat (.lst []))) E := by
    have f : fLst [] = some (.ml []) := by simp [fLst, data]
    simp only [oFrz, oOp, aNil, gets, f, ml_ok, if_true, LV.frz]
  have k0 : oFrz oNewK E = .val (.tmp (.dat (.dic []))) E := rfl
  have t1 : ∀ c : D, oFrz (oOp (aCons (oC c) aNil) fTup) E = .val (.tmp (.dat (.tup [c]))) E := fun c => by
    have f : fTup [.dat c] = some (.dat (.tup [c])) := by simp [fTup, data, LV.datum, sizeLine_eq]
    simp only [oFrz, oOp, aCons, oC, aNil, gets, tmp_get dat_ok, f, dat_ok, if_true, LV.frz]
  have t2 : oFrz (oOp (aCons (oC (.str "a")) (aCons (oFrz (oOp aNil fTup)) aNil)) fTup) E = .val (.tmp (.dat (.tup [.str "a", .tup []]))) E := by
    have f : fTup [.dat (.str "a"), .dat (.tup [])] = some (.dat (.tup [.str "a", .tup []])) := by simp [fTup, data, LV.datum, sizeLine_eq]
    apply frz_tmp
    have g := tup0 E
    rw [oOp]
    simp only [aCons, g, oC, aNil, gets, tmp_get dat_ok, f, dat_ok, if_true]
  have f : fLst (othersD.map .dat) = some (.ml othersD) := by simp [fLst, data, LV.datum, sizeLine_eq, othersD]
  have f' : fLst [.dat .non, .dat (.bl true), .dat (.bl false), .dat (.int 0), .dat (.int 1), .dat (.int 2), .dat (.int 3), .dat (.str ""), .dat (.str "a"), .dat (.str "A"), .dat (.str "b2"), .dat (.str "zz"), .dat (.str "abcdefghi"), .dat (.tup []), .dat (.lst []), .dat (.dic []), .dat (.tup [.str "a"]), .dat (.tup [.str "a", .tup []]), .dat (.tup [.int 0])] = some (.ml othersD) := f
  have q0 := tup0 E
  have q1 := t1 (.str "a")
  have q2 := t1 (.int 0)
  rw [oOp]
  simp only [aCons, q0, l0, k0, q1, q2, t2, oC, aNil, gets, tmp_get dat_ok, f', ml_ok, if_true]
end Lw
set_option maxRecDepth 100000
set_option maxHeartbeats 4000000
namespace Lw
open PySem PL
theorem op_vc {i : Nat} {env : LEnv} {x : LV} {c z : D} {f : List LV → Option LV} (h : env[i]? = some x) (k : x.ok = true) (hf : f [x, .dat c] = some (.dat z)) : o2 (oVar i) (oC c) f env = .val (.tmp (.dat z)) env := by
  simp only [o2, oOp, aCons, var_of h k, oC, aNil, gets, var_get h k, tmp_get dat_ok, hf, dat_ok, if_true]
theorem call_bent {g : FM} {env env1 : LEnv} {p p' : LV} {m1 : OM} {a d' : D} {lv : LV} (h : env[0]? = some p) (h1 : env1[0]? = some p) (d : Drawn p) (dr : Drawn p') (q1 : m1 env = .val (.tmp (.dat a)) env1) (hg : g [p, .dat a] = .ret lv [p', .dat a]) (ok : lv.ok = true) (hf : lv.frz = some d') :
    oFrz (oCall g (aCons (oVar 0) (aCons m1 aNil))) env = .val (.tmp (.dat d')) (env1.set 0 p') := by
  have : oCall g (aCons (oVar 0) (aCons m1 aNil)) env = .val (.tmp lv) (env1.set 0 p') := by
    simp [oCall, aCons, aNil, var_of h d.ok, q1, gets, Rf.get, h1, d.ok, ownVars, own_getD h1, d.own, hg, okBack, dat_ok, dat_own, wb, dr.own, ok]
  simp only [oFrz, this, hf]
theorem put_val {mv : OM} {i j at_ : Nat} {env env1 : LEnv} {x : D} {ds : List D} (hm : oFrz mv env = .val (.tmp (.dat x)) env1) (hj : env1[j]? = some (.ml ds)) (hi : env1[i]? = some (li (at_ : Int))) (hl : at_ < ds.length) : sPut mv (oVar j) (oVar i) stA env = .nx (env1.set j (.ml (ds.set at_ x))) := by
  have vj := var_of hj rfl
  have gj := var_get hj rfl
  have vi := var_of hi rfl
  have gi := var_get hi rfl
  have ow : ∀ l, (LV.ml l).isOwn = true := fun _ => rfl
  simp only [sPut, aCons, hm, vj, vi, aNil, tmp_get dat_ok, gj, gi, put_ml hl, ow, Bool.and_self, if_true]
theorem seq_at {at_ n : Nat} (hl : at_ < n) : seqIndex? (at_ : Int) n = some at_ := by
  have h1 : ¬ ((at_ : Int) < 0) := by omega
  have h2 : decide (0 ≤ (at_ : Int)) = true := decide_eq_true (by omega)
  have h3 : decide ((at_ : Int) < (n : Int)) = true := decide_eq_true (by omega)
  unfold seqIndex?
  simp only [if_neg h1, h2, h3, Bool.and_self, if_true, Int.toNat_natCast]
theorem mpop_at {ds : List D} {at_ : Nat} (hl : at_ < ds.length) (hz : ds.length < 1000000) : mPop (.ml ds) [li (at_ : Int)] = some (.dat ds[at_], .ml (ds.eraseIdx at_)) := by
  have h2 : -(2 ^ 63) ≤ (at_ : Int) ∧ (at_ : Int) < 2 ^ 63 := ⟨by omega, by omega⟩
  have g := List.getElem?_eq_getElem hl
  simp only [mPop, h2, and_self, if_true, seq_at hl, g]
theorem mu_any {f : MtF} {env env1 : LEnv} {i : Nat} {ms : AM} {ds ds' : List D} {d z : D} (h : env[i]? = some (.ml ds)) (hm : ms env = .val [.tmp (.dat d)] env1) (h1 : env1[i]? = some (.ml ds)) (ex : f (.ml ds) [.dat d] = some (.dat z, .ml ds')) : sExpr (oMu "list" (oVar i) ms f) env = .nx (env1.set i (.ml ds')) := by
  have v := var_of h rfl
  have g := var_get h rfl
  have g1 := var_get h1 rfl
  have ty : (LV.ml ds).ty = "list" := rfl
  have ow : ∀ l, (LV.ml l).isOwn = true := fun _ => rfl
  simp only [sExpr, oMu, v, g, ty, if_true, hm, g1, gets, tmp_get dat_ok, ex, dat_ok, ow, Bool.and_self]
theorem args1 {m : OM} {x : LV} {e e1 : LEnv} (h : m e = .val (.tmp x) e1) : (aCons m aNil) e = .val [.tmp x] e1 := by simp only [aCons, h, aNil]
theorem pop_val {i j at_ : Nat} {env : LEnv} {ds : List D} (hj : env[j]? = some (.ml ds)) (hi : env[i]? = some (li (at_ : Int))) (hl : at_ < ds.length) (hz : ds.length < 1000000) : sExpr (oMu "list" (oVar j) (aCons (oFrz (oVar i)) aNil) mPop) env = .nx (env.set j (.ml (ds.eraseIdx at_))) :=
  mu_any hj (args1 (frz_var hi)) hj (mpop_at hl hz)
def midB (g : FM) : SM := (sIf (tOf (o2 (oVar 5) (oC (.int 0)) fEqA)) (sExpr (oMu "list" (oVar 7) (aCons (oFrz (oVar 6)) (aNil)) mPop)) (sIf (tOf (o2 (oVar 5) (oC (.int 1)) fEqA)) (sSet 7 (o2 (oSl (oVar 7) (pNone) (pSome (o2 (oVar 6) (oC (.int 1)) fAdd)) slA) (oSl (oVar 7) (pSome (oVar 6)) (pNone) slA) fAdd)) (sIf (tOf (o2 (oVar 5) (oC (.int 2)) fEqA)) (sPut (oCall g__law_pick (aCons (oVar 0) (aCons (oFrz (oVar 2)) (aNil)))) (oVar 7) (oVar 6) stA) (sPut (oCall g (aCons (oVar 0) (aCons (oFrz (o2 (oVar 1) (oVar 6) fIxA)) (aNil)))) (oVar 7) (oVar 6) stA))))
def BentOk (g : FM) (w m : Nat) : Prop := ∀ p d, Drawn p → Thin w m d → ∃ lv d' p', g [p, .dat d] = .ret lv [p', .dat d] ∧ lv.ok = true ∧ lv.frz = some d' ∧ Drawn p' ∧ Thin (w + 1) (m + 2) d'
theorem mid_val {g : FM} {w m : Nat} (ih : BentOk g w m) (hw : 2 ≤ w) (hw2 : w < 1000) (p : LV) (hp : Drawn p) (d : D) (ds : List D) (hd : d = .tup ds ∨ d = .lst ds) (a3 a4 : LV) (r : Int) (at_ : Nat) (hl : at_ < ds.length) (hz : ds.length ≤ w) (ht : ∀ e ∈ ds, Thin w m e) :
    ∃ p' o ds', midB g [p, .dat d, .ml othersD, a3, a4, li r, li (at_ : Int), .ml ds] = .nx [p', .dat d, o, a3, a4, li r, li (at_ : Int), .ml ds'] ∧ Drawn p' ∧ ds'.length ≤ w + 1 ∧ ∀ e ∈ ds', Thin (w + 1) (m + 2) e := by
  have t0 := of_val (op_vc (i := 5) (c := .int 0) (env := [p, .dat d, .ml othersD, a3, a4, li r, li (at_ : Int), .ml ds]) rfl rfl (eq_int r 0))
  have t1 := of_val (op_vc (i := 5) (c := .int 1) (env := [p, .dat d, .ml othersD, a3, a4, li r, li (at_ : Int), .ml ds]) rfl rfl (eq_int r 1))
  have t2 := of_val (op_vc (i := 5) (c := .int 2) (env := [p, .dat d, .ml othersD, a3, a4, li r, li (at_ : Int), .ml ds]) rfl rfl (eq_int r 2))
  have up : ∀ e ∈ ds, Thin (w + 1) (m + 2) e := fun e he => (ht e he).up (by omega) (by omega)
  unfold midB
  by_cases c0 : r = 0
  · simp only [c0, decide_true] at t0
    refine ⟨p, .ml othersD, ds.eraseIdx at_, ?_, hp, ?_, fun e he => up e (List.mem_of_mem_eraseIdx he)⟩
    · rw [c0, if_t t0]
      exact pop_val (i := 6) (j := 7) rfl rfl hl (by omega)
    · have := List.length_eraseIdx_le ds at_
      omega
  · simp only [c0, decide_false] at t0
    rw [if_f t0]
    by_cases c1 : r = 1
    · simp only [c1, decide_true] at t1
      refine ⟨p, .ml othersD, ds.take (at_ + 1) ++ ds.drop at_, ?_, hp, ?_, fun e he => ?_⟩
      · rw [c1, if_t t1]
        have v7 := var_of (i := 7) (env := [p, .dat d, .ml othersD, a3, a4, li 1, li (at_ : Int), .ml ds]) (lv := .ml ds) rfl rfl
        have g7 := var_get (i := 7) (env := [p, .dat d, .ml othersD, a3, a4, li 1, li (at_ : Int), .ml ds]) (lv := .ml ds) rfl rfl
        have v6 := var_of (i := 6) (env := [p, .dat d, .ml othersD, a3, a4, li 1, li (at_ : Int), .ml ds]) (lv := li (at_ : Int)) rfl rfl
        have g6 := var_get (i := 6) (env := [p, .dat d, .ml othersD, a3, a4, li 1, li (at_ : Int), .ml ds]) (lv := li (at_ : Int)) rfl rfl
        have ic := inc_val (i := 6) (env := [p, .dat d, .ml othersD, a3, a4, li 1, li (at_ : Int), .ml ds]) (n := at_) rfl
        have cf := cut_from ds at_
        have ct := cut_to ds (at_ + 1)
        have ad := addL_ok (as := ds.take (at_ + 1)) (bs := ds.drop at_) (by rw [sizeLine_eq, List.length_take, List.length_drop]; omega)
        have st : ∀ E : LEnv, oVar 7 E = .val (.var 7) E → (Rf.var 7).get E = some (.ml ds) → oVar 6 E = .val (.var 6) E → (Rf.var 6).get E = some (li (at_ : Int)) → o2 (oVar 6) (oC (.int 1)) fAdd E = .val (.tmp (li ((at_ + 1 : Nat) : Int))) E → o2 (oSl (oVar 7) (pNone) (pSome (o2 (oVar 6) (oC (.int 1)) fAdd)) slA) (oSl (oVar 7) (pSome (oVar 6)) (pNone) slA) fAdd E = .val (.tmp (.ml (ds.take (at_ + 1) ++ ds.drop at_))) E := fun E v7 g7 v6 g6 ic => by
          have p1 : pSome (o2 (oVar 6) (oC (.int 1)) fAdd) E = .val (some ((at_ + 1 : Nat) : Int)) E := by simp only [pSome, ic, tmp_get dat_ok]
          have p2 : pSome (oVar 6) E = .val (some (at_ : Int)) E := by simp only [pSome, v6, g6]
          have s1 : oSl (oVar 7) (pNone) (pSome (o2 (oVar 6) (oC (.int 1)) fAdd)) slA E = .val (.tmp (.ml (ds.take (at_ + 1)))) E := by simp only [oSl, v7, pNone, p1, g7, sl_ml, ct, ml_ok, if_true]
          have s2 : oSl (oVar 7) (pSome (oVar 6)) (pNone) slA E = .val (.tmp (.ml (ds.drop at_))) E := by simp only [oSl, v7, pNone, p2, g7, sl_ml, cf, ml_ok, if_true]
          rw [o2]
          simp only [oOp, aCons, s1, s2, aNil, gets, tmp_get ml_ok, ad, ml_ok, if_true]
        exact set_val (st _ v7 g7 v6 g6 ic)
      · rw [List.length_append, List.length_take, List.length_drop]; omega
      · rcases List.mem_append.mp he with h | h
        · exact up e (List.mem_of_mem_take h)
        · exact up e (List.mem_of_mem_drop h)
    · simp only [c1, decide_false] at t1
      rw [if_f t1]
      have setp : ∀ x : D, Thin (w + 1) (m + 2) x → (ds.set at_ x).length ≤ w + 1 ∧ ∀ e ∈ ds.set at_ x, Thin (w + 1) (m + 2) e := fun x hx => ⟨by rw [List.length_set]; omega, fun e he => by
        rcases List.mem_or_eq_of_mem_set he with h | h
        · exact up e h
        · rw [h]; exact hx⟩
      by_cases c2 : r = 2
      · simp only [c2, decide_true] at t2
        have f2 := frz_own (i := 2) (env := [p, .dat d, .ml othersD, a3, a4, li r, li (at_ : Int), .ml ds]) (ds := othersD) rfl
        obtain ⟨y, p1, e1, hy, d1⟩ := call_pick' (i := 0) rfl rfl hp f2 (by simp [othersD]) (by simp [othersD])
        have pv := put_val (j := 7) (i := 6) (at_ := at_) (ds := ds) (frz_dat e1) rfl rfl hl
        obtain ⟨q1, q2⟩ := setp y ((others_thin y hy).up (by omega) (by omega))
        refine ⟨p1, .dat (.lst othersD), ds.set at_ y, ?_, d1, q1, q2⟩
        rw [c2] at pv ⊢
        rw [if_t t2]
        exact pv
      · simp only [c2, decide_false] at t2
        rw [if_f t2]
        have ix : oFrz (o2 (oVar 1) (oVar 6) fIxA) [p, .dat d, .ml othersD, a3, a4, li r, li (at_ : Int), .ml ds] = .val (.tmp (.dat ds[at_])) [p, .dat d, .ml othersD, a3, a4, li r, li (at_ : Int), .ml ds] := by
          apply frz_tmp
          have fx : fIxA [.dat d, li (at_ : Int)] = some (.dat ds[at_]) := by
            rcases hd with rfl | rfl
            · exact ix_tup (List.getElem?_eq_getElem hl)
            · exact ix_lst (List.getElem?_eq_getElem hl)
          have v0 := var_of (i := 1) (env := [p, .dat d, .ml othersD, a3, a4, li r, li (at_ : Int), .ml ds]) (lv := .dat d) rfl rfl
          have v1 := var_of (i := 6) (env := [p, .dat d, .ml othersD, a3, a4, li r, li (at_ : Int), .ml ds]) (lv := li (at_ : Int)) rfl rfl
          have g0 := var_get (i := 1) (env := [p, .dat d, .ml othersD, a3, a4, li r, li (at_ : Int), .ml ds]) (lv := .dat d) rfl rfl
          have g1 := var_get (i := 6) (env := [p, .dat d, .ml othersD, a3, a4, li r, li (at_ : Int), .ml ds]) (lv := li (at_ : Int)) rfl rfl
          generalize [p, LV.dat d, .ml othersD, a3, a4, li r, li (at_ : Int), .ml ds] = E at v0 v1 g0 g1 ⊢
          simp only [o2, oOp, aCons, v0, v1, aNil, gets, g0, g1, fx, dat_ok, if_true]
        obtain ⟨lv, y, p1, hg, k1, k2, d1, ty⟩ := ih p ds[at_] hp (ht _ (List.getElem_mem hl))
        have cb := call_bent (env := [p, .dat d, .ml othersD, a3, a4, li r, li (at_ : Int), .ml ds]) rfl rfl hp d1 ix hg k1 k2
        have pv := put_val (j := 7) (i := 6) (at_ := at_) (ds := ds) cb rfl rfl hl
        obtain ⟨q1, q2⟩ := setp y ty
        exact ⟨p1, .ml othersD, ds.set at_ y, pv, d1, q1, q2⟩
end Lw
set_option maxRecDepth 100000
set_option maxHeartbeats 4000000
namespace Lw
open PySem PL
theorem and_f {t1 t2 : TM} {e e1 : LEnv} (h : t1 e = .val false e1) : tmAnd t1 t2 e = .val false e1 := by simp only [tmAnd, h]
theorem and_t {t1 t2 : TM} {e e1 : LEnv} (h : t1 e = .val true e1) : tmAnd t1 t2 e = t2 e1 := by simp only [tmAnd, h]
theorem not_v {t1 : TM} {b : Bool} {e e1 : LEnv} (h : t1 e = .val b e1) : tmNot t1 e = .val (!b) e1 := by simp only [tmNot, h]
theorem tDict {w n : Nat} {env : LEnv} {d : D} (t : TM) (h : env[1]? = some (.dat d)) (hf : Thin w n d) :
    (tmAnd (tTru (oOp (aCons (oVar 1) (aCons (oC (.cst (.ty "dict"))) (aNil))) fIsiA)) (tmAnd (tOf (o2 (oVar 1) (oNewK) fNeA)) t)) env = .val false env := by
  have t1 := tru_val (c := .cst (.ty "dict")) (f := fIsiA) h rfl (isi_dic hf.fine)
  cases d with
  | dic kvs =>
    have e : kvs = [] := by
      cases n with
      | zero => exact hf.elim
      | succ n => exact hf
    subst e
    rw [and_t t1]
    have k0 : oNewK env = .val (.tmp (.md [])) env := rfl
    have ne : fNeA [.dat (.dic []), .md []] = some (.dat (.bl false)) := by
      simp [fNeA, fOr, f2, gEqS, fNeD, gEqD, LV.py, D.py, gDe, LV.dicK]
    have q : tOf (o2 (oVar 1) oNewK fNeA) env = .val false env := by
      have v := var_of h rfl
      have g := var_get h rfl
      have md : (LV.md []).ok = true := rfl
      simp only [tOf, o2, oOp, aCons, v, k0, aNil, gets, g, tmp_get md, ne, dat_ok, if_true, tmp_get dat_ok]
    exact and_f q
  | _ => exact and_f t1
theorem t_of_below {i : Nat} {env : LEnv} {p : LV} {n : Int} {f : List LV → Option LV} {b : Int → Bool} (h : env[i]? = some p) (d : Drawn p) (hn : 0 < n ∧ n < 1073741824) (hf : ∀ r, f [li r, li 0] = some (.dat (.bl (b r)))) :
    ∃ c p', tOf (o2 (oCall g__law_below (aCons (oVar i) (aCons (oC (.int n)) aNil))) (oC (.int 0)) f) env = .val c (env.set i p') ∧ Drawn p' := by
  obtain ⟨r, p', e, _, _, d'⟩ := call_below (m := oC (.int n)) h d rfl hn
  refine ⟨b r, p', ?_, d'⟩
  simp only [tOf, o2, oOp, aCons, e, oC, aNil, gets, tmp_get dat_ok, hf, dat_ok, if_true]
theorem gt_ok (r s : Int) : fGtI [li r, li s] = some (.dat (.bl (decide (s < r)))) := by simp [fGtI, f2, gI, cT]
abbrev tySeq : OM := oOp (aCons (oFrz (oC (.cst (.ty "tuple")))) (aCons (oFrz (oC (.cst (.ty "list")))) (aNil))) fTup
theorem tySeq_val (e : LEnv) : tySeq e = .val (.tmp (.dat (.tup [.cst (.ty "tuple"), .cst (.ty "list")]))) e := by
  have f : fTup [.dat (.cst (.ty "tuple")), .dat (.cst (.ty "list"))] = some (.dat (.tup [.cst (.ty "tuple"), .cst (.ty "list")])) := by simp [fTup, data, LV.datum, sizeLine_eq]
  have c : ∀ x : D, oFrz (oC x) e = .val (.tmp (.dat x)) e := fun x => frz_tmp rfl
  rw [tySeq]
  rw [oOp]
  simp only [aCons, c, aNil, gets, tmp_get dat_ok, f, dat_ok, if_true]
def seqOf : D → Option (List D)
  | .tup ds => some ds
  | .lst ds => some ds
  | _ => none
abbrev tSeq (t : TM) : TM := tmAnd (tTru (oOp (aCons (oVar 1) (aCons tySeq (aNil))) fIsiA)) (tmAnd (tOf (o2 (oOp (aCons (oVar 1) (aNil)) fLenA) (oC (.int 0)) fGtI)) t)
theorem tSeq_isi {n : Nat} {env : LEnv} {d : D} (h : env[1]? = some (.dat d)) (hf : Fine n d) : tTru (oOp (aCons (oVar 1) (aCons tySeq (aNil))) fIsiA) env = .val (isTupD d || isLstD d) env := by
  have v := var_of h rfl
  have g := var_get h rfl
  have ts := tySeq_val env
  have i := isi_seq hf
  generalize tySeq = T at ts ⊢
  simp only [tTru, oOp, aCons, v, ts, aNil, gets, g, tmp_get dat_ok, i, dat_ok, if_true, LV.truth]
theorem len_any {i : Nat} {env : LEnv} {d : D} {ds : List D} (h : env[i]? = some (.dat d)) (hs : seqOf d = some ds) : oOp (aCons (oVar i) aNil) fLenA env = .val (.tmp (li (ds.length : Int))) env := by
  have v := var_of h rfl
  have g := var_get h rfl
  have l : fLenA [.dat d] = some (li (ds.length : Int)) := by
    cases d <;> simp [seqOf] at hs <;> subst hs
    · exact len_tup
    · exact len_lst
  simp only [oOp, aCons, v, aNil, gets, g, l, dat_ok, if_true]
theorem tSeq_no {w n : Nat} {env : LEnv} {d : D} (t : TM) (h : env[1]? = some (.dat d)) (hf : Thin w n d) (hs : ∀ ds, seqOf d = some ds → ds = []) : tSeq t env = .val false env := by
  have i := tSeq_isi h hf.fine
  cases e : seqOf d with
  | none =>
    have : (isTupD d || isLstD d) = false := by cases d <;> first | rfl | (simp [seqOf] at e)
    rw [this] at i
    exact and_f i
  | some ds =>
    have q := hs ds e
    subst q
    have : (isTupD d || isLstD d) = true := by cases d <;> first | rfl | (simp [seqOf] at e)
    rw [this] at i
    have l := of_val (op_val (len_any h e) (rfl : oC (.int 0) env = .val (.tmp (li 0)) env) rfl rfl (gt_ok _ _))
    exact (and_t i).trans (and_f l)
theorem tSeq_yes {w n : Nat} {env : LEnv} {d x : D} {ds : List D} (t : TM) (h : env[1]? = some (.dat d)) (hf : Thin w n d) (e : seqOf d = some (x :: ds)) : tSeq t env = t env := by
  have i := tSeq_isi h hf.fine
  have : (isTupD d || isLstD d) = true := by cases d <;> first | rfl | (simp [seqOf] at e)
  rw [this] at i
  have l := of_val (op_val (len_any h e) (rfl : oC (.int 0) env = .val (.tmp (li 0)) env) rfl rfl (gt_ok _ _))
  have pos : (0 : Int) < ((x :: ds).length : Int) := by simp only [List.length_cons]; omega
  simp only [pos, decide_true] at l
  exact (and_t i).trans (and_t l)
end Lw
set_option maxRecDepth 100000
set_option maxHeartbeats 4000000
namespace Lw
open PySem PL
theorem list_val {i : Nat} {env : LEnv} {d : D} {ds : List D} (h : env[i]? = some (.dat d)) (hs : seqOf d = some ds) : oOp (aCons (oVar i) aNil) fListA env = .val (.tmp (.ml ds)) env := by
  have v := var_of h rfl
  have g := var_get h rfl
  have l : fListA [.dat d] = some (.ml ds) := by
    cases d <;> simp [seqOf] at hs <;> subst hs <;> simp [fListA, fOr, fList, f1, gList]
  simp only [oOp, aCons, v, aNil, gets, g, l, ml_ok, if_true]
abbrev retB : SM := sRet (oIf (tmOr (tTru (oOp (aCons (oVar 1) (aCons (oC (.cst (.ty "list"))) (aNil))) fIsiA)) (tOf (o2 (oCall g__law_below (aCons (oVar 0) (aCons (oC (.int 30)) (aNil)))) (oC (.int 0)) fEqA))) (oMove (oVar 7)) (oOp (aCons (oVar 7) (aNil)) fTuple))
theorem move7 {env : LEnv} {ds : List D} (h : env[7]? = some (.ml ds)) : oMove (oVar 7) env = .val (.tmp (.ml ds)) (env.set 7 .un) := by
  have v := var_of h rfl
  simp only [oMove, v, h, ml_ok, if_true]
theorem retB_val {n : Nat} {p : LV} {d : D} {ds : List D} {a2 a3 a4 a5 a6 : LV} (hp : Drawn p) (hf : Fine n d) :
    ∃ lv d' p' e2, retB [p, .dat d, a2, a3, a4, a5, a6, .ml ds] = .rt lv e2 ∧ back [0] [p, .dat d] e2 = [p', .dat d] ∧ lv.ok = true ∧ lv.frz = some d' ∧ Drawn p' ∧ seqOf d' = some ds ∧ (isTupD d' || isLstD d') = true := by
  have t1 := tru_val (c := .cst (.ty "list")) (f := fIsiA) (env := [p, .dat d, a2, a3, a4, a5, a6, .ml ds]) (i := 1) rfl rfl (isi_lst hf)
  cases c : isLstD d with
  | true =>
    rw [c] at t1
    have q : oIf (tmOr (tTru (oOp (aCons (oVar 1) (aCons (oC (.cst (.ty "list"))) (aNil))) fIsiA)) (tOf (o2 (oCall g__law_below (aCons (oVar 0) (aCons (oC (.int 30)) (aNil)))) (oC (.int 0)) fEqA))) (oMove (oVar 7)) (oOp (aCons (oVar 7) (aNil)) fTuple) [p, .dat d, a2, a3, a4, a5, a6, .ml ds] = .val (.tmp (.ml ds)) [p, .dat d, a2, a3, a4, a5, a6, .un] := by
      simp only [oIf, tmOr, t1]
      exact move7 rfl
    exact ⟨.ml ds, .lst ds, p, _, ret_val q, rfl, rfl, rfl, hp, rfl, rfl⟩
  | false =>
    rw [c] at t1
    obtain ⟨b, p', t2, d'⟩ := t_of_below (i := 0) (n := 30) (f := fEqA) (b := fun r => decide (r = 0)) (env := [p, .dat d, a2, a3, a4, a5, a6, .ml ds]) rfl hp (by decide) (fun r => eq_int r 0)
    cases b with
    | true =>
      have q : oIf (tmOr (tTru (oOp (aCons (oVar 1) (aCons (oC (.cst (.ty "list"))) (aNil))) fIsiA)) (tOf (o2 (oCall g__law_below (aCons (oVar 0) (aCons (oC (.int 30)) (aNil)))) (oC (.int 0)) fEqA))) (oMove (oVar 7)) (oOp (aCons (oVar 7) (aNil)) fTuple) [p, .dat d, a2, a3, a4, a5, a6, .ml ds] = .val (.tmp (.ml ds)) [p', .dat d, a2, a3, a4, a5, a6, .un] := by
        simp only [oIf, tmOr, t1, t2]
        exact move7 rfl
      exact ⟨.ml ds, .lst ds, p', _, ret_val q, rfl, rfl, rfl, d', rfl, rfl⟩
    | false =>
      have q : oIf (tmOr (tTru (oOp (aCons (oVar 1) (aCons (oC (.cst (.ty "list"))) (aNil))) fIsiA)) (tOf (o2 (oCall g__law_below (aCons (oVar 0) (aCons (oC (.int 30)) (aNil)))) (oC (.int 0)) fEqA))) (oMove (oVar 7)) (oOp (aCons (oVar 7) (aNil)) fTuple) [p, .dat d, a2, a3, a4, a5, a6, .ml ds] = .val (.tmp (.dat (.tup ds))) [p', .dat d, a2, a3, a4, a5, a6, .ml ds] := by
        have v7 := var_of (i := 7) (env := [p', .dat d, a2, a3, a4, a5, a6, .ml ds]) (lv := .ml ds) rfl rfl
        have g7 := var_get (i := 7) (env := [p', .dat d, a2, a3, a4, a5, a6, .ml ds]) (lv := .ml ds) rfl rfl
        have f : oOp (aCons (oVar 7) (aNil)) fTuple [p', .dat d, a2, a3, a4, a5, a6, .ml ds] = .val (.tmp (.dat (.tup ds))) [p', .dat d, a2, a3, a4, a5, a6, .ml ds] := by
          simp only [oOp, aCons, v7, aNil, gets, g7, tuple_ml, dat_ok, if_true]
        simp only [oIf, tmOr, t1, t2]
        exact f
      exact ⟨.dat (.tup ds), .tup ds, p', _, ret_val q, rfl, rfl, rfl, d', rfl, rfl⟩
theorem thin_seq {w m : Nat} {d : D} {ds : List D} (h : seqOf d = some ds) (hl : ds.length ≤ w) (ht : ∀ e ∈ ds, Thin w m e) : Thin w (m + 1) d := by
  cases d <;> simp [seqOf] at h <;> subst h <;> exact ⟨hl, ht⟩
theorem thin_kids {w m : Nat} {d x : D} {ds : List D} (h : seqOf d = some (x :: ds)) (ht : Thin w m d) : ∃ m', m = m' + 1 ∧ (x :: ds).length ≤ w ∧ ∀ e ∈ x :: ds, Thin w m' e := by
  cases m with
  | zero => cases d <;> first | exact ht.elim | (simp [seqOf] at h)
  | succ m => cases d <;> simp [seqOf] at h <;> subst h <;> exact ⟨m, rfl, ht.1, ht.2⟩
end Lw
set_option maxRecDepth 100000
set_option maxHeartbeats 4000000
namespace Lw
open PySem PL
abbrev envN (p : LV) (d : D) : LEnv := [p, .dat d, .ml othersD, .un, .un, .un, .un, .un]
abbrev seqB (g : FM) : SM := sSeq (sPar3 6 5 7 (aCons (oCall g__law_below (aCons (oVar 0) (aCons (oFrz (oOp (aCons (oVar 1) (aNil)) fLenA)) (aNil)))) (aCons (oCall g__law_below (aCons (oVar 0) (aCons (oC (.int 7)) (aNil)))) (aCons (oOp (aCons (oVar 1) (aNil)) fListA) (aNil))))) (sSeq (midB g) retB)
abbrev OutOk (w m : Nat) (d : D) (r : SR) : Prop := ∃ lv d' p' e2, r = .rt lv e2 ∧ back [0] [.un, .dat d] e2 = [p', .dat d] ∧ lv.ok = true ∧ lv.frz = some d' ∧ Drawn p' ∧ Thin (w + 1) (m + 2) d'
theorem seqB_val {g : FM} {w m : Nat} (ih : BentOk g w m) (hw : 2 ≤ w) (hw2 : w < 1000) (p : LV) (hp : Drawn p) (d x : D) (ds : List D) (hd : seqOf d = some (x :: ds)) (hl : (x :: ds).length ≤ w) (ht : ∀ e ∈ x :: ds, Thin w m e) : OutOk w (m + 1) d (seqB g (envN p d)) := by
  have pos : 0 < (x :: ds).length := by simp
  have fin : Fine (m + 1) d := (thin_seq hd hl ht).fine
  generalize x :: ds = L at hd hl ht pos
  obtain ⟨r, p1, e1, r0, r1, d1⟩ := call_below (env := envN p d) (i := 0) (n := L.length) rfl hp (frz_tmp (len_any (i := 1) rfl hd)) (by omega)
  obtain ⟨at_, rfl⟩ : ∃ k : Nat, r = k := ⟨_, (Int.toNat_of_nonneg r0).symm⟩
  obtain ⟨s, p2, e2, _, _, d2⟩ := call_below (env := envN p1 d) (i := 0) (m := oC (.int 7)) (n := 7) rfl d1 rfl (by decide)
  have e3 := list_val (i := 1) (env := envN p2 d) rfl hd
  have s1 : sPar3 6 5 7 (aCons (oCall g__law_below (aCons (oVar 0) (aCons (oFrz (oOp (aCons (oVar 1) (aNil)) fLenA)) (aNil)))) (aCons (oCall g__law_below (aCons (oVar 0) (aCons (oC (.int 7)) (aNil)))) (aCons (oOp (aCons (oVar 1) (aNil)) fListA) (aNil)))) (envN p d) = .nx [p2, .dat d, .ml othersD, .un, .un, li s, li (at_ : Int), .ml L] := par3_val e1 e2 e3
  obtain ⟨p3, o, L', s2, d3, hl', ht'⟩ := mid_val ih hw hw2 p2 d2 d L (by cases d <;> simp [seqOf] at hd <;> subst hd <;> simp) .un .un s at_ (by omega) hl ht
  obtain ⟨lv, d', p4, e2, s3, hb, k1, k2, d4, hs, _⟩ := retB_val (p := p3) (d := d) (ds := L') (a2 := o) (a3 := .un) (a4 := .un) (a5 := li s) (a6 := li (at_ : Int)) d3 fin
  refine ⟨lv, d', p4, e2, ?_, ?_, k1, k2, d4, thin_seq hs hl' ht'⟩
  · rw [seqB, seq_nx s1, seq_nx s2]; exact s3
  · exact hb
abbrev intsO : OM := oFrz (oOp (aCons (oFrz (o2 (oC (.int 0)) (oVar 1) fSubI)) (aCons (oFrz (o2 (oVar 1) (oC (.int 1)) fAdd)) (aCons (oFrz (o2 (oVar 1) (oC (.int 1)) fSubI)) (aCons (oFrz (o2 (oC (.int 10)) (oC (.int 6)) fPowI)) (aCons (oFrz (o2 (o2 (oC (.int 10)) (oC (.int 6)) fPowI) (oC (.int 1)) fAdd)) (aCons (oFrz (o2 (oVar 1) (o2 (oC (.int 10)) (oC (.int 6)) fPowI) fMulA)) (aNil))))))) fLst)
theorem ints_val {i : Int} {env : LEnv} (h : env[1]? = some (li i)) : ∃ l : List Int, intsO env = .val (.tmp (.dat (.lst (l.map .int)))) env ∧ l ≠ [] ∧ l.length < 1000 := by
  have sb : ∀ a b : Int, fSubI [li a, li b] = some (li (a - b)) := fun a b => by simp [fSubI, f2, gI, cT]
  have pw : fPowI [li 10, li 6] = some (li (10 ^ 6)) := by simp [fPowI, f2, gI]
  have ml : fMulA [li i, li (10 ^ 6)] = some (li (i * 10 ^ 6)) := by
    simp [fMulA, fOr, fMul, fMulI, f2, gI, cMulB]
  have v := var_of h rfl
  have g := var_get h rfl
  have c : ∀ x : Int, oC (.int x) env = .val (.tmp (li x)) env := fun _ => rfl
  have o1 : oFrz (o2 (oC (.int 0)) (oVar 1) fSubI) env = .val (.tmp (li (0 - i))) env := frz_tmp (op_val2 (c 0) h rfl rfl (sb 0 i))
  have o2' : oFrz (o2 (oVar 1) (oC (.int 1)) fAdd) env = .val (.tmp (li (i + 1))) env := frz_tmp (op_vc h rfl add_ok)
  have o3 : oFrz (o2 (oVar 1) (oC (.int 1)) fSubI) env = .val (.tmp (li (i - 1))) env := frz_tmp (op_vc h rfl (sb i 1))
  have pv : o2 (oC (.int 10)) (oC (.int 6)) fPowI env = .val (.tmp (li (10 ^ 6))) env := op_val (c 10) (c 6) rfl rfl pw
  have o4 := frz_tmp pv
  have o5 : oFrz (o2 (o2 (oC (.int 10)) (oC (.int 6)) fPowI) (oC (.int 1)) fAdd) env = .val (.tmp (li (10 ^ 6 + 1))) env := frz_tmp (op_val pv (c 1) rfl rfl add_ok)
  have o6 : oFrz (o2 (oVar 1) (o2 (oC (.int 10)) (oC (.int 6)) fPowI) fMulA) env = .val (.tmp (li (i * 10 ^ 6))) env := by
    apply frz_tmp
    rw [o2]
    simp only [oOp, aCons, v, pv, aNil, gets, g, tmp_get dat_ok, ml, dat_ok, if_true]
  have f : fLst [li (0 - i), li (i + 1), li (i - 1), li (10 ^ 6), li (10 ^ 6 + 1), li (i * 10 ^ 6)] = some (.ml ([0 - i, i + 1, i - 1, 10 ^ 6, 10 ^ 6 + 1, i * 10 ^ 6].map .int)) := by
    simp [fLst, data, LV.datum, sizeLine_eq]
  refine ⟨[0 - i, i + 1, i - 1, 10 ^ 6, 10 ^ 6 + 1, i * 10 ^ 6], ?_, by simp, by simp⟩
  apply frz_ml
  rw [oOp]
  generalize ([0 - i, i + 1, i - 1, 10 ^ 6, 10 ^ 6 + 1, i * 10 ^ 6].map D.int) = Z at f ⊢
  simp only [aCons, o1, o2', o3, o4, o5, o6, aNil, gets, tmp_get dat_ok, f, ml_ok, if_true]
end Lw
set_option maxRecDepth 100000
set_option maxHeartbeats 4000000
namespace Lw
open PySem PL
abbrev fallB : SM := (sSeq (sIf (tmAnd (tTru (oOp (aCons (oVar 1) (aCons (oC (.cst (.ty "int"))) (aNil))) fIsiA)) (tmAnd (tmNot (tTru (oOp (aCons (oVar 1) (aCons (oC (.cst (.ty "bool"))) (aNil))) fIsiA))) (tOf (o2 (oCall g__law_below (aCons (oVar 0) (aCons (oC (.int 2)) (aNil)))) (oC (.int 0)) fEqA)))) (sRet (oCall g__law_pick (aCons (oVar 0) (aCons intsO (aNil))))) (sNil)) (sRet (oCall g__law_pick (aCons (oVar 0) (aCons (oFrz (oVar 2)) (aNil))))))
theorem pick_others {w m : Nat} (hw : 2 ≤ w) (p : LV) (hp : Drawn p) (d : D) : OutOk w m d (sRet (oCall g__law_pick (aCons (oVar 0) (aCons (oFrz (oVar 2)) (aNil)))) (envN p d)) := by
  have f2 := frz_own (i := 2) (env := envN p d) (ds := othersD) rfl
  obtain ⟨y, p1, e1, hy, d1⟩ := call_pick' (i := 0) rfl rfl hp f2 (by simp [othersD]) (by simp [othersD])
  exact ⟨.dat y, y, p1, _, ret_val e1, rfl, rfl, rfl, d1, (others_thin y hy).up (by omega) (by omega)⟩
theorem fall_val {w m : Nat} (hw : 2 ≤ w) (p : LV) (hp : Drawn p) (d : D) (hf : Thin w m d) : OutOk w m d (fallB (envN p d)) := by
  have t1 := tru_val (c := .cst (.ty "int")) (f := fIsiA) (env := envN p d) (i := 1) rfl rfl (isi_int hf.fine)
  have t2 := tru_val (c := .cst (.ty "bool")) (f := fIsiA) (env := envN p d) (i := 1) rfl rfl (isi_bool hf.fine)
  cases c : isIntD d with
  | false =>
    rw [c] at t1
    have := pick_others (m := m) hw p hp d
    unfold fallB
    rw [seq_nx (if_n (and_f t1))]
    exact this
  | true =>
    rw [c] at t1
    cases c2 : isBlD d with
    | true =>
      rw [c2] at t2
      have := pick_others (m := m) hw p hp d
      unfold fallB
      rw [seq_nx (if_n ((and_t t1).trans (and_f (not_v t2))))]
      exact this
    | false =>
      rw [c2] at t2
      obtain ⟨b, p1, t3, d1⟩ := t_of_below (i := 0) (n := 2) (f := fEqA) (b := fun r => decide (r = 0)) (env := envN p d) rfl hp (by decide) (fun r => eq_int r 0)
      have t4 := (and_t t1).trans ((and_t (not_v t2)).trans t3)
      cases b with
      | false =>
        have := pick_others (m := m) hw p1 d1 d
        unfold fallB
        rw [seq_nx (if_n t4)]
        exact this
      | true =>
        obtain ⟨i, rfl⟩ : ∃ i, d = .int i := by
          cases d with
          | int i => exact ⟨i, rfl⟩
          | bl b => cases c2
          | _ => cases c
        obtain ⟨l, e1, n1, n2⟩ := ints_val (env := envN p1 (.int i)) (i := i) rfl
        obtain ⟨y, p2, e2, hy, d2⟩ := call_pick' (i := 0) (env := envN p1 (.int i)) rfl rfl d1 e1 (by simpa using n1) (by simpa using n2)
        obtain ⟨j, _, rfl⟩ := List.mem_map.mp hy
        have r : fallB (envN p (.int i)) = .rt (li j) ((envN p1 (.int i)).set 0 p2) := seq_rt ((if_t t4).trans (ret_val e2))
        exact ⟨li j, .int j, p2, _, r, rfl, rfl, rfl, d2, by cases m <;> trivial⟩
theorem bent_spec {w : Nat} (hw : 2 ≤ w) (hw2 : w < 1000) : ∀ (n m : Nat), m < n → BentOk (g__law_bent n) w m := by
  intro n
  induction n with
  | zero => exact fun m h => absurd h (by omega)
  | succ n ih =>
    intro m hm p d hp ht
    have goal : OutOk w m d (m__law_bent (g__law_bent n) [p, .dat d, .un, .un, .un, .un, .un, .un]) := by
      unfold m__law_bent
      rw [seq_nx (others_val _)]
      show OutOk w m d (sSeq _ _ (envN p d))
      rw [seq_nx (if_n (tDict _ rfl ht))]
      cases e : seqOf d with
      | none =>
        rw [seq_nx (if_n (tSeq_no (env := envN p d) _ rfl ht (by rw [e]; simp)))]
        exact fall_val hw p hp d ht
      | some L =>
        cases L with
        | nil =>
          rw [seq_nx (if_n (tSeq_no (env := envN p d) _ rfl ht (by rw [e]; intro ds h; exact (Option.some.inj h).symm)))]
          exact fall_val hw p hp d ht
        | cons x ds =>
          obtain ⟨m', rfl, hl, hk⟩ := thin_kids e ht
          obtain ⟨b, p1, t1, d1⟩ := t_of_below (i := 0) (n := 5) (f := fGtI) (b := fun r => decide (0 < r)) (env := envN p d) rfl hp (by decide) (fun r => gt_ok r 0)
          have t2 := (tSeq_yes (env := envN p d) _ rfl ht e).trans t1
          cases b with
          | false =>
            rw [seq_nx (if_n t2)]
            exact fall_val hw p1 d1 d ht
          | true =>
            obtain ⟨lv, d', p', e2, h1, h2, h3, h4, h5, h6⟩ := seqB_val (ih m' (by omega)) hw hw2 p1 d1 d x ds e hl hk
            exact ⟨lv, d', p', e2, seq_rt ((if_t t2).trans h1), h2, h3, h4, h5, h6⟩
    obtain ⟨lv, d', p', e2, h1, h2, h3, h4, h5, h6⟩ := goal
    refine ⟨lv, d', p', ?_, h3, h4, h5, h6⟩
    have okA : okArgs [0] [p, LV.dat d] = true := by simp [okArgs, dat_own]
    exact def_rtP okA rfl h1 h2
end Lw
set_option maxRecDepth 100000
set_option maxHeartbeats 4000000
namespace Lw
open PySem PL
/-- the part of a tree at a path, or none -/
def partT : D → List D → Option D
  | d, [] => some d
  | .tup ds, .int i :: q => if 0 ≤ i ∧ i < (ds.length : Int) - 1 then match ds[i.toNat + 1]? with
      | some x => partT x q
      | none => none
    else none
  | _, _ => none
theorem step_law {d x : D} {p : D} {i : Nat} {ds : List D} (hd : d = .tup ds) (h : ds[i + 1]? = some x) : sSet 0 (o2 (oVar 0) (o2 (oVar 2) (oC (.int 1)) fAdd) fIxA) [.dat d, p', li (i : Int)] = .nx [.dat x, p', li (i : Int)] := by
  subst hd
  have v0 := var_of (i := 0) (env := [.dat (.tup ds), p', li (i : Int)]) (lv := .dat (.tup ds)) rfl rfl
  have g0 := var_get (i := 0) (env := [.dat (.tup ds), p', li (i : Int)]) (lv := .dat (.tup ds)) rfl rfl
  have ic := inc_val (i := 2) (env := [.dat (.tup ds), p', li (i : Int)]) (n := i) rfl
  have ix := ix_tup h
  have o : o2 (oVar 0) (o2 (oVar 2) (oC (.int 1)) fAdd) fIxA [.dat (.tup ds), p', li (i : Int)] = .val (.tmp (.dat x)) [.dat (.tup ds), p', li (i : Int)] := by
    rw [o2]
    simp only [oOp, aCons, v0, ic, aNil, gets, g0, tmp_get dat_ok, ix, dat_ok, if_true]
  exact set_val o
theorem law_at_loop : ∀ (q : List D) (d r : D) (pth a2 : LV), partT d q = some r → ∃ a2', forD (gmName 2) (sSet 0 (o2 (oVar 0) (o2 (oVar 2) (oC (.int 1)) fAdd) fIxA)) q [.dat d, pth, a2] = .nx [.dat r, pth, a2']
  | [], d, r, pth, a2, h => ⟨a2, by cases h; rfl⟩
  | y :: q, d, r, pth, a2, h => by
    cases d with
    | tup ds => cases y with
      | int i =>
        unfold partT at h
        split at h
        · rename_i hi
          split at h
          · rename_i x hx
            obtain ⟨k, rfl⟩ : ∃ k : Nat, i = k := ⟨_, (Int.toNat_of_nonneg hi.1).symm⟩
            have hx' : ds[k + 1]? = some x := by simpa using hx
            have st := step_law (p := .non) (p' := pth) (d := .tup ds) rfl hx'
            obtain ⟨a2', e⟩ := law_at_loop q x r pth (li (k : Int)) h
            refine ⟨a2', ?_⟩
            have g : (gmName 2) (.int (k : Int)) [.dat (.tup ds), pth, a2] = some [.dat (.tup ds), pth, li (k : Int)] := rfl
            unfold forD
            simp only [g, st]
            exact e
          · cases h
        · cases h
      | _ => simp [partT] at h
    | _ => cases y <;> simp [partT] at h
end Lw
set_option maxRecDepth 100000
set_option maxHeartbeats 4000000
namespace Lw
open PySem PL
theorem law_at_spec {d r : D} {q : List D} (h : partT d q = some r) : g__law_at [.dat d, .dat (.tup q)] = .ret (.dat r) [.dat d, .dat (.tup q)] := by
  have hm : m__law_at = sSeq (sFor (iAnyK (oVar 1)) (gmName 2) (sSet 0 (o2 (oVar 0) (o2 (oVar 2) (oC (.int 1)) fAdd) fIxA))) (sRet (oFrz (oVar 0))) := rfl
  obtain ⟨a2, lp⟩ := law_at_loop q d r (.dat (.tup q)) .un h
  have w := walk_tup (m := oVar 1) (e1 := [.dat d, .dat (.tup q), .un]) (frz_var rfl) rfl
  have fz := frz_var (i := 0) (env := [.dat r, .dat (.tup q), a2]) (d := r) rfl
  refine def_rt rfl rfl (e2 := [.dat r, .dat (.tup q), a2]) ?_
  rw [hm]
  show sSeq _ _ [.dat d, .dat (.tup q), .un] = _
  rw [seq_nx ((for_val w).trans lp)]
  exact ret_val fz
def intD : D → Bool
  | .int _ => true
  | _ => false
theorem is_integer_spec {n : Nat} {d : D} (hf : Fine n d) : g_is_integer [.dat d] = .ret (.dat (.bl (intD d))) [.dat d] := by
  have hm : m_is_integer = sRet (oAnd (oOp (aCons (oVar 0) (aCons (oC (.cst (.ty "int"))) (aNil))) fIsiA) (oNot (oOp (aCons (oVar 0) (aCons (oC (.cst (.ty "bool"))) (aNil))) fIsiA))) := rfl
  have v := var_of (i := 0) (env := [.dat d]) (lv := .dat d) rfl rfl
  have g := var_get (i := 0) (env := [.dat d]) (lv := .dat d) rfl rfl
  have a : oOp (aCons (oVar 0) (aCons (oC (.cst (.ty "int"))) (aNil))) fIsiA [.dat d] = .val (.tmp (.dat (.bl (isIntD d)))) [.dat d] := by
    simp only [oOp, aCons, v, oC, aNil, gets, g, tmp_get dat_ok, isi_int hf, dat_ok, if_true]
  have b : oOp (aCons (oVar 0) (aCons (oC (.cst (.ty "bool"))) (aNil))) fIsiA [.dat d] = .val (.tmp (.dat (.bl (isBlD d)))) [.dat d] := by
    simp only [oOp, aCons, v, oC, aNil, gets, g, tmp_get dat_ok, isi_bool hf, dat_ok, if_true]
  have ta := of_val a
  have tb := of_val b
  have e : oAnd (oOp (aCons (oVar 0) (aCons (oC (.cst (.ty "int"))) (aNil))) fIsiA) (oNot (oOp (aCons (oVar 0) (aCons (oC (.cst (.ty "bool"))) (aNil))) fIsiA)) [.dat d] = .val (.tmp (.dat (.bl (intD d)))) [.dat d] := by
    unfold oAnd
    rw [ta]
    cases d <;> first | rfl | (simp only [isIntD, oNot, b, tb]; rfl) | (unfold oNot; simp only [isIntD, tb]; rfl)
  refine def_rt rfl rfl (e2 := [.dat d]) ?_
  rw [hm]
  exact ret_val e
end Lw
set_option maxRecDepth 100000
set_option maxHeartbeats 4000000
namespace Lw
open PySem PL
theorem or_t {t1 t2 : TM} {e e1 : LEnv} (h : t1 e = .val true e1) : tmOr t1 t2 e = .val true e1 := by simp only [tmOr, h]
theorem or_f {t1 t2 : TM} {e e1 : LEnv} (h : t1 e = .val false e1) : tmOr t1 t2 e = t2 e1 := by simp only [tmOr, h]
theorem tru_of {m : OM} {b : Bool} {e : LEnv} (h : m e = .val (.tmp (.dat (.bl b))) e) : tTru m e = .val b e := by simp only [tTru, h, tmp_get dat_ok, LV.truth]
abbrev chainO : OM := oChain (oC (.int 0)) (oVar 2) (o2 (oOp (aCons (oVar 0) (aNil)) fLenA) (oC (.int 1)) fSubI) fLeI fLtI
abbrev testP : TM := tmOr (tmNot (tTru (oCall g_is_integer (aCons (oFrz (oVar 2)) (aNil))))) (tmNot (tOf chainO))
def stepOk (ds : List D) : D → Bool
  | .int i => decide (0 ≤ i) && decide (i < (ds.length : Int) - 1)
  | _ => false
theorem chain_val {env : LEnv} {i : Int} {ds : List D} (h2 : env[2]? = some (li i)) (h0 : env[0]? = some (.dat (.tup ds))) : chainO env = .val (.tmp (.dat (.bl (stepOk ds (.int i))))) env := by
  have v2 := var_of h2 rfl
  have g2 := var_get h2 rfl
  have sb : fSubI [li (ds.length : Int), li 1] = some (li ((ds.length : Int) - 1)) := by simp [fSubI, f2, gI, cT]
  have ln := op_val (len_tupv h0) (rfl : oC (.int 1) env = .val (.tmp (li 1)) env) rfl rfl sb
  have le : fLeI [li 0, li i] = some (.dat (.bl (decide (0 ≤ i)))) := by simp [fLeI, f2, gI, cT]
  have lt : fLtI [li i, li ((ds.length : Int) - 1)] = some (.dat (.bl (decide (i < (ds.length : Int) - 1)))) := lt_ok
  have ac : aCons (oC (.int 0)) (aCons (oVar 2) aNil) env = .val [.tmp (li 0), .var 2] env := by simp only [aCons, oC, v2, aNil]
  simp only [chainO, oChain, ac, tmp_get dat_ok, g2, le]
  by_cases c : 0 ≤ i
  · simp only [c, decide_true, ln, tmp_get dat_ok, g2, lt, stepOk, Bool.true_and]
  · simp only [c, decide_false, stepOk, Bool.false_and]
theorem testP_val {env : LEnv} {n : Nat} {y : D} {ds : List D} (hy : Fine n y) (h2 : env[2]? = some (.dat y)) (h0 : env[0]? = some (.dat (.tup ds))) : testP env = .val (!stepOk ds y) env := by
  have t1 := not_v (tru_of (call1 (frz_var h2) (is_integer_spec hy)))
  cases y with
  | int i => exact (or_f t1).trans (not_v (of_val (chain_val h2 h0)))
  | _ => exact or_t t1
end Lw
set_option maxRecDepth 100000
set_option maxHeartbeats 4000000
namespace Lw
open PySem PL
abbrev partB : SM := sSeq (sIf testP (sRaise "NoPath") (sNil)) (sSet 0 (o2 (oVar 0) (o2 (oVar 2) (oC (.int 1)) fAdd) fIxA))
theorem part_loop : ∀ (q : List D) (d : D) (m : Nat) (pth a2 : LV), Tree m d → (∀ y ∈ q, ∃ n, Fine n y) →
    ∃ e2 a2', forD (gmName 2) partB q [.dat d, pth, a2] = (match partT d q with | some r => .nx [.dat r, pth, a2'] | none => .exc ⟨"NoPath", []⟩ e2)
  | [], d, m, pth, a2, _, _ => ⟨[], a2, rfl⟩
  | y :: q, d, m, pth, a2, h, hy => by
    obtain ⟨m, t, xs, rfl, rfl, h1, h2, h3⟩ := h.tup
    obtain ⟨n, fy⟩ := hy y List.mem_cons_self
    have g : (gmName 2) y [.dat (.tup (.str (tagOf t) :: xs)), pth, a2] = some [.dat (.tup (.str (tagOf t) :: xs)), pth, .dat y] := rfl
    have tp := testP_val (env := [.dat (.tup (.str (tagOf t) :: xs)), pth, .dat y]) fy rfl rfl
    cases c : stepOk (.str (tagOf t) :: xs) y with
    | false =>
      rw [c] at tp
      have b : partB [.dat (.tup (.str (tagOf t) :: xs)), pth, .dat y] = .exc ⟨"NoPath", []⟩ [.dat (.tup (.str (tagOf t) :: xs)), pth, .dat y] := by
        have : sIf testP (sRaise "NoPath") sNil [.dat (.tup (.str (tagOf t) :: xs)), pth, .dat y] = .exc ⟨"NoPath", []⟩ [.dat (.tup (.str (tagOf t) :: xs)), pth, .dat y] := if_t tp
        simp only [partB, sSeq, this]
      have pn : partT (.tup (.str (tagOf t) :: xs)) (y :: q) = none := by
        cases y with
        | int i =>
          unfold partT
          rw [if_neg]
          intro hi
          have : stepOk (.str (tagOf t) :: xs) (.int i) = true := by simp only [stepOk, hi.1, hi.2, decide_true, Bool.and_self]
          rw [this] at c
          cases c
        | _ => rfl
      refine ⟨[.dat (.tup (.str (tagOf t) :: xs)), pth, .dat y], a2, ?_⟩
      rw [pn]
      unfold forD
      simp only [g, b]
    | true =>
      rw [c] at tp
      cases y with
      | int i =>
        simp only [stepOk, Bool.and_eq_true, decide_eq_true_eq] at c
        obtain ⟨k, rfl⟩ : ∃ k : Nat, i = k := ⟨_, (Int.toNat_of_nonneg c.1).symm⟩
        have kl : k < xs.length := by have := c.2; simp only [List.length_cons] at this; omega
        have hx : (D.str (tagOf t) :: xs)[k + 1]? = some xs[k] := by simp [List.getElem?_eq_getElem kl]
        have st := step_law (p := .non) (p' := pth) (d := .tup (.str (tagOf t) :: xs)) rfl hx
        obtain ⟨e2, a2', r⟩ := part_loop q xs[k] m pth (li (k : Int)) (h3 _ (List.getElem_mem kl)) fun z hz => hy z (List.mem_cons_of_mem _ hz)
        refine ⟨e2, a2', ?_⟩
        have b : partB [.dat (.tup (.str (tagOf t) :: xs)), pth, li (k : Int)] = .nx [.dat xs[k], pth, li (k : Int)] := by
          unfold partB
          rw [seq_nx (if_n tp)]
          exact st
        have pe : partT (.tup (.str (tagOf t) :: xs)) (.int (k : Int) :: q) = partT xs[k] q := by
          rw [partT, if_pos c]
          have : (D.str (tagOf t) :: xs)[(k : Int).toNat + 1]? = some xs[k] := by simpa using hx
          rw [this]
        rw [pe]
        unfold forD
        simp only [g, b]
        exact r
      | _ => simp [stepOk] at c
end Lw
set_option maxRecDepth 100000
set_option maxHeartbeats 4000000
namespace Lw
open PySem PL
theorem def_exc {N : Nat} {body : SM} {lvs : List LV} {x : Xc} {e0 e2 : LEnv} (ok : okArgs [] lvs = true) (he : lvs ++ List.replicate (N - lvs.length) LV.un = e0) (h : body e0 = .exc x e2) : defM N [] body lvs = .exc x lvs := by
  unfold defM
  rw [if_pos ok, he, h]
  simp only [back_nil]
theorem m_part : m_part_at = sSeq (sIf (tmNot (tTru (oOp (aCons (oVar 1) (aCons (oC (.cst (.ty "tuple"))) (aNil))) fIsiA))) (sRaise "NoPath") (sNil)) (sSeq (sFor (iAnyK (oVar 1)) (gmName 2) partB) (sRet (oFrz (oVar 0)))) := rfl
/-- what part_at answers -/
def partA (d : D) : D → Option D
  | .tup q => partT d q
  | _ => none
theorem part_at_spec {m n : Nat} {d y : D} (h : Tree m d) (hy : Fine n y) : g_part_at [.dat d, .dat y] = match partA d y with | some r => .ret (.dat r) [.dat d, .dat y] | none => .exc ⟨"NoPath", []⟩ [.dat d, .dat y] := by
  have t1 := not_v (tru_val (c := .cst (.ty "tuple")) (f := fIsiA) (env := [.dat d, .dat y, .un]) (i := 1) rfl rfl (isi_tup hy))
  cases c : isTupD y with
  | false =>
    rw [c] at t1
    have pn : partA d y = none := by cases y <;> first | rfl | (simp [isTupD] at c)
    rw [pn]
    refine def_exc rfl rfl (e2 := [.dat d, .dat y, .un]) ?_
    have b : sIf (tmNot (tTru (oOp (aCons (oVar 1) (aCons (oC (.cst (.ty "tuple"))) (aNil))) fIsiA))) (sRaise "NoPath") (sNil) [.dat d, .dat y, .un] = .exc ⟨"NoPath", []⟩ [.dat d, .dat y, .un] := if_t t1
    rw [m_part]
    show sSeq _ _ [.dat d, .dat y, .un] = _
    rw [sSeq, b]
  | true =>
    rw [c] at t1
    cases y with
    | tup q =>
      have hq : ∀ z ∈ q, ∃ n, Fine n z := fun z hz => by
        cases n with
        | zero => exact hy.elim
        | succ n => exact ⟨n, hy z hz⟩
      obtain ⟨e2, a2, lp⟩ := part_loop q d m (.dat (.tup q)) .un h hq
      have w := walk_tup (m := oVar 1) (e1 := [.dat d, .dat (.tup q), .un]) (frz_var rfl) rfl
      have fv := (for_val (g := gmName 2) (n := partB) w).trans lp
      have st : m_part_at [.dat d, .dat (.tup q), .un] = sSeq (sFor (iAnyK (oVar 1)) (gmName 2) partB) (sRet (oFrz (oVar 0))) [.dat d, .dat (.tup q), .un] := by
        rw [m_part, seq_nx (if_n t1)]
      show g_part_at _ = match partT d q with | some r => _ | none => _
      cases e : partT d q with
      | some r =>
        rw [e] at fv
        refine def_rt rfl rfl (e2 := [.dat r, .dat (.tup q), a2]) ?_
        show m_part_at [.dat d, .dat (.tup q), .un] = _
        rw [st, seq_nx fv]
        exact ret_val (frz_var (i := 0) (env := [.dat r, .dat (.tup q), a2]) rfl)
      | none =>
        rw [e] at fv
        refine def_exc rfl rfl (e2 := e2) ?_
        show m_part_at [.dat d, .dat (.tup q), .un] = _
        rw [st, sSeq, fv]
    | _ => simp [isTupD] at c
end Lw
set_option maxRecDepth 100000
set_option maxHeartbeats 4000000
namespace Lw
open PySem PL
/-- a tree with another in the place of a part -/
def putT (v : D) : D → List D → D
  | _, [] => v
  | .tup ds, .int i :: q => match ds[i.toNat + 1]? with
    | some x => .tup (ds.set (i.toNat + 1) (putT v x q))
    | none => .tup ds
  | d, _ => d
theorem tEmpty {i : Nat} {env : LEnv} {q : List D} (h : env[i]? = some (.dat (.tup q))) : tOf (o2 (oVar i) (oOp (aNil) fTup) fEqA) env = .val q.isEmpty env := by
  have v := var_of h rfl
  have g := var_get h rfl
  have f : fTup [] = some (.dat (.tup [])) := by simp [fTup, data]
  have e := eq_unit q
  simp only [tOf, o2, oOp, aCons, v, aNil, gets, f, dat_ok, if_true, g, tmp_get dat_ok, e]
theorem call_lv {g : FM} {m1 m2 m3 : OM} {d1 d2 d3 r : D} {e : LEnv} (q1 : m1 e = .val (.tmp (.dat d1)) e) (q2 : m2 e = .val (.tmp (.dat d2)) e) (q3 : m3 e = .val (.tmp (.dat d3)) e) (hg : g [.dat d1, .dat d2, .dat d3] = .ret (.dat r) [.dat d1, .dat d2, .dat d3]) : oFrz (oCall g (aCons m1 (aCons m2 (aCons m3 aNil)))) e = .val (.tmp (.dat r)) e := frz_tmp (call3 q1 q2 q3 hg)
theorem partT_cons {m : Nat} {d r y : D} {q : List D} (h : Tree (m + 1) d) (hp : partT d (y :: q) = some r) : ∃ t xs k x, d = .tup (.str (tagOf t) :: xs) ∧ y = .int ((k : Nat) : Int) ∧ xs[k]? = some x ∧ Tree m x ∧ partT x q = some r := by
  obtain ⟨m', t, xs, e, rfl, h1, h2, h3⟩ := h.tup
  cases e
  cases y with
  | int i =>
    unfold partT at hp
    split at hp
    · rename_i hi
      obtain ⟨k, rfl⟩ : ∃ k : Nat, i = k := ⟨_, (Int.toNat_of_nonneg hi.1).symm⟩
      split at hp
      · rename_i x hx
        have hx' : xs[k]? = some x := by simpa using hx
        exact ⟨t, xs, k, x, rfl, rfl, hx', h3 x (List.mem_of_getElem? hx'), hp⟩
      · cases hp
    · cases hp
  | _ => simp [partT] at hp
end Lw
set_option maxRecDepth 100000
set_option maxHeartbeats 4000000
namespace Lw
open PySem PL
theorem putT_cons {v : D} {t k : Nat} {xs q : List D} {x : D} (hx : xs[k]? = some x) : putT v (.tup (.str (tagOf t) :: xs)) (.int ((k : Nat) : Int) :: q) = .tup ((.str (tagOf t) :: xs).set (k + 1) (putT v x q)) := by
  have h : (D.str (tagOf t) :: xs)[((k : Nat) : Int).toNat + 1]? = some x := by simpa using hx
  rw [putT, h]
  rfl
theorem put_tmp {mv mi : OM} {j at_ : Nat} {env : LEnv} {x : D} {ds : List D} (hm : oFrz mv env = .val (.tmp (.dat x)) env) (hj : env[j]? = some (.ml ds)) (hi : mi env = .val (.tmp (li (at_ : Int))) env) (hl : at_ < ds.length) : sPut mv (oVar j) mi stA env = .nx (env.set j (.ml (ds.set at_ x))) := by
  have vj := var_of hj rfl
  have gj := var_get hj rfl
  have ow : ∀ l, (LV.ml l).isOwn = true := fun _ => rfl
  simp only [sPut, aCons, hm, vj, hi, aNil, tmp_get dat_ok, gj, put_ml hl, ow, Bool.and_self, if_true]
theorem with_spec : ∀ (n m : Nat) (d r v : D) (q : List D), Tree m d → partT d q = some r → q.length < n → g__law_with n [.dat d, .dat (.tup q), .dat v] = .ret (.dat (putT v d q)) [.dat d, .dat (.tup q), .dat v] := by
  intro n
  induction n with
  | zero => exact fun m d r v q _ _ h => absurd h (by omega)
  | succ n ih =>
    intro m d r v q h hp hl
    have hd : m__law_with (g__law_with n) = sSeq (sIf (tOf (o2 (oVar 1) (oOp (aNil) fTup) fEqA)) (sRet (oFrz (oVar 2))) (sNil)) (sSeq (sSet 3 (oOp (aCons (oVar 0) (aNil)) fListA)) (sSeq (sPut (oCall (g__law_with n) (aCons (oFrz (o2 (oVar 0) (o2 (o2 (oVar 1) (oC (.int 0)) fIxA) (oC (.int 1)) fAdd) fIxA)) (aCons (oFrz (oSl (oVar 1) (pSome (oC (.int 1))) (pNone) slA)) (aCons (oFrz (oVar 2)) (aNil))))) (oVar 3) (o2 (o2 (oVar 1) (oC (.int 0)) fIxA) (oC (.int 1)) fAdd) stA) (sRet (oOp (aCons (oVar 3) (aNil)) fTuple)))) := rfl
    have t1 := tEmpty (i := 1) (env := [.dat d, .dat (.tup q), .dat v, .un]) rfl
    cases q with
    | nil =>
      refine def_rt rfl rfl (e2 := [.dat d, .dat (.tup []), .dat v, .un]) ?_
      rw [hd]
      show sSeq _ _ [.dat d, .dat (.tup []), .dat v, .un] = _
      have : putT v d [] = v := by cases d <;> rfl
      rw [this]
      exact seq_rt ((if_t t1).trans (ret_val (frz_var (i := 2) rfl)))
    | cons y q =>
      obtain ⟨m', t, xs, rfl, e0, h1, h2, h3⟩ := h.tup
      obtain ⟨t', xs', k, x, rfl, rfl, hx, hT, hp'⟩ := partT_cons h hp
      have kl : k < xs'.length := (List.getElem?_eq_some_iff.mp hx).1
      have s1 := set_val (i := 3) (list_val (i := 0) (env := [.dat (.tup (.str (tagOf t') :: xs')), .dat (.tup (.int ((k : Nat) : Int) :: q)), .dat v, .un]) (ds := .str (tagOf t') :: xs') rfl rfl)
      have ixk : ∀ w : LV, o2 (o2 (oVar 1) (oC (.int 0)) fIxA) (oC (.int 1)) fAdd [.dat (.tup (.str (tagOf t') :: xs')), .dat (.tup (.int ((k : Nat) : Int) :: q)), .dat v, w] = .val (.tmp (li ((k + 1 : Nat) : Int))) [.dat (.tup (.str (tagOf t') :: xs')), .dat (.tup (.int ((k : Nat) : Int) :: q)), .dat v, w] := fun w => op_val (ix_val (i := 1) rfl rfl ix_tup0) rfl rfl rfl (add1 k)
      have hx1 : (D.str (tagOf t') :: xs')[k + 1]? = some x := by simpa using hx
      have part : oFrz (o2 (oVar 0) (o2 (o2 (oVar 1) (oC (.int 0)) fIxA) (oC (.int 1)) fAdd) fIxA) [.dat (.tup (.str (tagOf t') :: xs')), .dat (.tup (.int ((k : Nat) : Int) :: q)), .dat v, .ml (.str (tagOf t') :: xs')] = .val (.tmp (.dat x)) [.dat (.tup (.str (tagOf t') :: xs')), .dat (.tup (.int ((k : Nat) : Int) :: q)), .dat v, .ml (.str (tagOf t') :: xs')] := by
        apply frz_tmp
        have v0 := var_of (i := 0) (env := [.dat (.tup (.str (tagOf t') :: xs')), .dat (.tup (.int ((k : Nat) : Int) :: q)), .dat v, .ml (.str (tagOf t') :: xs')]) (lv := .dat (.tup (.str (tagOf t') :: xs'))) rfl rfl
        have g0 := var_get (i := 0) (env := [.dat (.tup (.str (tagOf t') :: xs')), .dat (.tup (.int ((k : Nat) : Int) :: q)), .dat v, .ml (.str (tagOf t') :: xs')]) (lv := .dat (.tup (.str (tagOf t') :: xs'))) rfl rfl
        have ik := ixk (.ml (.str (tagOf t') :: xs'))
        have ix := ix_tup hx1
        rw [o2]
        simp only [oOp, aCons, v0, ik, aNil, gets, g0, tmp_get dat_ok, ix, dat_ok, if_true]
      have tl := frz_tmp (tail_val (i := 1) (env := [.dat (.tup (.str (tagOf t') :: xs')), .dat (.tup (.int ((k : Nat) : Int) :: q)), .dat v, .ml (.str (tagOf t') :: xs')]) rfl)
      have cl := call_lv part tl (frz_var (i := 2) rfl) (ih _ x r v q hT hp' (by simp only [List.length_cons] at hl; omega))
      have pt := put_tmp (j := 3) (ds := .str (tagOf t') :: xs') cl rfl (ixk _) (by simp only [List.length_cons]; omega)
      rw [putT_cons hx]
      refine def_rt rfl rfl (e2 := [.dat (.tup (.str (tagOf t') :: xs')), .dat (.tup (.int ((k : Nat) : Int) :: q)), .dat v, .ml ((.str (tagOf t') :: xs').set (k + 1) (putT v x q))]) ?_
      rw [hd]
      show sSeq _ _ [.dat (.tup (.str (tagOf t') :: xs')), .dat (.tup (.int ((k : Nat) : Int) :: q)), .dat v, .un] = _
      rw [seq_nx (if_n t1), seq_nx s1]
      show sSeq _ _ [.dat (.tup (.str (tagOf t') :: xs')), .dat (.tup (.int ((k : Nat) : Int) :: q)), .dat v, .ml (.str (tagOf t') :: xs')] = _
      rw [seq_nx pt]
      generalize (D.str (tagOf t') :: xs').set (k + 1) (putT v x q) = Z
      have v3 := var_of (i := 3) (env := [.dat (.tup (.str (tagOf t') :: xs')), .dat (.tup (.int ((k : Nat) : Int) :: q)), .dat v, .ml Z]) (lv := .ml Z) rfl rfl
      have g3 := var_get (i := 3) (env := [.dat (.tup (.str (tagOf t') :: xs')), .dat (.tup (.int ((k : Nat) : Int) :: q)), .dat v, .ml Z]) (lv := .ml Z) rfl rfl
      have f : oOp (aCons (oVar 3) (aNil)) fTuple [.dat (.tup (.str (tagOf t') :: xs')), .dat (.tup (.int ((k : Nat) : Int) :: q)), .dat v, .ml Z] = .val (.tmp (.dat (.tup Z))) [.dat (.tup (.str (tagOf t') :: xs')), .dat (.tup (.int ((k : Nat) : Int) :: q)), .dat v, .ml Z] := by
        simp only [oOp, aCons, v3, aNil, gets, g3, tuple_ml, dat_ok, if_true]
      exact ret_val f
end Lw
set_option maxRecDepth 100000
set_option maxHeartbeats 4000000
namespace Lw
open PySem PL
theorem set_cut (ds : List D) (k : Nat) (x : D) (h : k < ds.length) : ds.take k ++ [x] ++ ds.drop (k + 1) = ds.set k x := by
  rw [List.set_eq_take_append_cons_drop, if_pos h]
  simp
theorem addT_ok {as bs : List D} (h : as.length + bs.length ≤ sizeLine) : fAdd [.dat (.tup as), .dat (.tup bs)] = some (.dat (.tup (as ++ bs))) := by
  simp [fAdd, fOr, fAddI, fAddS, fAddL, fAddT, f2, gI, gAddS, gAddL, gAddT, LV.items, h]
theorem expr_val {m : OM} {x : LV} {e e1 : LEnv} (h : m e = .val (.tmp x) e1) : sExpr m e = .nx e1 := by simp only [sExpr, h]
theorem expr_exc {m : OM} {x : Xc} {e e1 : LEnv} (h : m e = .exc x e1) : sExpr m e = .exc x e1 := by simp only [sExpr, h]
theorem call2_exc {g : FM} {m1 m2 : OM} {d1 d2 : D} {x : Xc} {e : LEnv} (q1 : m1 e = .val (.tmp (.dat d1)) e) (q2 : m2 e = .val (.tmp (.dat d2)) e) (hg : g [.dat d1, .dat d2] = .exc x [.dat d1, .dat d2]) : oCall g (aCons m1 (aCons m2 aNil)) e = .exc x e := by
  simp only [oCall, aCons, q1, q2, aNil, gets, tmp_get dat_ok, hg]
  rfl
theorem call3_exc {g : FM} {m1 m2 m3 : OM} {d1 d2 d3 : D} {x : Xc} {e : LEnv} (q1 : m1 e = .val (.tmp (.dat d1)) e) (q2 : m2 e = .val (.tmp (.dat d2)) e) (q3 : m3 e = .val (.tmp (.dat d3)) e) (hg : g [.dat d1, .dat d2, .dat d3] = .exc x [.dat d1, .dat d2, .dat d3]) : oCall g (aCons m1 (aCons m2 (aCons m3 aNil))) e = .exc x e := by
  simp only [oCall, aCons, q1, q2, q3, aNil, gets, tmp_get dat_ok, hg]
  rfl
end Lw
set_option maxRecDepth 100000
set_option maxHeartbeats 4000000
namespace Lw
open PySem PL
theorem m_put (g : FM) : m_put_at g = sSeq (sExpr (oCall g_part_at (aCons (oFrz (oVar 0)) (aCons (oFrz (oVar 1)) (aNil))))) (sSeq (sIf (tOf (o2 (oVar 1) (oOp (aNil) fTup) fEqA)) (sRet (oFrz (oVar 2))) (sNil)) (sSeq (sStar 3 4 (oVar 1)) (sRet (o2 (o2 (oSl (oVar 0) (pNone) (pSome (o2 (oVar 3) (oC (.int 1)) fAdd)) slA) (oOp (aCons (oFrz (oCall g (aCons (oFrz (o2 (oVar 0) (o2 (oVar 3) (oC (.int 1)) fAdd) fIxA)) (aCons (oFrz (oOp (aCons (oVar 4) (aNil)) fTuple)) (aCons (oFrz (oVar 2)) (aNil)))))) (aNil)) fTup) fAdd) (oSl (oVar 0) (pSome (o2 (oVar 3) (oC (.int 2)) fAdd)) (pNone) slA) fAdd)))) := rfl
/-- where there is no such part, put_at refuses -/
theorem put_none {n m k : Nat} {d y v : D} (h : Tree m d) (hy : Fine k y) (e : partA d y = none) : g_put_at (n + 1) [.dat d, .dat y, .dat v] = .exc ⟨"NoPath", []⟩ [.dat d, .dat y, .dat v] := by
  have p := part_at_spec h hy
  rw [e] at p
  have c := expr_exc (call2_exc (e := [.dat d, .dat y, .dat v, .un, .un]) (frz_var (i := 0) rfl) (frz_var (i := 1) rfl) p)
  refine def_exc rfl rfl (e2 := [.dat d, .dat y, .dat v, .un, .un]) ?_
  rw [m_put]
  show sSeq _ _ [.dat d, .dat y, .dat v, .un, .un] = _
  rw [sSeq, c]
end Lw
set_option maxRecDepth 100000
set_option maxHeartbeats 4000000
namespace Lw
open PySem PL
theorem put_expr {g : FM} {E : LEnv} {ds q : List D} {k : Nat} {x v z : D} (h0 : E[0]? = some (.dat (.tup ds))) (h2 : E[2]? = some (.dat v)) (h3 : E[3]? = some (li (k : Int))) (h4 : E[4]? = some (.ml q)) (hx : ds[k + 1]? = some x) (hz : ds.length < 1000) (hg : g [.dat x, .dat (.tup q), .dat v] = .ret (.dat z) [.dat x, .dat (.tup q), .dat v]) :
    o2 (o2 (oSl (oVar 0) (pNone) (pSome (o2 (oVar 3) (oC (.int 1)) fAdd)) slA) (oOp (aCons (oFrz (oCall g (aCons (oFrz (o2 (oVar 0) (o2 (oVar 3) (oC (.int 1)) fAdd) fIxA)) (aCons (oFrz (oOp (aCons (oVar 4) (aNil)) fTuple)) (aCons (oFrz (oVar 2)) (aNil)))))) (aNil)) fTup) fAdd) (oSl (oVar 0) (pSome (o2 (oVar 3) (oC (.int 2)) fAdd)) (pNone) slA) fAdd E = .val (.tmp (.dat (.tup (ds.set (k + 1) z)))) E := by
  have kl : k + 1 < ds.length := (List.getElem?_eq_some_iff.mp hx).1
  have v0 := var_of h0 rfl
  have g0 := var_get h0 rfl
  have v4 := var_of h4 rfl
  have g4 := var_get h4 rfl
  have i1 := inc_val h3
  have a2 : fAdd [li (k : Int), li 2] = some (li ((k + 2 : Nat) : Int)) := by
    have e : ((k : Int) + 2) = ((k + 2 : Nat) : Int) := by omega
    rw [add_ok, e]
  have i2 := op_vc h3 rfl a2
  have p1 : pSome (o2 (oVar 3) (oC (.int 1)) fAdd) E = .val (some ((k + 1 : Nat) : Int)) E := by simp only [pSome, i1, tmp_get dat_ok]
  have p2 : pSome (o2 (oVar 3) (oC (.int 2)) fAdd) E = .val (some ((k + 2 : Nat) : Int)) E := by simp only [pSome, i2, tmp_get dat_ok]
  have ct := cut_to ds (k + 1)
  have cf := cut_from ds (k + 2)
  have s1 : oSl (oVar 0) (pNone) (pSome (o2 (oVar 3) (oC (.int 1)) fAdd)) slA E = .val (.tmp (.dat (.tup (ds.take (k + 1))))) E := by simp only [oSl, v0, pNone, p1, g0, sl_tup, ct, dat_ok, if_true]
  have s3 : oSl (oVar 0) (pSome (o2 (oVar 3) (oC (.int 2)) fAdd)) (pNone) slA E = .val (.tmp (.dat (.tup (ds.drop (k + 2))))) E := by simp only [oSl, v0, pNone, p2, g0, sl_tup, cf, dat_ok, if_true]
  have ix := ix_tup hx
  have part : oFrz (o2 (oVar 0) (o2 (oVar 3) (oC (.int 1)) fAdd) fIxA) E = .val (.tmp (.dat x)) E := by
    apply frz_tmp
    rw [o2]
    simp only [oOp, aCons, v0, i1, aNil, gets, g0, tmp_get dat_ok, ix, dat_ok, if_true]
  have tq : oFrz (oOp (aCons (oVar 4) (aNil)) fTuple) E = .val (.tmp (.dat (.tup q))) E := by
    apply frz_tmp
    simp only [oOp, aCons, v4, aNil, gets, g4, tuple_ml, dat_ok, if_true]
  have cl := call_lv part tq (frz_var h2) hg
  have f1 : fTup [.dat z] = some (.dat (.tup [z])) := by simp [fTup, data, LV.datum, sizeLine_eq]
  have t1 : oOp (aCons (oFrz (oCall g (aCons (oFrz (o2 (oVar 0) (o2 (oVar 3) (oC (.int 1)) fAdd) fIxA)) (aCons (oFrz (oOp (aCons (oVar 4) (aNil)) fTuple)) (aCons (oFrz (oVar 2)) (aNil)))))) (aNil)) fTup E = .val (.tmp (.dat (.tup [z]))) E := by
    rw [oOp, args1 cl]
    simp only [gets, tmp_get dat_ok, f1, dat_ok, if_true]
  have r1 := op_val s1 t1 rfl rfl (addT_ok (by rw [sizeLine_eq, List.length_take, List.length_singleton]; omega))
  have r2 := op_val r1 s3 rfl rfl (addT_ok (by rw [sizeLine_eq, List.length_append, List.length_take, List.length_singleton, List.length_drop]; omega))
  rw [set_cut ds (k + 1) z kl] at r2
  exact r2
end Lw
set_option maxRecDepth 100000
set_option maxHeartbeats 4000000
namespace Lw
open PySem PL
theorem part_ints : ∀ {q : List D} {m : Nat} {d r : D}, Tree m d → partT d q = some r → ∀ y ∈ q, Fine 0 y
  | [], _, _, _, _, _, _, h => by cases h
  | z :: q, m, d, r, h, hp, y, hy => by
    obtain ⟨m', t, xs, rfl, rfl, _⟩ := h.tup
    obtain ⟨t', xs', k, x, _, rfl, _, hT, hp'⟩ := partT_cons h hp
    rcases List.mem_cons.mp hy with rfl | hy
    · trivial
    · exact part_ints hT hp' y hy
theorem put_some : ∀ (n m : Nat) (d r v : D) (q : List D), Tree m d → partT d q = some r → q.length < n → g_put_at n [.dat d, .dat (.tup q), .dat v] = .ret (.dat (putT v d q)) [.dat d, .dat (.tup q), .dat v] := by
  intro n
  induction n with
  | zero => exact fun m d r v q _ _ h => absurd h (by omega)
  | succ n ih =>
    intro m d r v q h hp hl
    have fq : Fine 1 (.tup q) := part_ints h hp
    have p := part_at_spec h fq
    have pa : partA d (.tup q) = some r := hp
    rw [pa] at p
    have c := expr_val (call2 (e := [.dat d, .dat (.tup q), .dat v, .un, .un]) (frz_var (i := 0) rfl) (frz_var (i := 1) rfl) p)
    have t1 := tEmpty (i := 1) (env := [.dat d, .dat (.tup q), .dat v, .un, .un]) rfl
    cases q with
    | nil =>
      refine def_rt rfl rfl (e2 := [.dat d, .dat (.tup []), .dat v, .un, .un]) ?_
      rw [m_put]
      show sSeq _ _ [.dat d, .dat (.tup []), .dat v, .un, .un] = _
      have : putT v d [] = v := by cases d <;> rfl
      rw [this, seq_nx c]
      exact seq_rt ((if_t t1).trans (ret_val (frz_var (i := 2) rfl)))
    | cons y q =>
      obtain ⟨m', t, xs, rfl, e0, h1, h2, h3⟩ := h.tup
      obtain ⟨t', xs', k, x, rfl, rfl, hx, hT, hp'⟩ := partT_cons h hp
      have e1 : xs' = xs := by injection e0 with e0; exact (List.cons.inj e0).2
      subst e1
      have hx1 : (D.str (tagOf t') :: xs')[k + 1]? = some x := by simpa using hx
      have st : sStar 3 4 (oVar 1) [.dat (.tup (.str (tagOf t') :: xs')), .dat (.tup (.int ((k : Nat) : Int) :: q)), .dat v, .un, .un] = .nx [.dat (.tup (.str (tagOf t') :: xs')), .dat (.tup (.int ((k : Nat) : Int) :: q)), .dat v, li (k : Int), .ml q] := by
        have f := frz_var (i := 1) (env := [.dat (.tup (.str (tagOf t') :: xs')), .dat (.tup (.int ((k : Nat) : Int) :: q)), .dat v, .un, .un]) (d := .tup (.int ((k : Nat) : Int) :: q)) rfl
        simp only [sStar, f]
        rfl
      have ex := put_expr (g := g_put_at n) (E := [.dat (.tup (.str (tagOf t') :: xs')), .dat (.tup (.int ((k : Nat) : Int) :: q)), .dat v, li (k : Int), .ml q]) rfl rfl rfl rfl hx1 (by simp only [List.length_cons]; omega) (ih _ x r v q hT hp' (by simp only [List.length_cons] at hl; omega))
      rw [putT_cons hx]
      refine def_rt rfl rfl (e2 := [.dat (.tup (.str (tagOf t') :: xs')), .dat (.tup (.int ((k : Nat) : Int) :: q)), .dat v, li (k : Int), .ml q]) ?_
      rw [m_put]
      show sSeq _ _ [.dat (.tup (.str (tagOf t') :: xs')), .dat (.tup (.int ((k : Nat) : Int) :: q)), .dat v, .un, .un] = _
      rw [seq_nx c, seq_nx (if_n t1), seq_nx st]
      exact ret_val ex
end Lw
set_option maxRecDepth 100000
set_option maxHeartbeats 4000000
namespace Lw
open PySem PL
abbrev tryB : SM := sIf (tOf (o2 (oVar 0) (oC (.int 0)) fEqA)) (sExpr (oCall g_part_at (aCons (oFrz (oVar 1)) (aCons (oFrz (oVar 2)) (aNil))))) (sExpr (oCall (g_put_at 20) (aCons (oFrz (oVar 1)) (aCons (oFrz (oVar 2)) (aCons (oFrz (oOp (aCons (oC (.str "t0")) (aNil)) fTup)) (aNil))))))
theorem try_got {isC : Str → Option Bool} {i : Nat} {nb nh : SM} {env env1 e2 : LEnv} {x : Xc} (h : nb env = .exc x env1) (hc : isC x.cls = some true) (hn : nh (env1.set i (.dat .opq)) = .nx e2) : sTry isC i nb nh env = .nx (e2.set i .un) := by simp only [sTry, h, hc, hn]
theorem m_ref : m__law_refused = sSeq (sSet 3 (oC .non)) (sSeq (sTry (isX "NoPath") 4 tryB (sSet 3 (oFrz (oVar 4)))) (sRet (o2 (oVar 3) (oC .non) fNt))) := rfl
theorem partT_len : ∀ {q : List D} {m : Nat} {d r : D}, Tree m d → partT d q = some r → q.length < m
  | [], _, _, _, h, _ => by obtain ⟨m', t, xs, rfl, _⟩ := h.tup; simp
  | z :: q, m, d, r, h, hp => by
    obtain ⟨m', t, xs, rfl, rfl, _⟩ := h.tup
    obtain ⟨t', xs', k, x, _, rfl, _, hT, hp'⟩ := partT_cons h hp
    have := partT_len hT hp'
    simp only [List.length_cons]
    omega
theorem refused_spec {m n : Nat} {d y : D} {i : Int} (h : Tree m d) (hm : m ≤ 20) (hy : Fine n y) : g__law_refused [li i, .dat d, .dat y] = .ret (.dat (.bl (partA d y).isNone)) [li i, .dat d, .dat y] := by
  have t1 := of_val (op_vc (i := 0) (c := .int 0) (env := [li i, .dat d, .dat y, .dat .non, .un]) rfl rfl (eq_int i 0))
  have tp : oFrz (oOp (aCons (oC (.str "t0")) (aNil)) fTup) [li i, .dat d, .dat y, .dat .non, .un] = .val (.tmp (.dat (.tup [.str "t0"]))) [li i, .dat d, .dat y, .dat .non, .un] := by
    have f : fTup [.dat (.str "t0")] = some (.dat (.tup [.str "t0"])) := by simp [fTup, data, LV.datum, sizeLine_eq]
    apply frz_tmp
    rw [oOp]
    simp only [aCons, oC, aNil, gets, tmp_get dat_ok, f, dat_ok, if_true]
  have pa := part_at_spec h hy
  cases e : partA d y with
  | some r =>
    have : ∃ q, y = .tup q ∧ partT d q = some r := by cases y <;> first | exact ⟨_, rfl, e⟩ | (simp [partA] at e)
    obtain ⟨q, rfl, hq⟩ := this
    rw [e] at pa
    have tr : tryB [li i, .dat d, .dat (.tup q), .dat .non, .un] = .nx [li i, .dat d, .dat (.tup q), .dat .non, .un] := by
      by_cases c : i = 0
      · simp only [c, decide_true] at t1
        rw [c]
        exact (if_t t1).trans (expr_val (call2 (frz_var (i := 1) rfl) (frz_var (i := 2) rfl) pa))
      · simp only [c, decide_false] at t1
        have ps := put_some 20 m d r (.tup [.str "t0"]) q h hq (by have := partT_len h hq; omega)
        exact (if_f t1).trans (expr_val (call3 (frz_var (i := 1) rfl) (frz_var (i := 2) rfl) tp ps))
    refine def_rt rfl rfl (e2 := [li i, .dat d, .dat (.tup q), .dat .non, .un]) ?_
    rw [m_ref]
    show sSeq _ _ [li i, .dat d, .dat (.tup q), .un, .un] = _
    rw [seq_nx (set_val (i := 3) (m := oC .non) (x := .dat .non) (e2 := _) rfl)]
    show sSeq _ _ [li i, .dat d, .dat (.tup q), .dat .non, .un] = _
    have st : sTry (isX "NoPath") 4 tryB (sSet 3 (oFrz (oVar 4))) [li i, .dat d, .dat (.tup q), .dat .non, .un] = .nx [li i, .dat d, .dat (.tup q), .dat .non, .un] := by simp only [sTry, tr]
    rw [seq_nx st]
    exact ret_val (op_vc (i := 3) (c := .non) (x := .dat .non) rfl rfl rfl)
  | none =>
    rw [e] at pa
    have tr : tryB [li i, .dat d, .dat y, .dat .non, .un] = .exc ⟨"NoPath", []⟩ [li i, .dat d, .dat y, .dat .non, .un] := by
      by_cases c : i = 0
      · simp only [c, decide_true] at t1
        rw [c]
        exact (if_t t1).trans (expr_exc (call2_exc (frz_var (i := 1) rfl) (frz_var (i := 2) rfl) pa))
      · simp only [c, decide_false] at t1
        have ps := put_none (n := 19) (v := .tup [.str "t0"]) h hy e
        exact (if_f t1).trans (expr_exc (call3_exc (frz_var (i := 1) rfl) (frz_var (i := 2) rfl) tp ps))
    refine def_rt rfl rfl (e2 := [li i, .dat d, .dat y, .dat .opq, .un]) ?_
    rw [m_ref]
    show sSeq _ _ [li i, .dat d, .dat y, .un, .un] = _
    rw [seq_nx (set_val (i := 3) (m := oC .non) (x := .dat .non) (e2 := _) rfl)]
    show sSeq _ _ [li i, .dat d, .dat y, .dat .non, .un] = _
    have st : sTry (isX "NoPath") 4 tryB (sSet 3 (oFrz (oVar 4))) [li i, .dat d, .dat y, .dat .non, .un] = .nx [li i, .dat d, .dat y, .dat .opq, .un] := by
      have ix : isX "NoPath" "NoPath" = some true := by simp [isX]
      have s3 : sSet 3 (oFrz (oVar 4)) [li i, .dat d, .dat y, .dat .non, .dat .opq] = .nx [li i, .dat d, .dat y, .dat .opq, .dat .opq] := set_val (frz_var (i := 4) rfl)
      exact try_got (i := 4) (nh := sSet 3 (oFrz (oVar 4))) (e2 := [li i, .dat d, .dat y, .dat .opq, .dat .opq]) tr ix s3
    rw [seq_nx st]
    exact ret_val (op_vc (i := 3) (c := .non) (x := .dat .opq) rfl rfl rfl)
end Lw
set_option maxRecDepth 100000
set_option maxHeartbeats 4000000
namespace Lw
open PySem PL
/-! paths and parts -/
theorem goP_in {f : D → List D} {x z : D} : ∀ {xs : List D} {i j : Nat}, xs[j]? = some x → z ∈ f x → consI (i + j) z ∈ goP f i xs
  | [], _, _, h, _ => by simp at h
  | y :: xs, i, 0, h, hz => by
    have e : y = x := by simpa using h
    subst e
    exact List.mem_append_left _ (List.mem_map.mpr ⟨z, hz, rfl⟩)
  | y :: xs, i, j + 1, h, hz => by
    have := goP_in (xs := xs) (i := i + 1) (j := j) (by simpa using h) hz
    rw [show i + (j + 1) = i + 1 + j by omega]
    exact List.mem_append_right _ this
theorem part_in : ∀ {q : List D} {m : Nat} {d r : D}, Tree m d → partT d q = some r → D.tup q ∈ pathsD m d
  | [], m, d, r, h, _ => by obtain ⟨m', t, xs, rfl, rfl, _⟩ := h.tup; exact List.mem_cons_self
  | y :: q, m, d, r, h, hp => by
    obtain ⟨m', t, xs, rfl, rfl, _⟩ := h.tup
    obtain ⟨t', xs', k, x, e, rfl, hx, hT, hp'⟩ := partT_cons h hp
    have e1 : xs = xs' := by injection e with e; exact (List.cons.inj e).2
    subst e1
    have := goP_in (f := pathsD m') (i := 0) hx (part_in hT hp')
    rw [Nat.zero_add] at this
    exact List.mem_cons_of_mem _ this
theorem path_part : ∀ {m : Nat} {d y : D}, Tree m d → y ∈ pathsD m d → ∃ q r, y = .tup q ∧ partT d q = some r ∧ Tree m r := by
  intro m
  induction m with
  | zero => intro d y h; obtain ⟨_, _, _, h, _⟩ := h.tup; cases h
  | succ m ih =>
    intro d y h hy
    obtain ⟨m', t, xs, e, rfl, h1, h2, h3⟩ := h.tup
    cases e
    rcases List.mem_cons.mp hy with rfl | hy
    · exact ⟨[], _, rfl, rfl, h⟩
    · obtain ⟨j, x, z, g1, g2, rfl⟩ := goP_mem hy
      obtain ⟨q, r, rfl, hp, hn⟩ := ih (h3 x (List.mem_of_getElem? g1)) g2
      have jl : j < xs.length := (List.getElem?_eq_some_iff.mp g1).1
      refine ⟨.int ((0 + j : Nat) : Int) :: q, r, rfl, ?_, hn.up⟩
      rw [partT, if_pos ⟨by omega, by simp only [List.length_cons]; omega⟩]
      have : (D.str (tagOf t) :: xs)[((0 + j : Nat) : Int).toNat + 1]? = some x := by simpa using g1
      rw [this]
      exact hp
theorem part_intD : ∀ {q : List D} {m : Nat} {d r : D}, Tree m d → partT d q = some r → ∀ y ∈ q, intD y = true
  | [], _, _, _, _, _, _, h => by cases h
  | z :: q, m, d, r, h, hp, y, hy => by
    obtain ⟨m', t, xs, rfl, rfl, _⟩ := h.tup
    obtain ⟨t', xs', k, x, _, rfl, _, hT, hp'⟩ := partT_cons h hp
    rcases List.mem_cons.mp hy with rfl | hy
    · rfl
    · exact part_intD hT hp' y hy
theorem ints_of : ∀ {q : List D}, (∀ y ∈ q, intD y = true) → ∃ l : List Int, q = l.map .int
  | [], _ => ⟨[], rfl⟩
  | y :: q, h => by
    obtain ⟨l, rfl⟩ := ints_of (q := q) fun z m => h z (List.mem_cons_of_mem _ m)
    have := h y List.mem_cons_self
    cases y with
    | int i => exact ⟨i :: l, rfl⟩
    | _ => cases this
end Lw
set_option maxRecDepth 100000
set_option maxHeartbeats 4000000
namespace Lw
open PySem PL
/-! what can be compared -/
structure Cmp (n : Nat) (d : D) (p : PyData) : Prop where
  py : D.py d = some p
  lay : p.canLay0 = true
  dep : p.depth ≤ n
theorem cmp_all : ∀ {ds : List D} {n : Nat}, (∀ d ∈ ds, ∃ p, Cmp n d p) → ∃ ps, D.pys ds = some ps ∧ PyData.canLayAll0 ps = true ∧ PyData.depthAll ps ≤ n
  | [], _, _ => ⟨[], rfl, rfl, Nat.zero_le _⟩
  | d :: ds, n, h => by
    obtain ⟨p, a, b, c⟩ := h d List.mem_cons_self
    obtain ⟨ps, a', b', c'⟩ := cmp_all (ds := ds) fun e m => h e (List.mem_cons_of_mem _ m)
    refine ⟨p :: ps, by simp only [D.pys, a, a'], by simp only [PyData.canLayAll0, b, b', Bool.and_self], ?_⟩
    simp only [PyData.depthAll]
    exact Nat.max_le.mpr ⟨c, c'⟩
theorem cmp_tup {ds : List D} {n : Nat} (h : ∀ d ∈ ds, ∃ p, Cmp n d p) : ∃ p, Cmp (n + 1) (.tup ds) p := by
  obtain ⟨ps, a, b, c⟩ := cmp_all h
  exact ⟨.tuple ps, by simp only [D.py, a], by simpa only [PyData.canLay0] using b, by simp only [PyData.depth]; omega⟩
theorem cmp_lst {ds : List D} {n : Nat} (h : ∀ d ∈ ds, ∃ p, Cmp n d p) : ∃ p, Cmp (n + 1) (.lst ds) p := by
  obtain ⟨ps, a, b, c⟩ := cmp_all h
  exact ⟨.list ps, by simp only [D.py, a], by simpa only [PyData.canLay0] using b, by simp only [PyData.depth]; omega⟩
theorem Tree.cmp : ∀ {n : Nat} {d : D}, Tree n d → ∃ p, Cmp n d p := by
  intro n
  induction n with
  | zero => intro d h; obtain ⟨_, _, _, h, _⟩ := h.tup; cases h
  | succ n ih =>
    intro d h
    obtain ⟨m, t, xs, e, rfl, h1, h2, h3⟩ := h.tup
    cases e
    refine cmp_tup fun e he => ?_
    rcases List.mem_cons.mp he with rfl | he
    · exact ⟨.str (tagOf t), rfl, tag_ok t h1, Nat.zero_le _⟩
    · exact ih (h3 e he)
theorem IsP.cmp {m : Nat} {y : D} (h : IsP m y) : ∃ p, Cmp 1 y p := by
  obtain ⟨q, rfl, _⟩ := h
  refine cmp_tup fun d hd => ?_
  obtain ⟨i, _, rfl⟩ := List.mem_map.mp hd
  exact ⟨.int i, rfl, rfl, Nat.le_refl _⟩
theorem Cmp.shaped {n : Nat} {d : D} {p : PyData} (h : Cmp n d p) (hn : n ≤ 64) : SeqAt.shaped p = true := by
  have := h.dep
  simp only [SeqAt.shaped, h.lay, Bool.true_and, decide_eq_true_eq]
  omega
theorem ne_same {n : Nat} {d : D} {p : PyData} (h : Cmp n d p) (hn : n ≤ 64) : fNeA [.dat d, .dat d] = some (.dat (.bl false)) := by
  have s := h.shaped hn
  have e := SeqAt.eqv_refl p h.lay
  have t : f2 (gEqS true) [.dat d, .dat d] = none ∨ f2 (gEqS true) [.dat d, .dat d] = some (.dat (.bl false)) := by
    cases d <;> simp [f2, gEqS]
  have g : fNeD [.dat d, .dat d] = some (.dat (.bl false)) := by
    simp only [fNeD, f2, gEqD, LV.py, h.py, s, e, Bool.and_self, if_true, Bool.not_true]
  rcases t with a | a
  · rw [fNeA, fOr, a]
    simp only [fOr, g]
  · rw [fNeA, fOr, a]
theorem ne_sameL {n : Nat} {ds : List D} {p : PyData} (h : Cmp n (.lst ds) p) (hn : n ≤ 64) : fNeA [.ml ds, .ml ds] = some (.dat (.bl false)) := by
  obtain ⟨ps, a⟩ : ∃ ps, D.pys ds = some ps := by
    have := h.py
    simp only [D.py] at this
    cases e : D.pys ds with
    | none => rw [e] at this; cases this
    | some ps => exact ⟨ps, rfl⟩
  have q : p = .list ps := by
    have := h.py
    simp only [D.py, a, Option.some.injEq] at this
    exact this.symm
  subst q
  have s := h.shaped hn
  have e := SeqAt.eqv_refl _ h.lay
  have g : fNeD [.ml ds, .ml ds] = some (.dat (.bl false)) := by
    simp only [fNeD, f2, gEqD, LV.py, a, s, e, Bool.and_self, if_true, Bool.not_true]
  have t : f2 (gEqS true) [.ml ds, .ml ds] = none := rfl
  rw [fNeA, fOr, t]
  simp only [fOr, g]
theorem ne_nil (ds : List D) : fNeA [.ml ds, .ml []] = some (.dat (.bl (!ds.isEmpty))) := by
  have t : f2 (gEqS true) [.ml ds, .ml []] = none := rfl
  have g : f2 (gLe true) [.ml ds, .ml []] = some (.dat (.bl (!ds.isEmpty))) := by
    cases ds <;> simp [f2, gLe, LV.items]
  have k : f2 (gDe true) [.ml ds, .ml []] = none := rfl
  have e : fNeD [.ml ds, .ml []] = none ∨ fNeD [.ml ds, .ml []] = some (.dat (.bl (!ds.isEmpty))) := by
    cases a : D.pys ds with
    | none => left; simp only [fNeD, f2, gEqD, LV.py, a]
    | some ps =>
      have z : D.pys [] = some [] := rfl
      have l := pys_len a
      cases b : SeqAt.shaped (.list ps) && SeqAt.shaped (.list []) with
      | false => left; simp only [fNeD, f2, gEqD, LV.py, a, z, b]; rfl
      | true =>
        right
        simp only [fNeD, f2, gEqD, LV.py, a, z, b, if_true]
        cases ps with
        | nil => cases ds with
          | nil => rfl
          | cons _ _ => simp at l
        | cons p ps => cases ds with
          | nil => simp at l
          | cons _ _ => rfl
  rw [fNeA, fOr, t]
  rcases e with e | e
  · simp only [fOr, e, k, g]
  · simp only [fOr, e]
end Lw
set_option maxRecDepth 100000
set_option maxHeartbeats 4000000
namespace Lw
open PySem PL
/-! _law_is_path -/
theorem op_v1 {m2 : OM} {i : Nat} {x y : LV} {z : D} {f : List LV → Option LV} {e : LEnv} (h : e[i]? = some x) (q2 : m2 e = .val (.tmp y) e) (k1 : x.ok = true) (k2 : y.ok = true) (hf : f [x, y] = some (.dat z)) : o2 (oVar i) m2 f e = .val (.tmp (.dat z)) e := by
  have v := var_of h k1
  have g := var_get h k1
  simp only [o2, oOp, aCons, v, q2, aNil, gets, g, tmp_get k2, hf, dat_ok, if_true]
abbrev pthV (z : List Int) : D := .tup (z.map .int)
theorem pys_pth : ∀ zs : List (List Int), D.pys (zs.map pthV) = some (zs.map fun z => .tuple (z.map .int))
  | [] => rfl
  | z :: zs => by simp only [List.map_cons, D.pys, D.py, pys_ints, pys_pth zs]
theorem lay_pth : ∀ zs : List (List Int), PyData.canLayAll0 (zs.map fun z => .tuple (z.map .int)) = true
  | [] => rfl
  | z :: zs => by simp only [List.map_cons, PyData.canLayAll0, PyData.canLay0, lay_ints, lay_pth zs, Bool.and_self]
theorem dep_pth : ∀ zs : List (List Int), PyData.depthAll (zs.map fun z => .tuple (z.map .int)) ≤ 1
  | [] => Nat.zero_le _
  | z :: zs => by simp only [List.map_cons, PyData.depthAll, PyData.depth, dep_ints]; exact Nat.max_le.mpr ⟨Nat.le_refl _, dep_pth zs⟩
theorem eqv_pth : ∀ (a b : List Int), PyData.eqvAll (a.map .int) (b.map .int) = decide (a = b)
  | [], [] => rfl
  | [], _ :: _ => by simp [PyData.eqvAll]
  | _ :: _, [] => by simp [PyData.eqvAll]
  | x :: a, y :: b => by
    simp only [List.map_cons, PyData.eqvAll, PyData.eqv, eqv_pth a b]
    rw [Bool.eq_iff_iff]
    simp
theorem in_pth (q : List Int) (zs : List (List Int)) : fInA [.dat (pthV q), .ml (zs.map pthV)] = some (.dat (.bl (decide (q ∈ zs)))) := by
  have s1 : SeqAt.shaped (.tuple (q.map .int)) = true := by simp [SeqAt.shaped, PyData.canLay0, PyData.depth, lay_ints, dep_ints]
  have s2 : SeqAt.shaped (.list (zs.map fun z => .tuple (z.map .int))) = true := by
    have := dep_pth zs
    have l : PyData.canLay0 (.list (zs.map fun z => .tuple (z.map .int))) = true := by simp only [PyData.canLay0, lay_pth]
    have dp : PyData.depth (.list (zs.map fun z => .tuple (z.map .int))) ≤ 64 := by simp only [PyData.depth]; omega
    unfold SeqAt.shaped
    rw [l, decide_eq_true dp]
    rfl
  have e : ((zs.map fun z => PyData.tuple (z.map .int)).any fun z => PyData.eqv z (.tuple (q.map .int))) = decide (q ∈ zs) := by
    rw [Bool.eq_iff_iff]
    simp only [List.any_map, List.any_eq_true, Function.comp, PyData.eqv, eqv_pth, decide_eq_true_eq]
    constructor
    · rintro ⟨x, h, rfl⟩; exact h
    · intro h; exact ⟨q, h, rfl⟩
  have p1 : LV.py (.dat (pthV q)) = some (.tuple (q.map .int)) := by simp only [LV.py, D.py, pys_ints]
  have p2 : LV.py (.ml (zs.map pthV)) = some (.list (zs.map fun z => .tuple (z.map .int))) := by simp only [LV.py, pys_pth]
  have g : fInD [.dat (pthV q), .ml (zs.map pthV)] = some (.dat (.bl (decide (q ∈ zs)))) := by
    simp only [fInD, f2, gInD, p1, p2, s1, s2, Bool.and_self, if_true, e]
    rfl
  simp only [fInA, fOr, fIn, g]
theorem paths_ints {m : Nat} {d : D} (h : Tree m d) : ∃ zs : List (List Int), pathsD m d = zs.map pthV := by
  have : ∀ l : List D, (∀ y ∈ l, IsP m y) → ∃ zs : List (List Int), l = zs.map pthV := by
    intro l
    induction l with
    | nil => exact fun _ => ⟨[], rfl⟩
    | cons y l ih =>
      intro hl
      obtain ⟨zs, rfl⟩ := ih fun z hz => hl z (List.mem_cons_of_mem _ hz)
      obtain ⟨q, rfl, _⟩ := hl y List.mem_cons_self
      exact ⟨q :: zs, rfl⟩
  exact this _ fun y hy => paths_isP h hy
theorem pthV_inj {a b : List Int} (h : pthV a = pthV b) : a = b := by
  injection h with h
  exact (List.map_inj_right fun x y e => by injection e).mp h
abbrev selI : TM := tmOr (tmNot (tTru (oOp (aCons (oVar 2) (aCons (oC (.cst (.ty "int"))) (aNil))) fIsiA))) (tTru (oOp (aCons (oVar 2) (aCons (oC (.cst (.ty "bool"))) (aNil))) fIsiA))
theorem selI_val {n : Nat} {env : LEnv} {y : D} (hy : Fine n y) (h : env[2]? = some (.dat y)) : selI env = .val (!intD y) env := by
  have t1 := tru_val (c := .cst (.ty "int")) (f := fIsiA) (i := 2) h rfl (isi_int hy)
  have t2 := tru_val (c := .cst (.ty "bool")) (f := fIsiA) (i := 2) h rfl (isi_bool hy)
  have n1 := not_v t1
  cases y with
  | int i => exact (or_f n1).trans t2
  | bl b => exact (or_f n1).trans t2
  | _ => exact or_t n1
theorem badP_val {n : Nat} {d : D} {q : List D} (hq : ∀ y ∈ q, Fine n y) (hl : q.length ≤ sizeLine) : (oLc (iAnyK (oVar 1)) (gmName 2) selI (oVar 2) [2]) [.dat d, .dat (.tup q), .un] = .val (.tmp (.ml (q.filter fun y => !intD y))) [.dat d, .dat (.tup q), .un] := by
  have w := walk_tup (m := oVar 1) (e1 := [.dat d, .dat (.tup q), .un]) (frz_var rfl) rfl
  have lp := lcD_map (g := gmName 2) (t := selI) (m := oVar 2) (vs := [2]) (c := fun y => !intD y) (f := id) (ds := q) (env := [.dat d, .dat (.tup q), .un]) hl fun y hy => by
    refine ⟨[.dat d, .dat (.tup q), .dat y], rfl, selI_val (hq y hy) rfl, fun _ => frz_var rfl, rfl⟩
  rw [List.map_id] at lp
  have wp : wipeE [.dat d, .dat (.tup q), .un] [2] = [.dat d, .dat (.tup q), .un] := rfl
  simp only [oLc, w, wp, lp]
  rfl
theorem lst0 (e : LEnv) : oOp aNil fLst e = .val (.tmp (.ml [])) e := by
  have f : fLst [] = some (.ml []) := by simp [fLst, data]
  simp only [oOp, aNil, gets, f, ml_ok, if_true]
theorem is_path_spec {m n : Nat} {d y : D} (h : Tree m d) (hm : m ≤ 8) (hy : Fine n y) (hz : ∀ q, y = .tup q → q.length ≤ sizeLine) : g__law_is_path [.dat d, .dat y] = .ret (.dat (.bl (partA d y).isSome)) [.dat d, .dat y] := by
  have t1 := not_v (tru_val (c := .cst (.ty "tuple")) (f := fIsiA) (env := [.dat d, .dat y, .un]) (i := 1) rfl rfl (isi_tup hy))
  have hmm : m__law_is_path = sSeq (sIf (tmNot (tTru (oOp (aCons (oVar 1) (aCons (oC (.cst (.ty "tuple"))) (aNil))) fIsiA))) (sRet (oC (.bl false))) (sNil)) (sSeq (sIf (tOf (o2 (oLc (iAnyK (oVar 1)) (gmName 2) selI (oVar 2) [2]) (oOp (aNil) fLst) fNeA)) (sRet (oC (.bl false))) (sNil)) (sRet (o2 (oVar 1) (oCall (g__law_paths 20) (aCons (oFrz (oVar 0)) (aNil))) fInA))) := rfl
  cases c : isTupD y with
  | false =>
    rw [c] at t1
    have pn : partA d y = none := by cases y <;> first | rfl | (simp [isTupD] at c)
    rw [pn]
    refine def_rt rfl rfl (e2 := [.dat d, .dat y, .un]) ?_
    rw [hmm]
    show sSeq _ _ [.dat d, .dat y, .un] = _
    exact seq_rt ((if_t t1).trans (ret_c _ _))
  | true =>
    rw [c] at t1
    cases y with
    | tup q =>
      obtain ⟨n', hq⟩ : ∃ n', ∀ z ∈ q, Fine n' z := by
        cases n with
        | zero => exact hy.elim
        | succ n => exact ⟨n, hy⟩
      have bp := badP_val (d := d) hq (hz q rfl)
      have t2 := of_val (op_val bp (lst0 _) rfl rfl (ne_nil (q.filter fun y => !intD y)))
      refine def_rt rfl rfl (e2 := [.dat d, .dat (.tup q), .un]) ?_
      rw [hmm]
      show sSeq _ _ [.dat d, .dat (.tup q), .un] = _
      rw [seq_nx (if_n t1)]
      by_cases a : ∀ z ∈ q, intD z = true
      · have e0 : (q.filter fun y => !intD y) = [] := List.filter_eq_nil_iff.mpr fun z hz => by simp [a z hz]
        rw [e0] at t2
        rw [seq_nx (if_n t2)]
        obtain ⟨l, rfl⟩ := ints_of a
        obtain ⟨zs, ez⟩ := paths_ints h
        have pl := call1m (e := [.dat d, .dat (.tup (l.map .int)), .un]) (frz_var (i := 0) rfl) (paths_law 20 m d h (by omega) hm)
        rw [ez] at pl
        have r := op_v1 (i := 1) (e := [.dat d, .dat (.tup (l.map .int)), .un]) rfl pl rfl rfl (in_pth l zs)
        have ee : decide (l ∈ zs) = (partA d (.tup (l.map .int))).isSome := by
          rw [Bool.eq_iff_iff, decide_eq_true_eq]
          constructor
          · intro hl
            have : pthV l ∈ pathsD m d := by rw [ez]; exact List.mem_map.mpr ⟨l, hl, rfl⟩
            obtain ⟨q, r, e, hp, _⟩ := path_part h this
            have e' : l.map D.int = q := by injection e
            subst e'
            show (partT d (l.map .int)).isSome = true
            rw [hp]
            rfl
          · intro hl
            obtain ⟨r, hr⟩ := Option.isSome_iff_exists.mp hl
            have : pthV l ∈ pathsD m d := part_in h hr
            rw [ez] at this
            obtain ⟨b, hb, e⟩ := List.mem_map.mp this
            rw [← pthV_inj e]
            exact hb
        rw [ee] at r
        exact ret_val r
      · have e0 : (!(q.filter fun y => !intD y).isEmpty) = true := by
          rw [Bool.not_eq_true', Bool.eq_false_iff]
          intro hh
          apply a
          intro z hz
          have := List.filter_eq_nil_iff.mp (List.isEmpty_iff.mp hh) z hz
          simpa using this
        rw [e0] at t2
        have pn : partA d (.tup q) = none := by
          cases e : partA d (.tup q) with
          | none => rfl
          | some r => exact absurd (part_intD h e) a
        rw [pn]
        exact seq_rt ((if_t t2).trans (ret_c _ _))
    | _ => simp [isTupD] at c
end Lw
set_option maxRecDepth 100000
set_option maxHeartbeats 4000000
namespace Lw
open PySem PL
/-! no way in which they differ -/
theorem eq_bl (a b : Bool) : fEqA [.dat (.bl a), .dat (.bl b)] = some (.dat (.bl (a == b))) := by
  have s : ∀ c : Bool, SeqAt.shaped (.bool c) = true := fun c => by simp [SeqAt.shaped, PyData.canLay0, PyData.depth]
  have t : f2 (gEqS false) [.dat (.bl a), .dat (.bl b)] = none := rfl
  have g : fEqD [.dat (.bl a), .dat (.bl b)] = some (.dat (.bl (a == b))) := by
    simp only [fEqD, f2, gEqD, LV.py, D.py, s, Bool.and_self, if_true, PyData.eqv]
    rfl
  rw [fEqA, fOr, t]
  simp only [fOr, g]
theorem set_same {env : LEnv} {i : Nat} {lv : LV} (h : env[i]? = some lv) : env.set i lv = env := by
  apply List.ext_getElem?
  intro j
  have hl := (List.getElem?_eq_some_iff.mp h).1
  by_cases e : j = i
  · subst e; rw [h, List.getElem?_set_self hl]
  · rw [List.getElem?_set_ne (Ne.symm e)]
theorem rangeD_mem {d : D} {k : Nat} (h : d ∈ rangeD 0 k) : ∃ i : Int, d = .int i := by
  simp only [rangeD, List.mem_map] at h
  obtain ⟨i, _, rfl⟩ := h
  exact ⟨_, rfl⟩
abbrev waysT : TM := tOf (o2 (oCall g__law_refused (aCons (oFrz (oVar 15)) (aCons (oFrz (oVar 5)) (aCons (oFrz (oVar 13)) (aNil))))) (oCall g__law_is_path (aCons (oFrz (oVar 5)) (aCons (oFrz (oVar 13)) (aNil)))) fEqA)
abbrev waysO : OM := oLc (iRange1 (aCons (oC (.int 2)) (aNil))) (gmName 15) waysT (oVar 15) [15]
theorem ways_val {m n : Nat} {env : LEnv} {d y : D} (h : Tree m d) (hm : m ≤ 8) (hy : Fine n y) (hz : ∀ q, y = .tup q → q.length ≤ sizeLine) (h5 : env[5]? = some (.dat d)) (h13 : env[13]? = some (.dat y)) (h15 : env[15]? = some .un) :
    waysO env = .val (.tmp (.ml [])) env := by
  have l15 := (List.getElem?_eq_some_iff.mp h15).1
  have r : iRange1 (aCons (oC (.int 2)) (aNil)) env = .val (rangeD 0 2) env := range_val (k := 2) (e1 := env) (e2 := env) rfl (by decide)
  have w : wipeE env [15] = env := set_same h15
  have lp := lcD_map (g := gmName 15) (t := waysT) (m := oVar 15) (vs := [15]) (c := fun _ => false) (f := id) (ds := rangeD 0 2) (env := env) (by rw [rangeD_len, sizeLine_eq]; omega) fun x hx => by
    obtain ⟨i, rfl⟩ := rangeD_mem hx
    have g15 : (env.set 15 (.dat (.int i)))[15]? = some (li i) := List.getElem?_set_self l15
    have g5 : (env.set 15 (.dat (.int i)))[5]? = some (.dat d) := by rw [List.getElem?_set_ne (by decide), h5]
    have g13 : (env.set 15 (.dat (.int i)))[13]? = some (.dat y) := by rw [List.getElem?_set_ne (by decide), h13]
    refine ⟨env.set 15 (.dat (.int i)), rfl, ?_, (fun z => by cases z), ?_⟩
    · have c1 := call3 (frz_var g15) (frz_var g5) (frz_var g13) (refused_spec (i := i) h (by omega) hy)
      have c2 := call2 (frz_var g5) (frz_var g13) (is_path_spec h hm hy hz)
      have o := op_val c1 c2 rfl rfl (eq_bl _ _)
      have e : ((partA d y).isNone == (partA d y).isSome) = false := by cases partA d y <;> rfl
      rw [e] at o
      exact of_val o
    · simp only [wipeE, List.set_set]
      exact set_same h15
  have e : (rangeD 0 2).filter (fun _ => false) = [] := List.filter_eq_nil_iff.mpr (by simp)
  rw [e] at lp
  have rs : restE env env [15] = env := by
    simp only [restE, h15]
    exact set_same h15
  simp only [oLc, r, w, lp, List.map_nil, rs]
/-! displays -/
def aOk (ms : AM) (e : LEnv) (ds : List D) : Prop := ms e = .val (ds.map fun d => .tmp (.dat d)) e
theorem aOk.nil {e : LEnv} : aOk aNil e [] := rfl
theorem aOk.cons {m : OM} {ms : AM} {e : LEnv} {d : D} {ds : List D} (h : m e = .val (.tmp (.dat d)) e) (hs : aOk ms e ds) : aOk (aCons m ms) e (d :: ds) := by
  unfold aOk at hs ⊢
  simp only [aCons, h, hs, List.map_cons]
theorem gets_dats (e : LEnv) : ∀ ds : List D, gets (ds.map fun d => .tmp (.dat d)) e = some (ds.map .dat)
  | [] => rfl
  | d :: ds => by simp only [List.map_cons, gets, tmp_get dat_ok, gets_dats e ds]
theorem data_dats : ∀ ds : List D, data (ds.map .dat) = some ds
  | [] => rfl
  | d :: ds => by simp only [List.map_cons, data, LV.datum, data_dats ds]
theorem aOk.lst {ms : AM} {e : LEnv} {ds : List D} (h : aOk ms e ds) (hz : ds.length < 1000) : oOp ms fLst e = .val (.tmp (.ml ds)) e := by
  have z : ds.length ≤ sizeLine := by rw [sizeLine_eq]; omega
  have f : fLst (ds.map .dat) = some (.ml ds) := by simp only [fLst, data_dats, z, if_true]
  unfold aOk at h
  simp only [oOp, h, gets_dats, f, ml_ok, if_true]
theorem aOk.tup {ms : AM} {e : LEnv} {ds : List D} (h : aOk ms e ds) (hz : ds.length < 1000) : oOp ms fTup e = .val (.tmp (.dat (.tup ds))) e := by
  have z : ds.length ≤ sizeLine := by rw [sizeLine_eq]; omega
  have f : fTup (ds.map .dat) = some (.dat (.tup ds)) := by simp only [fTup, data_dats, z, if_true]
  unfold aOk at h
  simp only [oOp, h, gets_dats, f, dat_ok, if_true]
theorem aOk.op {m : OM} {e : LEnv} {d z : D} {f : List LV → Option LV} (h : m e = .val (.tmp (.dat d)) e) (hf : f [.dat d] = some (.dat z)) : oOp (aCons m aNil) f e = .val (.tmp (.dat z)) e := by
  simp only [oOp, aCons, h, aNil, gets, tmp_get dat_ok, hf, dat_ok, if_true]
end Lw
set_option maxRecDepth 100000
set_option maxHeartbeats 4000000
namespace Lw
open PySem PL
/-! the pieces of law -/
abbrev rb0 : SM := sSet 3 (oCall g__law_full_schema (aCons (oVar 1) (aNil)))
abbrev rb1 : SM := sSet 4 (oCall g__law_pick (aCons (oVar 1) (aCons (oFrz (oOp (aCons (oVar 3) (aNil)) fListA)) (aNil))))
abbrev rb2 : SM := sPar2 5 6 (aCons (oCall (g__law_some_tree 20) (aCons (oVar 1) (aCons (oFrz (oVar 3)) (aCons (oFrz (oVar 4)) (aCons (oC (.int 4)) (aNil)))))) (aCons (oCall (g__law_some_tree 20) (aCons (oVar 1) (aCons (oFrz (oVar 3)) (aCons (oFrz (oVar 4)) (aCons (oC (.int 3)) (aNil)))))) (aNil)))
abbrev rb3 : SM := sPar2 7 8 (aCons (oOp (aCons (oFrz (oVar 5)) (aCons (oC .non) (aCons (oFrz (oOp (aNil) fTup)) (aCons (oFrz (oOp (aCons (oC (.str "t0")) (aNil)) fTup)) (aCons (oFrz (oSl (oVar 5) (pNone) (pSome (oC (.int 1))) slA)) (aCons (oFrz (oOp (aCons (oVar 5) (aNil)) fListA)) (aCons (oC (.str "t0")) (aNil)))))))) fLst) (aCons (oCall (g__law_paths 20) (aCons (oFrz (oVar 5)) (aNil))) (aNil)))
abbrev rb4 : SM := sSet 9 (oOp (aCons (oFrz (oOp (aCons (oFrz (oVar 3)) (aCons (oFrz (oVar 5)) (aNil))) fLst)) (aNil)) (f1 gRepr))
abbrev rb5 : SM := sFor (iRange1 (aCons (oC (.int 6)) (aNil))) (gmName 10) (sExpr (oMu "list" (oVar 7) (aCons (oFrz (oCall (g__law_bent 20) (aCons (oVar 1) (aCons (oFrz (oCall g__law_pick (aCons (oVar 1) (aCons (oFrz (oOp (aCons (oFrz (oVar 5)) (aCons (oFrz (o2 (oVar 7) (o1 (oC (.int 1)) fNegI) fIxA)) (aNil))) fLst)) (aNil))))) (aNil))))) (aNil)) mAppend))
abbrev rb6 : SM := sFor (iAnyK (oVar 7)) (gmName 11) (sFor (iAnyK (oVar 3)) (gmName 12) (sIf (tOf (o2 (oOp (aCons (oFrz (oCall (g_is_tree 20) (aCons (oFrz (oVar 3)) (aCons (oFrz (oVar 12)) (aCons (oFrz (oVar 11)) (aNil)))))) (aNil)) (f1 gRepr)) (oOp (aCons (oFrz (oCall (g__law_is_tree 20) (aCons (oFrz (oVar 3)) (aCons (oFrz (oVar 12)) (aCons (oFrz (oVar 11)) (aNil)))))) (aNil)) (f1 gRepr)) fNeA)) (sRet (oC (.bl false))) (sNil)))
abbrev rb7 : SM := sIf (tmOr (tOf (o2 (oCall (g_size_of 20) (aCons (oFrz (oVar 5)) (aNil))) (oCall (g__law_size 20) (aCons (oFrz (oVar 5)) (aNil))) fNeA)) (tOf (o2 (oCall (g_paths 20) (aCons (oFrz (oVar 5)) (aNil))) (oVar 8) fNeA))) (sRet (oC (.bl false))) (sNil)
abbrev rb8 : SM := sFor (iAnyK (o2 (oSl (oVar 8) (pNone) (pSome (oC (.int 6))) slA) (oSl (oVar 8) (pSome (o1 (oC (.int 4)) fNegI)) (pNone) slA) fAdd)) (gmName 13) (sIf (tmOr (tOf (o2 (oCall g_part_at (aCons (oFrz (oVar 5)) (aCons (oFrz (oVar 13)) (aNil)))) (oCall g__law_at (aCons (oFrz (oVar 5)) (aCons (oFrz (oVar 13)) (aNil)))) fNeA)) (tOf (o2 (oCall (g_put_at 20) (aCons (oFrz (oVar 5)) (aCons (oFrz (oVar 13)) (aCons (oFrz (oVar 6)) (aNil))))) (oCall (g__law_with 20) (aCons (oFrz (oVar 5)) (aCons (oFrz (oVar 13)) (aCons (oFrz (oVar 6)) (aNil))))) fNeA))) (sRet (oC (.bl false))) (sNil))
abbrev rb9 : SM := sSet 14 (oOp (aCons (oC .non) (aCons (oFrz (oOp (aNil) fLst)) (aCons (oC (.str "")) (aCons (oC (.int 0)) (aCons (oFrz (oOp (aCons (oC (.bl true)) (aNil)) fTup)) (aCons (oFrz (oOp (aCons (oC (.int 0)) (aCons (oC (.bl true)) (aNil))) fTup)) (aCons (oFrz (oOp (aCons (oC (.int 9)) (aNil)) fTup)) (aCons (oFrz (oOp (aCons (oFrz (o2 (oC (.int 0)) (oC (.int 1)) fSubI)) (aNil)) fTup)) (aCons (oFrz (oOp (aCons (oC (.str "0")) (aNil)) fTup)) (aCons (oFrz (o2 (oOp (aCons (oC (.int 0)) (aNil)) fTup) (oC (.int 9)) fMulA)) (aCons (oFrz (oOp (aCons (oC .non) (aNil)) fTup)) (aCons (oFrz (oOp (aCons (oFrz (oOp (aCons (oC (.int 0)) (aNil)) fTup)) (aNil)) fTup)) (aCons (oFrz (oOp (aCons (oC (.int 0)) (aNil)) fLst)) (aNil)))))))))))))) fLst)
abbrev rb10 : SM := sFor (iAnyK (o2 (oVar 14) (oLc (iRange1 (aCons (oC (.int 8)) (aNil))) (gmName 10) (tYesM) (oCall (g__law_bent 20) (aCons (oVar 1) (aCons (oFrz (oCall g__law_pick (aCons (oVar 1) (aCons (oFrz (oVar 8)) (aNil))))) (aNil)))) [10]) fAdd)) (gmName 13) (sIf (tOf (o2 (oLc (iRange1 (aCons (oC (.int 2)) (aNil))) (gmName 15) (tOf (o2 (oCall g__law_refused (aCons (oFrz (oVar 15)) (aCons (oFrz (oVar 5)) (aCons (oFrz (oVar 13)) (aNil))))) (oCall g__law_is_path (aCons (oFrz (oVar 5)) (aCons (oFrz (oVar 13)) (aNil)))) fEqA)) (oVar 15) [15]) (oOp (aNil) fLst) fNeA)) (sRet (oC (.bl false))) (sNil))
abbrev rb11 : SM := sIf (tOf (o2 (oOp (aCons (oFrz (oOp (aCons (oFrz (oVar 3)) (aCons (oFrz (oVar 5)) (aNil))) fLst)) (aNil)) (f1 gRepr)) (oVar 9) fNeA)) (sRet (oC (.bl false))) (sNil)
abbrev roundB : SM := sSeq rb0 (sSeq rb1 (sSeq rb2 (sSeq rb3 (sSeq rb4 (sSeq rb5 (sSeq rb6 (sSeq rb7 (sSeq rb8 (sSeq rb9 (sSeq rb10 (rb11)))))))))))
theorem m_law_eq : m_law = sSeq (sSet 1 (oCall g__law_pot_of (aCons (oFrz (oVar 0)) (aNil)))) (sSeq (sFor (iRange1 (aCons (oC (.int 7)) (aNil))) (gmName 2) roundB) (sRet (oC (.bl true)))) := rfl
end Lw
set_option maxRecDepth 100000
set_option maxHeartbeats 4000000
namespace Lw
open PySem PL
/-! what repr shows -/
structure Shw (n w : Nat) (d : D) (p : PyData) : Prop where
  py : D.pyR d = some p
  sh : p.showable = true
  lf : p.leavesShort 13 = true
  dp : p.depth ≤ n
  wt : p.weight ≤ w
theorem Shw.up {n w n' w' : Nat} {d : D} {p : PyData} (h : Shw n w d p) (hn : n ≤ n') (hw : w ≤ w') : Shw n' w' d p := ⟨h.py, h.sh, h.lf, Nat.le_trans h.dp hn, Nat.le_trans h.wt hw⟩
theorem shw_all : ∀ {ds : List D} {n w : Nat}, (∀ d ∈ ds, ∃ p, Shw n w d p) → ∃ ps, D.pyRs ds = some ps ∧ PyData.showableAll ps = true ∧ PyData.leavesShortAll 13 ps = true ∧ PyData.depthAll ps ≤ n ∧ PyData.weightAll ps ≤ ds.length * (w + 1)
  | [], _, _, _ => ⟨[], rfl, rfl, rfl, Nat.zero_le _, Nat.zero_le _⟩
  | d :: ds, n, w, h => by
    obtain ⟨p, a⟩ := h d List.mem_cons_self
    obtain ⟨ps, b1, b2, b3, b4, b5⟩ := shw_all (ds := ds) fun e m => h e (List.mem_cons_of_mem _ m)
    refine ⟨p :: ps, by simp only [D.pyRs, a.py, b1], by simp only [PyData.showableAll, a.sh, b2, Bool.and_self], by simp only [PyData.leavesShortAll, a.lf, b3, Bool.and_self], ?_, ?_⟩
    · simp only [PyData.depthAll]
      exact Nat.max_le.mpr ⟨a.dp, b4⟩
    · have := a.wt
      simp only [PyData.weightAll, List.length_cons, Nat.succ_mul]
      omega
theorem shw_tup {ds : List D} {n w k : Nat} (h : ∀ d ∈ ds, ∃ p, Shw n w d p) (hk : ds.length ≤ k) : ∃ p, Shw (n + 1) (k * (w + 1)) (.tup ds) p := by
  obtain ⟨ps, b1, b2, b3, b4, b5⟩ := shw_all h
  refine ⟨.tuple ps, by simp only [D.pyR, b1], by simpa only [PyData.showable] using b2, by simpa only [PyData.leavesShort] using b3, by simp only [PyData.depth]; omega, ?_⟩
  have := Nat.mul_le_mul_right (w + 1) hk
  simp only [PyData.weight]
  omega
theorem shw_lst {ds : List D} {n w k : Nat} (h : ∀ d ∈ ds, ∃ p, Shw n w d p) (hk : ds.length ≤ k) : ∃ p, Shw (n + 1) (k * (w + 1)) (.lst ds) p := by
  obtain ⟨ps, b1, b2, b3, b4, b5⟩ := shw_all h
  refine ⟨.list ps, by simp only [D.pyR, b1], by simpa only [PyData.showable] using b2, by simpa only [PyData.leavesShort] using b3, by simp only [PyData.depth]; omega, ?_⟩
  have := Nat.mul_le_mul_right (w + 1) hk
  simp only [PyData.weight]
  omega
theorem shw_str {x : Str} (h : PyData.strOk x = true) (hl : x.length ≤ 20) : ∃ p, Shw 0 20 (.str x) p := by
  refine ⟨.str x, rfl, rfl, PyData.leavesShort_of_canLay0 13 (.str x) h rfl, Nat.le_refl _, ?_⟩
  simp only [PyData.weight]
  exact hl
theorem tag_size : ∀ m < 20, (tagOf m).length ≤ 20 := by decide +kernel
theorem K3_ok : ∀ x ∈ K3, PyData.strOk x = true ∧ x.length ≤ 20 := by decide +kernel
def wtT : Nat → Nat
  | 0 => 20
  | n + 1 => 4 * (wtT n + 1)
theorem wtT_ge : ∀ n, 20 ≤ wtT n
  | 0 => Nat.le_refl _
  | n + 1 => by have := wtT_ge n; simp only [wtT]; omega
theorem Tree.shw : ∀ {n : Nat} {d : D}, Tree n d → ∃ p, Shw n (wtT n) d p := by
  intro n
  induction n with
  | zero => intro d h; obtain ⟨_, _, _, h, _⟩ := h.tup; cases h
  | succ n ih =>
    intro d h
    obtain ⟨m, t, xs, e, rfl, h1, h2, h3⟩ := h.tup
    cases e
    refine shw_tup (n := n) (w := wtT n) (k := 4) (fun e he => ?_) (by simp only [List.length_cons]; omega)
    rcases List.mem_cons.mp he with rfl | he
    · obtain ⟨p, hp⟩ := shw_str (tag_ok t h1) (tag_size t h1)
      exact ⟨p, hp.up (Nat.zero_le _) (wtT_ge n)⟩
    · exact ih (h3 e he)
theorem encV_shw {v : Vn} (h1 : v.1 < 20) (h2 : ∀ k ∈ v.2, k ∈ K3) (h3 : v.2.length ≤ 3) : ∃ p, Shw 2 128 (encV v) p := by
  have a : ∃ p, Shw 1 63 (.tup (v.2.map D.str)) p := shw_tup (n := 0) (w := 20) (k := 3) (fun d hd => by
    obtain ⟨x, hx, rfl⟩ := List.mem_map.mp hd
    have := K3_ok x (h2 x hx)
    exact shw_str this.1 this.2) (by rw [List.length_map]; exact h3)
  refine shw_tup (n := 1) (w := 63) (k := 2) (fun e he => ?_) (by simp)
  rcases List.mem_cons.mp he with rfl | he
  · obtain ⟨p, hp⟩ := shw_str (tag_ok _ h1) (tag_size _ h1)
    exact ⟨p, hp.up (by omega) (by omega)⟩
  · rcases List.mem_cons.mp he with rfl | he
    · exact a
    · cases he
theorem encK_shw {S : Sc} (ok : SchemaOk S) {kv : Str × List Vn} (h : kv ∈ S) : ∃ p, Shw 3 387 (.tup (kv.2.map encV)) p := by
  obtain ⟨⟨m, _, _, hk⟩, n, hn, so⟩ := ok
  have va := so.vars kv h
  refine shw_tup (n := 2) (w := 128) (k := 3) (fun d hd => ?_) (by rw [List.length_map]; exact va.few)
  obtain ⟨v, hv, rfl⟩ := List.mem_map.mp hd
  have t : v.1 ∈ tagsOf S := List.mem_flatMap.mpr ⟨kv, h, List.mem_map.mpr ⟨v, hv, rfl⟩⟩
  refine encV_shw (by have := so.less _ t; omega) (fun k hk' => ?_) (va.kids v hv).2
  have := (va.kids v hv).1 k hk'
  rw [hk] at this
  exact List.mem_of_mem_take this
theorem shw_kv : ∀ {S : Sc}, (∀ kv ∈ S, (kv.1 ∈ K3) ∧ ∃ p, Shw 3 387 (.tup (kv.2.map encV)) p) → ∃ ps, D.pyRk (S.map encK) = some ps ∧ PyData.showableKv ps = true ∧ PyData.leavesShortKv 13 ps = true ∧ PyData.depthKv ps ≤ 3 ∧ PyData.weightKv ps ≤ S.length * 409
  | [], _ => ⟨[], rfl, rfl, rfl, Nat.zero_le _, Nat.zero_le _⟩
  | kv :: S, h => by
    obtain ⟨hk, p, a⟩ := h kv List.mem_cons_self
    obtain ⟨ps, b1, b2, b3, b4, b5⟩ := shw_kv (S := S) fun e m => h e (List.mem_cons_of_mem _ m)
    obtain ⟨k1, k2⟩ := K3_ok _ hk
    have l : PyData.leavesShort 13 (.str kv.1) = true := PyData.leavesShort_of_canLay0 13 (.str kv.1) k1 rfl
    refine ⟨(.str kv.1, p) :: ps, ?_, ?_, ?_, ?_, ?_⟩
    · show D.pyRk ((.inr kv.1, .tup (kv.2.map encV)) :: S.map encK) = _
      simp only [D.pyRk, a.py, b1, kPy]
    · simp only [PyData.showableKv, PyData.showable, a.sh, b2, Bool.and_self]
    · simp only [PyData.leavesShortKv, l, a.lf, b3, Bool.and_self]
    · simp only [PyData.depthKv]
      exact Nat.max_le.mpr ⟨Nat.max_le.mpr ⟨by simp only [PyData.depth]; omega, a.dp⟩, b4⟩
    · have := a.wt
      have k3 : (PyData.str kv.1).weight ≤ 20 := by simp only [PyData.weight]; exact k2
      simp only [PyData.weightKv, List.length_cons, Nat.succ_mul]
      omega
theorem DS_shw {S : Sc} (ok : SchemaOk S) : ∃ p, Shw 4 1227 (DS S) p := by
  have ok' := ok
  obtain ⟨⟨m, _, hm, hk⟩, _⟩ := ok'
  have l : S.length ≤ 3 := by
    have := congrArg List.length hk
    rw [List.length_map, List.length_take] at this
    omega
  obtain ⟨ps, b1, b2, b3, b4, b5⟩ := shw_kv (S := S) fun kv h => ⟨by
    have : kv.1 ∈ S.map (·.1) := List.mem_map.mpr ⟨kv, h, rfl⟩
    rw [hk] at this
    exact List.mem_of_mem_take this, encK_shw ok h⟩
  refine ⟨.dict ps, by simp only [D.pyR, b1], by simpa only [PyData.showable] using b2, by simpa only [PyData.leavesShort] using b3, by simp only [PyData.depth]; omega, ?_⟩
  simp only [PyData.weight]
  omega
theorem repr_of {n w : Nat} {d : D} {p : PyData} (h : Shw n w d p) (hn : n ≤ 100) (hw : w ≤ 2 ^ 20) : f1 gRepr [.dat d] = some (.dat (.str p.shown)) := by
  have z : p.showable = true ∧ p.shown.length ≤ sizeLine ∧ p.depth ≤ 100 := ⟨h.sh, PyData.shown_fits (by decide) (by decide) h.lf (Nat.le_trans h.wt hw), Nat.le_trans h.dp hn⟩
  simp only [f1, gRepr, h.py, z, and_self, if_true]
theorem repr_bl (b : Bool) : ∃ z, f1 gRepr [.dat (.bl b)] = some (.dat (.str z)) := by
  have h : Shw 0 0 (.bl b) (.bool b) := ⟨rfl, rfl, rfl, Nat.le_refl _, Nat.le_refl _⟩
  exact ⟨_, repr_of h (by decide) (by decide)⟩
theorem repr_two {S : Sc} (ok : SchemaOk S) {d : D} (h : Tree 4 d) : ∃ z, f1 gRepr [.dat (.lst [DS S, d])] = some (.dat (.str z)) := by
  obtain ⟨p, hp⟩ := shw_lst (ds := [DS S, d]) (n := 4) (w := 6000) (k := 2) (fun e he => by
    rcases List.mem_cons.mp he with rfl | he
    · obtain ⟨p, hp⟩ := DS_shw ok
      exact ⟨p, hp.up (by omega) (by omega)⟩
    · rcases List.mem_cons.mp he with rfl | he
      · obtain ⟨p, hp⟩ := h.shw
        exact ⟨p, hp.up (by omega) (by simp only [wtT]; omega)⟩
      · cases he) (by simp)
  exact ⟨_, repr_of hp (by omega) (by omega)⟩
end Lw
set_option maxRecDepth 100000
set_option maxHeartbeats 4000000
namespace Lw
open PySem PL
/-! the first steps of a round -/
theorem call_own {g : FM} {i : Nat} {env : LEnv} {p p' lv : LV} (h : env[i]? = some p) (d : Drawn p) (d' : Drawn p') (hg : g [p] = .ret lv [p']) (ok : lv.ok = true) : oCall g (aCons (oVar i) aNil) env = .val (.tmp lv) (env.set i p') := by
  simp [oCall, aCons, aNil, var_of h d.ok, gets, Rf.get, h, d.ok, ownVars, own_getD h, d.own, hg, okBack, ok, wb, d'.own]
theorem call_drawS {g : FM} {i : Nat} {env env1 : LEnv} {p p' : LV} {m1 m2 m3 : OM} {a b c r : D} (h : env[i]? = some p) (h1 : env1[i]? = some p) (d : Drawn p) (d' : Drawn p') (q1 : m1 env = .val (.tmp (.dat a)) env1) (q2 : m2 env1 = .val (.tmp (.dat b)) env1) (q3 : m3 env1 = .val (.tmp (.dat c)) env1) (hg : g [p, .dat a, .dat b, .dat c] = .ret (.dat r) [p', .dat a, .dat b, .dat c]) :
    oCall g (aCons (oVar i) (aCons m1 (aCons m2 (aCons m3 aNil)))) env = .val (.tmp (.dat r)) (env1.set i p') := by
  simp [oCall, aCons, aNil, var_of h d.ok, q1, q2, q3, gets, Rf.get, h1, d.ok, ownVars, own_getD h1, d.own, hg, okBack, dat_ok, dat_own, wb, d'.own]
theorem call_bentS {g : FM} {i : Nat} {env env1 : LEnv} {p p' p1 : LV} {m1 : OM} {a d' : D} {lv : LV} (h : env[i]? = some p) (h1 : env1[i]? = some p1) (d : Drawn p) (d1 : Drawn p1) (dr : Drawn p') (q1 : m1 env = .val (.tmp (.dat a)) env1) (hg : g [p1, .dat a] = .ret lv [p', .dat a]) (ok : lv.ok = true) (hf : lv.frz = some d') :
    oFrz (oCall g (aCons (oVar i) (aCons m1 aNil))) env = .val (.tmp (.dat d')) (env1.set i p') := by
  have : oCall g (aCons (oVar i) (aCons m1 aNil)) env = .val (.tmp lv) (env1.set i p') := by
    simp [oCall, aCons, aNil, var_of h d.ok, q1, gets, Rf.get, h1, d1.ok, ownVars, own_getD h1, d1.own, hg, okBack, ok, dat_ok, dat_own, wb, dr.own]
  simp only [oFrz, this, hf]
theorem frz_md {i : Nat} {env : LEnv} {kvs : List (L2.Key × D)} (h : env[i]? = some (.md kvs)) : oFrz (oVar i) env = .val (.tmp (.dat (.dic kvs))) (env.set i (.dat (.dic kvs))) := by
  have v := var_of h rfl
  simp only [oFrz, v, h, LV.frz]
theorem keys_of (S : Sc) : (S.map encK).map (fun kv => dKey kv.1) = (S.map (·.1)).map .str := by
  simp only [List.map_map]
  rfl
theorem list_md {i : Nat} {env : LEnv} {S : Sc} (h : env[i]? = some (.md (S.map encK))) : oFrz (oOp (aCons (oVar i) aNil) fListA) env = .val (.tmp (.dat (.lst ((S.map (·.1)).map .str)))) env := by
  have v := var_of h rfl
  have g := var_get h rfl
  have f : fListA [.md (S.map encK)] = some (.ml ((S.map (·.1)).map .str)) := by
    rw [← keys_of]
    simp [fListA, fOr, fList, f1, gList, gListK, LV.dicK]
  simp only [oFrz, oOp, aCons, v, aNil, gets, g, f, ml_ok, if_true, LV.frz]
structure Rnd (K : List Str) (S : Sc) (n : Nat) : Prop where
  sok : SchemaOk S
  ok : SchOk K S n
  hn : n ≤ 20
  nd : (S.map (·.1)).Nodup
  hK : S.map (·.1) = K
  ne : K ≠ []
theorem rnd_of {S : Sc} (h : SchemaOk S) : ∃ K n, Rnd K S n := by
  obtain ⟨⟨m, h1, h3, hk⟩, n, hn, so⟩ := id h
  refine ⟨S.map (·.1), n, h, so, by omega, ?_, rfl, ?_⟩
  · rw [hk]
    exact (List.take_sublist _ _).nodup K3_nodup
  · rw [hk]
    obtain ⟨m', rfl⟩ : ∃ m', m = m' + 1 := ⟨m - 1, by omega⟩
    simp [K3]
theorem st0 (s p a2 a3 a4 a5 a6 a7 a8 a9 a10 a11 a12 a13 a14 : LV) (hp : Drawn p) : ∃ S p', rb0 [s, p, a2, a3, a4, a5, a6, a7, a8, a9, a10, a11, a12, a13, a14, .un] = .nx [s, p', a2, .md (S.map encK), a4, a5, a6, a7, a8, a9, a10, a11, a12, a13, a14, .un] ∧ Drawn p' ∧ SchemaOk S := by
  obtain ⟨S, p', e, d', ok⟩ := full_schema p hp
  exact ⟨S, p', set_val (i := 3) (call_own (i := 1) (env := [s, p, a2, a3, a4, a5, a6, a7, a8, a9, a10, a11, a12, a13, a14, .un]) rfl hp d' e md_ok), d', ok⟩
theorem st1 {S : Sc} {K : List Str} {n : Nat} (R : Rnd K S n) (s p a2 a4 a5 a6 a7 a8 a9 a10 a11 a12 a13 a14 : LV) (hp : Drawn p) : ∃ k p', rb1 [s, p, a2, .md (S.map encK), a4, a5, a6, a7, a8, a9, a10, a11, a12, a13, a14, .un] = .nx [s, p', a2, .md (S.map encK), .dat (.str k), a5, a6, a7, a8, a9, a10, a11, a12, a13, a14, .un] ∧ Drawn p' ∧ k ∈ K := by
  have l := list_md (i := 3) (env := [s, p, a2, .md (S.map encK), a4, a5, a6, a7, a8, a9, a10, a11, a12, a13, a14, .un]) rfl
  obtain ⟨⟨m, h1, h3, hk⟩, _⟩ := R.sok
  have ll : (S.map (·.1)).length ≤ 3 := by rw [hk, List.length_take]; omega
  obtain ⟨y, p', e, hy, d'⟩ := call_pick' (i := 1) rfl rfl hp l (by rw [R.hK]; simpa using R.ne) (by rw [List.length_map]; omega)
  obtain ⟨k, hkk, rfl⟩ := List.mem_map.mp hy
  rw [R.hK] at hkk
  exact ⟨k, p', set_val (i := 4) e, d', hkk⟩
theorem st2 {S : Sc} {K : List Str} {n : Nat} (R : Rnd K S n) {k : Str} (hk : k ∈ K) (s p a2 a5 a6 a7 a8 a9 a10 a11 a12 a13 a14 : LV) (hp : Drawn p) : ∃ t o p', rb2 [s, p, a2, .md (S.map encK), .dat (.str k), a5, a6, a7, a8, a9, a10, a11, a12, a13, a14, .un] = .nx [s, p', a2, .dat (DS S), .dat (.str k), .dat t, .dat o, a7, a8, a9, a10, a11, a12, a13, a14, .un] ∧ Drawn p' ∧ Tree 4 t ∧ Tree 3 o := by
  obtain ⟨t, p1, g1, d1, h1⟩ := some_tree_spec R.ok R.hn R.nd R.hK 20 3 (by omega) p k hp hk
  obtain ⟨o, p2, g2, d2, h2⟩ := some_tree_spec R.ok R.hn R.nd R.hK 20 2 (by omega) p1 k d1 hk
  have c1 := call_drawS (i := 1) (m2 := oFrz (oVar 4)) (m3 := oC (.int 4)) (env := [s, p, a2, .md (S.map encK), .dat (.str k), a5, a6, a7, a8, a9, a10, a11, a12, a13, a14, .un]) (env1 := [s, p, a2, .dat (DS S), .dat (.str k), a5, a6, a7, a8, a9, a10, a11, a12, a13, a14, .un]) rfl rfl hp d1 (frz_md (i := 3) rfl) (frz_var (i := 4) rfl) rfl g1
  have c2 := call_drawS (i := 1) (m1 := oFrz (oVar 3)) (m2 := oFrz (oVar 4)) (m3 := oC (.int 3)) (env := [s, p1, a2, .dat (DS S), .dat (.str k), a5, a6, a7, a8, a9, a10, a11, a12, a13, a14, .un]) rfl rfl d1 d2 (frz_var (i := 3) rfl) (frz_var (i := 4) rfl) rfl g2
  exact ⟨t, o, p2, par2_val (i := 5) (j := 6) c1 c2, d2, h1, h2⟩
def startD (t x : D) (xs : List D) : List D := [t, .non, .tup [], .tup [.str "t0"], .tup [x], .lst (x :: xs), .str "t0"]
theorem st3 (s p a2 a3 a4 a6 a7 a8 a9 a10 a11 a12 a13 a14 : LV) {t x : D} {xs : List D} (h : Tree 4 t) (e : t = .tup (x :: xs)) : rb3 [s, p, a2, a3, a4, .dat t, a6, a7, a8, a9, a10, a11, a12, a13, a14, .un] = .nx [s, p, a2, a3, a4, .dat t, a6, .ml (startD t x xs), .ml (pathsD 4 t), a9, a10, a11, a12, a13, a14, .un] := by
  have v5 := frz_var (i := 5) (env := [s, p, a2, a3, a4, .dat t, a6, a7, a8, a9, a10, a11, a12, a13, a14, .un]) (d := t) rfl
  have x4 : oFrz (oSl (oVar 5) (pNone) (pSome (oC (.int 1))) slA) [s, p, a2, a3, a4, .dat t, a6, a7, a8, a9, a10, a11, a12, a13, a14, .un] = .val (.tmp (.dat (.tup [x]))) [s, p, a2, a3, a4, .dat t, a6, a7, a8, a9, a10, a11, a12, a13, a14, .un] := by
    apply frz_tmp
    subst e
    have v := var_of (i := 5) (env := [s, p, a2, a3, a4, .dat (.tup (x :: xs)), a6, a7, a8, a9, a10, a11, a12, a13, a14, .un]) (lv := .dat (.tup (x :: xs))) rfl rfl
    have g := var_get (i := 5) (env := [s, p, a2, a3, a4, .dat (.tup (x :: xs)), a6, a7, a8, a9, a10, a11, a12, a13, a14, .un]) (lv := .dat (.tup (x :: xs))) rfl rfl
    have ps : pSome (oC (.int 1)) [s, p, a2, a3, a4, .dat (.tup (x :: xs)), a6, a7, a8, a9, a10, a11, a12, a13, a14, .un] = .val (some ((1 : Nat) : Int)) [s, p, a2, a3, a4, .dat (.tup (x :: xs)), a6, a7, a8, a9, a10, a11, a12, a13, a14, .un] := rfl
    have ct := cut_to (x :: xs) 1
    simp only [oSl, v, pNone, ps, g, sl_tup, ct, dat_ok, if_true]
    rfl
  have x5 : oFrz (oOp (aCons (oVar 5) (aNil)) fListA) [s, p, a2, a3, a4, .dat t, a6, a7, a8, a9, a10, a11, a12, a13, a14, .un] = .val (.tmp (.dat (.lst (x :: xs)))) [s, p, a2, a3, a4, .dat t, a6, a7, a8, a9, a10, a11, a12, a13, a14, .un] := frz_ml (list_val (i := 5) (d := t) rfl (by rw [e]; rfl))
  have t0 : oFrz (oOp (aCons (oC (.str "t0")) (aNil)) fTup) [s, p, a2, a3, a4, .dat t, a6, a7, a8, a9, a10, a11, a12, a13, a14, .un] = .val (.tmp (.dat (.tup [.str "t0"]))) [s, p, a2, a3, a4, .dat t, a6, a7, a8, a9, a10, a11, a12, a13, a14, .un] := frz_tmp ((aOk.cons rfl aOk.nil).tup (by simp))
  have dsp := (aOk.cons v5 (aOk.cons (m := oC .non) rfl (aOk.cons (tup0 _) (aOk.cons t0 (aOk.cons x4 (aOk.cons x5 (aOk.cons (m := oC (.str "t0")) rfl aOk.nil))))))).lst (by simp)
  have pl := call1m (e := [s, p, a2, a3, a4, .dat t, a6, a7, a8, a9, a10, a11, a12, a13, a14, .un]) v5 (paths_law 20 4 t h (by omega) (by omega))
  exact par2_val (i := 7) (j := 8) dsp pl
theorem st4 {S : Sc} (ok : SchemaOk S) {t : D} (h : Tree 4 t) : ∃ z, (∀ env : LEnv, env[3]? = some (.dat (DS S)) → env[5]? = some (.dat t) → oOp (aCons (oFrz (oOp (aCons (oFrz (oVar 3)) (aCons (oFrz (oVar 5)) (aNil))) fLst)) (aNil)) (f1 gRepr) env = .val (.tmp (.dat (.str z))) env) := by
  obtain ⟨z, hz⟩ := repr_two ok h
  refine ⟨z, fun env h3 h5 => ?_⟩
  exact aOk.op (frz_ml ((aOk.cons (frz_var h3) (aOk.cons (frz_var h5) aOk.nil)).lst (by simp))) hz
end Lw
set_option maxRecDepth 100000
set_option maxHeartbeats 4000000
namespace Lw
open PySem PL
/-! the things -/
theorem ix_last {ds : List D} {x : D} : fIxA [.ml (ds ++ [x]), li (-1)] = some (.dat x) := by
  have a : L2.atI (ds ++ [x]) (-1) = some x := by
    have e : L2.ixN (ds ++ [x]).length (-1) = some ds.length := by
      unfold L2.ixN
      rw [if_neg (by decide), if_pos (by simp only [List.length_append, List.length_singleton]; omega)]
      congr 1
      simp only [List.length_append, List.length_singleton]
      omega
    unfold L2.atI
    rw [e]
    simp
  simp [fIxA, fOr, fIx, fIxL, f2, gIxL, LV.items, a]
abbrev bentE : OM := oFrz (oCall (g__law_bent 20) (aCons (oVar 1) (aCons (oFrz (oCall g__law_pick (aCons (oVar 1) (aCons (oFrz (oOp (aCons (oFrz (oVar 5)) (aCons (oFrz (o2 (oVar 7) (o1 (oC (.int 1)) fNegI) fIxA)) (aNil))) fLst)) (aNil))))) (aNil))))
theorem neg_val (k : Int) (e : LEnv) : o1 (oC (.int k)) fNegI e = .val (.tmp (li (-k))) e := by
  have f : fNegI [li k] = some (li (-k)) := rfl
  simp only [o1, oOp, aCons, oC, aNil, gets, tmp_get dat_ok, f, dat_ok, if_true]
theorem bent_step (s p a2 a3 a4 a6 a8 a9 a10 a11 a12 a13 a14 : LV) {t x : D} {ts : List D} {w m : Nat} (hp : Drawn p) (hw : 2 ≤ w) (hw2 : w < 1000) (hm : m < 20) (ht : Thin w m t) (hx : Thin w m x) :
    ∃ d p', bentE [s, p, a2, a3, a4, .dat t, a6, .ml (ts ++ [x]), a8, a9, a10, a11, a12, a13, a14, .un] = .val (.tmp (.dat d)) [s, p', a2, a3, a4, .dat t, a6, .ml (ts ++ [x]), a8, a9, a10, a11, a12, a13, a14, .un] ∧ Drawn p' ∧ Thin (w + 1) (m + 2) d := by
  have v5 := frz_var (i := 5) (env := [s, p, a2, a3, a4, .dat t, a6, .ml (ts ++ [x]), a8, a9, a10, a11, a12, a13, a14, .un]) (d := t) rfl
  have l7 := op_v1 (i := 7) (e := [s, p, a2, a3, a4, .dat t, a6, .ml (ts ++ [x]), a8, a9, a10, a11, a12, a13, a14, .un]) rfl (neg_val 1 _) rfl rfl (ix_last (ds := ts) (x := x))
  have dsp := frz_ml ((aOk.cons v5 (aOk.cons (frz_tmp l7) aOk.nil)).lst (by simp))
  obtain ⟨y, p1, e1, hy, d1⟩ := call_pick' (i := 1) rfl rfl hp dsp (by simp) (by simp)
  have e2 := frz_dat e1
  have hty : Thin w m y := by
    rcases List.mem_cons.mp hy with rfl | hy
    · exact ht
    · rcases List.mem_cons.mp hy with rfl | hy
      · exact hx
      · cases hy
  obtain ⟨lv, d, p', g, ok, hf, d', th⟩ := bent_spec hw hw2 20 m hm p1 y d1 hty
  exact ⟨d, p', call_bentS (i := 1) (env := [s, p, a2, a3, a4, .dat t, a6, .ml (ts ++ [x]), a8, a9, a10, a11, a12, a13, a14, .un]) (env1 := [s, p1, a2, a3, a4, .dat t, a6, .ml (ts ++ [x]), a8, a9, a10, a11, a12, a13, a14, .un]) rfl rfl hp d1 d' e2 g ok hf, d', th⟩
structure ThOk (i : Nat) (ts : List D) : Prop where
  ne : ts ≠ []
  len : ts.length = 7 + i
  thin : ∀ e ∈ ts, Thin (5 + i) (5 + 2 * i) e
theorem start_ok {t x : D} {xs : List D} (h : Tree 4 t) (e : t = .tup (x :: xs)) : ThOk 0 (startD t x xs) := by
  obtain ⟨m, g, ys, e1, e2, h1, h2, h3⟩ := h.tup
  have e3 : D.tup (x :: xs) = .tup (.str (tagOf g) :: ys) := e.symm.trans e2
  have e4 : x = .str (tagOf g) ∧ xs = ys := by
    injection e3 with e3
    exact List.cons.inj e3
  obtain ⟨rfl, rfl⟩ := e4
  have q0 : PyData.strOk ("t0" : Str) = true := by decide +kernel
  have q1 := tag_ok g h1
  refine ⟨by simp [startD], rfl, fun d hd => ?_⟩
  simp only [startD, List.mem_cons, List.not_mem_nil, or_false] at hd
  rcases hd with rfl | rfl | rfl | rfl | rfl | rfl | rfl
  · exact h.thin (by decide)
  · trivial
  · exact ⟨by simp, by simp⟩
  · exact ⟨by simp, fun z hz => by have e : z = .str "t0" := (by simpa using hz); subst e; exact q0⟩
  · exact ⟨by simp, fun z hz => by have e : z = .str (tagOf g) := (by simpa using hz); subst e; exact q1⟩
  · refine ⟨by simp only [List.length_cons]; omega, fun z hz => ?_⟩
    rcases List.mem_cons.mp hz with rfl | hz
    · exact q1
    · obtain rfl : m = 3 := by omega
      exact Thin.up (Nat.le_refl _) (Nat.le_refl _) ((h3 z hz).thin (w := 5) (by decide))
  · exact q0
theorem ThOk.last {i : Nat} {ts : List D} (h : ThOk i ts) : ∃ us x, ts = us ++ [x] := ⟨_, _, (List.dropLast_concat_getLast h.ne).symm⟩
theorem ThOk.step {i : Nat} {ts : List D} {d : D} (h : ThOk i ts) (hd : Thin (5 + i + 1) (5 + 2 * i + 2) d) : ThOk (i + 1) (ts ++ [d]) := by
  refine ⟨by simp, by rw [List.length_append, h.len, List.length_singleton]; omega, fun e he => ?_⟩
  rcases List.mem_append.mp he with he | he
  · exact Thin.up (by omega) (by omega) (h.thin e he)
  · have : e = d := by simpa using he
    subst this
    exact Thin.up (by omega) (by omega) hd
theorem st5 (s p a2 a3 a4 a6 a8 a9 a10 a11 a12 a13 a14 : LV) {t x : D} {xs : List D} (h : Tree 4 t) (e : t = .tup (x :: xs)) (hp : Drawn p) : ∃ p' a10' ts, rb5 [s, p, a2, a3, a4, .dat t, a6, .ml (startD t x xs), a8, a9, a10, a11, a12, a13, a14, .un] = .nx [s, p', a2, a3, a4, .dat t, a6, .ml ts, a8, a9, a10', a11, a12, a13, a14, .un] ∧ Drawn p' ∧ ThOk 6 ts := by
  have r := range_val (m := oC (.int 6)) (k := 6) (e1 := [s, p, a2, a3, a4, .dat t, a6, .ml (startD t x xs), a8, a9, a10, a11, a12, a13, a14, .un]) rfl (by decide)
  obtain ⟨env', h1, p', a10', ts, rfl, d', ok⟩ := forD_pre (g := gmName 10) (n := sExpr (oMu "list" (oVar 7) (aCons bentE (aNil)) mAppend)) (fun pre env => ∃ p' a10' ts, env = [s, p', a2, a3, a4, .dat t, a6, .ml ts, a8, a9, a10', a11, a12, a13, a14, .un] ∧ Drawn p' ∧ ThOk pre.length ts) (rangeD 0 6)
    (fun pre z suf e0 hx ⟨p1, b10, ts, he, d1, ok⟩ => by
      subst he
      have hl : pre.length + 1 ≤ 6 := by
        have := congrArg List.length hx
        rw [rangeD_len] at this
        simp at this
        omega
      obtain ⟨us, y, rfl⟩ := ok.last
      obtain ⟨d, p2, e2, d2, th⟩ := bent_step s p1 a2 a3 a4 a6 a8 a9 (.dat z) a11 a12 a13 a14 (ts := us) d1 (w := 5 + pre.length) (m := 5 + 2 * pre.length) (by omega) (by omega) (by omega) (Thin.up (by omega) (by omega) (h.thin (w := 5) (by decide))) (ok.thin y (List.mem_append_right _ List.mem_cons_self))
      have mu := mu_append (i := 7) (env := [s, p1, a2, a3, a4, .dat t, a6, .ml (us ++ [y]), a8, a9, .dat z, a11, a12, a13, a14, .un]) rfl (args1 e2) rfl (by rw [ok.len, sizeLine_eq]; omega)
      refine ⟨[s, p1, a2, a3, a4, .dat t, a6, .ml (us ++ [y]), a8, a9, .dat z, a11, a12, a13, a14, .un], _, rfl, .inl mu, p2, .dat z, _, rfl, d2, ?_⟩
      rw [List.length_append, List.length_singleton]
      exact ok.step th) (rangeD 0 6) [] [s, p, a2, a3, a4, .dat t, a6, .ml (startD t x xs), a8, a9, a10, a11, a12, a13, a14, .un] ⟨p, a10, _, rfl, hp, start_ok h e⟩ rfl
  rw [rangeD_len] at ok
  exact ⟨p', a10', ts, (for_val r).trans h1, d', ok⟩
end Lw
set_option maxRecDepth 100000
set_option maxHeartbeats 4000000
namespace Lw
open PySem PL
/-! the checks of a round -/
theorem walk_dic {i : Nat} {env : LEnv} {kvs : List (L2.Key × D)} (h : env[i]? = some (.dat (.dic kvs))) : iAnyK (oVar i) env = .val (keysL kvs) env := by
  simp only [iAnyK, iOr, iSeq, iTp, frz_var h, iDic]
theorem keysL_of (S : Sc) : keysL (S.map encK) = (S.map (·.1)).map .str := keys_of S
abbrev treeT : TM := tOf (o2 (oOp (aCons (oFrz (oCall (g_is_tree 20) (aCons (oFrz (oVar 3)) (aCons (oFrz (oVar 12)) (aCons (oFrz (oVar 11)) (aNil)))))) (aNil)) (f1 gRepr)) (oOp (aCons (oFrz (oCall (g__law_is_tree 20) (aCons (oFrz (oVar 3)) (aCons (oFrz (oVar 12)) (aCons (oFrz (oVar 11)) (aNil)))))) (aNil)) (f1 gRepr)) fNeA)
theorem tree_test {S : Sc} {K : List Str} {n : Nat} (R : Rnd K S n) {env : LEnv} {k : Str} {d : D} (hk : k ∈ K) (hd : Fine 17 d) (h3 : env[3]? = some (.dat (DS S))) (h12 : env[12]? = some (.dat (.str k))) (h11 : env[11]? = some (.dat d)) : treeT env = .val false env := by
  have c1 := frz_tmp (call3 (frz_var h3) (frz_var h12) (frz_var h11) (is_tree_spec R.ok R.hn 20 17 k d hd (by omega)))
  have c2 := frz_tmp (call3 (frz_var h3) (frz_var h12) (frz_var h11) (law_is_tree_spec R.ok R.hn R.nd R.hK 20 17 k d hk hd (by omega)))
  obtain ⟨z, hz⟩ := repr_bl (isT S 20 k d)
  have o := op_val (aOk.op c1 hz) (aOk.op c2 hz) rfl rfl (ne_str z z)
  have e : (!decide (z = z)) = false := by simp
  rw [e] at o
  exact of_val o
theorem st6 {S : Sc} {K : List Str} {n : Nat} (R : Rnd K S n) (s p a2 a4 a5 a6 a8 a9 a10 a11 a12 a13 a14 : LV) {ts : List D} (ok : ThOk 6 ts) : ∃ a7' a11' a12', rb6 [s, p, a2, .dat (DS S), a4, a5, a6, .ml ts, a8, a9, a10, a11, a12, a13, a14, .un] = .nx [s, p, a2, .dat (DS S), a4, a5, a6, a7', a8, a9, a10, a11', a12', a13, a14, .un] := by
  have w := walk_own (i := 7) (env := [s, p, a2, .dat (DS S), a4, a5, a6, .ml ts, a8, a9, a10, a11, a12, a13, a14, .un]) (ds := ts) rfl
  obtain ⟨env', h1, a11', a12', rfl⟩ := forD_keep (g := gmName 11) (n := sFor (iAnyK (oVar 3)) (gmName 12) (sIf treeT (sRet (oC (.bl false))) (sNil))) (fun _ env => ∃ a11' a12', env = [s, p, a2, .dat (DS S), a4, a5, a6, .dat (.lst ts), a8, a9, a10, a11', a12', a13, a14, .un]) ts [] [s, p, a2, .dat (DS S), a4, a5, a6, .dat (.lst ts), a8, a9, a10, a11, a12, a13, a14, .un] ⟨a11, a12, rfl⟩ (fun _ d e hd ⟨b11, b12, he⟩ => by
    subst he
    have wd := walk_dic (i := 3) (env := [s, p, a2, .dat (DS S), a4, a5, a6, .dat (.lst ts), a8, a9, a10, .dat d, b12, a13, a14, .un]) (kvs := S.map encK) rfl
    obtain ⟨env'', h2, c12, rfl⟩ := forD_keep (g := gmName 12) (n := sIf treeT (sRet (oC (.bl false))) (sNil)) (fun _ env => ∃ c12, env = [s, p, a2, .dat (DS S), a4, a5, a6, .dat (.lst ts), a8, a9, a10, .dat d, c12, a13, a14, .un]) (keysL (S.map encK)) [] [s, p, a2, .dat (DS S), a4, a5, a6, .dat (.lst ts), a8, a9, a10, .dat d, b12, a13, a14, .un] ⟨b12, rfl⟩ (fun _ y e hy ⟨c12, he⟩ => by
      subst he
      rw [keysL_of] at hy
      obtain ⟨k, hk, rfl⟩ := List.mem_map.mp hy
      rw [R.hK] at hk
      exact ⟨[s, p, a2, .dat (DS S), a4, a5, a6, .dat (.lst ts), a8, a9, a10, .dat d, .dat (.str k), a13, a14, .un], _, rfl, .inl (if_n (tree_test R hk ((ok.thin d hd).fine) rfl rfl rfl)), .dat (.str k), rfl⟩)
    exact ⟨[s, p, a2, .dat (DS S), a4, a5, a6, .dat (.lst ts), a8, a9, a10, .dat d, b12, a13, a14, .un], _, rfl, .inl ((for_val wd).trans h2), .dat d, c12, rfl⟩)
  exact ⟨_, a11', a12', (for_val w).trans h1⟩
theorem st7 (s p a2 a3 a4 a6 a7 a9 a10 a11 a12 a13 a14 : LV) {t : D} (h : Tree 4 t) : rb7 [s, p, a2, a3, a4, .dat t, a6, a7, .ml (pathsD 4 t), a9, a10, a11, a12, a13, a14, .un] = .nx [s, p, a2, a3, a4, .dat t, a6, a7, .ml (pathsD 4 t), a9, a10, a11, a12, a13, a14, .un] := by
  have v5 := frz_var (i := 5) (env := [s, p, a2, a3, a4, .dat t, a6, a7, .ml (pathsD 4 t), a9, a10, a11, a12, a13, a14, .un]) (d := t) rfl
  have z := size_spec 20 4 t h (by omega)
  have z1 : g_size_of 20 [.dat t] = .ret (li (szT 4 t)) [.dat t] := by rw [size_eq]; exact z
  have o1 := op_val (call1 v5 z1) (call1 v5 z) rfl rfl (ne_int _ _)
  have e1 : (!decide (szT 4 t = szT 4 t)) = false := by simp
  rw [e1] at o1
  obtain ⟨p1, hp1⟩ := cmp_lst (n := 1) fun y hy => (paths_isP h hy).cmp
  have pl := call1m v5 (paths_spec 20 4 t h (by omega) (by omega))
  have o2 := op_val2 (j := 8) pl rfl rfl rfl (ne_sameL hp1 (by omega))
  exact if_n ((or_f (of_val o1)).trans (of_val o2))
theorem cut_mem {ds : List D} {lo hi : Option Int} {d : D} (h : d ∈ cutD ds lo hi) : d ∈ ds := by
  unfold cutD at h
  exact List.mem_of_mem_drop (List.mem_of_mem_take h)
theorem cut_len (ds : List D) (lo hi : Option Int) : (cutD ds lo hi).length ≤ ds.length := by
  unfold cutD
  rw [List.length_take, List.length_drop]
  omega
theorem putT_tree : ∀ {q : List D} {m j : Nat} {d r v : D}, Tree m d → Tree j v → partT d q = some r → Tree (m + j) (putT v d q)
  | [], m, j, d, r, v, h, hv, _ => by
    have e : putT v d [] = v := by cases d <;> rfl
    rw [e]
    clear h
    induction m with
    | zero => rw [Nat.zero_add]; exact hv
    | succ m ih => rw [Nat.succ_add]; exact ih.up
  | y :: q, m, j, d, r, v, h, hv, hp => by
    obtain ⟨m', t, xs, rfl, rfl, h1, h2, h3⟩ := h.tup
    obtain ⟨t', xs', k, x, e, rfl, hx, hT, hp'⟩ := partT_cons h hp
    have e1 : tagOf t = tagOf t' ∧ xs = xs' := by
      injection e with e
      have e2 := List.cons.inj e
      exact ⟨D.str.inj e2.1, e2.2⟩
    obtain ⟨e3, rfl⟩ := e1
    rw [e, putT_cons hx]
    have up : ∀ {z : D} {a : Nat}, Tree a z → ∀ b, Tree (a + b) z := fun {z a} hz b => by
      induction b with
      | zero => exact hz
      | succ b ih => exact ih.up
    have rcc := putT_tree hT hv hp'
    rw [Nat.succ_add, List.set_cons_succ]
    refine ⟨⟨t, h1, e3.symm⟩, by rw [List.length_set]; exact h2, fun e he => ?_⟩
    rcases List.mem_or_eq_of_mem_set he with he | rfl
    · exact up (h3 e he) j
    · exact rcc
end Lw
set_option maxRecDepth 100000
set_option maxHeartbeats 4000000
namespace Lw
open PySem PL
/-! parts that are there -/
theorem op_ml3 {m1 m2 : OM} {x y : LV} {ds : List D} {f : List LV → Option LV} {e1 e2 e3 : LEnv} (q1 : m1 e1 = .val (.tmp x) e2) (q2 : m2 e2 = .val (.tmp y) e3) (k1 : x.ok = true) (k2 : y.ok = true) (h : f [x, y] = some (.ml ds)) : o2 m1 m2 f e1 = .val (.tmp (.ml ds)) e3 := by
  simp only [o2, oOp, aCons, q1, q2, aNil, gets, tmp_get k1, tmp_get k2, h, ml_ok, if_true]
theorem op_mlv {i : Nat} {m2 : OM} {x y : LV} {ds : List D} {f : List LV → Option LV} {e1 e3 : LEnv} (h1 : e1[i]? = some x) (h3 : e3[i]? = some x) (q2 : m2 e1 = .val (.tmp y) e3) (k1 : x.ok = true) (k2 : y.ok = true) (h : f [x, y] = some (.ml ds)) : o2 (oVar i) m2 f e1 = .val (.tmp (.ml ds)) e3 := by
  have v := var_of h1 k1
  have g := var_get h3 k1
  simp only [o2, oOp, aCons, v, q2, aNil, gets, g, tmp_get k2, h, ml_ok, if_true]
theorem walk_ml' {m : OM} {e1 e2 : LEnv} {ds : List D} (h : m e1 = .val (.tmp (.ml ds)) e2) : iAnyK m e1 = .val ds e2 := by
  have f : oFrz m e1 = .val (.tmp (.dat (.lst ds))) e2 := by simp only [oFrz, h, LV.frz]
  simp only [iAnyK, iOr, iSeq, f]
theorem cut_val {i : Nat} {env : LEnv} {ds : List D} {lo hi : PM} {l h : Option Int} (v : env[i]? = some (.ml ds)) (hl : lo env = .val l env) (hh : hi env = .val h env) : oSl (oVar i) lo hi slA env = .val (.tmp (.ml (cutD ds l h))) env := by
  have v1 := var_of v rfl
  have g := var_get v rfl
  simp only [oSl, v1, hl, hh, g, sl_ml, ml_ok, if_true]
abbrev partT2 : TM := tmOr (tOf (o2 (oCall g_part_at (aCons (oFrz (oVar 5)) (aCons (oFrz (oVar 13)) (aNil)))) (oCall g__law_at (aCons (oFrz (oVar 5)) (aCons (oFrz (oVar 13)) (aNil)))) fNeA)) (tOf (o2 (oCall (g_put_at 20) (aCons (oFrz (oVar 5)) (aCons (oFrz (oVar 13)) (aCons (oFrz (oVar 6)) (aNil))))) (oCall (g__law_with 20) (aCons (oFrz (oVar 5)) (aCons (oFrz (oVar 13)) (aCons (oFrz (oVar 6)) (aNil))))) fNeA))
theorem part_test {t o y : D} {env : LEnv} (ht : Tree 4 t) (ho : Tree 3 o) (hy : y ∈ pathsD 4 t) (h5 : env[5]? = some (.dat t)) (h6 : env[6]? = some (.dat o)) (h13 : env[13]? = some (.dat y)) : partT2 env = .val false env := by
  obtain ⟨q, r, rfl, hp, hr⟩ := path_part ht hy
  have fq : Fine 1 (.tup q) := part_ints ht hp
  have ql := partT_len ht hp
  have pa := part_at_spec ht fq
  have pe : partA t (.tup q) = some r := hp
  rw [pe] at pa
  obtain ⟨pr, cr⟩ := hr.cmp
  have o1 := op_val (call2 (frz_var h5) (frz_var h13) pa) (call2 (frz_var h5) (frz_var h13) (law_at_spec hp)) rfl rfl (ne_same cr (by omega))
  obtain ⟨pw, cw⟩ := (putT_tree ht ho hp).cmp
  have o2 := op_val (call3 (frz_var h5) (frz_var h13) (frz_var h6) (put_some 20 4 t r o q ht hp (by omega))) (call3 (frz_var h5) (frz_var h13) (frz_var h6) (with_spec 20 4 t r o q ht hp (by omega))) rfl rfl (ne_same cw (by omega))
  exact (or_f (of_val o1)).trans (of_val o2)
theorem st8 (s p a2 a3 a4 a7 a9 a10 a11 a12 a13 a14 : LV) {t o : D} (h : Tree 4 t) (ho : Tree 3 o) : ∃ a13', rb8 [s, p, a2, a3, a4, .dat t, .dat o, a7, .ml (pathsD 4 t), a9, a10, a11, a12, a13, a14, .un] = .nx [s, p, a2, a3, a4, .dat t, .dat o, a7, .ml (pathsD 4 t), a9, a10, a11, a12, a13', a14, .un] := by
  have pl := paths_len h
  have p6 : pSome (oC (.int 6)) [s, p, a2, a3, a4, .dat t, .dat o, a7, .ml (pathsD 4 t), a9, a10, a11, a12, a13, a14, .un] = .val (some 6) [s, p, a2, a3, a4, .dat t, .dat o, a7, .ml (pathsD 4 t), a9, a10, a11, a12, a13, a14, .un] := rfl
  have p4 : pSome (o1 (oC (.int 4)) fNegI) [s, p, a2, a3, a4, .dat t, .dat o, a7, .ml (pathsD 4 t), a9, a10, a11, a12, a13, a14, .un] = .val (some (-4)) [s, p, a2, a3, a4, .dat t, .dat o, a7, .ml (pathsD 4 t), a9, a10, a11, a12, a13, a14, .un] := by
    have := neg_val 4 [s, p, a2, a3, a4, .dat t, .dat o, a7, .ml (pathsD 4 t), a9, a10, a11, a12, a13, a14, .un]
    simp only [pSome, this, tmp_get dat_ok]
  have c1 := cut_val (i := 8) (lo := pNone) (l := none) (env := [s, p, a2, a3, a4, .dat t, .dat o, a7, .ml (pathsD 4 t), a9, a10, a11, a12, a13, a14, .un]) rfl rfl p6
  have c2 := cut_val (i := 8) (hi := pNone) (h := none) (env := [s, p, a2, a3, a4, .dat t, .dat o, a7, .ml (pathsD 4 t), a9, a10, a11, a12, a13, a14, .un]) rfl p4 rfl
  have l1 := cut_len (pathsD 4 t) none (some 6)
  have l2 := cut_len (pathsD 4 t) (some (-4)) none
  have ad := op_ml3 c1 c2 rfl rfl (addL_ok (by rw [sizeLine_eq]; omega))
  obtain ⟨env', h1, a13', rfl⟩ := forD_keep (g := gmName 13) (n := sIf partT2 (sRet (oC (.bl false))) (sNil)) (fun _ env => ∃ a13', env = [s, p, a2, a3, a4, .dat t, .dat o, a7, .ml (pathsD 4 t), a9, a10, a11, a12, a13', a14, .un]) (cutD (pathsD 4 t) none (some 6) ++ cutD (pathsD 4 t) (some (-4)) none) [] [s, p, a2, a3, a4, .dat t, .dat o, a7, .ml (pathsD 4 t), a9, a10, a11, a12, a13, a14, .un] ⟨a13, rfl⟩ (fun _ y e hy ⟨b13, he⟩ => by
    subst he
    have hm : y ∈ pathsD 4 t := by
      rcases List.mem_append.mp hy with hy | hy <;> exact cut_mem hy
    exact ⟨[s, p, a2, a3, a4, .dat t, .dat o, a7, .ml (pathsD 4 t), a9, a10, a11, a12, .dat y, a14, .un], _, rfl, .inl (if_n (part_test h ho hm rfl rfl rfl)), .dat y, rfl⟩)
  exact ⟨a13', (for_val (walk_ml ad)).trans h1⟩
/-! odd paths -/
def oddsD : List D := [.non, .lst [], .str "", .int 0, .tup [.bl true], .tup [.int 0, .bl true], .tup [.int 9], .tup [.int (-1)], .tup [.str "0"], .tup (List.replicate 9 [.int 0]).flatten, .tup [.non], .tup [.tup [.int 0]], .lst [.int 0]]
theorem thin_one {w n : Nat} {d : D} (hw : 1 ≤ w) (h : Thin w n d) : Thin w (n + 1) (.tup [d]) := ⟨hw, fun e he => by
  have e1 : e = d := (by simpa using he)
  subst e1
  exact h⟩
theorem odds_thin : ∀ d ∈ oddsD, Thin 9 5 d := by
  have q0 : PyData.strOk ("0" : Str) = true := by decide +kernel
  have q1 : PyData.strOk ("" : Str) = true := by decide +kernel
  intro d hd
  simp only [oddsD, List.mem_cons, List.not_mem_nil, or_false] at hd
  rcases hd with rfl | rfl | rfl | rfl | rfl | rfl | rfl | rfl | rfl | rfl | rfl | rfl | rfl
  · trivial
  · exact ⟨by decide, fun e he => by cases he⟩
  · exact q1
  · trivial
  · exact thin_one (by decide) trivial
  · refine ⟨by decide, fun e he => ?_⟩
    rcases List.mem_cons.mp he with rfl | he
    · trivial
    · rcases List.mem_cons.mp he with rfl | he
      · trivial
      · cases he
  · exact thin_one (by decide) trivial
  · exact thin_one (by decide) trivial
  · exact thin_one (by decide) q0
  · refine ⟨by decide, fun e he => ?_⟩
    have e1 : e = .int 0 := (by simpa [List.replicate] using he)
    subst e1
    trivial
  · exact thin_one (by decide) trivial
  · exact thin_one (by decide) (thin_one (n := 3) (by decide) trivial)
  · refine ⟨by decide, fun e he => ?_⟩
    have e1 : e = .int 0 := (by simpa using he)
    subst e1
    trivial
theorem st9 (s p a2 a3 a4 a5 a6 a7 a8 a9 a10 a11 a12 a13 a14 : LV) : rb9 [s, p, a2, a3, a4, a5, a6, a7, a8, a9, a10, a11, a12, a13, a14, .un] = .nx [s, p, a2, a3, a4, a5, a6, a7, a8, a9, a10, a11, a12, a13, .ml oddsD, .un] := by
  have one : ∀ (c : D) (e : LEnv), oFrz (oOp (aCons (oC c) (aNil)) fTup) e = .val (.tmp (.dat (.tup [c]))) e := fun c e => frz_tmp ((aOk.cons rfl aOk.nil).tup (by simp))
  have two : ∀ (e : LEnv), oFrz (oOp (aCons (oC (.int 0)) (aCons (oC (.bl true)) (aNil))) fTup) e = .val (.tmp (.dat (.tup [.int 0, .bl true]))) e := fun e => frz_tmp ((aOk.cons rfl (aOk.cons rfl aOk.nil)).tup (by simp))
  have neg : ∀ (e : LEnv), oFrz (oOp (aCons (oFrz (o2 (oC (.int 0)) (oC (.int 1)) fSubI)) (aNil)) fTup) e = .val (.tmp (.dat (.tup [.int (-1)]))) e := fun e => by
    have f : fSubI [li 0, li 1] = some (li (-1)) := by simp [fSubI, f2, gI, cT]
    have o := op_val (e := e) (m1 := oC (.int 0)) (m2 := oC (.int 1)) rfl rfl rfl rfl f
    exact frz_tmp ((aOk.cons (frz_tmp o) aOk.nil).tup (by simp))
  have rep : ∀ (e : LEnv), oFrz (o2 (oOp (aCons (oC (.int 0)) (aNil)) fTup) (oC (.int 9)) fMulA) e = .val (.tmp (.dat (.tup (List.replicate 9 [D.int 0]).flatten))) e := fun e => by
    have f : fMulA [.dat (.tup [.int 0]), li 9] = some (.dat (.tup (List.replicate 9 [D.int 0]).flatten)) := by
      simp [fMulA, fOr, fMul, fMulI, f2, gI, fRepL, gRepL, LV.items, gRepT]
    exact frz_tmp (op_val ((aOk.cons (m := oC (.int 0)) rfl aOk.nil).tup (by simp)) (m2 := oC (.int 9)) rfl rfl rfl f)
  have inn : ∀ (e : LEnv), oFrz (oOp (aCons (oFrz (oOp (aCons (oC (.int 0)) (aNil)) fTup)) (aNil)) fTup) e = .val (.tmp (.dat (.tup [.tup [.int 0]]))) e := fun e => frz_tmp ((aOk.cons (one (.int 0) e) aOk.nil).tup (by simp))
  have ls : ∀ (e : LEnv), oFrz (oOp (aCons (oC (.int 0)) (aNil)) fLst) e = .val (.tmp (.dat (.lst [.int 0]))) e := fun e => frz_ml ((aOk.cons rfl aOk.nil).lst (by simp))
  have l0 : ∀ (e : LEnv), oFrz (oOp (aNil) fLst) e = .val (.tmp (.dat (.lst []))) e := fun e => frz_ml (lst0 e)
  exact set_val (i := 14) ((aOk.cons (m := oC .non) rfl (aOk.cons (l0 _) (aOk.cons (m := oC (.str "")) rfl (aOk.cons (m := oC (.int 0)) rfl (aOk.cons (one _ _) (aOk.cons (two _) (aOk.cons (one _ _) (aOk.cons (neg _) (aOk.cons (one _ _) (aOk.cons (rep _) (aOk.cons (one _ _) (aOk.cons (inn _) (aOk.cons (ls _) aOk.nil))))))))))))).lst (by simp))
end Lw
set_option maxRecDepth 100000
set_option maxHeartbeats 4000000
namespace Lw
open PySem PL
/-! bent paths, and the end of a round -/
theorem frz_any {i : Nat} {env : LEnv} {lv : LV} {d : D} (h : env[i]? = some lv) (ok : lv.ok = true) (hf : lv.frz = some d) : oFrz (oVar i) env = .val (.tmp (.dat d)) (env.set i (.dat d)) := by
  have v := var_of h ok
  simp only [oFrz, v, h, hf]
theorem IsP.thin {y : D} (h : IsP 4 y) : Thin 4 1 y := by
  obtain ⟨q, rfl, hl⟩ := h
  refine ⟨by rw [List.length_map]; omega, fun e he => ?_⟩
  obtain ⟨i, _, rfl⟩ := List.mem_map.mp he
  trivial
abbrev bentP : OM := oCall (g__law_bent 20) (aCons (oVar 1) (aCons (oFrz (oCall g__law_pick (aCons (oVar 1) (aCons (oFrz (oVar 8)) (aNil))))) (aNil)))
theorem bentP_step (s p a2 a3 a4 a5 a6 a7 a8 a9 a10 a11 a12 a13 a14 : LV) {t : D} (h : Tree 4 t) (hp : Drawn p) (h8 : a8.ok = true) (h8' : a8.frz = some (.lst (pathsD 4 t))) :
    ∃ d p', oFrz bentP [s, p, a2, a3, a4, a5, a6, a7, a8, a9, a10, a11, a12, a13, a14, .un] = .val (.tmp (.dat d)) [s, p', a2, a3, a4, a5, a6, a7, .dat (.lst (pathsD 4 t)), a9, a10, a11, a12, a13, a14, .un] ∧ Drawn p' ∧ Thin 5 3 d := by
  have f := frz_any (i := 8) (env := [s, p, a2, a3, a4, a5, a6, a7, a8, a9, a10, a11, a12, a13, a14, .un]) rfl h8 h8'
  have ne : pathsD 4 t ≠ [] := by
    obtain ⟨m, g, xs, e, rfl, _⟩ := h.tup
    exact List.cons_ne_nil _ _
  have pl := paths_len h
  obtain ⟨y, p1, e1, hy, d1⟩ := call_pick' (i := 1) (env := [s, p, a2, a3, a4, a5, a6, a7, a8, a9, a10, a11, a12, a13, a14, .un]) rfl rfl hp f ne (by omega)
  have e2 := frz_dat e1
  obtain ⟨lv, d, p', g, ok, hf, d', th⟩ := bent_spec (w := 4) (by omega) (by omega) 20 1 (by omega) p1 y d1 (paths_isP h hy).thin
  exact ⟨d, p', call_bentS (i := 1) (env := [s, p, a2, a3, a4, a5, a6, a7, a8, a9, a10, a11, a12, a13, a14, .un]) (env1 := [s, p1, a2, a3, a4, a5, a6, a7, .dat (.lst (pathsD 4 t)), a9, a10, a11, a12, a13, a14, .un]) rfl rfl hp d1 d' e2 g ok hf, d', th⟩
abbrev bentsO : OM := oLc (iRange1 (aCons (oC (.int 8)) (aNil))) (gmName 10) (tYesM) bentP [10]
theorem bents_val (s p a2 a3 a4 a5 a6 a7 a9 a10 a11 a12 a13 a14 : LV) {t : D} (h : Tree 4 t) (hp : Drawn p) :
    ∃ bs p' a8', bentsO [s, p, a2, a3, a4, a5, a6, a7, .ml (pathsD 4 t), a9, a10, a11, a12, a13, a14, .un] = .val (.tmp (.ml bs)) [s, p', a2, a3, a4, a5, a6, a7, a8', a9, a10, a11, a12, a13, a14, .un] ∧ Drawn p' ∧ (∀ d ∈ bs, Thin 5 3 d) ∧ bs.length ≤ 8 := by
  have r := range_val (m := oC (.int 8)) (k := 8) (e1 := [s, p, a2, a3, a4, a5, a6, a7, .ml (pathsD 4 t), a9, a10, a11, a12, a13, a14, .un]) rfl (by decide)
  obtain ⟨acc, env', h1, ⟨p', a8', rfl, d', k1, k2, th⟩, hl⟩ := lcD_keep (g := gmName 10) (t := tYesM) (m := bentP) (vs := [10])
    (fun pre acc e => ∃ p' a8', e = [s, p', a2, a3, a4, a5, a6, a7, a8', a9, .un, a11, a12, a13, a14, .un] ∧ Drawn p' ∧ a8'.ok = true ∧ a8'.frz = some (.lst (pathsD 4 t)) ∧ ∀ d ∈ acc, Thin 5 3 d) (rangeD 0 8) [] [] [s, p, a2, a3, a4, a5, a6, a7, .ml (pathsD 4 t), a9, .un, a11, a12, a13, a14, .un]
    ⟨p, .ml (pathsD 4 t), rfl, hp, rfl, rfl, by simp⟩ (by rw [rangeD_len, sizeLine_eq]; simp) (fun pre acc d e hd ⟨p1, b8, he, d1, k1, k2, th⟩ => by
      subst he
      obtain ⟨z, p2, e2, d2, hz⟩ := bentP_step s p1 a2 a3 a4 a5 a6 a7 b8 a9 (.dat d) a11 a12 a13 a14 h d1 k1 k2
      refine ⟨[s, p1, a2, a3, a4, a5, a6, a7, b8, a9, .dat d, a11, a12, a13, a14, .un], true, [s, p1, a2, a3, a4, a5, a6, a7, b8, a9, .dat d, a11, a12, a13, a14, .un], rfl, rfl, (fun z => by cases z), fun _ => ⟨z, _, e2, p2, _, rfl, d2, rfl, rfl, fun x hx => ?_⟩⟩
      rcases List.mem_append.mp hx with hx | hx
      · exact th x hx
      · have : x = z := by simpa using hx
        subst this
        exact hz)
  rw [rangeD_len] at hl
  refine ⟨acc, p', a8', ?_, d', th, by simpa using hl⟩
  have w : wipeE [s, p, a2, a3, a4, a5, a6, a7, .ml (pathsD 4 t), a9, a10, a11, a12, a13, a14, .un] [10] = [s, p, a2, a3, a4, a5, a6, a7, .ml (pathsD 4 t), a9, .un, a11, a12, a13, a14, .un] := rfl
  simp only [oLc, r, w, h1]
  rfl
theorem Thin.short {w n : Nat} {y : D} (h : Thin w n y) (hw : w < 1000) : ∀ q, y = .tup q → q.length ≤ sizeLine := fun q e => by
  subst e
  cases n with
  | zero => exact h.elim
  | succ n => have := h.1; rw [sizeLine_eq]; omega
theorem st10 (s p a2 a3 a4 a6 a7 a9 a10 a11 a12 a13 : LV) {t : D} (h : Tree 4 t) (hp : Drawn p) : ∃ p' a8' a13', rb10 [s, p, a2, a3, a4, .dat t, a6, a7, .ml (pathsD 4 t), a9, a10, a11, a12, a13, .ml oddsD, .un] = .nx [s, p', a2, a3, a4, .dat t, a6, a7, a8', a9, a10, a11, a12, a13', .ml oddsD, .un] ∧ Drawn p' := by
  obtain ⟨bs, p', a8', e1, d', th, hl⟩ := bents_val s p a2 a3 a4 (.dat t) a6 a7 a9 a10 a11 a12 a13 (.ml oddsD) h hp
  have ad := op_mlv (i := 14) (x := .ml oddsD) rfl rfl e1 rfl rfl (addL_ok (by rw [sizeLine_eq]; have : oddsD.length = 13 := rfl; omega))
  obtain ⟨env', h1, a13', rfl⟩ := forD_keep (g := gmName 13) (n := sIf (tOf (o2 waysO (oOp (aNil) fLst) fNeA)) (sRet (oC (.bl false))) (sNil)) (fun _ env => ∃ a13', env = [s, p', a2, a3, a4, .dat t, a6, a7, a8', a9, a10, a11, a12, a13', .ml oddsD, .un]) (oddsD ++ bs) [] [s, p', a2, a3, a4, .dat t, a6, a7, a8', a9, a10, a11, a12, a13, .ml oddsD, .un] ⟨a13, rfl⟩ (fun _ y e hy ⟨b13, he⟩ => by
    subst he
    have ty : Thin 9 5 y := by
      rcases List.mem_append.mp hy with hy | hy
      · exact odds_thin y hy
      · exact Thin.up (by omega) (by omega) (th y hy)
    have wv := ways_val (env := [s, p', a2, a3, a4, .dat t, a6, a7, a8', a9, a10, a11, a12, .dat y, .ml oddsD, .un]) h (by omega) ty.fine (ty.short (by omega)) rfl rfl rfl
    have o := of_val (op_val wv (lst0 _) rfl rfl (ne_nil []))
    exact ⟨[s, p', a2, a3, a4, .dat t, a6, a7, a8', a9, a10, a11, a12, .dat y, .ml oddsD, .un], _, rfl, .inl (if_n o), .dat y, rfl⟩)
  exact ⟨p', a8', a13', (for_val (walk_ml' ad)).trans h1, d'⟩
theorem round_ok (s p a2 a3 a4 a5 a6 a7 a8 a9 a10 a11 a12 a13 a14 : LV) (hp : Drawn p) : ∃ p' b3 b4 b5 b6 b7 b8 b9 b10 b11 b12 b13 b14, roundB [s, p, a2, a3, a4, a5, a6, a7, a8, a9, a10, a11, a12, a13, a14, .un] = .nx [s, p', a2, b3, b4, b5, b6, b7, b8, b9, b10, b11, b12, b13, b14, .un] ∧ Drawn p' := by
  obtain ⟨S, p1, e0, d1, sok⟩ := st0 s p a2 a3 a4 a5 a6 a7 a8 a9 a10 a11 a12 a13 a14 hp
  obtain ⟨K, n, R⟩ := rnd_of sok
  obtain ⟨k, p2, e1, d2, hk⟩ := st1 R s p1 a2 a4 a5 a6 a7 a8 a9 a10 a11 a12 a13 a14 d1
  obtain ⟨t, o, p3, e2, d3, ht, ho⟩ := st2 R hk s p2 a2 a5 a6 a7 a8 a9 a10 a11 a12 a13 a14 d2
  obtain ⟨x, xs, et⟩ : ∃ x xs, t = .tup (x :: xs) := by
    obtain ⟨m, g, xs, _, e, _⟩ := ht.tup
    exact ⟨_, _, e⟩
  have e3 := st3 s p3 a2 (.dat (DS S)) (.dat (.str k)) (.dat o) a7 a8 a9 a10 a11 a12 a13 a14 ht et
  obtain ⟨z, hz⟩ := st4 sok ht
  have e4 : rb4 [s, p3, a2, .dat (DS S), .dat (.str k), .dat t, .dat o, .ml (startD t x xs), .ml (pathsD 4 t), a9, a10, a11, a12, a13, a14, .un] = .nx [s, p3, a2, .dat (DS S), .dat (.str k), .dat t, .dat o, .ml (startD t x xs), .ml (pathsD 4 t), .dat (.str z), a10, a11, a12, a13, a14, .un] := set_val (hz _ rfl rfl)
  obtain ⟨p4, b10, ts, e5, d4, th⟩ := st5 s p3 a2 (.dat (DS S)) (.dat (.str k)) (.dat o) (.ml (pathsD 4 t)) (.dat (.str z)) a10 a11 a12 a13 a14 ht et d3
  obtain ⟨b7, b11, b12, e6⟩ := st6 R s p4 a2 (.dat (.str k)) (.dat t) (.dat o) (.ml (pathsD 4 t)) (.dat (.str z)) b10 a11 a12 a13 a14 th
  have e7 := st7 s p4 a2 (.dat (DS S)) (.dat (.str k)) (.dat o) b7 (.dat (.str z)) b10 b11 b12 a13 a14 ht
  obtain ⟨b13, e8⟩ := st8 s p4 a2 (.dat (DS S)) (.dat (.str k)) b7 (.dat (.str z)) b10 b11 b12 a13 a14 ht ho
  have e9 := st9 s p4 a2 (.dat (DS S)) (.dat (.str k)) (.dat t) (.dat o) b7 (.ml (pathsD 4 t)) (.dat (.str z)) b10 b11 b12 b13 a14
  obtain ⟨p5, b8, c13, e10, d5⟩ := st10 s p4 a2 (.dat (DS S)) (.dat (.str k)) (.dat o) b7 (.dat (.str z)) b10 b11 b12 b13 ht d4
  have oo := of_val (op_val2 (j := 9) (hz [s, p5, a2, .dat (DS S), .dat (.str k), .dat t, .dat o, b7, b8, .dat (.str z), b10, b11, b12, c13, .ml oddsD, .un] rfl rfl) rfl rfl rfl (ne_str z z))
  have ez : (!decide (z = z)) = false := by simp
  rw [ez] at oo
  refine ⟨p5, .dat (DS S), .dat (.str k), .dat t, .dat o, b7, b8, .dat (.str z), b10, b11, b12, c13, .ml oddsD, ?_, d5⟩
  unfold roundB
  rw [seq_nx e0, seq_nx e1, seq_nx e2, seq_nx e3, seq_nx e4, seq_nx e5, seq_nx e6, seq_nx e7, seq_nx e8, seq_nx e9, seq_nx e10]
  exact if_n oo
theorem law_true (ns : List Int) (hns : ns.length ≤ 63) : ∃ lvs, g_law [scr ns] = .ret (.dat (.bl true)) lvs := by
  obtain ⟨p, e, d⟩ := pot_of ns hns
  have r := range_val (m := oC (.int 7)) (k := 7) (e1 := [scr ns, p, .un, .un, .un, .un, .un, .un, .un, .un, .un, .un, .un, .un, .un, .un]) rfl (by decide)
  obtain ⟨env', h1, h2⟩ := forD_keep (g := gmName 2) (n := roundB) (fun _ env => ∃ p a2 a3 a4 a5 a6 a7 a8 a9 a10 a11 a12 a13 a14, env = [scr ns, p, a2, a3, a4, a5, a6, a7, a8, a9, a10, a11, a12, a13, a14, .un] ∧ Drawn p) (rangeD 0 7) [] [scr ns, p, .un, .un, .un, .un, .un, .un, .un, .un, .un, .un, .un, .un, .un, .un] ⟨p, _, _, _, _, _, _, _, _, _, _, _, _, _, rfl, d⟩ (fun _ y e hy ⟨p, a2, a3, a4, a5, a6, a7, a8, a9, a10, a11, a12, a13, a14, he, d⟩ => by
    subst he
    obtain ⟨p', b3, b4, b5, b6, b7, b8, b9, b10, b11, b12, b13, b14, e1, d'⟩ := round_ok (scr ns) p (.dat y) a3 a4 a5 a6 a7 a8 a9 a10 a11 a12 a13 a14 d
    exact ⟨[scr ns, p, .dat y, a3, a4, a5, a6, a7, a8, a9, a10, a11, a12, a13, a14, .un], _, rfl, .inl e1, p', _, _, _, _, _, _, _, _, _, _, _, _, _, rfl, d'⟩)
  refine ⟨[scr ns], def_rt rfl rfl (e2 := env') ?_⟩
  rw [m_law_eq]
  have s1 : sSet 1 (oCall g__law_pot_of (aCons (oFrz (oVar 0)) (aNil))) [scr ns, .un, .un, .un, .un, .un, .un, .un, .un, .un, .un, .un, .un, .un, .un, .un] = .nx [scr ns, p, .un, .un, .un, .un, .un, .un, .un, .un, .un, .un, .un, .un, .un, .un] := by
    have f := frz_var (i := 0) (env := [scr ns, .un, .un, .un, .un, .un, .un, .un, .un, .un, .un, .un, .un, .un, .un, .un]) (d := .slst (ns.map .int)) rfl
    refine set_val (i := 1) (x := p) (e2 := [scr ns, .un, .un, .un, .un, .un, .un, .un, .un, .un, .un, .un, .un, .un, .un, .un]) ?_
    have e' : g__law_pot_of [.dat (.slst (ns.map .int))] = .ret p [.dat (.slst (ns.map .int))] := e
    simp only [oCall, aCons, f, aNil, gets, tmp_get dat_ok, e', d.ok]
    rfl
  show sSeq _ _ [scr ns, .un, .un, .un, .un, .un, .un, .un, .un, .un, .un, .un, .un, .un, .un, .un] = _
  rw [seq_nx s1, seq_nx ((for_val r).trans h1)]
  rfl
end Lw
set_option maxRecDepth 100000
set_option maxHeartbeats 4000000
namespace Lw
open PySem L2 PyProof.Rows PySem.W PL
def top (i : Nat) : Stmt := PySem.Challenge.pw_treelaws_k02_trees_and_paths.main.body.getD i (.Pass ⟨0, 0, 0, 0⟩)
/-- what the module has and has not -/
structure Glo (B : Base) : Prop where
  abs_ : B.mg "abs" = none
  all_ : B.mg "all" = none
  bool_ : B.mg "bool" = none
  dict_ : B.mg "dict" = none
  enumerate_ : B.mg "enumerate" = none
  int_ : B.mg "int" = none
  isinstance_ : B.mg "isinstance" = none
  len_ : B.mg "len" = none
  list_ : B.mg "list" = none
  range_ : B.mg "range" = none
  repr_ : B.mg "repr" = none
  str_ : B.mg "str" = none
  sum_ : B.mg "sum" = none
  tuple_ : B.mg "tuple" = none
  zip_ : B.mg "zip" = none
  x_NoPath : ExcAt B "NoPath"
  e_NoPath : PySem.W.exmOne B.R.K (.ref (B.R.ct "NoPath")) (.ref (B.R.ct "NoPath")) = some true
/-- the defs that _law_at calls -/
structure Has__law_at (B : Base) : Prop where
/-! _law_at -/
theorem sc__law_at : FnScope ["tree", "path", "place"] ["tree", "path"] (defScope (top 26)) := ⟨rfl, rfl, rfl, by decide +kernel, rfl, by decide +kernel, by decide +kernel⟩
theorem d__law_at {B : Base} (D : DefAt B "_law_at" (top 26) ["tree", "path"]) (G : Glo B) (H : Has__law_at B) : DJ B "_law_at" 1 ["tree", "path"] g__law_at :=
  have S := sc__law_at; dj_mk (P := []) D S fun f cdv A outer s Hp E hr gd tk po =>
    (bj_cons (sj_for po rfl (ij_anyK (ov 1)) (gj_name S.nd rfl (.inl rfl) (nmem rfl))
    (bj_one (sj_set S.nd rfl (.inl rfl) (by decide) (oj_ix (jIxA rfl (hu1 hr)) (ov 0) (oj_bin (jAdd rfl) (ov 2) oj_int) (fun _ _ => rfl)))))
    (bj_one (sj_ret (oj_frz (ov 0)))))
/-- the defs that _law_kneaded calls -/
structure Has__law_kneaded (B : Base) : Prop where
/-! _law_kneaded -/
theorem sc__law_kneaded : FnScope ["seed", "lap", "prime", "amount", "again"] ["seed", "lap"] (defScope (top 15)) := ⟨rfl, rfl, rfl, by decide +kernel, rfl, by decide +kernel, by decide +kernel⟩
theorem d__law_kneaded {B : Base} (D : DefAt B "_law_kneaded" (top 15) ["seed", "lap"]) (G : Glo B) (H : Has__law_kneaded B) : DJ B "_law_kneaded" 1 ["seed", "lap"] g__law_kneaded :=
  have S := sc__law_kneaded; dj_mk (P := []) D S fun f cdv A outer s Hp E hr gd tk po =>
    (bj_cons (sj_set S.nd rfl (.inl rfl) (by decide) oj_int)
    (bj_cons (sj_set S.nd rfl (.inl rfl) (by decide) (oj_bin jModI (oj_bin (jAdd rfl) (oj_bin (jAdd rfl) (oj_bin jMulA (ov 0) oj_int) (oj_bin jMulA (ov 1) oj_int)) oj_int) (ov 2)))
    (bj_cons (sj_for po rfl (ij_range1 rfl G.range_ (aj_cons oj_int aj_nil)) (gj_name S.nd rfl (.inl rfl) (nmem rfl))
    (bj_one (sj_set S.nd rfl (.inl rfl) (by decide) (oj_bin jModI (oj_bin (jAdd rfl) (oj_bin (jAdd rfl) (oj_bin (jAdd rfl) (oj_bin jMulA (ov 3) (ov 3)) (oj_bin jMulA oj_int (ov 3))) (oj_bin jMulA oj_int (ov 4))) (ov 1)) (ov 2)))))
    (bj_one (sj_ret (oj_bin (jAdd rfl) (oj_bin jMulA (ov 3) (ov 2)) (oj_bin jModI (oj_bin (jAdd rfl) (oj_bin jMulA (ov 3) oj_int) (ov 1)) (ov 2))))))))
/-- the defs that _law_below calls -/
structure Has__law_below (B : Base) : Prop where
  d__law_kneaded : DJ B "_law_kneaded" 1 ["seed", "lap"] g__law_kneaded
/-! _law_below -/
theorem sc__law_below : FnScope ["pot", "bound", "cells", "place", "amount", "found"] ["pot", "bound"] (defScope (top 17)) := ⟨rfl, rfl, rfl, by decide +kernel, rfl, by decide +kernel, by decide +kernel⟩
theorem d__law_below {B : Base} (D : DefAt B "_law_below" (top 17) ["pot", "bound"]) (G : Glo B) (H : Has__law_below B) : DJ B "_law_below" 2 ["pot", "bound"] g__law_below :=
  have S := sc__law_below; dj_mk (P := [0]) D S fun f cdv A outer s Hp E hr gd tk po =>
    (bj_cons (sj_if (tj_cmp jLtI (oj_ix (jIxA rfl (hu1 hr)) (ov 0) oj_int (fun _ _ => rfl)) (ov 1) rfl) (bj_cons (sj_par2 rfl S.nd (aj_cons (oj_ix (jIxA rfl (hu1 hr)) (ov 0) oj_int (fun _ _ => rfl)) (aj_cons (oj_ix (jIxA rfl (hu1 hr)) (ov 0) oj_int (fun _ _ => rfl)) aj_nil)))
    (bj_cons (sj_set S.nd rfl (.inl rfl) (by decide) (oj_if (tj_cmp (jNeA rfl (hu64 hr)) (ov 2) (oj_lst aj_nil) rfl) (oj_ix (jIxA rfl (hu1 hr)) (ov 2) (oj_bin jModI (ov 3) (oj_callBn jLenA G.len_ boot_len' (aj_cons (ov 2) aj_nil))) (fun _ _ => rfl)) oj_int))
    (bj_cons (sj_if (tj_w (wj_or (tj_cmp jGeI (ov 3) (oj_callBn jLenA G.len_ boot_len' (aj_cons (ov 2) aj_nil)) rfl) (wj_or1 (tj_cmp jLtI (ov 4) (oj_bin jPowI oj_int oj_int) rfl)))) (bj_one (sj_set S.nd rfl (.inl rfl) (by decide) (o_def H.d__law_kneaded hr gd tk (aj_cons (oj_frz (oj_bin jModI (oj_callTn jInt G.int_ boot_int' (aj_cons (ov 4) aj_nil)) oj_int)) (aj_cons (oj_frz (ov 3)) aj_nil)) (lenC (lenC lenN))))) bj_nil)
    (bj_cons (sj_put (jStA (hu1 hr)) (oj_bin (jAdd rfl) (ov 3) oj_int) (ov 0) oj_int)
    (bj_cons (sj_put (jStA (hu1 hr)) (ov 4) (ov 0) oj_int)
    (bj_one (sj_put (jStA (hu1 hr)) (ov 4) (ov 0) oj_int))))))) bj_nil)
    (bj_cons (sj_set S.nd rfl (.inl rfl) (by decide) (oj_bin jModI (oj_callTn jInt G.int_ boot_int' (aj_cons (oj_ix (jIxA rfl (hu1 hr)) (ov 0) oj_int (fun _ _ => rfl)) aj_nil)) (ov 1)))
    (bj_cons (sj_put (jStA (hu1 hr)) (oj_bin jDivI (oj_ix (jIxA rfl (hu1 hr)) (ov 0) oj_int (fun _ _ => rfl)) (ov 1)) (ov 0) oj_int)
    (bj_cons (sj_put (jStA (hu1 hr)) (oj_bin jDivI (oj_ix (jIxA rfl (hu1 hr)) (ov 0) oj_int (fun _ _ => rfl)) (ov 1)) (ov 0) oj_int)
    (bj_one (sj_ret (oj_move (ov 5))))))))
/-- the defs that _law_pick calls -/
structure Has__law_pick (B : Base) : Prop where
  d__law_below : DJ B "_law_below" 2 ["pot", "bound"] g__law_below
/-! _law_pick -/
theorem sc__law_pick : FnScope ["pot", "items"] ["pot", "items"] (defScope (top 18)) := ⟨rfl, rfl, rfl, by decide +kernel, rfl, by decide +kernel, by decide +kernel⟩
theorem d__law_pick {B : Base} (D : DefAt B "_law_pick" (top 18) ["pot", "items"]) (G : Glo B) (H : Has__law_pick B) : DJ B "_law_pick" 3 ["pot", "items"] g__law_pick :=
  have S := sc__law_pick; dj_mk (P := [0]) D S fun f cdv A outer s Hp E hr gd tk po =>
    (bj_one (sj_ret (oj_ix (jIxA rfl (hu1 hr)) (ov 1) (o_def H.d__law_below hr gd tk (aj_cons (ov 0) (aj_cons (oj_frz (oj_callBn jLenA G.len_ boot_len' (aj_cons (ov 1) aj_nil))) aj_nil)) (lenC (lenC lenN))) (fun _ _ => rfl))))
/-- the defs that _law_bent calls -/
structure Has__law_bent (B : Base) : Prop where
  d__law_below : DJ B "_law_below" 2 ["pot", "bound"] g__law_below
  d__law_pick : DJ B "_law_pick" 3 ["pot", "items"] g__law_pick
/-! _law_bent -/
theorem sc__law_bent : FnScope ["pot", "thing", "odd", "keys", "found", "way", "at", "parts"] ["pot", "thing"] (defScope (top 22)) := ⟨rfl, rfl, rfl, by decide +kernel, rfl, by decide +kernel, by decide +kernel⟩
theorem d__law_bent {B : Base} (D : DefAt B "_law_bent" (top 22) ["pot", "thing"]) (G : Glo B) (H : Has__law_bent B) : ∀ n, DJ B "_law_bent" (3 + n) ["pot", "thing"] (g__law_bent n)
  | 0 => dj_bad D
  | n + 1 => have S := sc__law_bent; have ih := d__law_bent D G H n; dj_mk (P := [0]) D S fun f cdv A outer s Hp E hr gd tk po =>
    (bj_cons (sj_set S.nd rfl (.inl rfl) (by decide) (oj_lst (aj_cons oj_non (aj_cons oj_bl (aj_cons oj_bl (aj_cons oj_int (aj_cons oj_int (aj_cons oj_int (aj_cons oj_int (aj_cons oj_str (aj_cons oj_str (aj_cons oj_str (aj_cons oj_str (aj_cons oj_str (aj_cons oj_str (aj_cons (oj_frz (oj_tup aj_nil)) (aj_cons (oj_frz (oj_lst aj_nil)) (aj_cons (oj_frz oj_newK) (aj_cons (oj_frz (oj_tup (aj_cons oj_str aj_nil))) (aj_cons (oj_frz (oj_tup (aj_cons oj_str (aj_cons (oj_frz (oj_tup aj_nil)) aj_nil)))) (aj_cons (oj_frz (oj_tup (aj_cons oj_int aj_nil))) aj_nil)))))))))))))))))))))
    (bj_cons (sj_if (tj_w (wj_and (tj_truth rfl (oj_callBn (jIsiA rfl) G.isinstance_ boot_isinstance' (aj_cons (ov 1) (aj_cons (o_ty G.dict_ boot_dict') aj_nil))) (fun _ => rfl)) (wj_and (tj_cmp (jNeA rfl (hu64 hr)) (ov 1) oj_newK rfl) (wj_and1 (tj_cmp jGtI (o_def H.d__law_below hr gd tk (aj_cons (ov 0) (aj_cons oj_int aj_nil)) (lenC (lenC lenN))) oj_int rfl))))) (bj_cons (sj_par3 rfl S.nd (aj_cons (oj_callTn (jListA rfl) G.list_ boot_list' (aj_cons (ov 1) aj_nil)) (aj_cons (oj_callTn jDictK G.dict_ boot_dict' (aj_cons (ov 1) aj_nil)) (aj_cons (o_def H.d__law_below hr gd tk (aj_cons (ov 0) (aj_cons oj_int aj_nil)) (lenC (lenC lenN))) aj_nil))))
    (bj_cons (sj_set S.nd rfl (.inl rfl) (by decide) (o_def H.d__law_pick hr gd tk (aj_cons (ov 0) (aj_cons (oj_frz (ov 3)) aj_nil)) (lenC (lenC lenN))))
    (bj_cons (sj_if (tj_cmp (jEqA rfl (hu64 hr)) (ov 5) oj_int rfl) (bj_one (sj_expr (oj_mu rfl PySem.F.plainAttrs_dict PySem.F.slot_dict_pop PySem.F.type_dict_pop (by decide) jPopK (ov 4) (aj_cons (oj_frz (ov 6)) aj_nil)))) (bj_one (sj_if (tj_cmp (jEqA rfl (hu64 hr)) (ov 5) oj_int rfl) (bj_one (sj_put (jStA (hu1 hr)) (oj_ix (jIxA rfl (hu1 hr)) (ov 1) (ov 6) (fun _ _ => rfl)) (ov 4) (o_def H.d__law_pick hr gd tk (aj_cons (ov 0) (aj_cons (oj_frz (oj_lst (aj_cons oj_str (aj_cons oj_str (aj_cons oj_int (aj_cons oj_str (aj_cons oj_str aj_nil))))))) aj_nil)) (lenC (lenC lenN))))) (bj_one (sj_put (jStA (hu1 hr)) (o_def ih hr gd tk (aj_cons (ov 0) (aj_cons (oj_frz (oj_ix (jIxA rfl (hu1 hr)) (ov 1) (ov 6) (fun _ _ => rfl))) aj_nil)) (lenC (lenC lenN))) (ov 4) (ov 6))))))
    (bj_one (sj_ret (oj_move (ov 4))))))) bj_nil)
    (bj_cons (sj_if (tj_w (wj_and (tj_truth rfl (oj_callBn (jIsiA rfl) G.isinstance_ boot_isinstance' (aj_cons (ov 1) (aj_cons (oj_tup (aj_cons (oj_frz (o_ty G.tuple_ boot_tuple')) (aj_cons (oj_frz (o_ty G.list_ boot_list')) aj_nil))) aj_nil))) (fun _ => rfl)) (wj_and (tj_cmp jGtI (oj_callBn jLenA G.len_ boot_len' (aj_cons (ov 1) aj_nil)) oj_int rfl) (wj_and1 (tj_cmp jGtI (o_def H.d__law_below hr gd tk (aj_cons (ov 0) (aj_cons oj_int aj_nil)) (lenC (lenC lenN))) oj_int rfl))))) (bj_cons (sj_par3 rfl S.nd (aj_cons (o_def H.d__law_below hr gd tk (aj_cons (ov 0) (aj_cons (oj_frz (oj_callBn jLenA G.len_ boot_len' (aj_cons (ov 1) aj_nil))) aj_nil)) (lenC (lenC lenN))) (aj_cons (o_def H.d__law_below hr gd tk (aj_cons (ov 0) (aj_cons oj_int aj_nil)) (lenC (lenC lenN))) (aj_cons (oj_callTn (jListA rfl) G.list_ boot_list' (aj_cons (ov 1) aj_nil)) aj_nil))))
    (bj_cons (sj_if (tj_cmp (jEqA rfl (hu64 hr)) (ov 5) oj_int rfl) (bj_one (sj_expr (oj_mu rfl PySem.F.plainAttrs_list PySem.F.slot_list_pop PySem.F.type_list_pop (by decide) jPop (ov 7) (aj_cons (oj_frz (ov 6)) aj_nil)))) (bj_one (sj_if (tj_cmp (jEqA rfl (hu64 hr)) (ov 5) oj_int rfl) (bj_one (sj_set S.nd rfl (.inl rfl) (by decide) (oj_bin (jAdd rfl) (oj_sl (jSl rfl) (ov 7) po_j_none (po_j_some (oj_bin (jAdd rfl) (ov 6) oj_int))) (oj_sl (jSl rfl) (ov 7) (po_j_some (ov 6)) po_j_none)))) (bj_one (sj_if (tj_cmp (jEqA rfl (hu64 hr)) (ov 5) oj_int rfl) (bj_one (sj_put (jStA (hu1 hr)) (o_def H.d__law_pick hr gd tk (aj_cons (ov 0) (aj_cons (oj_frz (ov 2)) aj_nil)) (lenC (lenC lenN))) (ov 7) (ov 6))) (bj_one (sj_put (jStA (hu1 hr)) (o_def ih hr gd tk (aj_cons (ov 0) (aj_cons (oj_frz (oj_ix (jIxA rfl (hu1 hr)) (ov 1) (ov 6) (fun _ _ => rfl))) aj_nil)) (lenC (lenC lenN))) (ov 7) (ov 6))))))))
    (bj_one (sj_ret (oj_if (tj_w (wj_or (tj_truth rfl (oj_callBn (jIsiA rfl) G.isinstance_ boot_isinstance' (aj_cons (ov 1) (aj_cons (o_ty G.list_ boot_list') aj_nil))) (fun _ => rfl)) (wj_or1 (tj_cmp (jEqA rfl (hu64 hr)) (o_def H.d__law_below hr gd tk (aj_cons (ov 0) (aj_cons oj_int aj_nil)) (lenC (lenC lenN))) oj_int rfl)))) (oj_move (ov 7)) (oj_callTn jTuple G.tuple_ boot_tuple' (aj_cons (ov 7) aj_nil))))))) bj_nil)
    (bj_cons (sj_if (tj_w (wj_and (tj_truth rfl (oj_callBn (jIsiA rfl) G.isinstance_ boot_isinstance' (aj_cons (ov 1) (aj_cons (o_ty G.int_ boot_int') aj_nil))) (fun _ => rfl)) (wj_and (tj_not (tj_truth rfl (oj_callBn (jIsiA rfl) G.isinstance_ boot_isinstance' (aj_cons (ov 1) (aj_cons (o_ty G.bool_ boot_bool') aj_nil))) (fun _ => rfl))) (wj_and1 (tj_cmp (jEqA rfl (hu64 hr)) (o_def H.d__law_below hr gd tk (aj_cons (ov 0) (aj_cons oj_int aj_nil)) (lenC (lenC lenN))) oj_int rfl))))) (bj_one (sj_ret (o_def H.d__law_pick hr gd tk (aj_cons (ov 0) (aj_cons (oj_frz (oj_lst (aj_cons (oj_frz (oj_bin jSubI oj_int (ov 1))) (aj_cons (oj_frz (oj_bin (jAdd rfl) (ov 1) oj_int)) (aj_cons (oj_frz (oj_bin jSubI (ov 1) oj_int)) (aj_cons (oj_frz (oj_bin jPowI oj_int oj_int)) (aj_cons (oj_frz (oj_bin (jAdd rfl) (oj_bin jPowI oj_int oj_int) oj_int)) (aj_cons (oj_frz (oj_bin jMulA (ov 1) (oj_bin jPowI oj_int oj_int))) aj_nil)))))))) aj_nil)) (lenC (lenC lenN))))) bj_nil)
    (bj_one (sj_ret (o_def H.d__law_pick hr gd tk (aj_cons (ov 0) (aj_cons (oj_frz (ov 2)) aj_nil)) (lenC (lenC lenN)))))))))
/-- the defs that _law_full_schema calls -/
structure Has__law_full_schema (B : Base) : Prop where
  d__law_below : DJ B "_law_below" 2 ["pot", "bound"] g__law_below
  d__law_pick : DJ B "_law_pick" 3 ["pot", "items"] g__law_pick
/-! _law_full_schema -/
theorem sc__law_full_schema : FnScope ["pot", "kinds", "schema", "number", "kind", "variants", "turn", "many", "at", "child"] ["pot"] (defScope (top 20)) := ⟨rfl, rfl, rfl, by decide +kernel, rfl, by decide +kernel, by decide +kernel⟩
theorem d__law_full_schema {B : Base} (D : DefAt B "_law_full_schema" (top 20) ["pot"]) (G : Glo B) (H : Has__law_full_schema B) : DJ B "_law_full_schema" 4 ["pot"] g__law_full_schema :=
  have S := sc__law_full_schema; dj_mk (P := [0]) D S fun f cdv A outer s Hp E hr gd tk po =>
    (bj_cons (sj_parC3 rfl S.nd (aj_cons (oj_sl (jSl rfl) (oj_lst (aj_cons oj_str (aj_cons oj_str (aj_cons oj_str aj_nil)))) po_j_none (po_j_some (oj_bin (jAdd rfl) oj_int (o_def H.d__law_below hr gd tk (aj_cons (ov 0) (aj_cons oj_int aj_nil)) (lenC (lenC lenN)))))) (aj_cons oj_newK (aj_cons oj_int aj_nil))) (.inr rfl) (.inl rfl) (.inl rfl))
    (bj_cons (sj_for po rfl (ij_anyK (ov 1)) (gj_name S.nd rfl (.inl rfl) (nmem rfl))
    (bj_cons (sj_set S.nd rfl (.inl rfl) (by decide) (oj_lst (aj_cons (oj_frz (oj_tup (aj_cons (oj_frz (oj_bin (jAdd rfl) oj_str (oj_callTn jStrN G.str_ boot_str' (aj_cons (ov 3) aj_nil)))) (aj_cons (oj_frz (oj_tup aj_nil)) aj_nil)))) aj_nil)))
    (bj_cons (sj_for po rfl (ij_range1 rfl G.range_ (aj_cons (o_def H.d__law_pick hr gd tk (aj_cons (ov 0) (aj_cons (oj_frz (oj_lst (aj_cons oj_int (aj_cons oj_int (aj_cons oj_int (aj_cons oj_int aj_nil)))))) aj_nil)) (lenC (lenC lenN))) aj_nil)) (gj_name S.nd rfl (.inl rfl) (nmem rfl))
    (bj_cons (sj_set S.nd rfl (.inl rfl) (by decide) (oj_bin (jAdd rfl) (ov 3) oj_int))
    (bj_cons (sj_set S.nd rfl (.inl rfl) (by decide) (o_def H.d__law_pick hr gd tk (aj_cons (ov 0) (aj_cons (oj_frz (oj_lst (aj_cons oj_int (aj_cons oj_int (aj_cons oj_int (aj_cons oj_int (aj_cons oj_int aj_nil))))))) aj_nil)) (lenC (lenC lenN))))
    (bj_one (sj_expr (oj_mu rfl PySem.F.plainAttrs_list PySem.F.slot_list_append PySem.F.type_list_append (by decide) jAppend (ov 5) (aj_cons (oj_frz (oj_tup (aj_cons (oj_frz (oj_bin (jAdd rfl) oj_str (oj_callTn jStrN G.str_ boot_str' (aj_cons (ov 3) aj_nil)))) (aj_cons (oj_frz (oj_callTn jTuple G.tuple_ boot_tuple' (aj_cons (oj_lc (own := [("child", 9)]) rfl S.nd (by kernel_rfl) (ij_range1 rfl G.range_ (aj_cons (ov 7) aj_nil)) glen_name (fun s Hq C cl fp => (gj_name S.nd rfl (.inl rfl) (nmem rfl))) (fun s Hq C cl fp => tsj_nil) (fun s Hq C cl fp => (o_def H.d__law_pick hr gd tk0 (aj_cons (ov 0) (aj_cons (oj_frz (ov 1)) aj_nil)) (lenC (lenC lenN))))) aj_nil))) aj_nil)))) aj_nil)))))))
    (bj_cons (sj_par2 rfl S.nd (aj_cons (oj_bin (jAdd rfl) (ov 3) oj_int) (aj_cons (o_def H.d__law_below hr gd tk (aj_cons (ov 0) (aj_cons (oj_frz (oj_callBn jLenA G.len_ boot_len' (aj_cons (ov 5) aj_nil))) aj_nil)) (lenC (lenC lenN))) aj_nil)))
    (bj_one (sj_put (jStA (hu1 hr)) (oj_callTn jTuple G.tuple_ boot_tuple' (aj_cons (oj_bin (jAdd rfl) (oj_sl (jSl rfl) (ov 5) (po_j_some (ov 8)) po_j_none) (oj_sl (jSl rfl) (ov 5) po_j_none (po_j_some (ov 8)))) aj_nil)) (ov 2) (ov 4)))))))
    (bj_one (sj_ret (oj_move (ov 2))))))
/-- the defs that _law_paths calls -/
structure Has__law_paths (B : Base) : Prop where
/-! _law_paths -/
theorem sc__law_paths : FnScope ["tree", "found", "place", "part", "path"] ["tree"] (defScope (top 25)) := ⟨rfl, rfl, rfl, by decide +kernel, rfl, by decide +kernel, by decide +kernel⟩
theorem d__law_paths {B : Base} (D : DefAt B "_law_paths" (top 25) ["tree"]) (G : Glo B) (H : Has__law_paths B) : ∀ n, DJ B "_law_paths" (0 + n) ["tree"] (g__law_paths n)
  | 0 => dj_bad D
  | n + 1 => have S := sc__law_paths; have ih := d__law_paths D G H n; dj_mk (P := []) D S fun f cdv A outer s Hp E hr gd tk po =>
    (bj_cons (sj_set S.nd rfl (.inl rfl) (by decide) (oj_lst (aj_cons (oj_frz (oj_tup aj_nil)) aj_nil)))
    (bj_cons (sj_for po rfl (ij_enumA G.enumerate_ (oj_sl (jSl rfl) (ov 0) (po_j_some oj_int) po_j_none)) (gj_tup rfl rfl (gjs_cons (gj_name S.nd rfl (.inr rfl) (nmem rfl)) (gjs_cons (gj_name S.nd rfl (.inl rfl) (nmem rfl)) gjs_nil)))
    (bj_one (sj_set S.nd rfl (.inl rfl) (by decide) (oj_bin (jAdd rfl) (ov 1) (oj_lc (own := [("path", 4)]) rfl S.nd (by kernel_rfl) (ij_anyK (o_def ih hr gd tk (aj_cons (oj_frz (ov 3)) aj_nil) (lenC lenN))) glen_name (fun s Hq C cl fp => (gj_name S.nd rfl (.inl rfl) (nmem rfl))) (fun s Hq C cl fp => tsj_nil) (fun s Hq C cl fp => (oj_bin (jAdd rfl) (oj_tup (aj_cons (oj_frz (ov 2)) aj_nil)) (ov 4))))))))
    (bj_one (sj_ret (oj_move (ov 1))))))
/-- the defs that _law_is_path calls -/
structure Has__law_is_path (B : Base) : Prop where
  d__law_paths : ∀ n, DJ B "_law_paths" (0 + n) ["tree"] (g__law_paths n)
/-! _law_is_path -/
theorem sc__law_is_path : FnScope ["tree", "thing", "place"] ["tree", "thing"] (defScope (top 28)) := ⟨rfl, rfl, rfl, by decide +kernel, rfl, by decide +kernel, by decide +kernel⟩
theorem d__law_is_path {B : Base} (D : DefAt B "_law_is_path" (top 28) ["tree", "thing"]) (G : Glo B) (H : Has__law_is_path B) : DJ B "_law_is_path" 21 ["tree", "thing"] g__law_is_path :=
  have S := sc__law_is_path; dj_mk (P := []) D S fun f cdv A outer s Hp E hr gd tk po =>
    (bj_cons (sj_if (tj_not (tj_truth rfl (oj_callBn (jIsiA rfl) G.isinstance_ boot_isinstance' (aj_cons (ov 1) (aj_cons (o_ty G.tuple_ boot_tuple') aj_nil))) (fun _ => rfl))) (bj_one (sj_ret oj_bl)) bj_nil)
    (bj_cons (sj_if (tj_cmp (jNeA rfl (hu64 hr)) (oj_lc (own := [("place", 2)]) rfl S.nd (by kernel_rfl) (ij_anyK (ov 1)) glen_name (fun s Hq C cl fp => (gj_name S.nd rfl (.inl rfl) (nmem rfl))) (fun s Hq C cl fp => (tsj_one (tj_w (wj_or (tj_not (tj_truth rfl (oj_callBn (jIsiA rfl) G.isinstance_ boot_isinstance' (aj_cons (ov 2) (aj_cons (o_ty G.int_ boot_int') aj_nil))) (fun _ => rfl))) (wj_or1 (tj_truth rfl (oj_callBn (jIsiA rfl) G.isinstance_ boot_isinstance' (aj_cons (ov 2) (aj_cons (o_ty G.bool_ boot_bool') aj_nil))) (fun _ => rfl))))))) (fun s Hq C cl fp => (ov 2))) (oj_lst aj_nil) rfl) (bj_one (sj_ret oj_bl)) bj_nil)
    (bj_one (sj_ret (oj_cmp (jInA rfl (hu65 hr)) (ov 1) (o_def (H.d__law_paths 20) hr gd tk (aj_cons (oj_frz (ov 0)) aj_nil) (lenC lenN)) rfl)))))
/-- the defs that _law_is_tree calls -/
structure Has__law_is_tree (B : Base) : Prop where
/-! _law_is_tree -/
theorem sc__law_is_tree : FnScope ["schema", "kind", "thing", "tag", "children", "rows", "child", "part"] ["schema", "kind", "thing"] (defScope (top 23)) := ⟨rfl, rfl, rfl, by decide +kernel, rfl, by decide +kernel, by decide +kernel⟩
theorem d__law_is_tree {B : Base} (D : DefAt B "_law_is_tree" (top 23) ["schema", "kind", "thing"]) (G : Glo B) (H : Has__law_is_tree B) : ∀ n, DJ B "_law_is_tree" (0 + n) ["schema", "kind", "thing"] (g__law_is_tree n)
  | 0 => dj_bad D
  | n + 1 => have S := sc__law_is_tree; have ih := d__law_is_tree D G H n; dj_mk (P := []) D S fun f cdv A outer s Hp E hr gd tk po =>
    (bj_cons (sj_if (tj_w (wj_or (tj_not (tj_truth rfl (oj_callBn (jIsiA rfl) G.isinstance_ boot_isinstance' (aj_cons (ov 2) (aj_cons (o_ty G.tuple_ boot_tuple') aj_nil))) (fun _ => rfl))) (wj_or (tj_cmp (jEqA rfl (hu64 hr)) (oj_callBn jLenA G.len_ boot_len' (aj_cons (ov 2) aj_nil)) oj_int rfl) (wj_or1 (tj_not (tj_truth rfl (oj_callBn (jIsiA rfl) G.isinstance_ boot_isinstance' (aj_cons (oj_ix (jIxA rfl (hu1 hr)) (ov 2) oj_int (fun _ _ => rfl)) (aj_cons (o_ty G.str_ boot_str') aj_nil))) (fun _ => rfl))))))) (bj_one (sj_ret oj_bl)) bj_nil)
    (bj_cons (sj_for po rfl (ij_anyK (oj_ix (jIxA rfl (hu1 hr)) (ov 0) (ov 1) (fun _ _ => rfl))) (gj_tup rfl rfl (gjs_cons (gj_name S.nd rfl (.inl rfl) (nmem rfl)) (gjs_cons (gj_name S.nd rfl (.inl rfl) (nmem rfl)) gjs_nil)))
    (bj_one (sj_if (tj_cmp (jEqA rfl (hu64 hr)) (ov 3) (oj_ix (jIxA rfl (hu1 hr)) (ov 2) oj_int (fun _ _ => rfl)) rfl) (bj_cons (sj_if (tj_cmp (jNeA rfl (hu64 hr)) (oj_callBn jLenA G.len_ boot_len' (aj_cons (ov 2) aj_nil)) (oj_bin (jAdd rfl) oj_int (oj_callBn jLenA G.len_ boot_len' (aj_cons (ov 4) aj_nil))) rfl) (bj_one (sj_ret oj_bl)) bj_nil)
    (bj_cons (sj_setLc (own := [("child", 6), ("part", 7)]) rfl S.nd rfl rfl (by decide) rfl (by kernel_rfl) (ij_zip rfl G.zip_ (aj_cons (oj_frz (ov 4)) (aj_cons (oj_frz (oj_sl (jSl rfl) (ov 2) (po_j_some oj_int) po_j_none)) aj_nil))) (glen_tup (glens_cons glen_name (glens_cons glen_name glens_nil))) (fun s Hq C cl fp => (gj_tup rfl rfl (gjs_cons (gj_name S.nd rfl (.inl rfl) (nmem rfl)) (gjs_cons (gj_name S.nd rfl (.inl rfl) (nmem rfl)) gjs_nil)))) (fun s Hq C cl fp => tsj_nil) (fun s Hq C cl fp => (o_def ih hr gd tk0 (aj_cons (oj_frz (ov 0)) (aj_cons (oj_frz (ov 6)) (aj_cons (oj_frz (ov 7)) aj_nil))) (lenC (lenC (lenC lenN))))))
    (bj_one (sj_ret (oj_cmp (jNiA rfl (hu65 hr)) oj_bl (ov 5) rfl))))) bj_nil)))
    (bj_one (sj_ret oj_bl))))
/-- the defs that _law_pot_of calls -/
structure Has__law_pot_of (B : Base) : Prop where
/-! _law_pot_of -/
theorem sc__law_pot_of : FnScope ["script", "cells", "place", "cell"] ["script"] (defScope (top 16)) := ⟨rfl, rfl, rfl, by decide +kernel, rfl, by decide +kernel, by decide +kernel⟩
theorem d__law_pot_of {B : Base} (D : DefAt B "_law_pot_of" (top 16) ["script"]) (G : Glo B) (H : Has__law_pot_of B) : DJ B "_law_pot_of" 1 ["script"] g__law_pot_of :=
  have S := sc__law_pot_of; dj_mk (P := []) D S fun f cdv A outer s Hp E hr gd tk po =>
    (bj_cons (sj_setLc (own := [("cell", 3)]) rfl S.nd rfl rfl (by decide) rfl (by kernel_rfl) (ij_anyK (oj_sl (jSl rfl) (ov 0) po_j_none (po_j_some oj_int))) glen_name (fun s Hq C cl fp => (gj_name S.nd rfl (.inl rfl) (nmem rfl))) (fun s Hq C cl fp => tsj_nil) (fun s Hq C cl fp => (oj_callBn jAbs G.abs_ boot_abs' (aj_cons (ov 3) aj_nil))))
    (bj_cons (sj_for po rfl (ij_enumA G.enumerate_ (oj_sl (jSl rfl) (ov 0) (po_j_some oj_int) (po_j_some oj_int))) (gj_tup rfl rfl (gjs_cons (gj_name S.nd rfl (.inl rfl) (nmem rfl)) (gjs_cons (gj_name S.nd rfl (.inl rfl) (nmem rfl)) gjs_nil)))
    (bj_one (sj_put (jStA (hu1 hr)) (oj_bin (jAdd rfl) (oj_ix (jIxA rfl (hu1 hr)) (ov 1) (oj_bin jModI (ov 2) oj_int) (fun _ _ => rfl)) (oj_callBn jAbs G.abs_ boot_abs' (aj_cons (ov 3) aj_nil))) (ov 1) (oj_bin jModI (ov 2) oj_int))))
    (bj_one (sj_ret (oj_lst (aj_cons (oj_frz (ov 1)) (aj_cons oj_int (aj_cons oj_int (aj_cons oj_int aj_nil)))))))))
/-- the defs that is_integer calls -/
structure Has_is_integer (B : Base) : Prop where
/-! is_integer -/
theorem sc_is_integer : FnScope ["thing"] ["thing"] (defScope (top 4)) := ⟨rfl, rfl, rfl, by decide +kernel, rfl, by decide +kernel, by decide +kernel⟩
theorem d_is_integer {B : Base} (D : DefAt B "is_integer" (top 4) ["thing"]) (G : Glo B) (H : Has_is_integer B) : DJ B "is_integer" 1 ["thing"] g_is_integer :=
  have S := sc_is_integer; dj_mk (P := []) D S fun f cdv A outer s Hp E hr gd tk po =>
    (bj_one (sj_ret (oj_and (oj_callBn (jIsiA rfl) G.isinstance_ boot_isinstance' (aj_cons (ov 0) (aj_cons (o_ty G.int_ boot_int') aj_nil))) (oj_one (oj_not (oj_callBn (jIsiA rfl) G.isinstance_ boot_isinstance' (aj_cons (ov 0) (aj_cons (o_ty G.bool_ boot_bool') aj_nil))))))))
/-- the defs that part_at calls -/
structure Has_part_at (B : Base) : Prop where
  d_is_integer : DJ B "is_integer" 1 ["thing"] g_is_integer
/-! part_at -/
theorem sc_part_at : FnScope ["tree", "path", "index"] ["tree", "path"] (defScope (top 12)) := ⟨rfl, rfl, rfl, by decide +kernel, rfl, by decide +kernel, by decide +kernel⟩
theorem d_part_at {B : Base} (D : DefAt B "part_at" (top 12) ["tree", "path"]) (G : Glo B) (H : Has_part_at B) : DJ B "part_at" 2 ["tree", "path"] g_part_at :=
  have S := sc_part_at; dj_mk (P := []) D S fun f cdv A outer s Hp E hr gd tk po =>
    (bj_cons (sj_if (tj_not (tj_truth rfl (oj_callBn (jIsiA rfl) G.isinstance_ boot_isinstance' (aj_cons (ov 1) (aj_cons (o_ty G.tuple_ boot_tuple') aj_nil))) (fun _ => rfl))) (bj_one (sj_raise G.x_NoPath tk rfl)) bj_nil)
    (bj_cons (sj_for po rfl (ij_anyK (ov 1)) (gj_name S.nd rfl (.inl rfl) (nmem rfl))
    (bj_cons (sj_if (tj_w (wj_or (tj_not (tj_truth rfl (o_def H.d_is_integer hr gd tk (aj_cons (oj_frz (ov 2)) aj_nil) (lenC lenN)) (fun _ => rfl))) (wj_or1 (tj_not (tj_chain cLeI cLtI oj_int (ov 2) (oj_bin jSubI (oj_callBn jLenA G.len_ boot_len' (aj_cons (ov 0) aj_nil)) oj_int) rfl))))) (bj_one (sj_raise G.x_NoPath tk rfl)) bj_nil)
    (bj_one (sj_set S.nd rfl (.inl rfl) (by decide) (oj_ix (jIxA rfl (hu1 hr)) (ov 0) (oj_bin (jAdd rfl) (ov 2) oj_int) (fun _ _ => rfl))))))
    (bj_one (sj_ret (oj_frz (ov 0))))))
/-- the defs that put_at calls -/
structure Has_put_at (B : Base) : Prop where
  d_part_at : DJ B "part_at" 2 ["tree", "path"] g_part_at
/-! put_at -/
theorem sc_put_at : FnScope ["tree", "path", "part", "first", "rest"] ["tree", "path", "part"] (defScope (top 13)) := ⟨rfl, rfl, rfl, by decide +kernel, rfl, by decide +kernel, by decide +kernel⟩
theorem d_put_at {B : Base} (D : DefAt B "put_at" (top 13) ["tree", "path", "part"]) (G : Glo B) (H : Has_put_at B) : ∀ n, DJ B "put_at" (2 + n) ["tree", "path", "part"] (g_put_at n)
  | 0 => dj_bad D
  | n + 1 => have S := sc_put_at; have ih := d_put_at D G H n; dj_mk (P := []) D S fun f cdv A outer s Hp E hr gd tk po =>
    (bj_cons (sj_expr (o_def H.d_part_at hr gd tk (aj_cons (oj_frz (ov 0)) (aj_cons (oj_frz (ov 1)) aj_nil)) (lenC (lenC lenN))))
    (bj_cons (sj_if (tj_cmp (jEqA rfl (hu64 hr)) (ov 1) (oj_tup aj_nil) rfl) (bj_one (sj_ret (oj_frz (ov 2)))) bj_nil)
    (bj_cons (sj_star rfl S.nd (ov 1))
    (bj_one (sj_ret (oj_bin (jAdd rfl) (oj_bin (jAdd rfl) (oj_sl (jSl rfl) (ov 0) po_j_none (po_j_some (oj_bin (jAdd rfl) (ov 3) oj_int))) (oj_tup (aj_cons (oj_frz (o_def ih hr gd tk (aj_cons (oj_frz (oj_ix (jIxA rfl (hu1 hr)) (ov 0) (oj_bin (jAdd rfl) (ov 3) oj_int) (fun _ _ => rfl))) (aj_cons (oj_frz (oj_callTn jTuple G.tuple_ boot_tuple' (aj_cons (ov 4) aj_nil))) (aj_cons (oj_frz (ov 2)) aj_nil))) (lenC (lenC (lenC lenN))))) aj_nil))) (oj_sl (jSl rfl) (ov 0) (po_j_some (oj_bin (jAdd rfl) (ov 3) oj_int)) po_j_none)))))))
/-- the defs that _law_refused calls -/
structure Has__law_refused (B : Base) : Prop where
  d_part_at : DJ B "part_at" 2 ["tree", "path"] g_part_at
  d_put_at : ∀ n, DJ B "put_at" (2 + n) ["tree", "path", "part"] (g_put_at n)
/-! _law_refused -/
theorem sc__law_refused : FnScope ["way", "tree", "path", "caught", "error"] ["way", "tree", "path"] (defScope (top 29)) := ⟨rfl, rfl, rfl, by decide +kernel, rfl, by decide +kernel, by decide +kernel⟩
theorem d__law_refused {B : Base} (D : DefAt B "_law_refused" (top 29) ["way", "tree", "path"]) (G : Glo B) (H : Has__law_refused B) : DJ B "_law_refused" 23 ["way", "tree", "path"] g__law_refused :=
  have S := sc__law_refused; dj_mk (P := []) D S fun f cdv A outer s Hp E hr gd tk po =>
    (bj_cons (sj_set S.nd rfl (.inl rfl) (by decide) oj_non)
    (bj_cons (sj_try (c := .ref (B.R.ct "NoPath")) (isX_ok G.e_NoPath) ⟨rfl, rfl, .inl G.x_NoPath.g⟩ tk (fun W pn xe tk po => (bj_one (sj_if (tj_cmp (jEqA rfl (hu64 hr)) (ov 0) oj_int rfl) (bj_one (sj_expr (o_def H.d_part_at hr gd tk (aj_cons (oj_frz (ov 1)) (aj_cons (oj_frz (ov 2)) aj_nil)) (lenC (lenC lenN))))) (bj_one (sj_expr (o_def (H.d_put_at 20) hr gd tk (aj_cons (oj_frz (ov 1)) (aj_cons (oj_frz (ov 2)) (aj_cons (oj_frz (oj_tup (aj_cons oj_str aj_nil))) aj_nil))) (lenC (lenC (lenC lenN))))))))) (fun a oe pn => (bj_one (sj_set S.nd rfl (.inl rfl) (by decide) (oj_frz (ov 4))))) S.nd)
    (bj_one (sj_ret (oj_cmp jNt (ov 3) oj_non rfl)))))
/-- the defs that _law_size calls -/
structure Has__law_size (B : Base) : Prop where
/-! _law_size -/
theorem sc__law_size : FnScope ["tree", "part"] ["tree"] (defScope (top 24)) := ⟨rfl, rfl, rfl, by decide +kernel, rfl, by decide +kernel, by decide +kernel⟩
theorem d__law_size {B : Base} (D : DefAt B "_law_size" (top 24) ["tree"]) (G : Glo B) (H : Has__law_size B) : ∀ n, DJ B "_law_size" (0 + n) ["tree"] (g__law_size n)
  | 0 => dj_bad D
  | n + 1 => have S := sc__law_size; have ih := d__law_size D G H n; dj_mk (P := []) D S fun f cdv A outer s Hp E hr gd tk po =>
    (bj_one (sj_ret (oj_bin (jAdd rfl) oj_int (oj_callBn (jSum rfl) G.sum_ boot_sum' (aj_cons (oj_lc (own := [("part", 1)]) rfl S.nd (by kernel_rfl) (ij_anyK (oj_sl (jSl rfl) (ov 0) (po_j_some oj_int) po_j_none)) glen_name (fun s Hq C cl fp => (gj_name S.nd rfl (.inl rfl) (nmem rfl))) (fun s Hq C cl fp => tsj_nil) (fun s Hq C cl fp => (o_def ih hr gd tk0 (aj_cons (oj_frz (ov 1)) aj_nil) (lenC lenN)))) aj_nil)))))
/-- the defs that _law_some_tree calls -/
structure Has__law_some_tree (B : Base) : Prop where
  d__law_pick : DJ B "_law_pick" 3 ["pot", "items"] g__law_pick
/-! _law_some_tree -/
theorem sc__law_some_tree : FnScope ["pot", "schema", "kind", "deep", "some", "tag", "children", "pair", "child"] ["pot", "schema", "kind", "deep"] (defScope (top 21)) := ⟨rfl, rfl, rfl, by decide +kernel, rfl, by decide +kernel, by decide +kernel⟩
theorem d__law_some_tree {B : Base} (D : DefAt B "_law_some_tree" (top 21) ["pot", "schema", "kind", "deep"]) (G : Glo B) (H : Has__law_some_tree B) : ∀ n, DJ B "_law_some_tree" (3 + n) ["pot", "schema", "kind", "deep"] (g__law_some_tree n)
  | 0 => dj_bad D
  | n + 1 => have S := sc__law_some_tree; have ih := d__law_some_tree D G H n; dj_mk (P := [0]) D S fun f cdv A outer s Hp E hr gd tk po =>
    (bj_cons (sj_setLc (own := [("pair", 7)]) rfl S.nd rfl rfl (by decide) rfl (by kernel_rfl) (ij_anyK (oj_ix (jIxA rfl (hu1 hr)) (ov 1) (ov 2) (fun _ _ => rfl))) glen_name (fun s Hq C cl fp => (gj_name S.nd rfl (.inl rfl) (nmem rfl))) (fun s Hq C cl fp => (tsj_one (tj_w (wj_or (tj_cmp (jEqA rfl (hu64 hr)) (oj_ix (jIxA rfl (hu1 hr)) (ov 7) oj_int (fun _ _ => rfl)) (oj_tup aj_nil) rfl) (wj_or1 (tj_cmp jGtI (ov 3) oj_int rfl)))))) (fun s Hq C cl fp => (ov 7)))
    (bj_cons (sj_tgt (o_def H.d__law_pick hr gd tk (aj_cons (ov 0) (aj_cons (oj_frz (ov 4)) aj_nil)) (lenC (lenC lenN))) (gj_tup rfl rfl (gjs_cons (gj_name S.nd rfl (.inl rfl) (nmem rfl)) (gjs_cons (gj_name S.nd rfl (.inl rfl) (nmem rfl)) gjs_nil))))
    (bj_one (sj_ret (oj_bin (jAdd rfl) (oj_tup (aj_cons (oj_frz (ov 5)) aj_nil)) (oj_callTn jTuple G.tuple_ boot_tuple' (aj_cons (oj_lc (own := [("child", 8)]) rfl S.nd (by kernel_rfl) (ij_anyK (ov 6)) glen_name (fun s Hq C cl fp => (gj_name S.nd rfl (.inl rfl) (nmem rfl))) (fun s Hq C cl fp => tsj_nil) (fun s Hq C cl fp => (o_def ih hr gd tk0 (aj_cons (ov 0) (aj_cons (oj_frz (ov 1)) (aj_cons (oj_frz (ov 8)) (aj_cons (oj_frz (oj_bin jSubI (ov 3) oj_int)) aj_nil)))) (lenC (lenC (lenC (lenC lenN))))))) aj_nil)))))))
/-- the defs that _law_with calls -/
structure Has__law_with (B : Base) : Prop where
/-! _law_with -/
theorem sc__law_with : FnScope ["tree", "path", "part", "some"] ["tree", "path", "part"] (defScope (top 27)) := ⟨rfl, rfl, rfl, by decide +kernel, rfl, by decide +kernel, by decide +kernel⟩
theorem d__law_with {B : Base} (D : DefAt B "_law_with" (top 27) ["tree", "path", "part"]) (G : Glo B) (H : Has__law_with B) : ∀ n, DJ B "_law_with" (0 + n) ["tree", "path", "part"] (g__law_with n)
  | 0 => dj_bad D
  | n + 1 => have S := sc__law_with; have ih := d__law_with D G H n; dj_mk (P := []) D S fun f cdv A outer s Hp E hr gd tk po =>
    (bj_cons (sj_if (tj_cmp (jEqA rfl (hu64 hr)) (ov 1) (oj_tup aj_nil) rfl) (bj_one (sj_ret (oj_frz (ov 2)))) bj_nil)
    (bj_cons (sj_set S.nd rfl (.inl rfl) (by decide) (oj_callTn (jListA rfl) G.list_ boot_list' (aj_cons (ov 0) aj_nil)))
    (bj_cons (sj_put (jStA (hu1 hr)) (o_def ih hr gd tk (aj_cons (oj_frz (oj_ix (jIxA rfl (hu1 hr)) (ov 0) (oj_bin (jAdd rfl) (oj_ix (jIxA rfl (hu1 hr)) (ov 1) oj_int (fun _ _ => rfl)) oj_int) (fun _ _ => rfl))) (aj_cons (oj_frz (oj_sl (jSl rfl) (ov 1) (po_j_some oj_int) po_j_none)) (aj_cons (oj_frz (ov 2)) aj_nil))) (lenC (lenC (lenC lenN)))) (ov 3) (oj_bin (jAdd rfl) (oj_ix (jIxA rfl (hu1 hr)) (ov 1) oj_int (fun _ _ => rfl)) oj_int))
    (bj_one (sj_ret (oj_callTn jTuple G.tuple_ boot_tuple' (aj_cons (ov 3) aj_nil)))))))
/-- the defs that children_of calls -/
structure Has_children_of (B : Base) : Prop where
/-! children_of -/
theorem sc_children_of : FnScope ["schema", "tag", "variants", "name", "children"] ["schema", "tag"] (defScope (top 7)) := ⟨rfl, rfl, rfl, by decide +kernel, rfl, by decide +kernel, by decide +kernel⟩
theorem d_children_of {B : Base} (D : DefAt B "children_of" (top 7) ["schema", "tag"]) (G : Glo B) (H : Has_children_of B) : DJ B "children_of" 1 ["schema", "tag"] g_children_of :=
  have S := sc_children_of; dj_mk (P := []) D S fun f cdv A outer s Hp E hr gd tk po =>
    (bj_cons (sj_for po rfl (ij_vals (ov 0)) (gj_name S.nd rfl (.inl rfl) (nmem rfl))
    (bj_one (sj_for po rfl (ij_anyK (ov 2)) (gj_tup rfl rfl (gjs_cons (gj_name S.nd rfl (.inl rfl) (nmem rfl)) (gjs_cons (gj_name S.nd rfl (.inl rfl) (nmem rfl)) gjs_nil)))
    (bj_one (sj_if (tj_cmp (jEqA rfl (hu64 hr)) (ov 3) (ov 1) rfl) (bj_one (sj_ret (oj_move (ov 4)))) bj_nil)))))
    (bj_one (sj_ret oj_non)))
/-- the defs that kind_of calls -/
structure Has_kind_of (B : Base) : Prop where
/-! kind_of -/
theorem sc_kind_of : FnScope ["schema", "tag", "kind", "variants", "variant"] ["schema", "tag"] (defScope (top 6)) := ⟨rfl, rfl, rfl, by decide +kernel, rfl, by decide +kernel, by decide +kernel⟩
theorem d_kind_of {B : Base} (D : DefAt B "kind_of" (top 6) ["schema", "tag"]) (G : Glo B) (H : Has_kind_of B) : DJ B "kind_of" 1 ["schema", "tag"] g_kind_of :=
  have S := sc_kind_of; dj_mk (P := []) D S fun f cdv A outer s Hp E hr gd tk po =>
    (bj_cons (sj_for po rfl (ij_items (ov 0)) (gj_tup rfl rfl (gjs_cons (gj_name S.nd rfl (.inl rfl) (nmem rfl)) (gjs_cons (gj_name S.nd rfl (.inl rfl) (nmem rfl)) gjs_nil)))
    (bj_one (sj_if (tj_cmp (jInA rfl (hu65 hr)) (ov 1) (oj_lc (own := [("variant", 4)]) rfl S.nd (by kernel_rfl) (ij_anyK (ov 3)) glen_name (fun s Hq C cl fp => (gj_name S.nd rfl (.inl rfl) (nmem rfl))) (fun s Hq C cl fp => tsj_nil) (fun s Hq C cl fp => (oj_ix (jIxA rfl (hu1 hr)) (ov 4) oj_int (fun _ _ => rfl)))) rfl) (bj_one (sj_ret (oj_move (ov 2)))) bj_nil)))
    (bj_one (sj_ret oj_non)))
/-- the defs that is_tree calls -/
structure Has_is_tree (B : Base) : Prop where
  d_children_of : DJ B "children_of" 1 ["schema", "tag"] g_children_of
  d_kind_of : DJ B "kind_of" 1 ["schema", "tag"] g_kind_of
/-! is_tree -/
theorem sc_is_tree : FnScope ["schema", "kind", "thing", "children", "child", "part"] ["schema", "kind", "thing"] (defScope (top 9)) := ⟨rfl, rfl, rfl, by decide +kernel, rfl, by decide +kernel, by decide +kernel⟩
theorem d_is_tree {B : Base} (D : DefAt B "is_tree" (top 9) ["schema", "kind", "thing"]) (G : Glo B) (H : Has_is_tree B) : ∀ n, DJ B "is_tree" (1 + n) ["schema", "kind", "thing"] (g_is_tree n)
  | 0 => dj_bad D
  | n + 1 => have S := sc_is_tree; have ih := d_is_tree D G H n; dj_mk (P := []) D S fun f cdv A outer s Hp E hr gd tk po =>
    (bj_cons (sj_if (tj_w (wj_or (tj_not (tj_truth rfl (oj_callBn (jIsiA rfl) G.isinstance_ boot_isinstance' (aj_cons (ov 2) (aj_cons (o_ty G.tuple_ boot_tuple') aj_nil))) (fun _ => rfl))) (wj_or (tj_cmp (jEqA rfl (hu64 hr)) (ov 2) (oj_tup aj_nil) rfl) (wj_or1 (tj_not (tj_truth rfl (oj_callBn (jIsiA rfl) G.isinstance_ boot_isinstance' (aj_cons (oj_ix (jIxA rfl (hu1 hr)) (ov 2) oj_int (fun _ _ => rfl)) (aj_cons (o_ty G.str_ boot_str') aj_nil))) (fun _ => rfl))))))) (bj_one (sj_ret oj_bl)) bj_nil)
    (bj_cons (sj_if (tj_cmp (jNeA rfl (hu64 hr)) (o_def H.d_kind_of hr gd tk (aj_cons (oj_frz (ov 0)) (aj_cons (oj_frz (oj_ix (jIxA rfl (hu1 hr)) (ov 2) oj_int (fun _ _ => rfl))) aj_nil)) (lenC (lenC lenN))) (ov 1) rfl) (bj_one (sj_ret oj_bl)) bj_nil)
    (bj_cons (sj_set S.nd rfl (.inl rfl) (by decide) (o_def H.d_children_of hr gd tk (aj_cons (oj_frz (ov 0)) (aj_cons (oj_frz (oj_ix (jIxA rfl (hu1 hr)) (ov 2) oj_int (fun _ _ => rfl))) aj_nil)) (lenC (lenC lenN))))
    (bj_cons (sj_if (tj_cmp (jNeA rfl (hu64 hr)) (oj_callBn jLenA G.len_ boot_len' (aj_cons (ov 2) aj_nil)) (oj_bin (jAdd rfl) (oj_callBn jLenA G.len_ boot_len' (aj_cons (ov 3) aj_nil)) oj_int) rfl) (bj_one (sj_ret oj_bl)) bj_nil)
    (bj_one (sj_ret (oj_callBn (jAll rfl) G.all_ boot_all' (aj_cons (oj_lc (own := [("child", 4), ("part", 5)]) rfl S.nd (by kernel_rfl) (ij_zip rfl G.zip_ (aj_cons (oj_frz (ov 3)) (aj_cons (oj_frz (oj_sl (jSl rfl) (ov 2) (po_j_some oj_int) po_j_none)) aj_nil))) (glen_tup (glens_cons glen_name (glens_cons glen_name glens_nil))) (fun s Hq C cl fp => (gj_tup rfl rfl (gjs_cons (gj_name S.nd rfl (.inl rfl) (nmem rfl)) (gjs_cons (gj_name S.nd rfl (.inl rfl) (nmem rfl)) gjs_nil)))) (fun s Hq C cl fp => tsj_nil) (fun s Hq C cl fp => (o_def ih hr gd tk0 (aj_cons (oj_frz (ov 0)) (aj_cons (oj_frz (ov 4)) (aj_cons (oj_frz (ov 5)) aj_nil))) (lenC (lenC (lenC lenN)))))) aj_nil))))))))
/-- the defs that paths calls -/
structure Has_paths (B : Base) : Prop where
/-! paths -/
theorem sc_paths : FnScope ["tree", "found", "index", "part", "path"] ["tree"] (defScope (top 11)) := ⟨rfl, rfl, rfl, by decide +kernel, rfl, by decide +kernel, by decide +kernel⟩
theorem d_paths {B : Base} (D : DefAt B "paths" (top 11) ["tree"]) (G : Glo B) (H : Has_paths B) : ∀ n, DJ B "paths" (0 + n) ["tree"] (g_paths n)
  | 0 => dj_bad D
  | n + 1 => have S := sc_paths; have ih := d_paths D G H n; dj_mk (P := []) D S fun f cdv A outer s Hp E hr gd tk po =>
    (bj_cons (sj_set S.nd rfl (.inl rfl) (by decide) (oj_lst (aj_cons (oj_frz (oj_tup aj_nil)) aj_nil)))
    (bj_cons (sj_for po rfl (ij_enumA G.enumerate_ (oj_sl (jSl rfl) (ov 0) (po_j_some oj_int) po_j_none)) (gj_tup rfl rfl (gjs_cons (gj_name S.nd rfl (.inr rfl) (nmem rfl)) (gjs_cons (gj_name S.nd rfl (.inl rfl) (nmem rfl)) gjs_nil)))
    (bj_one (sj_expr (oj_mu rfl PySem.F.plainAttrs_list PySem.F.slot_list_extend PySem.F.type_list_extend (by decide) jExtend (ov 1) (aj_cons (oj_frz (oj_lc (own := [("path", 4)]) rfl S.nd (by kernel_rfl) (ij_anyK (o_def ih hr gd tk (aj_cons (oj_frz (ov 3)) aj_nil) (lenC lenN))) glen_name (fun s Hq C cl fp => (gj_name S.nd rfl (.inl rfl) (nmem rfl))) (fun s Hq C cl fp => tsj_nil) (fun s Hq C cl fp => (oj_bin (jAdd rfl) (oj_tup (aj_cons (oj_frz (ov 2)) aj_nil)) (ov 4))))) aj_nil)))))
    (bj_one (sj_ret (oj_move (ov 1))))))
/-- the defs that size_of calls -/
structure Has_size_of (B : Base) : Prop where
/-! size_of -/
theorem sc_size_of : FnScope ["tree", "part"] ["tree"] (defScope (top 10)) := ⟨rfl, rfl, rfl, by decide +kernel, rfl, by decide +kernel, by decide +kernel⟩
theorem d_size_of {B : Base} (D : DefAt B "size_of" (top 10) ["tree"]) (G : Glo B) (H : Has_size_of B) : ∀ n, DJ B "size_of" (0 + n) ["tree"] (g_size_of n)
  | 0 => dj_bad D
  | n + 1 => have S := sc_size_of; have ih := d_size_of D G H n; dj_mk (P := []) D S fun f cdv A outer s Hp E hr gd tk po =>
    (bj_one (sj_ret (oj_bin (jAdd rfl) oj_int (oj_callBn (jSum rfl) G.sum_ boot_sum' (aj_cons (oj_lc (own := [("part", 1)]) rfl S.nd (by kernel_rfl) (ij_anyK (oj_sl (jSl rfl) (ov 0) (po_j_some oj_int) po_j_none)) glen_name (fun s Hq C cl fp => (gj_name S.nd rfl (.inl rfl) (nmem rfl))) (fun s Hq C cl fp => tsj_nil) (fun s Hq C cl fp => (o_def ih hr gd tk0 (aj_cons (oj_frz (ov 1)) aj_nil) (lenC lenN)))) aj_nil)))))
/-- the defs that law calls -/
structure Has_law (B : Base) : Prop where
  d__law_at : DJ B "_law_at" 1 ["tree", "path"] g__law_at
  d__law_bent : ∀ n, DJ B "_law_bent" (3 + n) ["pot", "thing"] (g__law_bent n)
  d__law_full_schema : DJ B "_law_full_schema" 4 ["pot"] g__law_full_schema
  d__law_is_path : DJ B "_law_is_path" 21 ["tree", "thing"] g__law_is_path
  d__law_is_tree : ∀ n, DJ B "_law_is_tree" (0 + n) ["schema", "kind", "thing"] (g__law_is_tree n)
  d__law_paths : ∀ n, DJ B "_law_paths" (0 + n) ["tree"] (g__law_paths n)
  d__law_pick : DJ B "_law_pick" 3 ["pot", "items"] g__law_pick
  d__law_pot_of : DJ B "_law_pot_of" 1 ["script"] g__law_pot_of
  d__law_refused : DJ B "_law_refused" 23 ["way", "tree", "path"] g__law_refused
  d__law_size : ∀ n, DJ B "_law_size" (0 + n) ["tree"] (g__law_size n)
  d__law_some_tree : ∀ n, DJ B "_law_some_tree" (3 + n) ["pot", "schema", "kind", "deep"] (g__law_some_tree n)
  d__law_with : ∀ n, DJ B "_law_with" (0 + n) ["tree", "path", "part"] (g__law_with n)
  d_is_tree : ∀ n, DJ B "is_tree" (1 + n) ["schema", "kind", "thing"] (g_is_tree n)
  d_part_at : DJ B "part_at" 2 ["tree", "path"] g_part_at
  d_paths : ∀ n, DJ B "paths" (0 + n) ["tree"] (g_paths n)
  d_put_at : ∀ n, DJ B "put_at" (2 + n) ["tree", "path", "part"] (g_put_at n)
  d_size_of : ∀ n, DJ B "size_of" (0 + n) ["tree"] (g_size_of n)
/-! law -/
theorem sc_law : FnScope ["script", "pot", "turn", "schema", "kind", "tree", "other", "things", "due", "before", "again", "thing", "one", "path", "odd", "way"] ["script"] (defScope (top 30)) := ⟨rfl, rfl, rfl, by decide +kernel, rfl, by decide +kernel, by decide +kernel⟩
theorem d_law {B : Base} (D : DefAt B "law" (top 30) ["script"]) (G : Glo B) (H : Has_law B) : DJ B "law" 24 ["script"] g_law :=
  have S := sc_law; dj_mk (P := []) D S fun f cdv A outer s Hp E hr gd tk po =>
    (bj_cons (sj_set S.nd rfl (.inr rfl) (by decide) (o_def H.d__law_pot_of hr gd tk (aj_cons (oj_frz (ov 0)) aj_nil) (lenC lenN)))
    (bj_cons (sj_for po rfl (ij_range1 rfl G.range_ (aj_cons oj_int aj_nil)) (gj_name S.nd rfl (.inl rfl) (nmem rfl))
    (bj_cons (sj_set S.nd rfl (.inl rfl) (by decide) (o_def H.d__law_full_schema hr gd tk (aj_cons (ov 1) aj_nil) (lenC lenN)))
    (bj_cons (sj_set S.nd rfl (.inl rfl) (by decide) (o_def H.d__law_pick hr gd tk (aj_cons (ov 1) (aj_cons (oj_frz (oj_callTn (jListA rfl) G.list_ boot_list' (aj_cons (ov 3) aj_nil))) aj_nil)) (lenC (lenC lenN))))
    (bj_cons (sj_parC2 rfl S.nd (aj_cons (o_def (H.d__law_some_tree 20) hr gd tk (aj_cons (ov 1) (aj_cons (oj_frz (ov 3)) (aj_cons (oj_frz (ov 4)) (aj_cons oj_int aj_nil)))) (lenC (lenC (lenC (lenC lenN))))) (aj_cons (o_def (H.d__law_some_tree 20) hr gd tk (aj_cons (ov 1) (aj_cons (oj_frz (ov 3)) (aj_cons (oj_frz (ov 4)) (aj_cons oj_int aj_nil)))) (lenC (lenC (lenC (lenC lenN))))) aj_nil)) (.inr rfl) (.inl rfl))
    (bj_cons (sj_parC2 rfl S.nd (aj_cons (oj_lst (aj_cons (oj_frz (ov 5)) (aj_cons oj_non (aj_cons (oj_frz (oj_tup aj_nil)) (aj_cons (oj_frz (oj_tup (aj_cons oj_str aj_nil))) (aj_cons (oj_frz (oj_sl (jSl rfl) (ov 5) po_j_none (po_j_some oj_int))) (aj_cons (oj_frz (oj_callTn (jListA rfl) G.list_ boot_list' (aj_cons (ov 5) aj_nil))) (aj_cons oj_str aj_nil)))))))) (aj_cons (o_def (H.d__law_paths 20) hr gd tk (aj_cons (oj_frz (ov 5)) aj_nil) (lenC lenN)) aj_nil)) (.inl rfl) (.inr rfl))
    (bj_cons (sj_set S.nd rfl (.inl rfl) (by decide) (oj_callBn (jRepr gd (hu200 hr)) G.repr_ boot_repr' (aj_cons (oj_frz (oj_lst (aj_cons (oj_frz (ov 3)) (aj_cons (oj_frz (ov 5)) aj_nil)))) aj_nil)))
    (bj_cons (sj_for po rfl (ij_range1 rfl G.range_ (aj_cons oj_int aj_nil)) (gj_name S.nd rfl (.inl rfl) (nmem rfl))
    (bj_one (sj_expr (oj_mu rfl PySem.F.plainAttrs_list PySem.F.slot_list_append PySem.F.type_list_append (by decide) jAppend (ov 7) (aj_cons (oj_frz (o_def (H.d__law_bent 20) hr gd tk (aj_cons (ov 1) (aj_cons (oj_frz (o_def H.d__law_pick hr gd tk (aj_cons (ov 1) (aj_cons (oj_frz (oj_lst (aj_cons (oj_frz (ov 5)) (aj_cons (oj_frz (oj_ix (jIxA rfl (hu1 hr)) (ov 7) (oj_neg oj_int) (fun _ _ => rfl))) aj_nil)))) aj_nil)) (lenC (lenC lenN)))) aj_nil)) (lenC (lenC lenN)))) aj_nil)))))
    (bj_cons (sj_for po rfl (ij_anyK (ov 7)) (gj_name S.nd rfl (.inl rfl) (nmem rfl))
    (bj_one (sj_for po rfl (ij_anyK (ov 3)) (gj_name S.nd rfl (.inl rfl) (nmem rfl))
    (bj_one (sj_if (tj_cmp (jNeA rfl (hu64 hr)) (oj_callBn (jRepr gd (hu200 hr)) G.repr_ boot_repr' (aj_cons (oj_frz (o_def (H.d_is_tree 20) hr gd tk (aj_cons (oj_frz (ov 3)) (aj_cons (oj_frz (ov 12)) (aj_cons (oj_frz (ov 11)) aj_nil))) (lenC (lenC (lenC lenN))))) aj_nil)) (oj_callBn (jRepr gd (hu200 hr)) G.repr_ boot_repr' (aj_cons (oj_frz (o_def (H.d__law_is_tree 20) hr gd tk (aj_cons (oj_frz (ov 3)) (aj_cons (oj_frz (ov 12)) (aj_cons (oj_frz (ov 11)) aj_nil))) (lenC (lenC (lenC lenN))))) aj_nil)) rfl) (bj_one (sj_ret oj_bl)) bj_nil)))))
    (bj_cons (sj_if (tj_w (wj_or (tj_cmp (jNeA rfl (hu64 hr)) (o_def (H.d_size_of 20) hr gd tk (aj_cons (oj_frz (ov 5)) aj_nil) (lenC lenN)) (o_def (H.d__law_size 20) hr gd tk (aj_cons (oj_frz (ov 5)) aj_nil) (lenC lenN)) rfl) (wj_or1 (tj_cmp (jNeA rfl (hu64 hr)) (o_def (H.d_paths 20) hr gd tk (aj_cons (oj_frz (ov 5)) aj_nil) (lenC lenN)) (ov 8) rfl)))) (bj_one (sj_ret oj_bl)) bj_nil)
    (bj_cons (sj_for po rfl (ij_anyK (oj_bin (jAdd rfl) (oj_sl (jSl rfl) (ov 8) po_j_none (po_j_some oj_int)) (oj_sl (jSl rfl) (ov 8) (po_j_some (oj_neg oj_int)) po_j_none))) (gj_name S.nd rfl (.inr rfl) (nmem rfl))
    (bj_one (sj_if (tj_w (wj_or (tj_cmp (jNeA rfl (hu64 hr)) (o_def H.d_part_at hr gd tk (aj_cons (oj_frz (ov 5)) (aj_cons (oj_frz (ov 13)) aj_nil)) (lenC (lenC lenN))) (o_def H.d__law_at hr gd tk (aj_cons (oj_frz (ov 5)) (aj_cons (oj_frz (ov 13)) aj_nil)) (lenC (lenC lenN))) rfl) (wj_or1 (tj_cmp (jNeA rfl (hu64 hr)) (o_def (H.d_put_at 20) hr gd tk (aj_cons (oj_frz (ov 5)) (aj_cons (oj_frz (ov 13)) (aj_cons (oj_frz (ov 6)) aj_nil))) (lenC (lenC (lenC lenN)))) (o_def (H.d__law_with 20) hr gd tk (aj_cons (oj_frz (ov 5)) (aj_cons (oj_frz (ov 13)) (aj_cons (oj_frz (ov 6)) aj_nil))) (lenC (lenC (lenC lenN)))) rfl)))) (bj_one (sj_ret oj_bl)) bj_nil)))
    (bj_cons (sj_set S.nd rfl (.inl rfl) (by decide) (oj_lst (aj_cons oj_non (aj_cons (oj_frz (oj_lst aj_nil)) (aj_cons oj_str (aj_cons oj_int (aj_cons (oj_frz (oj_tup (aj_cons oj_bl aj_nil))) (aj_cons (oj_frz (oj_tup (aj_cons oj_int (aj_cons oj_bl aj_nil)))) (aj_cons (oj_frz (oj_tup (aj_cons oj_int aj_nil))) (aj_cons (oj_frz (oj_tup (aj_cons (oj_frz (oj_bin jSubI oj_int oj_int)) aj_nil))) (aj_cons (oj_frz (oj_tup (aj_cons oj_str aj_nil))) (aj_cons (oj_frz (oj_bin jMulA (oj_tup (aj_cons oj_int aj_nil)) oj_int)) (aj_cons (oj_frz (oj_tup (aj_cons oj_non aj_nil))) (aj_cons (oj_frz (oj_tup (aj_cons (oj_frz (oj_tup (aj_cons oj_int aj_nil))) aj_nil))) (aj_cons (oj_frz (oj_lst (aj_cons oj_int aj_nil))) aj_nil)))))))))))))))
    (bj_cons (sj_for po rfl (ij_anyK (oj_bin (jAdd rfl) (ov 14) (oj_lc (own := [("again", 10)]) rfl S.nd (by kernel_rfl) (ij_range1 rfl G.range_ (aj_cons oj_int aj_nil)) glen_name (fun s Hq C cl fp => (gj_name S.nd rfl (.inl rfl) (nmem rfl))) (fun s Hq C cl fp => tsj_nil) (fun s Hq C cl fp => (o_def (H.d__law_bent 20) hr gd tk0 (aj_cons (ov 1) (aj_cons (oj_frz (o_def H.d__law_pick hr gd tk0 (aj_cons (ov 1) (aj_cons (oj_frz (ov 8)) aj_nil)) (lenC (lenC lenN)))) aj_nil)) (lenC (lenC lenN))))))) (gj_name S.nd rfl (.inr rfl) (nmem rfl))
    (bj_one (sj_if (tj_cmp (jNeA rfl (hu64 hr)) (oj_lc (own := [("way", 15)]) rfl S.nd (by kernel_rfl) (ij_range1 rfl G.range_ (aj_cons oj_int aj_nil)) glen_name (fun s Hq C cl fp => (gj_name S.nd rfl (.inl rfl) (nmem rfl))) (fun s Hq C cl fp => (tsj_one (tj_cmp (jEqA rfl (hu64 hr)) (o_def H.d__law_refused hr gd tk0 (aj_cons (oj_frz (ov 15)) (aj_cons (oj_frz (ov 5)) (aj_cons (oj_frz (ov 13)) aj_nil))) (lenC (lenC (lenC lenN)))) (o_def H.d__law_is_path hr gd tk0 (aj_cons (oj_frz (ov 5)) (aj_cons (oj_frz (ov 13)) aj_nil)) (lenC (lenC lenN))) rfl))) (fun s Hq C cl fp => (ov 15))) (oj_lst aj_nil) rfl) (bj_one (sj_ret oj_bl)) bj_nil)))
    (bj_one (sj_if (tj_cmp (jNeA rfl (hu64 hr)) (oj_callBn (jRepr gd (hu200 hr)) G.repr_ boot_repr' (aj_cons (oj_frz (oj_lst (aj_cons (oj_frz (ov 3)) (aj_cons (oj_frz (ov 5)) aj_nil)))) aj_nil)) (ov 9) rfl) (bj_one (sj_ret oj_bl)) bj_nil))))))))))))))
    (bj_one (sj_ret oj_bl))))
/-! the end -/
theorem all_in {l : PySem.W.OpenLaw} {w : World} {K : PySem.W.Frag} {h : Heap} {mg : Str → Option Value} {fa : Addr}
    {f0 : Addr} {od0 an0 : Option Addr} {sl0 : Array (Option Value)} {oc0 kV0 dc0 pm0 cd0 ct0 : Value}
    {f1 : Addr} {od1 an1 : Option Addr} {sl1 : Array (Option Value)} {oc1 kV1 dc1 pm1 cd1 ct1 : Value}
    {f2 : Addr} {od2 an2 : Option Addr} {sl2 : Array (Option Value)} {oc2 kV2 dc2 pm2 cd2 ct2 : Value}
    {f3 : Addr} {od3 an3 : Option Addr} {sl3 : Array (Option Value)} {oc3 kV3 dc3 pm3 cd3 ct3 : Value}
    {f4 : Addr} {od4 an4 : Option Addr} {sl4 : Array (Option Value)} {oc4 kV4 dc4 pm4 cd4 ct4 : Value}
    {f5 : Addr} {od5 an5 : Option Addr} {sl5 : Array (Option Value)} {oc5 kV5 dc5 pm5 cd5 ct5 : Value}
    {f6 : Addr} {od6 an6 : Option Addr} {sl6 : Array (Option Value)} {oc6 kV6 dc6 pm6 cd6 ct6 : Value}
    {f7 : Addr} {od7 an7 : Option Addr} {sl7 : Array (Option Value)} {oc7 kV7 dc7 pm7 cd7 ct7 : Value}
    {f8 : Addr} {od8 an8 : Option Addr} {sl8 : Array (Option Value)} {oc8 kV8 dc8 pm8 cd8 ct8 : Value}
    {f9 : Addr} {od9 an9 : Option Addr} {sl9 : Array (Option Value)} {oc9 kV9 dc9 pm9 cd9 ct9 : Value}
    {f10 : Addr} {od10 an10 : Option Addr} {sl10 : Array (Option Value)} {oc10 kV10 dc10 pm10 cd10 ct10 : Value}
    {f11 : Addr} {od11 an11 : Option Addr} {sl11 : Array (Option Value)} {oc11 kV11 dc11 pm11 cd11 ct11 : Value}
    {f12 : Addr} {od12 an12 : Option Addr} {sl12 : Array (Option Value)} {oc12 kV12 dc12 pm12 cd12 ct12 : Value}
    {f13 : Addr} {od13 an13 : Option Addr} {sl13 : Array (Option Value)} {oc13 kV13 dc13 pm13 cd13 ct13 : Value}
    {f14 : Addr} {od14 an14 : Option Addr} {sl14 : Array (Option Value)} {oc14 kV14 dc14 pm14 cd14 ct14 : Value}
    {f15 : Addr} {od15 an15 : Option Addr} {sl15 : Array (Option Value)} {oc15 kV15 dc15 pm15 cd15 ct15 : Value}
    {f16 : Addr} {od16 an16 : Option Addr} {sl16 : Array (Option Value)} {oc16 kV16 dc16 pm16 cd16 ct16 : Value}
    {f17 : Addr} {od17 an17 : Option Addr} {sl17 : Array (Option Value)} {oc17 kV17 dc17 pm17 cd17 ct17 : Value}
    {f18 : Addr} {od18 an18 : Option Addr} {sl18 : Array (Option Value)} {oc18 kV18 dc18 pm18 cd18 ct18 : Value}
    {f19 : Addr} {od19 an19 : Option Addr} {sl19 : Array (Option Value)} {oc19 kV19 dc19 pm19 cd19 ct19 : Value}
    {f20 : Addr} {od20 an20 : Option Addr} {sl20 : Array (Option Value)} {oc20 kV20 dc20 pm20 cd20 ct20 : Value}
    {f21 : Addr} {od21 an21 : Option Addr} {sl21 : Array (Option Value)} {oc21 kV21 dc21 pm21 cd21 ct21 : Value}
    {f22 : Addr} {od22 an22 : Option Addr} {sl22 : Array (Option Value)} {oc22 kV22 dc22 pm22 cd22 ct22 : Value}
    {C_NoPath : Addr}
    (X : K.In h) (G : h.Ns mainGlobals mg) (hfa : mg "law" = some (.ref fa))
    (a0 : PySem.W.nsIn K mainGlobals "_law_at" = some (some (.ref f0))) (l0 : K.lookup f0 = some ⟨oc0, od0, .func (PySem.W.fnOf "_law_at" "_law_at" (defArgs (top 26)) (defBody (top 26)) (defScope (top 26)) .none kV0 dc0 pm0 an0 cd0 ct0), sl0⟩) (c0 : PySem.W.codeIn K cd0 "_law_at" = true) (k0 : PySem.W.keepIn K (.ref f0) = true)
    (a1 : PySem.W.nsIn K mainGlobals "_law_kneaded" = some (some (.ref f1))) (l1 : K.lookup f1 = some ⟨oc1, od1, .func (PySem.W.fnOf "_law_kneaded" "_law_kneaded" (defArgs (top 15)) (defBody (top 15)) (defScope (top 15)) .none kV1 dc1 pm1 an1 cd1 ct1), sl1⟩) (c1 : PySem.W.codeIn K cd1 "_law_kneaded" = true) (k1 : PySem.W.keepIn K (.ref f1) = true)
    (a2 : PySem.W.nsIn K mainGlobals "_law_below" = some (some (.ref f2))) (l2 : K.lookup f2 = some ⟨oc2, od2, .func (PySem.W.fnOf "_law_below" "_law_below" (defArgs (top 17)) (defBody (top 17)) (defScope (top 17)) .none kV2 dc2 pm2 an2 cd2 ct2), sl2⟩) (c2 : PySem.W.codeIn K cd2 "_law_below" = true) (k2 : PySem.W.keepIn K (.ref f2) = true)
    (a3 : PySem.W.nsIn K mainGlobals "_law_pick" = some (some (.ref f3))) (l3 : K.lookup f3 = some ⟨oc3, od3, .func (PySem.W.fnOf "_law_pick" "_law_pick" (defArgs (top 18)) (defBody (top 18)) (defScope (top 18)) .none kV3 dc3 pm3 an3 cd3 ct3), sl3⟩) (c3 : PySem.W.codeIn K cd3 "_law_pick" = true) (k3 : PySem.W.keepIn K (.ref f3) = true)
    (a4 : PySem.W.nsIn K mainGlobals "_law_bent" = some (some (.ref f4))) (l4 : K.lookup f4 = some ⟨oc4, od4, .func (PySem.W.fnOf "_law_bent" "_law_bent" (defArgs (top 22)) (defBody (top 22)) (defScope (top 22)) .none kV4 dc4 pm4 an4 cd4 ct4), sl4⟩) (c4 : PySem.W.codeIn K cd4 "_law_bent" = true) (k4 : PySem.W.keepIn K (.ref f4) = true)
    (a5 : PySem.W.nsIn K mainGlobals "_law_full_schema" = some (some (.ref f5))) (l5 : K.lookup f5 = some ⟨oc5, od5, .func (PySem.W.fnOf "_law_full_schema" "_law_full_schema" (defArgs (top 20)) (defBody (top 20)) (defScope (top 20)) .none kV5 dc5 pm5 an5 cd5 ct5), sl5⟩) (c5 : PySem.W.codeIn K cd5 "_law_full_schema" = true) (k5 : PySem.W.keepIn K (.ref f5) = true)
    (a6 : PySem.W.nsIn K mainGlobals "_law_paths" = some (some (.ref f6))) (l6 : K.lookup f6 = some ⟨oc6, od6, .func (PySem.W.fnOf "_law_paths" "_law_paths" (defArgs (top 25)) (defBody (top 25)) (defScope (top 25)) .none kV6 dc6 pm6 an6 cd6 ct6), sl6⟩) (c6 : PySem.W.codeIn K cd6 "_law_paths" = true) (k6 : PySem.W.keepIn K (.ref f6) = true)
    (a7 : PySem.W.nsIn K mainGlobals "_law_is_path" = some (some (.ref f7))) (l7 : K.lookup f7 = some ⟨oc7, od7, .func (PySem.W.fnOf "_law_is_path" "_law_is_path" (defArgs (top 28)) (defBody (top 28)) (defScope (top 28)) .none kV7 dc7 pm7 an7 cd7 ct7), sl7⟩) (c7 : PySem.W.codeIn K cd7 "_law_is_path" = true) (k7 : PySem.W.keepIn K (.ref f7) = true)
    (a8 : PySem.W.nsIn K mainGlobals "_law_is_tree" = some (some (.ref f8))) (l8 : K.lookup f8 = some ⟨oc8, od8, .func (PySem.W.fnOf "_law_is_tree" "_law_is_tree" (defArgs (top 23)) (defBody (top 23)) (defScope (top 23)) .none kV8 dc8 pm8 an8 cd8 ct8), sl8⟩) (c8 : PySem.W.codeIn K cd8 "_law_is_tree" = true) (k8 : PySem.W.keepIn K (.ref f8) = true)
    (a9 : PySem.W.nsIn K mainGlobals "_law_pot_of" = some (some (.ref f9))) (l9 : K.lookup f9 = some ⟨oc9, od9, .func (PySem.W.fnOf "_law_pot_of" "_law_pot_of" (defArgs (top 16)) (defBody (top 16)) (defScope (top 16)) .none kV9 dc9 pm9 an9 cd9 ct9), sl9⟩) (c9 : PySem.W.codeIn K cd9 "_law_pot_of" = true) (k9 : PySem.W.keepIn K (.ref f9) = true)
    (a10 : PySem.W.nsIn K mainGlobals "is_integer" = some (some (.ref f10))) (l10 : K.lookup f10 = some ⟨oc10, od10, .func (PySem.W.fnOf "is_integer" "is_integer" (defArgs (top 4)) (defBody (top 4)) (defScope (top 4)) .none kV10 dc10 pm10 an10 cd10 ct10), sl10⟩) (c10 : PySem.W.codeIn K cd10 "is_integer" = true) (k10 : PySem.W.keepIn K (.ref f10) = true)
    (a11 : PySem.W.nsIn K mainGlobals "part_at" = some (some (.ref f11))) (l11 : K.lookup f11 = some ⟨oc11, od11, .func (PySem.W.fnOf "part_at" "part_at" (defArgs (top 12)) (defBody (top 12)) (defScope (top 12)) .none kV11 dc11 pm11 an11 cd11 ct11), sl11⟩) (c11 : PySem.W.codeIn K cd11 "part_at" = true) (k11 : PySem.W.keepIn K (.ref f11) = true)
    (a12 : PySem.W.nsIn K mainGlobals "put_at" = some (some (.ref f12))) (l12 : K.lookup f12 = some ⟨oc12, od12, .func (PySem.W.fnOf "put_at" "put_at" (defArgs (top 13)) (defBody (top 13)) (defScope (top 13)) .none kV12 dc12 pm12 an12 cd12 ct12), sl12⟩) (c12 : PySem.W.codeIn K cd12 "put_at" = true) (k12 : PySem.W.keepIn K (.ref f12) = true)
    (a13 : PySem.W.nsIn K mainGlobals "_law_refused" = some (some (.ref f13))) (l13 : K.lookup f13 = some ⟨oc13, od13, .func (PySem.W.fnOf "_law_refused" "_law_refused" (defArgs (top 29)) (defBody (top 29)) (defScope (top 29)) .none kV13 dc13 pm13 an13 cd13 ct13), sl13⟩) (c13 : PySem.W.codeIn K cd13 "_law_refused" = true) (k13 : PySem.W.keepIn K (.ref f13) = true)
    (a14 : PySem.W.nsIn K mainGlobals "_law_size" = some (some (.ref f14))) (l14 : K.lookup f14 = some ⟨oc14, od14, .func (PySem.W.fnOf "_law_size" "_law_size" (defArgs (top 24)) (defBody (top 24)) (defScope (top 24)) .none kV14 dc14 pm14 an14 cd14 ct14), sl14⟩) (c14 : PySem.W.codeIn K cd14 "_law_size" = true) (k14 : PySem.W.keepIn K (.ref f14) = true)
    (a15 : PySem.W.nsIn K mainGlobals "_law_some_tree" = some (some (.ref f15))) (l15 : K.lookup f15 = some ⟨oc15, od15, .func (PySem.W.fnOf "_law_some_tree" "_law_some_tree" (defArgs (top 21)) (defBody (top 21)) (defScope (top 21)) .none kV15 dc15 pm15 an15 cd15 ct15), sl15⟩) (c15 : PySem.W.codeIn K cd15 "_law_some_tree" = true) (k15 : PySem.W.keepIn K (.ref f15) = true)
    (a16 : PySem.W.nsIn K mainGlobals "_law_with" = some (some (.ref f16))) (l16 : K.lookup f16 = some ⟨oc16, od16, .func (PySem.W.fnOf "_law_with" "_law_with" (defArgs (top 27)) (defBody (top 27)) (defScope (top 27)) .none kV16 dc16 pm16 an16 cd16 ct16), sl16⟩) (c16 : PySem.W.codeIn K cd16 "_law_with" = true) (k16 : PySem.W.keepIn K (.ref f16) = true)
    (a17 : PySem.W.nsIn K mainGlobals "children_of" = some (some (.ref f17))) (l17 : K.lookup f17 = some ⟨oc17, od17, .func (PySem.W.fnOf "children_of" "children_of" (defArgs (top 7)) (defBody (top 7)) (defScope (top 7)) .none kV17 dc17 pm17 an17 cd17 ct17), sl17⟩) (c17 : PySem.W.codeIn K cd17 "children_of" = true) (k17 : PySem.W.keepIn K (.ref f17) = true)
    (a18 : PySem.W.nsIn K mainGlobals "kind_of" = some (some (.ref f18))) (l18 : K.lookup f18 = some ⟨oc18, od18, .func (PySem.W.fnOf "kind_of" "kind_of" (defArgs (top 6)) (defBody (top 6)) (defScope (top 6)) .none kV18 dc18 pm18 an18 cd18 ct18), sl18⟩) (c18 : PySem.W.codeIn K cd18 "kind_of" = true) (k18 : PySem.W.keepIn K (.ref f18) = true)
    (a19 : PySem.W.nsIn K mainGlobals "is_tree" = some (some (.ref f19))) (l19 : K.lookup f19 = some ⟨oc19, od19, .func (PySem.W.fnOf "is_tree" "is_tree" (defArgs (top 9)) (defBody (top 9)) (defScope (top 9)) .none kV19 dc19 pm19 an19 cd19 ct19), sl19⟩) (c19 : PySem.W.codeIn K cd19 "is_tree" = true) (k19 : PySem.W.keepIn K (.ref f19) = true)
    (a20 : PySem.W.nsIn K mainGlobals "paths" = some (some (.ref f20))) (l20 : K.lookup f20 = some ⟨oc20, od20, .func (PySem.W.fnOf "paths" "paths" (defArgs (top 11)) (defBody (top 11)) (defScope (top 11)) .none kV20 dc20 pm20 an20 cd20 ct20), sl20⟩) (c20 : PySem.W.codeIn K cd20 "paths" = true) (k20 : PySem.W.keepIn K (.ref f20) = true)
    (a21 : PySem.W.nsIn K mainGlobals "size_of" = some (some (.ref f21))) (l21 : K.lookup f21 = some ⟨oc21, od21, .func (PySem.W.fnOf "size_of" "size_of" (defArgs (top 10)) (defBody (top 10)) (defScope (top 10)) .none kV21 dc21 pm21 an21 cd21 ct21), sl21⟩) (c21 : PySem.W.codeIn K cd21 "size_of" = true) (k21 : PySem.W.keepIn K (.ref f21) = true)
    (a22 : PySem.W.nsIn K mainGlobals "law" = some (some (.ref f22))) (l22 : K.lookup f22 = some ⟨oc22, od22, .func (PySem.W.fnOf "law" "law" (defArgs (top 30)) (defBody (top 30)) (defScope (top 30)) .none kV22 dc22 pm22 an22 cd22 ct22), sl22⟩) (c22 : PySem.W.codeIn K cd22 "law" = true) (k22 : PySem.W.keepIn K (.ref f22) = true)
    (b_abs : PySem.W.nsIn K mainGlobals "abs" = some none)
    (b_all : PySem.W.nsIn K mainGlobals "all" = some none)
    (b_bool : PySem.W.nsIn K mainGlobals "bool" = some none)
    (b_dict : PySem.W.nsIn K mainGlobals "dict" = some none)
    (b_enumerate : PySem.W.nsIn K mainGlobals "enumerate" = some none)
    (b_int : PySem.W.nsIn K mainGlobals "int" = some none)
    (b_isinstance : PySem.W.nsIn K mainGlobals "isinstance" = some none)
    (b_len : PySem.W.nsIn K mainGlobals "len" = some none)
    (b_list : PySem.W.nsIn K mainGlobals "list" = some none)
    (b_range : PySem.W.nsIn K mainGlobals "range" = some none)
    (b_repr : PySem.W.nsIn K mainGlobals "repr" = some none)
    (b_str : PySem.W.nsIn K mainGlobals "str" = some none)
    (b_sum : PySem.W.nsIn K mainGlobals "sum" = some none)
    (b_tuple : PySem.W.nsIn K mainGlobals "tuple" = some none)
    (b_zip : PySem.W.nsIn K mainGlobals "zip" = some none)
    (xa_NoPath : PySem.W.nsIn K mainGlobals "NoPath" = some (some (.ref C_NoPath))) (xq_NoPath : PySem.W.excIn K C_NoPath [.type "ValueError", .type "Exception", .type "BaseException", .type "object"] "ValueError.__new__" = true) (xk_NoPath : PySem.W.keepIn K (.ref C_NoPath) = true) (xs_NoPath : PySem.W.subIn K (.ref C_NoPath) (.type "BaseException") = some true) (xt_NoPath : PySem.W.typeIn K (.ref C_NoPath) = some (.type "type")) (xd_NoPath : PySem.W.hasDictIn K C_NoPath = true) (xu_NoPath : PySem.W.subIn K (.ref C_NoPath) (.ref C_NoPath) = some true)
    (t : ∀ ns : List Int, ns.length ≤ 63 → ∃ lvs, g_law [scr ns] = .ret (.dat (.bl true)) lvs) :
    ∃ fd : FuncData, (∀ (s : Shared) (v : Value), BindsTo s fd ⟨[v], []⟩ [("script", v)]) ∧ ∀ bs : Heap, K.In bs → bs.Ns mainGlobals mg → FnG l.prog w K mg bs 24 fa fd ["script"] (spLaw K) := by
  refine ⟨PySem.W.fnOf "law" "law" (defArgs (top 30)) (defBody (top 30)) (defScope (top 30)) .none kV22 dc22 pm22 an22 cd22 ct22, fun s v => .of_eq rfl, fun bs _ _ => ?_⟩
  let R : RE := ⟨K, fun x => ((List.lookup x ([("NoPath", C_NoPath)] : List (Str × Addr))).getD 0)⟩
  let B : Base := ⟨l.prog, w, R, mg, bs⟩
  have ct_NoPath : B.R.ct "NoPath" = C_NoPath := by kernel_rfl
  have G0 : Glo B := ⟨PySem.W.mg_none_of X G b_abs, PySem.W.mg_none_of X G b_all, PySem.W.mg_none_of X G b_bool, PySem.W.mg_none_of X G b_dict, PySem.W.mg_none_of X G b_enumerate, PySem.W.mg_none_of X G b_int, PySem.W.mg_none_of X G b_isinstance, PySem.W.mg_none_of X G b_len, PySem.W.mg_none_of X G b_list, PySem.W.mg_none_of X G b_range, PySem.W.mg_none_of X G b_repr, PySem.W.mg_none_of X G b_str, PySem.W.mg_none_of X G b_sum, PySem.W.mg_none_of X G b_tuple, PySem.W.mg_none_of X G b_zip, excAt (B := B) X G ct_NoPath xa_NoPath xq_NoPath xk_NoPath xs_NoPath xt_NoPath, (by rw [ct_NoPath]; exact PySem.W.exm_ref xs_NoPath xd_NoPath xt_NoPath xu_NoPath)⟩
  have d__law_at_ := d__law_at (B := B) (defAt (B := B) X G a0 l0 c0 k0 fun _ _ _ _ _ _ us hl => match us, hl with | [_, _], _ => rfl) G0 ⟨⟩
  have d__law_kneaded_ := d__law_kneaded (B := B) (defAt (B := B) X G a1 l1 c1 k1 fun _ _ _ _ _ _ us hl => match us, hl with | [_, _], _ => rfl) G0 ⟨⟩
  have d__law_below_ := d__law_below (B := B) (defAt (B := B) X G a2 l2 c2 k2 fun _ _ _ _ _ _ us hl => match us, hl with | [_, _], _ => rfl) G0 ⟨d__law_kneaded_⟩
  have d__law_pick_ := d__law_pick (B := B) (defAt (B := B) X G a3 l3 c3 k3 fun _ _ _ _ _ _ us hl => match us, hl with | [_, _], _ => rfl) G0 ⟨d__law_below_⟩
  have d__law_bent_ := d__law_bent (B := B) (defAt (B := B) X G a4 l4 c4 k4 fun _ _ _ _ _ _ us hl => match us, hl with | [_, _], _ => rfl) G0 ⟨d__law_below_, d__law_pick_⟩
  have d__law_full_schema_ := d__law_full_schema (B := B) (defAt (B := B) X G a5 l5 c5 k5 fun _ _ _ _ _ _ us hl => match us, hl with | [_], _ => rfl) G0 ⟨d__law_below_, d__law_pick_⟩
  have d__law_paths_ := d__law_paths (B := B) (defAt (B := B) X G a6 l6 c6 k6 fun _ _ _ _ _ _ us hl => match us, hl with | [_], _ => rfl) G0 ⟨⟩
  have d__law_is_path_ := d__law_is_path (B := B) (defAt (B := B) X G a7 l7 c7 k7 fun _ _ _ _ _ _ us hl => match us, hl with | [_, _], _ => rfl) G0 ⟨d__law_paths_⟩
  have d__law_is_tree_ := d__law_is_tree (B := B) (defAt (B := B) X G a8 l8 c8 k8 fun _ _ _ _ _ _ us hl => match us, hl with | [_, _, _], _ => rfl) G0 ⟨⟩
  have d__law_pot_of_ := d__law_pot_of (B := B) (defAt (B := B) X G a9 l9 c9 k9 fun _ _ _ _ _ _ us hl => match us, hl with | [_], _ => rfl) G0 ⟨⟩
  have d_is_integer_ := d_is_integer (B := B) (defAt (B := B) X G a10 l10 c10 k10 fun _ _ _ _ _ _ us hl => match us, hl with | [_], _ => rfl) G0 ⟨⟩
  have d_part_at_ := d_part_at (B := B) (defAt (B := B) X G a11 l11 c11 k11 fun _ _ _ _ _ _ us hl => match us, hl with | [_, _], _ => rfl) G0 ⟨d_is_integer_⟩
  have d_put_at_ := d_put_at (B := B) (defAt (B := B) X G a12 l12 c12 k12 fun _ _ _ _ _ _ us hl => match us, hl with | [_, _, _], _ => rfl) G0 ⟨d_part_at_⟩
  have d__law_refused_ := d__law_refused (B := B) (defAt (B := B) X G a13 l13 c13 k13 fun _ _ _ _ _ _ us hl => match us, hl with | [_, _, _], _ => rfl) G0 ⟨d_part_at_, d_put_at_⟩
  have d__law_size_ := d__law_size (B := B) (defAt (B := B) X G a14 l14 c14 k14 fun _ _ _ _ _ _ us hl => match us, hl with | [_], _ => rfl) G0 ⟨⟩
  have d__law_some_tree_ := d__law_some_tree (B := B) (defAt (B := B) X G a15 l15 c15 k15 fun _ _ _ _ _ _ us hl => match us, hl with | [_, _, _, _], _ => rfl) G0 ⟨d__law_pick_⟩
  have d__law_with_ := d__law_with (B := B) (defAt (B := B) X G a16 l16 c16 k16 fun _ _ _ _ _ _ us hl => match us, hl with | [_, _, _], _ => rfl) G0 ⟨⟩
  have d_children_of_ := d_children_of (B := B) (defAt (B := B) X G a17 l17 c17 k17 fun _ _ _ _ _ _ us hl => match us, hl with | [_, _], _ => rfl) G0 ⟨⟩
  have d_kind_of_ := d_kind_of (B := B) (defAt (B := B) X G a18 l18 c18 k18 fun _ _ _ _ _ _ us hl => match us, hl with | [_, _], _ => rfl) G0 ⟨⟩
  have d_is_tree_ := d_is_tree (B := B) (defAt (B := B) X G a19 l19 c19 k19 fun _ _ _ _ _ _ us hl => match us, hl with | [_, _, _], _ => rfl) G0 ⟨d_children_of_, d_kind_of_⟩
  have d_paths_ := d_paths (B := B) (defAt (B := B) X G a20 l20 c20 k20 fun _ _ _ _ _ _ us hl => match us, hl with | [_], _ => rfl) G0 ⟨⟩
  have d_size_of_ := d_size_of (B := B) (defAt (B := B) X G a21 l21 c21 k21 fun _ _ _ _ _ _ us hl => match us, hl with | [_], _ => rfl) G0 ⟨⟩
  have d_law_ := d_law (B := B) (defAt (B := B) X G a22 l22 c22 k22 fun _ _ _ _ _ _ us hl => match us, hl with | [_], _ => rfl) G0 ⟨d__law_at_, d__law_bent_, d__law_full_schema_, d__law_is_path_, d__law_is_tree_, d__law_paths_, d__law_pick_, d__law_pot_of_, d__law_refused_, d__law_size_, d__law_some_tree_, d__law_with_, d_is_tree_, d_part_at_, d_paths_, d_put_at_, d_size_of_⟩
  exact law_fn d_law_ hfa (by have e := hfa.symm.trans (PySem.W.mg_of X G a22); cases e; exact l22) t
end Lw
open PySem PySem.W PyProof.Rows
set_option maxRecDepth 100000 in
set_option maxHeartbeats 0 in
theorem PySem.Challenge.cw_treelaws_k02_trees_and_paths_holds : PySem.Challenge.rw_treelaws_k02_trees_and_paths.Holds := by
  w_on; o_law; k_head; (case hw => w_witness2)
  k_fill
  refine PL.walk_end (l := PySem.Challenge.rw_treelaws_k02_trees_and_paths) (k := 24) rfl rfl ⟨rfl, by decide, by decide⟩ (fun w h Y => PySem.W.kIn_of Y) ?F
  case F =>
    intro w mg fa h KX G hmg
    refine' Lw.all_in KX G hmg ?a0 ?l0 ?c0 ?k0 ?a1 ?l1 ?c1 ?k1 ?a2 ?l2 ?c2 ?k2 ?a3 ?l3 ?c3 ?k3 ?a4 ?l4 ?c4 ?k4 ?a5 ?l5 ?c5 ?k5 ?a6 ?l6 ?c6 ?k6 ?a7 ?l7 ?c7 ?k7 ?a8 ?l8 ?c8 ?k8 ?a9 ?l9 ?c9 ?k9 ?a10 ?l10 ?c10 ?k10 ?a11 ?l11 ?c11 ?k11 ?a12 ?l12 ?c12 ?k12 ?a13 ?l13 ?c13 ?k13 ?a14 ?l14 ?c14 ?k14 ?a15 ?l15 ?c15 ?k15 ?a16 ?l16 ?c16 ?k16 ?a17 ?l17 ?c17 ?k17 ?a18 ?l18 ?c18 ?k18 ?a19 ?l19 ?c19 ?k19 ?a20 ?l20 ?c20 ?k20 ?a21 ?l21 ?c21 ?k21 ?a22 ?l22 ?c22 ?k22 ?b_abs ?b_all ?b_bool ?b_dict ?b_enumerate ?b_int ?b_isinstance ?b_len ?b_list ?b_range ?b_repr ?b_str ?b_sum ?b_tuple ?b_zip ?xa_NoPath ?xq_NoPath ?xk_NoPath ?xs_NoPath ?xt_NoPath ?xd_NoPath ?xu_NoPath Lw.law_true
    (case a0 => k_is); (case l0 => k_is); (case c0 => k_is); (case k0 => k_is); (case a1 => k_is); (case l1 => k_is)
    (case c1 => k_is); (case k1 => k_is); (case a2 => k_is); (case l2 => k_is); (case c2 => k_is); (case k2 => k_is)
    (case a3 => k_is); (case l3 => k_is); (case c3 => k_is); (case k3 => k_is); (case a4 => k_is); (case l4 => k_is)
    (case c4 => k_is); (case k4 => k_is); (case a5 => k_is); (case l5 => k_is); (case c5 => k_is); (case k5 => k_is)
    (case a6 => k_is); (case l6 => k_is); (case c6 => k_is); (case k6 => k_is); (case a7 => k_is); (case l7 => k_is)
    (case c7 => k_is); (case k7 => k_is); (case a8 => k_is); (case l8 => k_is); (case c8 => k_is); (case k8 => k_is)
    (case a9 => k_is); (case l9 => k_is); (case c9 => k_is); (case k9 => k_is); (case a10 => k_is); (case l10 => k_is)
    (case c10 => k_is); (case k10 => k_is); (case a11 => k_is); (case l11 => k_is); (case c11 => k_is); (case k11 => k_is)
    (case a12 => k_is); (case l12 => k_is); (case c12 => k_is); (case k12 => k_is); (case a13 => k_is); (case l13 => k_is)
    (case c13 => k_is); (case k13 => k_is); (case a14 => k_is); (case l14 => k_is); (case c14 => k_is); (case k14 => k_is)
    (case a15 => k_is); (case l15 => k_is); (case c15 => k_is); (case k15 => k_is); (case a16 => k_is); (case l16 => k_is)
    (case c16 => k_is); (case k16 => k_is); (case a17 => k_is); (case l17 => k_is); (case c17 => k_is); (case k17 => k_is)
    (case a18 => k_is); (case l18 => k_is); (case c18 => k_is); (case k18 => k_is); (case a19 => k_is); (case l19 => k_is)
    (case c19 => k_is); (case k19 => k_is); (case a20 => k_is); (case l20 => k_is); (case c20 => k_is); (case k20 => k_is)
    (case a21 => k_is); (case l21 => k_is); (case c21 => k_is); (case k21 => k_is); (case a22 => k_is); (case l22 => k_is)
    (case c22 => k_is); (case k22 => k_is); (case b_abs => k_is); (case b_all => k_is); (case b_bool => k_is); (case b_dict => k_is)
    (case b_enumerate => k_is); (case b_int => k_is); (case b_isinstance => k_is); (case b_len => k_is); (case b_list => k_is); (case b_range => k_is)
    (case b_repr => k_is); (case b_str => k_is); (case b_sum => k_is); (case b_tuple => k_is); (case b_zip => k_is); (case xa_NoPath => k_is)
    (case xq_NoPath => k_exc); (case xk_NoPath => k_is); (case xs_NoPath => k_is); (case xt_NoPath => k_is); (case xd_NoPath => k_is); (case xu_NoPath => first | rfl | k_is)
