import PyProof.Rows.All
import Wide.All
import OpenK.AllK
import Wide.FinOn
import HandS.ForMost
import HandS.ForExc
import HandS.ExcValue
import HandS.ExcInit
import HandS.Wide
import HandS.TupAny
import HandS.TupMul
import HandS.Deep
import HandS.Style
import HandS.IsInst
import KE.SortData
import HandS.WordsDict
import HandS.TupLen
import HandS.Strs
import HandS.ListItems
import HandS.More
import HandS.Conv
import HandS.RaiseMore
import HandS.Zip
import KE.GoesEnum
import HandS.ExcOwn
import PyProof.ExcBaseAll.ValueError
import KE.KUnpackStar
import PyProof.ReprReads
import KE.KEqDict
import PyProof.ReprRoads
import HandS.ExcIs
import HandS.ExcField
import HandS.FStr
import PyProof.FitsInt
import PyProof.ReprLen
import PySem.Challenge.RW_treelaws_k06_errors
set_option Elab.async false
set_option linter.all false
set_option maxRecDepth 100000
set_option maxHeartbeats 4000000
/-! The pure layer: data, what stands for data, growth of the heap. -/
namespace PL
open PySem L2 PyProof.Rows

inductive D where
  | non | bl (b : Bool) | int (i : Int) | str (x : Str)
  | tup (ds : List D) | lst (ds : List D)
  | dic (kvs : List (Key × D)) | dit (kvs : List (List Key × D))
  | ins (c : Str) (fs : List (Str × D))
  | slst (ds : List D)
  | cst (v : V)
  | opq
  | cls (c : Str)
  | exc (c : Str) (fs : List (Str × D))
  deriving Inhabited

structure RE where
  K : PySem.W.Frag
  ct : Str → Addr

def Dk : HO → Prop
  | .dK _ => True
  | .dT _ => True
  | _ => False
def LeO (o o' : HO) : Prop := o' = o ∨ ∃ u, Dk u ∧ (o = u ∨ ∃ ob, o = .frz ob u) ∧ (o' = u ∨ ∃ ob, o' = .frz ob u)
def Le (F G : Hp) : Prop := ∀ a o, F a = some o → ∃ o', G a = some o' ∧ LeO o o'

theorem Dk.inj {u u' : HO} {o : HO} (d : Dk u) (d' : Dk u') (h : o = u ∨ ∃ ob, o = .frz ob u) (h' : o = u' ∨ ∃ ob, o = .frz ob u') : u = u' := by
  rcases h with rfl | ⟨ob, rfl⟩
  · rcases h' with h' | ⟨ob, rfl⟩
    · exact h'
    · cases d
  · rcases h' with rfl | ⟨ob', h'⟩
    · cases d'
    · cases h'; rfl
theorem LeO.refl (o : HO) : LeO o o := .inl rfl
theorem LeO.trans {a b c : HO} (h : LeO a b) (g : LeO b c) : LeO a c := by
  rcases h with rfl | ⟨u, d, h1, h2⟩
  · exact g
  · rcases g with rfl | ⟨u', d', g1, g2⟩
    · exact .inr ⟨u, d, h1, h2⟩
    · have e := Dk.inj d d' h2 g1
      subst e
      exact .inr ⟨u, d, h1, g2⟩
theorem Le.refl (F : Hp) : Le F F := fun a o h => ⟨o, h, .refl o⟩
theorem Le.trans {F G H : Hp} (h : Le F G) (g : Le G H) : Le F H := fun a o e => by
  obtain ⟨o1, e1, l1⟩ := h a o e
  obtain ⟨o2, e2, l2⟩ := g a o1 e1
  exact ⟨o2, e2, l1.trans l2⟩
theorem Le.sm {F G : Hp} {a : Addr} (h : Le F G) (n : F a ≠ none) : G a ≠ none := by
  cases e : F a with
  | none => exact absurd e n
  | some o =>
    obtain ⟨o', e', _⟩ := h a o e
    rw [e']; simp
theorem Le.nn {F G : Hp} {a : Addr} (h : Le F G) (n : G a = none) : F a = none := by
  cases e : F a with
  | none => rfl
  | some o =>
    obtain ⟨o', e', _⟩ := h a o e
    rw [n] at e'; cases e'
theorem Le.lst {F G : Hp} {a : Addr} {xs : List V} (h : Le F G) (e : Rd F a (.lst xs)) : Rd G a (.lst xs) := by
  rcases e with e | ⟨ob, e⟩
  · obtain ⟨o', e', l⟩ := h a _ e
    rcases l with rfl | ⟨u, d, h1, h2⟩
    · exact .inl e'
    · rcases h1 with h1 | ⟨ob, h1⟩
      · subst h1; cases d
      · cases h1
  · obtain ⟨o', e', l⟩ := h a _ e
    rcases l with rfl | ⟨u, d, h1, h2⟩
    · exact .inr ⟨_, e'⟩
    · rcases h1 with h1 | ⟨ob, h1⟩
      · subst h1; cases d
      · cases h1; cases d
theorem Le.tup {F G : Hp} {a : Addr} {xs : List V} (h : Le F G) (e : Rd F a (.tup xs)) : Rd G a (.tup xs) := by
  rcases e with e | ⟨ob, e⟩
  · obtain ⟨o', e', l⟩ := h a _ e
    rcases l with rfl | ⟨u, d, h1, h2⟩
    · exact .inl e'
    · rcases h1 with h1 | ⟨ob, h1⟩
      · subst h1; cases d
      · cases h1
  · obtain ⟨o', e', l⟩ := h a _ e
    rcases l with rfl | ⟨u, d, h1, h2⟩
    · exact .inr ⟨_, e'⟩
    · rcases h1 with h1 | ⟨ob, h1⟩
      · subst h1; cases d
      · cases h1; cases d
theorem Le.dic {F G : Hp} {a : Addr} {u : HO} (h : Le F G) (d : Dk u) (e : Rd F a u) : Rd G a u := by
  have key : ∀ o, F a = .some o → (o = u ∨ ∃ ob, o = .frz ob u) → Rd G a u := fun o e' w => by
    obtain ⟨o', e2, l⟩ := h a _ e'
    rcases l with rfl | ⟨u', d', h1, h2⟩
    · rcases w with rfl | ⟨ob, rfl⟩
      · exact .inl e2
      · exact .inr ⟨_, e2⟩
    · have q := Dk.inj d' d h1 w
      subst q
      rcases h2 with rfl | ⟨ob, rfl⟩
      · exact .inl e2
      · exact .inr ⟨_, e2⟩
  rcases e with e | ⟨ob, e⟩
  · exact key _ e (.inl rfl)
  · exact key _ e (.inr ⟨_, rfl⟩)
theorem Le.ext {F G : Hp} {a : Addr} {φ : Heap → Prop} (h : Le F G) (e : F a = .some (.ext φ)) : G a = .some (.ext φ) := by
  obtain ⟨o', e', l⟩ := h a _ e
  rcases l with rfl | ⟨u, d, h1, h2⟩
  · exact e'
  · rcases h1 with h1 | ⟨ob, h1⟩
    · subst h1; cases d
    · cases h1
theorem Le.ins {F G : Hp} {a C dx : Addr} {xs : List (Str × V)} (h : Le F G) (e : F a = .some (.ins C dx xs)) : G a = .some (.ins C dx xs) := by
  obtain ⟨o', e', l⟩ := h a _ e
  rcases l with rfl | ⟨u, d, h1, h2⟩
  · exact e'
  · rcases h1 with h1 | ⟨ob, h1⟩
    · subst h1; cases d
    · cases h1
theorem Le.ex {F G : Hp} {a : Addr} {o : HO} (h : Le F G) (e : F a = .some o) (n : ∀ u, Dk u → o ≠ u ∧ ∀ ob, o ≠ .frz ob u) : G a = .some o := by
  obtain ⟨o', e', l⟩ := h a _ e
  rcases l with rfl | ⟨u, d, h1, h2⟩
  · exact e'
  · rcases h1 with h1 | ⟨ob, h1⟩
    · exact absurd h1 (n u d).1
    · exact absurd h1 ((n u d).2 ob)
theorem Le.lstE {F G : Hp} {a : Addr} {xs : List V} (h : Le F G) (e : F a = .some (.lst xs)) : G a = .some (.lst xs) := h.ex e fun u d => ⟨(fun z => by rw [← z] at d; exact d), (fun _ z => by cases z)⟩
theorem Le.tupE {F G : Hp} {a : Addr} {xs : List V} (h : Le F G) (e : F a = .some (.tup xs)) : G a = .some (.tup xs) := h.ex e fun u d => ⟨(fun z => by rw [← z] at d; exact d), (fun _ z => by cases z)⟩
theorem Le.sqL {K : PySem.W.Frag} {F G : Hp} {a : Addr} {xs : List V} (h : Le F G) (e : SqL K F a xs) : SqL K G a xs := e.elim (fun e => .inl (h.lst e)) .inr
theorem Le.sqT {K : PySem.W.Frag} {F G : Hp} {a : Addr} {xs : List V} (h : Le F G) (e : SqT K F a xs) : SqT K G a xs := e.elim (fun e => .inl (h.tup e)) .inr
theorem Le.upd {F : Hp} {a : Addr} {o : HO} (n : F a = none) : Le F (upd F a o) := fun b o' e => ⟨o', by rw [upd_ne (ne_of_none e n)]; exact e, .refl _⟩
theorem Le.upd2 {F H : Hp} {a : Addr} {o : HO} (l : Le F H) : Le (L2.upd F a o) (L2.upd H a o) := fun b o' e => by
  by_cases h : b = a
  · subst h; rw [upd_same] at e; cases e; exact ⟨o, upd_same, .refl _⟩
  · rw [upd_ne h] at e
    obtain ⟨o2, e2, l2⟩ := l b o' e
    exact ⟨o2, by rw [upd_ne h]; exact e2, l2⟩
/-- an object that F does not know may change -/
theorem Le.mut {F H : Hp} {a : Addr} {o : HO} (l : Le F H) (n : F a = none) : Le F (L2.upd H a o) := fun b o' e => by
  obtain ⟨o2, e2, l2⟩ := l b o' e
  exact ⟨o2, by rw [upd_ne (ne_of_none e n)]; exact e2, l2⟩
/-- a freeze of what stands in H -/
theorem Le.frz {F H : Hp} {a : Addr} {o : HO} (l : Le F H) (e : H a = .some o) : Le (L2.upd F a o) H := fun b o' e' => by
  by_cases h : b = a
  · subst h; rw [upd_same] at e'; cases e'; exact ⟨o, e, .refl _⟩
  · rw [upd_ne h] at e'; exact l b o' e'

mutual
inductive Rep (R : RE) (F : Hp) : D → V → Prop
  | non : Rep R F .non .non
  | bl (b : Bool) : Rep R F (.bl b) (.bl b)
  | int (i : Int) : Rep R F (.int i) (.int i)
  | str (x : Str) : Rep R F (.str x) (.str x)
  | tup {a : Addr} {ds : List D} {vs : List V} : F a = some (.tup vs) → RepL R F ds vs → Rep R F (.tup ds) (.ref a)
  | slst {a : Addr} {ds : List D} {vs : List V} : SqL R.K F a vs → RepL R F ds vs → Rep R F (.slst ds) (.ref a)
  | lst {a : Addr} {ds : List D} {vs : List V} : F a = some (.lst vs) → RepL R F ds vs → Rep R F (.lst ds) (.ref a)
  | dic {a : Addr} {kvs : List (Key × D)} {xs : List (Key × V)} : Rd F a (.dK xs) → kvs.map (·.1) = xs.map (·.1) → RepL R F (kvs.map (·.2)) (xs.map (·.2)) → Rep R F (.dic kvs) (.ref a)
  | dit {a : Addr} {kvs : List (List Key × D)} {xs : List (List Key × V)} : Rd F a (.dT xs) → kvs.map (·.1) = xs.map (·.1) → RepL R F (kvs.map (·.2)) (xs.map (·.2)) → Rep R F (.dit kvs) (.ref a)
  | ins {a dx : Addr} {c : Str} {fs : List (Str × D)} {xs : List (Str × V)} : F a = some (.ins (R.ct c) dx xs) → fs.map (·.1) = xs.map (·.1) → RepL R F (fs.map (·.2)) (xs.map (·.2)) → Rep R F (.ins c fs) (.ref a)
  | cst (v : V) : Rep R F (.cst v) v
  | opq {a : Addr} : Rep R F .opq (.ref a)
  | cls (c : Str) : Rep R F (.cls c) (.ref (R.ct c))
  | exc {a : Addr} {c : Str} : F a = some (ExO (.ref (R.ct c)) a) → Rep R F (.exc c []) (.ref a)
  | exf {a d : Addr} {c : Str} {fs : List (Str × D)} {xs : List (Str × V)} : F a = some (exo a (R.ct c) (some d)) → F d = some (exd d xs) → fs.map (·.1) = xs.map (·.1) → RepL R F (fs.map (·.2)) (xs.map (·.2)) → Rep R F (.exc c fs) (.ref a)
inductive RepL (R : RE) (F : Hp) : List D → List V → Prop
  | nil : RepL R F [] []
  | cons {d : D} {v : V} {ds : List D} {vs : List V} : Rep R F d v → RepL R F ds vs → RepL R F (d :: ds) (v :: vs)
end

section
variable {R : RE} {F G : Hp}
mutual
theorem Rep.mono (l : Le F G) : ∀ {d : D} {v : V}, Rep R F d v → Rep R G d v
  | _, _, .non => .non
  | _, _, .bl b => .bl b
  | _, _, .int i => .int i
  | _, _, .str x => .str x
  | _, _, .tup h r => .tup (l.tupE h) (RepL.mono l r)
  | _, _, .slst h r => .slst (l.sqL h) (RepL.mono l r)
  | _, _, .lst h r => .lst (l.lstE h) (RepL.mono l r)
  | _, _, .dic h k r => .dic (l.dic trivial h) k (RepL.mono l r)
  | _, _, .dit h k r => .dit (l.dic trivial h) k (RepL.mono l r)
  | _, _, .ins h k r => .ins (l.ins h) k (RepL.mono l r)
  | _, _, .cst v => .cst v
  | _, _, .opq => .opq
  | _, _, .cls c => .cls c
  | _, _, .exc h => .exc (l.ext h)
  | _, _, .exf h g k r => .exf (l.ext h) (l.ext g) k (RepL.mono l r)
theorem RepL.mono (l : Le F G) : ∀ {ds : List D} {vs : List V}, RepL R F ds vs → RepL R G ds vs
  | _, _, .nil => .nil
  | _, _, .cons h r => .cons (Rep.mono l h) (RepL.mono l r)
end
theorem RepL.length : ∀ {ds : List D} {vs : List V}, RepL R F ds vs → ds.length = vs.length
  | _, _, .nil => rfl
  | _, _, .cons _ r => by simp [r.length]
theorem RepL.get : ∀ {ds : List D} {vs : List V} {i : Nat} {d : D}, RepL R F ds vs → ds[i]? = some d → ∃ v, vs[i]? = some v ∧ Rep R F d v
  | _, _, i, d, .nil, h => by simp at h
  | _, _, 0, d, .cons h _, e => by simp at e; subst e; exact ⟨_, rfl, h⟩
  | _, _, i + 1, d, .cons _ r, e => by
    obtain ⟨v, h1, h2⟩ := r.get (i := i) (d := d) (by simpa using e)
    exact ⟨v, by simpa using h1, h2⟩
theorem RepL.getV : ∀ {ds : List D} {vs : List V} {i : Nat} {v : V}, RepL R F ds vs → vs[i]? = some v → ∃ d, ds[i]? = some d ∧ Rep R F d v
  | _, _, i, d, .nil, h => by simp at h
  | _, _, 0, d, .cons h _, e => by simp at e; subst e; exact ⟨_, rfl, h⟩
  | _, _, i + 1, d, .cons _ r, e => by
    obtain ⟨v, h1, h2⟩ := r.getV (i := i) (v := d) (by simpa using e)
    exact ⟨v, by simpa using h1, h2⟩
theorem RepL.append : ∀ {ds ds' : List D} {vs vs' : List V}, RepL R F ds vs → RepL R F ds' vs' → RepL R F (ds ++ ds') (vs ++ vs')
  | _, _, _, _, .nil, s => s
  | _, _, _, _, .cons h r, s => .cons h (r.append s)
theorem RepL.take : ∀ {ds : List D} {vs : List V} (n : Nat), RepL R F ds vs → RepL R F (ds.take n) (vs.take n)
  | _, _, 0, _ => by simpa using .nil
  | _, _, n + 1, .nil => by simpa using .nil
  | _, _, n + 1, .cons h r => .cons h (r.take n)
theorem RepL.drop : ∀ {ds : List D} {vs : List V} (n : Nat), RepL R F ds vs → RepL R F (ds.drop n) (vs.drop n)
  | _, _, 0, r => by simpa using r
  | _, _, n + 1, .nil => by simpa using .nil
  | _, _, n + 1, .cons h r => r.drop n
theorem RepL.set : ∀ {ds : List D} {vs : List V} (n : Nat) {d : D} {v : V}, Rep R F d v → RepL R F ds vs → RepL R F (ds.set n d) (vs.set n v)
  | _, _, _, _, _, _, .nil => by simpa using .nil
  | _, _, 0, _, _, h, .cons _ r => .cons h r
  | _, _, n + 1, _, _, h, .cons g r => .cons g (r.set n h)
theorem RepL.reverse : ∀ {ds : List D} {vs : List V}, RepL R F ds vs → RepL R F ds.reverse vs.reverse
  | _, _, .nil => by simpa using .nil
  | _, _, .cons h r => by simpa using r.reverse.append (.cons h .nil)
theorem RepL.eraseIdx : ∀ {ds : List D} {vs : List V} (n : Nat), RepL R F ds vs → RepL R F (ds.eraseIdx n) (vs.eraseIdx n)
  | _, _, _, .nil => by simpa using .nil
  | _, _, 0, .cons _ r => by simpa using r
  | _, _, n + 1, .cons g r => .cons g (r.eraseIdx n)
end

/-! ### a variable's content -/
inductive LV where
  | un
  | dat (d : D)
  | ml (ds : List D)
  | md (kvs : List (Key × D))
  | mt (kvs : List (List Key × D))
  | mi (c : Str) (fs : List (Str × D))
  deriving Inhabited
def LV.isOwn : LV → Bool
  | .un | .dat _ => false
  | _ => true
inductive LRel (R : RE) (F H : Hp) : LV → V → Prop
  | dat {d : D} {v : V} : Rep R F d v → LRel R F H (.dat d) v
  | ml {a : Addr} {ds : List D} {vs : List V} : F a = none → H a = some (.lst vs) → RepL R F ds vs → LRel R F H (.ml ds) (.ref a)
  | md {a : Addr} {kvs : List (Key × D)} {xs : List (Key × V)} : F a = none → H a = some (.dK xs) → kvs.map (·.1) = xs.map (·.1) → RepL R F (kvs.map (·.2)) (xs.map (·.2)) → LRel R F H (.md kvs) (.ref a)
  | mt {a : Addr} {kvs : List (List Key × D)} {xs : List (List Key × V)} : F a = none → H a = some (.dT xs) → kvs.map (·.1) = xs.map (·.1) → RepL R F (kvs.map (·.2)) (xs.map (·.2)) → LRel R F H (.mt kvs) (.ref a)
  | mi {a dx : Addr} {c : Str} {fs : List (Str × D)} {xs : List (Str × V)} : F a = none → H a = some (.ins (R.ct c) dx xs) → fs.map (·.1) = xs.map (·.1) → RepL R F (fs.map (·.2)) (xs.map (·.2)) → LRel R F H (.mi c fs) (.ref a)
/-- what lv at v owns -/
def Owns (lv : LV) (v : V) (a : Addr) : Prop := lv.isOwn = true ∧ v = .ref a
abbrev LEnv := List LV
def Own (env : LEnv) (σ : L2.St) (a : Addr) : Prop := ∃ (i : Nat) (lv : LV), env[i]? = some lv ∧ lv.isOwn = true ∧ σ[i]? = some (some (V.ref a))
structure ER (R : RE) (F H : Hp) (σ : L2.St) (env : LEnv) : Prop where
  len : σ.length = env.length
  rel : ∀ (i : Nat) (lv : LV), env[i]? = some lv → lv ≠ .un → ∃ v, σ[i]? = some (some v) ∧ LRel R F H lv v
  dis : ∀ (i j : Nat) (lv lv' : LV) (a : Addr), env[i]? = some lv → env[j]? = some lv' → lv.isOwn = true → lv'.isOwn = true → σ[i]? = some (some (.ref a)) → σ[j]? = some (some (.ref a)) → i = j

structure Gr (O : Addr → Prop) (F H : Hp) (O' : Addr → Prop) (F' H' : Hp) : Prop where
  le : Le F F'
  sub : Le F' H'
  keep : ∀ a o, H a = some o → F a = none → ¬ O a → H' a = some o
  old : ∀ a, F' a ≠ none → F a ≠ none ∨ H a = none ∨ O a
  own : ∀ a, O' a → O a ∨ H a = none
  frz : ∀ a ob u, H a = some (.frz ob u) → H' a = some (.frz ob u)
/-- only new things -/
structure Nw (F H F' H' : Hp) : Prop where
  le : Le F F'
  sub : Le F' H'
  keep : ∀ a o, H a = some o → H' a = some o
  old : ∀ a, F' a ≠ none → F a ≠ none ∨ H a = none
section
variable {R : RE} {F H F' H' F1 H1 : Hp} {O O' O1 : Addr → Prop} {σ : L2.St} {env : LEnv} {lv : LV} {v : V} {a : Addr}
theorem Gr.refl (l : Le F H) : Gr O F H O F H := ⟨.refl F, l, fun _ _ h _ _ => h, fun _ h => .inl h, fun _ h => .inl h, fun _ _ _ h => h⟩
theorem Gr.back (l : Le F H) (g : Gr O F H O1 F1 H1) (h : H1 a = none) : H a = none ∨ O a := by
  cases e : H a with
  | none => exact .inl rfl
  | some o =>
    by_cases q : O a
    · exact .inr q
    · by_cases f : F a = none
      · rw [g.keep a o e f q] at h; cases h
      · exact absurd h (g.sub.sm (g.le.sm f))
theorem Gr.trans (l : Le F H) (g : Gr O F H O1 F1 H1) (k : Gr O1 F1 H1 O' F' H') : Gr O F H O' F' H' where
  le := g.le.trans k.le
  sub := k.sub
  keep := fun a o h f n => by
    have h1 := g.keep a o h f n
    refine k.keep a o h1 ?_ ?_
    · cases e : F1 a with
      | none => rfl
      | some o' =>
        rcases g.old a (by rw [e]; simp) with q | q | q
        · exact absurd f q
        · rw [h] at q; cases q
        · exact absurd q n
    · intro q
      rcases g.own a q with q | q
      · exact n q
      · rw [h] at q; cases q
  old := fun a h => by
    rcases k.old a h with q | q | q
    · exact g.old a q
    · rcases g.back l q with q | q
      · exact .inr (.inl q)
      · exact .inr (.inr q)
    · rcases g.own a q with q | q
      · exact .inr (.inr q)
      · exact .inr (.inl q)
  own := fun a h => by
    rcases k.own a h with q | q
    · exact g.own a q
    · rcases g.back l q with q | q
      · exact .inr q
      · exact .inl q
  frz := fun a ob u h => k.frz a ob u (g.frz a ob u h)
theorem Gr.weak {O2 : Addr → Prop} (g : Gr O F H O1 F' H') (h : ∀ a, O2 a → O1 a) : Gr O F H O2 F' H' := ⟨g.le, g.sub, g.keep, g.old, fun a q => g.own a (h a q), g.frz⟩
theorem Gr.more {O2 : Addr → Prop} (g : Gr O F H O1 F' H') (h : ∀ a, O a → O2 a) : Gr O2 F H O1 F' H' :=
  ⟨g.le, g.sub, fun a o e f n => g.keep a o e f fun q => n (h a q), fun a q => (g.old a q).elim .inl fun z => .inr (z.elim .inl fun y => .inr (h a y)), fun a q => (g.own a q).elim (fun z => .inl (h a z)) .inr, g.frz⟩
theorem Nw.refl (l : Le F H) : Nw F H F H := ⟨.refl F, l, fun _ _ h => h, fun _ h => .inl h⟩
theorem Nw.trans (g : Nw F H F1 H1) (k : Nw F1 H1 F' H') : Nw F H F' H' where
  le := g.le.trans k.le
  sub := k.sub
  keep := fun a o h => k.keep a o (g.keep a o h)
  old := fun a h => by
    rcases k.old a h with q | q
    · exact g.old a q
    · refine .inr ?_
      cases e : H a with
      | none => rfl
      | some o => rw [g.keep a o e] at q; cases q
theorem Nw.gr (g : Nw F H F' H') (h : ∀ a, O' a → O a ∨ H a = none) : Gr O F H O' F' H' :=
  ⟨g.le, g.sub, fun a o e _ _ => g.keep a o e, fun a q => (g.old a q).elim .inl fun z => .inr (.inl z), h, fun a ob u e => g.keep a _ e⟩
theorem Nw.fnone (g : Nw F H F' H') (f : F a = none) (h : H a ≠ none) : F' a = none := by
  cases e : F' a with
  | none => rfl
  | some o =>
    rcases g.old a (by rw [e]; simp) with q | q
    · exact absurd f q
    · exact absurd q h
theorem Gr.fnone (g : Gr O F H O' F' H') (f : F a = none) (h : H a ≠ none) (n : ¬ O a) : F' a = none := by
  cases e : F' a with
  | none => rfl
  | some o =>
    rcases g.old a (by rw [e]; simp) with q | q | q
    · exact absurd f q
    · exact absurd q h
    · exact absurd q n
theorem LRel.nw (g : Nw F H F' H') (r : LRel R F H lv v) : LRel R F' H' lv v := by
  cases r with
  | dat r => exact .dat (r.mono g.le)
  | ml f h r => exact .ml (g.fnone f (by rw [h]; simp)) (g.keep _ _ h) (r.mono g.le)
  | md f h k r => exact .md (g.fnone f (by rw [h]; simp)) (g.keep _ _ h) k (r.mono g.le)
  | mt f h k r => exact .mt (g.fnone f (by rw [h]; simp)) (g.keep _ _ h) k (r.mono g.le)
  | mi f h k r => exact .mi (g.fnone f (by rw [h]; simp)) (g.keep _ _ h) k (r.mono g.le)
/-- what is not owned by O stays -/
theorem LRel.gr (g : Gr O F H O' F' H') (n : ∀ a, Owns lv v a → ¬ O a) (r : LRel R F H lv v) : LRel R F' H' lv v := by
  cases r with
  | dat r => exact .dat (r.mono g.le)
  | ml f h r => have q := n _ ⟨rfl, rfl⟩; exact .ml (g.fnone f (by rw [h]; simp) q) (g.keep _ _ h f q) (r.mono g.le)
  | md f h k r => have q := n _ ⟨rfl, rfl⟩; exact .md (g.fnone f (by rw [h]; simp) q) (g.keep _ _ h f q) k (r.mono g.le)
  | mt f h k r => have q := n _ ⟨rfl, rfl⟩; exact .mt (g.fnone f (by rw [h]; simp) q) (g.keep _ _ h f q) k (r.mono g.le)
  | mi f h k r => have q := n _ ⟨rfl, rfl⟩; exact .mi (g.fnone f (by rw [h]; simp) q) (g.keep _ _ h f q) k (r.mono g.le)
theorem LRel.tracked (r : LRel R F H lv v) (o : Owns lv v a) : F a = none ∧ H a ≠ none := by
  obtain ⟨o1, rfl⟩ := o
  cases r with
  | dat r => cases o1
  | ml f h r => exact ⟨f, by rw [h]; simp⟩
  | md f h k r => exact ⟨f, by rw [h]; simp⟩
  | mt f h k r => exact ⟨f, by rw [h]; simp⟩
  | mi f h k r => exact ⟨f, by rw [h]; simp⟩
theorem ER.nw (g : Nw F H F' H') (e : ER R F H σ env) : ER R F' H' σ env :=
  ⟨e.len, fun i lv h n => let ⟨v, h1, h2⟩ := e.rel i lv h n; ⟨v, h1, h2.nw g⟩, e.dis⟩
theorem ER.tracked (e : ER R F H σ env) (o : Own env σ a) : F a = none ∧ H a ≠ none := by
  obtain ⟨i, lv, h1, h2, h3⟩ := o
  obtain ⟨v, q1, q2⟩ := e.rel i lv h1 (by rintro rfl; cases h2)
  rw [h3] at q1; cases q1
  exact q2.tracked ⟨h2, rfl⟩
end
end PL
set_option maxRecDepth 100000
set_option maxHeartbeats 4000000
/-! Operands, argument lists: what they compute. -/
namespace PL
open PySem L2 PyProof.Rows

inductive Rf where
  | tmp (lv : LV)
  | var (i : Nat)
def LV.ok : LV → Bool
  | .un => false
  | _ => true
def Rf.get (r : Rf) (env : LEnv) : Option LV :=
  match r with
  | .tmp lv => if lv.ok then some lv else none
  | .var i => match env[i]? with
    | some lv => if lv.ok then some lv else none
    | none => none
structure Xc where
  cls : Str
  fs : List (Str × D)
inductive OR where
  | val (r : Rf) (env : LEnv)
  | exc (x : Xc) (env : LEnv)
  | bad
abbrev OM := LEnv → OR
inductive AR where
  | val (rs : List Rf) (env : LEnv)
  | exc (x : Xc) (env : LEnv)
  | bad
abbrev AM := LEnv → AR

def RfR (R : RE) (F H : Hp) (σ : L2.St) : Rf → V → Prop
  | .tmp lv, v => lv ≠ .un ∧ LRel R F H lv v
  | .var i, v => σ[i]? = some (some v)
def RfO : Rf → V → Addr → Prop
  | .tmp lv, v, a => Owns lv v a
  | .var _, _, _ => False
inductive RsR (R : RE) (F H : Hp) (σ : L2.St) : List Rf → List V → Prop
  | nil : RsR R F H σ [] []
  | cons {r : Rf} {v : V} {rs : List Rf} {vs : List V} : RfR R F H σ r v → RsR R F H σ rs vs → RsR R F H σ (r :: rs) (v :: vs)
def RsO (rs : List Rf) (vs : List V) (a : Addr) : Prop := ∃ (k : Nat) (r : Rf) (v : V), rs[k]? = some r ∧ vs[k]? = some v ∧ RfO r v a
def RsD (rs : List Rf) (vs : List V) : Prop := ∀ (k k' : Nat) (r r' : Rf) (v v' : V) (a : Addr), rs[k]? = some r → vs[k]? = some v → rs[k']? = some r' → vs[k']? = some v' → RfO r v a → RfO r' v' a → k = k'
/-- an exception: its class, its own dict -/
def XR (R : RE) (F H : Hp) (x : Xc) (cls : Value) (d : Option Addr) : Prop :=
  cls = .ref (R.ct x.cls) ∧ ((x.fs = [] ∧ d = none) ∨ ∃ dd xs, d = some dd ∧ H dd = some (.xd xs) ∧ x.fs.map (·.1) = xs.map (·.1) ∧ RepL R F (x.fs.map (·.2)) (xs.map (·.2)))
abbrev XP := Xc → LEnv → Prop
def XPost (R : RE) (W : WX) (O : Addr → Prop) (σ : L2.St) (F H : Hp) (x : Xc) (env' : LEnv) : Prop :=
  ∀ cls d F' H', ER R F' H' σ env' → XR R F' H' x cls d → Gr O F H (Own env' σ) F' H' → W cls d σ H'
def OPost (R : RE) (W : WX) (O : Addr → Prop) (σ : L2.St) (F H : Hp) (r : OR) (Q : VK) : Prop :=
  match r with
  | .val rf env' => ∀ v F' H', ER R F' H' σ env' → RfR R F' H' σ rf v → (∀ a, RfO rf v a → ¬ Own env' σ a) → Gr O F H (fun a => Own env' σ a ∨ RfO rf v a) F' H' → Q v H'
  | .exc x env' => XPost R W O σ F H x env'
  | .bad => False
def APost (R : RE) (W : WX) (O : Addr → Prop) (σ : L2.St) (F H : Hp) (r : AR) (Q : List V → Hp → Prop) : Prop :=
  match r with
  | .val rs env' => ∀ vs F' H', ER R F' H' σ env' → RsR R F' H' σ rs vs → (∀ a, RsO rs vs a → ¬ Own env' σ a) → RsD rs vs → Gr O F H (fun a => Own env' σ a ∨ RsO rs vs a) F' H' → Q vs H'
  | .exc x env' => XPost R W O σ F H x env'
  | .bad => False
/-- the reading t does what m tells -/
def OS (R : RE) (W : WX) (t : TE) (m : OM) : Prop := ∀ σ F H env Q, ER R F H σ env → Le F H → OPost R W (Own env σ) σ F H (m env) Q → t σ H Q
def AS (R : RE) (W : WX) (t : TA) (m : AM) : Prop := ∀ σ F H env Q, ER R F H σ env → Le F H → APost R W (Own env σ) σ F H (m env) Q → t σ H Q
def OJ (X : Cx) (R : RE) (W : WX) (e : Expr) (m : OM) : Prop := ∃ t, PE X e t ∧ OS R W t m
def AJ (X : Cx) (R : RE) (W : WX) (es : List Expr) (m : AM) : Prop := ∃ t, PA X es t ∧ AS R W t m

section
variable {R : RE} {W : WX} {F H F' H' F1 H1 : Hp} {O O' O1 : Addr → Prop} {σ : L2.St} {env env' env1 : LEnv} {lv : LV} {v : V} {a : Addr} {rf : Rf} {rs : List Rf} {vs : List V}
theorem RfR.nw (g : Nw F H F' H') (r : RfR R F H σ rf v) : RfR R F' H' σ rf v := by
  cases rf with
  | tmp lv => exact ⟨r.1, r.2.nw g⟩
  | var i => exact r
theorem RfR.gr (g : Gr O F H O' F' H') (n : ∀ a, RfO rf v a → ¬ O a) (r : RfR R F H σ rf v) : RfR R F' H' σ rf v := by
  cases rf with
  | tmp lv => exact ⟨r.1, r.2.gr g n⟩
  | var i => exact r
theorem RfR.tracked (r : RfR R F H σ rf v) (o : RfO rf v a) : F a = none ∧ H a ≠ none := by
  cases rf with
  | tmp lv => exact r.2.tracked o
  | var i => exact o.elim
theorem RsR.nw (g : Nw F H F' H') : ∀ {rs : List Rf} {vs : List V}, RsR R F H σ rs vs → RsR R F' H' σ rs vs
  | _, _, .nil => .nil
  | _, _, .cons h r => .cons (h.nw g) (r.nw g)
theorem RsR.gr (g : Gr O F H O' F' H') : ∀ {rs : List Rf} {vs : List V}, (∀ a, RsO rs vs a → ¬ O a) → RsR R F H σ rs vs → RsR R F' H' σ rs vs
  | _, _, _, .nil => .nil
  | _, _, n, .cons h r => .cons (h.gr g fun a q => n a ⟨0, _, _, rfl, rfl, q⟩) (r.gr g fun a ⟨k, r, v, q1, q2, q3⟩ => n a ⟨k + 1, r, v, by simpa using q1, by simpa using q2, q3⟩)
theorem RsR.length : ∀ {rs : List Rf} {vs : List V}, RsR R F H σ rs vs → rs.length = vs.length
  | _, _, .nil => rfl
  | _, _, .cons _ r => by simp [r.length]
theorem RsR.at {k : Nat} {r : Rf} {v : V} : ∀ {rs : List Rf} {vs : List V} {k : Nat}, RsR R F H σ rs vs → rs[k]? = some r → vs[k]? = some v → RfR R F H σ r v
  | _, _, _, .nil, h, _ => by simp at h
  | _, _, 0, .cons h _, e, e' => by simp at e e'; subst e; subst e'; exact h
  | _, _, k + 1, .cons _ q, e, e' => q.at (k := k) (by simpa using e) (by simpa using e')
theorem RsR.tracked (r : RsR R F H σ rs vs) (o : RsO rs vs a) : F a = none ∧ H a ≠ none := by
  obtain ⟨k, r', v', e1, e2, q⟩ := o
  exact (r.at (k := k) e1 e2).tracked q
theorem RsO.cons {r : Rf} {rs : List Rf} {v : V} {vs : List V} : RsO (r :: rs) (v :: vs) a ↔ RfO r v a ∨ RsO rs vs a := by
  constructor
  · rintro ⟨k, r', v', e1, e2, q⟩
    cases k with
    | zero => simp at e1 e2; subst e1; subst e2; exact .inl q
    | succ k => exact .inr ⟨k, r', v', by simpa using e1, by simpa using e2, q⟩
  · rintro (q | ⟨k, r', v', e1, e2, q⟩)
    · exact ⟨0, r, v, rfl, rfl, q⟩
    · exact ⟨k + 1, r', v', by simpa using e1, by simpa using e2, q⟩
theorem RsO.nil : ¬ RsO [] [] a := by rintro ⟨k, r, v, e, _⟩; simp at e

/-! ### argument lists -/
def aNil : AM := fun env => .val [] env
def aCons (m : OM) (ms : AM) : AM := fun env => match m env with
  | .val r env1 => match ms env1 with
    | .val rs env2 => .val (r :: rs) env2
    | .exc x env2 => .exc x env2
    | .bad => .bad
  | .exc x env1 => .exc x env1
  | .bad => .bad
theorem as_nil : AS R W tNil aNil := fun σ F H env Q er l p => p [] F H er .nil (fun _ o => (RsO.nil o).elim) (fun k _ r _ _ _ _ e => by simp at e) ⟨.refl F, l, fun _ _ h _ _ => h, fun _ h => .inl h, fun _ h => h.elim .inl fun z => (RsO.nil z).elim, fun _ _ _ h => h⟩
theorem as_cons {te : TE} {t : TA} {m : OM} {ms : AM} (h1 : OS R W te m) (h2 : AS R W t ms) : AS R W (tCons te t) (aCons m ms) := by
  intro σ F H env Q er l p
  unfold aCons at p
  refine h1 σ F H env _ er l ?_
  cases e1 : m env with
  | bad => rw [e1] at p; exact p.elim
  | exc x env1 => rw [e1] at p; exact p
  | val r env1 =>
    rw [e1] at p
    intro v F1 H1 er1 rr1 d1 g1
    refine h2 σ F1 H1 env1 _ er1 g1.sub ?_
    have g1' : Gr (Own env σ) F H (Own env1 σ) F1 H1 := g1.weak fun a h => .inl h
    cases e2 : ms env1 with
    | bad => simp only [e2] at p; exact p.elim
    | exc x env2 =>
      simp only [e2] at p
      intro cls d F2 H2 er2 x2 g2
      exact p cls d F2 H2 er2 x2 (g1'.trans l g2)
    | val rs env2 =>
      simp only [e2] at p
      intro vs F2 H2 er2 rr2 d2 dd2 g2
      have n1 : ∀ a, RfO r v a → ¬ Own env1 σ a := d1
      have rr1' : RfR R F2 H2 σ r v := rr1.gr g2 n1
      -- the temporary is apart from what came behind
      have ap : ∀ a, RfO r v a → ¬ (Own env2 σ a ∨ RsO rs vs a) := fun a o q => by
        rcases g2.own a q with z | z
        · exact d1 a o z
        · exact (rr1.tracked o).2 z
      refine p (v :: vs) F2 H2 er2 (.cons rr1' rr2) (fun a o => ?_) ?_ ?_
      · rcases RsO.cons.mp o with o | o
        · exact fun q => ap a o (.inl q)
        · exact d2 a o
      · intro k k' r1 r2 v1 v2 a q1 q2 q3 q4 o1 o2
        cases k with
        | zero =>
          cases k' with
          | zero => rfl
          | succ k' =>
            simp at q1 q2; subst q1; subst q2
            exact (ap a o1 (.inr ⟨k', r2, v2, by simpa using q3, by simpa using q4, o2⟩)).elim
        | succ k =>
          cases k' with
          | zero =>
            simp at q3 q4; subst q3; subst q4
            exact (ap a o2 (.inr ⟨k, r1, v1, by simpa using q1, by simpa using q2, o1⟩)).elim
          | succ k' =>
            have := dd2 k k' r1 r2 v1 v2 a (by simpa using q1) (by simpa using q2) (by simpa using q3) (by simpa using q4) o1 o2
            omega
      · have g := g1'.trans l g2
        refine ⟨g.le, g.sub, g.keep, g.old, fun a q => ?_, g.frz⟩
        rcases q with q | q
        · exact g.own a (.inl q)
        · rcases RsO.cons.mp q with q | q
          · exact g1.own a (.inr q)
          · exact g.own a (.inr q)

/-! ### an operation on values: no object is changed, new ones may come -/
def LRelL (R : RE) (F H : Hp) : List LV → List V → Prop := Paired (LRel R F H)
def gets : List Rf → LEnv → Option (List LV)
  | [], _ => some []
  | r :: rs, env => match r.get env with
    | some lv => match gets rs env with
      | some lvs => some (lv :: lvs)
      | none => none
    | none => none
theorem RfR.get {r : Rf} (er : ER R F H σ env) (rr : RfR R F H σ r v) (h : r.get env = some lv) : LRel R F H lv v ∧ lv ≠ .un := by
  cases r with
  | tmp lv' =>
    unfold Rf.get at h
    cases e : lv'.ok with
    | false => simp [e] at h
    | true => simp [e] at h; subst h; exact ⟨rr.2, rr.1⟩
  | var i =>
    unfold Rf.get at h
    simp only at h
    cases e : env[i]? with
    | none => rw [e] at h; cases h
    | some lv' =>
      rw [e] at h
      cases e2 : lv'.ok with
      | false => simp [e2] at h
      | true =>
        simp [e2] at h
        subst h
        have ne : lv' ≠ .un := by rintro rfl; cases e2
        obtain ⟨v', h1, h2⟩ := er.rel i lv' e ne
        have rr' : σ[i]? = some (some v) := rr
        rw [h1] at rr'
        cases rr'
        exact ⟨h2, ne⟩
theorem RsR.gets (er : ER R F H σ env) : ∀ {rs : List Rf} {vs : List V} {lvs : List LV}, RsR R F H σ rs vs → gets rs env = some lvs → LRelL R F H lvs vs
  | [], [], lvs, .nil, h => by cases h; exact .nil
  | r :: rs, v :: vs, lvs, .cons q qs, h => by
    unfold PL.gets at h
    cases e : r.get env with
    | none => rw [e] at h; cases h
    | some lv =>
      rw [e] at h
      cases e2 : PL.gets rs env with
      | none => simp only [e2] at h; cases h
      | some lvs' =>
        simp only [e2] at h
        cases h
        exact .cons (q.get er e).1 (qs.gets er e2)
/-- rr on values is f on what they stand for -/
def RS (R : RE) (rr : List V → Hp → VK → Prop) (f : List LV → Option LV) : Prop :=
  ∀ F H vs lvs z Q, Le F H → LRelL R F H lvs vs → f lvs = some z → (∀ w F' H', Nw F H F' H' → LRel R F' H' z w → (∀ a, Owns z w a → H a = none) → Q w H') → rr vs H Q
def oOp (ms : AM) (f : List LV → Option LV) : OM := fun env => match ms env with
  | .val rs env1 => match gets rs env1 with
    | some lvs => match f lvs with
      | some z => if z.ok then .val (.tmp z) env1 else .bad
      | none => .bad
    | none => .bad
  | .exc x env1 => .exc x env1
  | .bad => .bad
theorem os_op {t : TA} {ms : AM} {rr : List V → Hp → VK → Prop} {f : List LV → Option LV} (h : AS R W t ms) (hr : RS R rr f) : OS R W (fun σ H Q => t σ H fun vs H1 => rr vs H1 Q) (oOp ms f) := by
  intro σ F H env Q er l p
  unfold oOp at p
  refine h σ F H env _ er l ?_
  cases e1 : ms env with
  | bad => rw [e1] at p; exact p.elim
  | exc x env1 => rw [e1] at p; exact p
  | val rs env1 =>
    rw [e1] at p
    intro vs F1 H1 er1 rr1 d1 dd1 g1
    simp only at p
    cases e2 : gets rs env1 with
    | none => simp only [e2] at p; exact p.elim
    | some lvs =>
      simp only [e2] at p
      cases e3 : f lvs with
      | none => simp only [e3] at p; exact p.elim
      | some z =>
        simp only [e3] at p
        cases e4 : z.ok with
        | false => simp [e4] at p; exact p.elim
        | true =>
          simp only [e4, if_true] at p
          refine hr F1 H1 vs lvs z Q g1.sub (rr1.gets er1 e2) e3 fun w F2 H2 nw lr ow => ?_
          have ne : z ≠ .un := by rintro rfl; cases e4
          have g1' : Gr (Own env σ) F H (Own env1 σ) F1 H1 := g1.weak fun a h => .inl h
          refine p w F2 H2 (er1.nw nw) ⟨ne, lr⟩ (fun a o q => (er1.tracked q).2 (ow a o)) ?_
          exact g1'.trans l (nw.gr fun a q => q.elim .inl fun o => .inr (ow a o))
end
end PL
set_option maxRecDepth 100000
set_option maxHeartbeats 4000000
/-! Names, constants, freezing, operators, tests. -/
namespace PL
open PySem L2 PyProof.Rows

section
variable {X : Cx} {R : RE} {W : WX} {pos : Pos} {e a b c : Expr} {es : List Expr} {m ma mb mc : OM} {ms : AM}

/-! ### names and constants -/
def oVar (i : Nat) : OM := fun env => match env[i]? with
  | some lv => if lv.ok then .val (.var i) env else .bad
  | none => .bad
theorem ok_ne {lv : LV} (h : lv.ok = true) : lv ≠ .un := by rintro rfl; cases h
theorem oj_var {i : Nat} {x : Str} (h : PE X (.Name x pos) (tVar i)) : OJ X R W (.Name x pos) (oVar i) := by
  refine ⟨_, h, fun σ F H env Q er l p => ?_⟩
  unfold oVar at p
  cases e : env[i]? with
  | none => simp only [e] at p; exact p.elim
  | some lv =>
    simp only [e] at p
    cases k : lv.ok with
    | false => simp [k] at p; exact p.elim
    | true =>
      simp only [k, if_true] at p
      obtain ⟨v, h1, h2⟩ := er.rel i lv e (ok_ne k)
      exact ⟨v, h1, p v F H er h1 (fun _ o => o.elim) ⟨.refl F, l, fun _ _ h _ _ => h, fun _ h => .inl h, fun _ h => h.elim .inl fun z => z.elim, fun _ _ _ h => h⟩⟩
def oC (d : D) : OM := fun env => .val (.tmp (.dat d)) env
theorem os_c {v : V} {d : D} (h : ∀ F, Rep R F d v) : OS R W (tC v) (oC d) := fun σ F H env Q er l p =>
  p v F H er ⟨by simp, .dat (h F)⟩ (fun _ o => by cases o.1) ⟨.refl F, l, fun _ _ h _ _ => h, fun _ h => .inl h, fun _ h => h.elim .inl (fun z => by cases z.1), fun _ _ _ h => h⟩
theorem oj_int {i : Int} {j} : OJ X R W (.Constant (.int i) j pos) (oC (.int i)) := ⟨_, pe_int, os_c fun _ => .int i⟩
theorem oj_bl {b : Bool} {j} : OJ X R W (.Constant (.bool b) j pos) (oC (.bl b)) := ⟨_, pe_bl, os_c fun _ => .bl b⟩
theorem oj_non {j} : OJ X R W (.Constant .none j pos) (oC .non) := ⟨_, pe_non, os_c fun _ => .non⟩
theorem oj_str {x : Str} {j} : OJ X R W (.Constant (.str x) j pos) (oC (.str x)) := ⟨_, pe_str, os_c fun _ => .str x⟩
/-- a module's constant, a text or an int -/
theorem oj_gstr {x y : Str} {u : Tok} (hg : Gl X x) (hm : X.mg x = some (.str y u)) (h : PE X (.Name x pos) (tC (.str y))) : OJ X R W (.Name x pos) (oC (.str y)) := ⟨_, h, os_c fun _ => .str y⟩
theorem oj_cst {x : Str} {v : V} (h : PE X (.Name x pos) (tC v)) : OJ X R W (.Name x pos) (oC (.cst v)) := ⟨_, h, os_c fun _ => .cst v⟩

/-! ### freezing -/
def LV.frz : LV → Option D
  | .un => none
  | .dat d => some d
  | .ml ds => some (.lst ds)
  | .md kvs => some (.dic kvs)
  | .mt kvs => some (.dit kvs)
  | .mi c fs => some (.ins c fs)
def oFrz (m : OM) : OM := fun env => match m env with
  | .val (.tmp lv) env1 => match lv.frz with
    | some d => .val (.tmp (.dat d)) env1
    | none => .bad
  | .val (.var i) env1 => match env1[i]? with
    | some lv => match lv.frz with
      | some d => .val (.tmp (.dat d)) (env1.set i (.dat d))
      | none => .bad
    | none => .bad
  | .exc x env1 => .exc x env1
  | .bad => .bad
theorem frz_rel {F H : Hp} {lv : LV} {v : V} {d : D} (l : Le F H) (r : LRel R F H lv v) (h : lv.frz = some d) :
    ∃ F', Rep R F' d v ∧ Le F F' ∧ Le F' H ∧ (∀ b, F' b ≠ none → F b ≠ none ∨ Owns lv v b) ∧ (∀ b, ¬ Owns lv v b → F' b = F b) := by
  have core : ∀ {a : Addr} {o : HO}, F a = none → H a = some o → v = .ref a → lv.isOwn = true → (∀ {G : Hp}, Le F G → G a = some o → Rep R G d v) →
      ∃ F', Rep R F' d v ∧ Le F F' ∧ Le F' H ∧ (∀ b, F' b ≠ none → F b ≠ none ∨ Owns lv v b) ∧ (∀ b, ¬ Owns lv v b → F' b = F b) := by
    intro a o f h1 hv ho k
    refine ⟨upd F a o, k (Le.upd f) upd_same, Le.upd f, l.frz h1, fun b q => ?_, fun b q => ?_⟩
    · by_cases e : b = a
      · exact .inr ⟨ho, by rw [hv, e]⟩
      · rw [upd_ne e] at q; exact .inl q
    · exact upd_ne fun e => q ⟨ho, by rw [hv, e]⟩
  cases r with
  | dat r => cases h; exact ⟨F, r, .refl F, l, fun b q => .inl q, fun _ _ => rfl⟩
  | ml f h1 r => cases h; exact core f h1 rfl rfl fun g e => .lst e (r.mono g)
  | md f h1 k r => cases h; exact core f h1 rfl rfl fun g e => .dic (.inl e) k (r.mono g)
  | mt f h1 k r => cases h; exact core f h1 rfl rfl fun g e => .dit (.inl e) k (r.mono g)
  | mi f h1 k r => cases h; exact core f h1 rfl rfl fun g e => .ins e k (r.mono g)
/-- more is frozen, of what is not owned by lv at v -/
theorem LRel.frz {F H F' : Hp} {lv : LV} {v : V} (l : Le F F') (f : ∀ b, Owns lv v b → F' b = F b) (r : LRel R F H lv v) : LRel R F' H lv v := by
  cases r with
  | dat r => exact .dat (r.mono l)
  | ml q h r => exact .ml ((f _ ⟨rfl, rfl⟩).trans q) h (r.mono l)
  | md q h k r => exact .md ((f _ ⟨rfl, rfl⟩).trans q) h k (r.mono l)
  | mt q h k r => exact .mt ((f _ ⟨rfl, rfl⟩).trans q) h k (r.mono l)
  | mi q h k r => exact .mi ((f _ ⟨rfl, rfl⟩).trans q) h k (r.mono l)
theorem Own.set_dat {env : LEnv} {σ : L2.St} {i : Nat} {d : D} {a : Addr} (o : Own (env.set i (.dat d)) σ a) : Own env σ a ∧ ¬ σ[i]? = some (some (.ref a)) ∨ ∃ j lv, j ≠ i ∧ env[j]? = some lv ∧ lv.isOwn = true ∧ σ[j]? = some (some (.ref a)) := by
  obtain ⟨j, lv, h1, h2, h3⟩ := o
  by_cases e : j = i
  · subst e
    rw [List.getElem?_set] at h1
    split at h1
    · split at h1
      · cases h1; cases h2
      · cases h1
    · exact absurd rfl (by assumption)
  · rw [List.getElem?_set_ne (Ne.symm e)] at h1
    exact .inr ⟨j, lv, e, h1, h2, h3⟩
theorem own_set {env : LEnv} {σ : L2.St} {i : Nat} {d : D} {a : Addr} (o : Own (env.set i (.dat d)) σ a) : ∃ j lv, j ≠ i ∧ env[j]? = some lv ∧ lv.isOwn = true ∧ σ[j]? = some (some (.ref a)) := by
  obtain ⟨j, lv, h1, h2, h3⟩ := o
  by_cases e : j = i
  · subst e
    rw [List.getElem?_set] at h1
    split at h1
    · split at h1
      · cases h1; cases h2
      · cases h1
    · exact absurd rfl (by assumption)
  · rw [List.getElem?_set_ne (Ne.symm e)] at h1
    exact ⟨j, lv, e, h1, h2, h3⟩
/-- a variable's content is frozen -/
theorem ER.frz {F H F' : Hp} {σ : L2.St} {env : LEnv} {i : Nat} {lv : LV} {v : V} {d : D} (er : ER R F H σ env) (he : env[i]? = some lv) (hv : σ[i]? = some (some v)) (hr : Rep R F' d v) (l : Le F F') (hk : ∀ b, ¬ Owns lv v b → F' b = F b) :
    ER R F' H σ (env.set i (.dat d)) := by
  refine ⟨by rw [List.length_set]; exact er.len, fun j lv' h n => ?_, fun j k lv1 lv2 b h1 h2 o1 o2 s1 s2 => ?_⟩
  · by_cases e : j = i
    · subst e
      rw [List.getElem?_set] at h
      split at h
      · split at h
        · cases h; exact ⟨v, hv, .dat hr⟩
        · cases h
      · exact absurd rfl (by assumption)
    · rw [List.getElem?_set_ne (Ne.symm e)] at h
      obtain ⟨v', q1, q2⟩ := er.rel j lv' h n
      refine ⟨v', q1, q2.frz l fun b ob => hk b fun ob' => ?_⟩
      obtain ⟨o1, rfl⟩ := ob
      obtain ⟨o2, rfl⟩ := ob'
      exact e (er.dis j i lv' lv b h he o1 o2 q1 hv)
  · have z : ∀ {j : Nat} {lv' : LV}, (env.set i (.dat d))[j]? = some lv' → lv'.isOwn = true → env[j]? = some lv' := fun {j lv'} h o => by
      by_cases e : j = i
      · subst e
        rw [List.getElem?_set] at h
        split at h
        · split at h
          · cases h; cases o
          · cases h
        · exact absurd rfl (by assumption)
      · rw [List.getElem?_set_ne (Ne.symm e)] at h; exact h
    exact er.dis j k lv1 lv2 b (z h1 o1) (z h2 o2) o1 o2 s1 s2
theorem ER.frzT {F H F' : Hp} {σ : L2.St} {env : LEnv} {lv : LV} {v : V} (er : ER R F H σ env) (l : Le F F') (hk : ∀ b, ¬ Owns lv v b → F' b = F b) (hd : ∀ b, Owns lv v b → ¬ Own env σ b) : ER R F' H σ env := by
  refine ⟨er.len, fun j lv' h n => ?_, er.dis⟩
  obtain ⟨v', q1, q2⟩ := er.rel j lv' h n
  refine ⟨v', q1, q2.frz l fun b ob => hk b fun ob' => hd b ob' ⟨j, lv', h, ob.1, by rw [q1, ob.2]⟩⟩
theorem os_frz {t : TE} (h : OS R W t m) : OS R W t (oFrz m) := by
  intro σ F H env Q er l p
  unfold oFrz at p
  refine h σ F H env Q er l ?_
  cases e1 : m env with
  | bad => rw [e1] at p; exact p.elim
  | exc x env1 => rw [e1] at p; exact p
  | val r env1 =>
    rw [e1] at p
    intro v F1 H1 er1 rr d1 g1
    cases r with
    | tmp lv =>
      simp only at p
      cases e2 : lv.frz with
      | none => simp only [e2] at p; exact p.elim
      | some d =>
        simp only [e2] at p
        obtain ⟨F2, r2, l2, s2, n2, k2⟩ := frz_rel g1.sub rr.2 e2
        refine p v F2 H1 (er1.frzT l2 k2 d1) ⟨by simp, .dat r2⟩ (fun _ o => by cases o.1) ?_
        refine ⟨g1.le.trans l2, s2, g1.keep, fun b q => ?_, fun b q => ?_, g1.frz⟩
        · rcases n2 b q with q | q
          · exact g1.old b q
          · rcases g1.own b (.inr q) with q | q
            · exact .inr (.inr q)
            · exact .inr (.inl q)
        · rcases q with q | q
          · exact g1.own b (.inl q)
          · cases q.1
    | var i =>
      simp only at p
      cases e2 : env1[i]? with
      | none => simp only [e2] at p; exact p.elim
      | some lv =>
        simp only [e2] at p
        cases e3 : lv.frz with
        | none => simp only [e3] at p; exact p.elim
        | some d =>
          simp only [e3] at p
          have ne : lv ≠ .un := by rintro rfl; cases e3
          obtain ⟨v', q1, q2⟩ := er1.rel i lv e2 ne
          have rr' : σ[i]? = some (some v) := rr
          rw [q1] at rr'; cases rr'
          obtain ⟨F2, r2, l2, s2, n2, k2⟩ := frz_rel g1.sub q2 e3
          refine p v F2 H1 (er1.frz e2 q1 r2 l2 k2) ⟨by simp, .dat r2⟩ (fun _ o => by cases o.1) ?_
          refine ⟨g1.le.trans l2, s2, g1.keep, fun b q => ?_, fun b q => ?_, g1.frz⟩
          · rcases n2 b q with q | q
            · exact g1.old b q
            · rcases g1.own b (.inl ⟨i, lv, e2, q.1, by rw [q1, q.2]⟩) with q | q
              · exact .inr (.inr q)
              · exact .inr (.inl q)
          · rcases q with q | q
            · obtain ⟨j, lv', _, h1, h2, h3⟩ := own_set q
              exact g1.own b (.inl ⟨j, lv', h1, h2, h3⟩)
            · cases q.1
theorem oj_frz (h : OJ X R W e m) : OJ X R W e (oFrz m) := let ⟨t, h1, h2⟩ := h; ⟨t, h1, os_frz h2⟩

/-! ### argument lists -/
theorem aj_nil : AJ X R W [] aNil := ⟨_, pa_nil, as_nil⟩
theorem aj_cons (h1 : OJ X R W e m) (h2 : AJ X R W es ms) (hs : starEach (e :: es) X.env = (false, eval e X.env) :: starEach es X.env := by rfl) : AJ X R W (e :: es) (aCons m ms) :=
  let ⟨t, p, o⟩ := h1; let ⟨u, q, r⟩ := h2; ⟨tCons t u, pa_cons p q hs, as_cons o r⟩

/-! ### operators -/
def r2L (r : R2) : List V → Hp → VK → Prop := fun vs H Q => match vs with
  | [x, y] => r x y H Q
  | _ => False
def r1L (r : V → Hp → VK → Prop) : List V → Hp → VK → Prop := fun vs H Q => match vs with
  | [x] => r x H Q
  | _ => False
def OpJ (X : Cx) (R : RE) (op : Value → Value → Sem Value) (f : List LV → Option LV) : Prop := ∃ r, OpR X op r ∧ RS R (r2L r) f
def UnJ (X : Cx) (R : RE) (op : Value → Sem Value) (f : List LV → Option LV) : Prop := ∃ r, UnR X op r ∧ RS R (r1L r) f
def CallJ (X : Cx) (R : RE) (fv : Value) (f : List LV → Option LV) : Prop := ∃ r, CallR X fv r ∧ RS R r f
abbrev o2 (ma mb : OM) (f : List LV → Option LV) : OM := oOp (aCons ma (aCons mb aNil)) f
abbrev o1 (ma : OM) (f : List LV → Option LV) : OM := oOp (aCons ma aNil) f
theorem os_op2 {r : R2} {ta tb : TE} {f : List LV → Option LV} (ha : OS R W ta ma) (hb : OS R W tb mb) (h : RS R (r2L r) f) : OS R W (tOp r ta tb) (o2 ma mb f) :=
  os_op (as_cons ha (as_cons hb as_nil)) h
theorem os_op1 {r : V → Hp → VK → Prop} {ta : TE} {f : List LV → Option LV} (ha : OS R W ta ma) (h : RS R (r1L r) f) : OS R W (tUn r ta) (o1 ma f) :=
  os_op (as_cons ha as_nil) h
theorem oj_bin {op : Operator} {f : List LV → Option LV} (ho : OpJ X R (binaryOp op) f) (ha : OJ X R W a ma) (hb : OJ X R W b mb) : OJ X R W (.BinOp a op b pos) (o2 ma mb f) :=
  let ⟨r, h1, h2⟩ := ho; let ⟨ta, a1, a2⟩ := ha; let ⟨tb, b1, b2⟩ := hb; ⟨tOp r ta tb, pe_op h1 a1 b1, os_op2 a2 b2 h2⟩
theorem oj_un {op : UnaryOp} {f : List LV → Option LV} (ho : UnJ X R (unaryOp op) f) (ha : OJ X R W a ma) (h : ∀ r ta, UnR X (unaryOp op) r → PE X a ta → PE X (.UnaryOp op a pos) (tUn r ta)) : OJ X R W (.UnaryOp op a pos) (o1 ma f) :=
  let ⟨r, h1, h2⟩ := ho; let ⟨ta, a1, a2⟩ := ha; ⟨tUn r ta, h r ta h1 a1, os_op1 a2 h2⟩
theorem oj_cmp {op : CmpOp} {f : List LV → Option LV} (ho : OpJ X R (compareOp op) f) (ha : OJ X R W a ma) (hb : OJ X R W b mb) (hm : behindInMarks op b = false) : OJ X R W (.Compare a [op] [b] pos) (o2 ma mb f) :=
  let ⟨r, h1, h2⟩ := ho; let ⟨ta, a1, a2⟩ := ha; let ⟨tb, b1, b2⟩ := hb; ⟨tOp r ta tb, pe_cmpR h1 a1 b1 hm, os_op2 a2 b2 h2⟩
/-- a built-in called by its name -/
theorem oj_callB {f : List LV → Option LV} {x : Str} {p : Pos} {n : String} (hc : CallJ X R (.builtin n) f) (ha : AJ X R W es ms)
    (h : ∀ r t, CallR X (.builtin n) r → PA X es t → PE X (.Call (.Name x p) es [] pos) (tCB r t)) : OJ X R W (.Call (.Name x p) es [] pos) (oOp ms f) :=
  let ⟨r, h1, h2⟩ := hc; let ⟨t, a1, a2⟩ := ha; ⟨tCB r t, h r t h1 a1, os_op a2 h2⟩
theorem oj_callT {f : List LV → Option LV} {x : Str} {p : Pos} {n : String} (hc : CallJ X R (.type n) f) (ha : AJ X R W es ms)
    (h : ∀ r t, CallR X (.type n) r → PA X es t → PE X (.Call (.Name x p) es [] pos) (tCB r t)) : OJ X R W (.Call (.Name x p) es [] pos) (oOp ms f) :=
  let ⟨r, h1, h2⟩ := hc; let ⟨t, a1, a2⟩ := ha; ⟨tCB r t, h r t h1 a1, os_op a2 h2⟩
/-- two rules for one operator -/
theorem OpR.or {op : Value → Value → Sem Value} {r s : R2} (h1 : OpR X op r) (h2 : OpR X op s) : OpR X op (fun x y H Q => r x y H Q ∨ s x y H Q) := by
  intro pins s' σ H x y u v Q I rx ry q
  exact q.elim (h1 pins s' σ H x y u v Q I rx ry) (h2 pins s' σ H x y u v Q I rx ry)
theorem RS.imp {rr rr' : List V → Hp → VK → Prop} {f : List LV → Option LV} (h : RS R rr f) (k : ∀ vs H Q, rr vs H Q → rr' vs H Q) : RS R rr' f :=
  fun F H vs lvs z Q l rl e q => k _ _ _ (h F H vs lvs z Q l rl e q)
def fOr (f g : List LV → Option LV) : List LV → Option LV := fun l => match f l with
  | some z => some z
  | none => g l
theorem RS.or {rr ss : List V → Hp → VK → Prop} {f g : List LV → Option LV} (h1 : RS R rr f) (h2 : RS R ss g) : RS R (fun vs H Q => rr vs H Q ∨ ss vs H Q) (fOr f g) := by
  intro F H vs lvs z Q l rl e k
  unfold fOr at e
  cases q : f lvs with
  | some w =>
    rw [q] at e
    cases e
    exact .inl (h1 F H vs lvs _ Q l rl q k)
  | none =>
    rw [q] at e
    exact .inr (h2 F H vs lvs z Q l rl e k)
theorem OpJ.or {op : Value → Value → Sem Value} {f g : List LV → Option LV} (h1 : OpJ X R op f) (h2 : OpJ X R op g) : OpJ X R op (fOr f g) := by
  obtain ⟨r, a1, a2⟩ := h1
  obtain ⟨s, b1, b2⟩ := h2
  refine ⟨_, OpR.or a1 b1, (RS.or a2 b2).imp fun vs H Q q => ?_⟩
  match vs, q with
  | [x, y], q => exact q
  | [], q => exact q.elim id id
  | [x], q => exact q.elim id id
  | x :: y :: z :: r, q => exact q.elim id id
theorem CallR.or {fv : Value} {r s : List V → Hp → VK → Prop} (h1 : CallR X fv r) (h2 : CallR X fv s) : CallR X fv (fun vs H Q => r vs H Q ∨ s vs H Q) := by
  intro pins s' σ H vs us Q I rx q
  exact q.elim (h1 pins s' σ H vs us Q I rx) (h2 pins s' σ H vs us Q I rx)
theorem CallJ.or {fv : Value} {f g : List LV → Option LV} (h1 : CallJ X R fv f) (h2 : CallJ X R fv g) : CallJ X R fv (fOr f g) := by
  obtain ⟨r, a1, a2⟩ := h1
  obtain ⟨s, b1, b2⟩ := h2
  exact ⟨_, CallR.or a1 b1, RS.or a2 b2⟩
end
end PL
set_option maxRecDepth 100000
set_option maxHeartbeats 4000000
/-! Tests; and, or, not; a if t else b; chains. -/
namespace PL
open PySem L2 PyProof.Rows

inductive TR where
  | val (b : Bool) (env : LEnv)
  | exc (x : Xc) (env : LEnv)
  | bad
abbrev TM := LEnv → TR
def TPost (R : RE) (W : WX) (O : Addr → Prop) (σ : L2.St) (F H : Hp) (r : TR) (Q : Bool → Hp → Prop) : Prop :=
  match r with
  | .val b env' => ∀ F' H', ER R F' H' σ env' → Gr O F H (Own env' σ) F' H' → Q b H'
  | .exc x env' => XPost R W O σ F H x env'
  | .bad => False
def TSd (R : RE) (W : WX) (t : TT) (m : TM) : Prop := ∀ σ F H env Q, ER R F H σ env → Le F H → TPost R W (Own env σ) σ F H (m env) Q → t σ H Q
def TJ (X : Cx) (R : RE) (W : WX) (e : Expr) (m : TM) : Prop := ∃ t, PT X e t ∧ TSd R W t m
def WJ (X : Cx) (R : RE) (W : WX) (e : Expr) (m : TM) : Prop := ∃ t, PW X e t ∧ TSd R W t m

section
variable {X : Cx} {R : RE} {W : WX} {pos : Pos} {e a b c : Expr} {es rest : List Expr} {m ma mb mc : OM} {ms : AM} {ta tb : TM}
/-- an operand whose value is a bool, as a test -/
def tOf (m : OM) : TM := fun env => match m env with
  | .val r env1 => match r.get env1 with
    | some (.dat (.bl b)) => .val b env1
    | _ => .bad
  | .exc x env1 => .exc x env1
  | .bad => .bad
theorem ts_bool {t : TE} (h : OS R W t m) : TSd R W (fun σ H Q => t σ H fun x H' => ∃ k, x = .bl k ∧ Q k H') (tOf m) := by
  intro σ F H env Q er l p
  unfold tOf at p
  refine h σ F H env _ er l ?_
  cases e1 : m env with
  | bad => rw [e1] at p; exact p.elim
  | exc x env1 => rw [e1] at p; exact p
  | val r env1 =>
    rw [e1] at p
    intro v F1 H1 er1 rr d1 g1
    simp only at p
    cases e2 : r.get env1 with
    | none => simp only [e2] at p; exact p.elim
    | some lv =>
      have lr := (rr.get er1 e2).1
      cases lr with
      | dat rp =>
        cases rp with
        | bl k => simp only [e2] at p; exact ⟨k, rfl, p F1 H1 er1 (g1.weak fun a q => .inl q)⟩
        | _ => simp only [e2] at p; exact p.elim
      | _ => simp only [e2] at p; exact p.elim
theorem tj_cmp {op : CmpOp} {f : List LV → Option LV} (ho : OpJ X R (compareOp op) f) (ha : OJ X R W a ma) (hb : OJ X R W b mb) (hm : behindInMarks op b = false) : TJ X R W (.Compare a [op] [b] pos) (tOf (o2 ma mb f)) :=
  let ⟨r, h1, h2⟩ := ho; let ⟨ta, a1, a2⟩ := ha; let ⟨tb, b1, b2⟩ := hb; ⟨_, pt_cmpR h1 a1 b1 hm, ts_bool (os_op2 a2 b2 h2)⟩
/-- an expression whose value is a bool -/
theorem tj_val (h : OJ X R W e m) (he : ∀ whole, isTrue e X.env whole = (do let v ← whole; standAt e.pos; holding [v] (truthy v))) : TJ X R W e (tOf m) :=
  let ⟨t, h1, h2⟩ := h; ⟨_, pt_val h1 he, ts_bool h2⟩
/-- truth -/
def LV.truth : LV → Option Bool
  | .dat .non => some false
  | .dat (.bl b) => some b
  | .dat (.int i) => some (i != 0)
  | .dat (.str x) => if x.length ≤ sizeLine then some ((x.length : Int) != 0) else none
  | .dat (.lst ds) => some !ds.isEmpty
  | .dat (.tup ds) => some !ds.isEmpty
  | .ml ds => some !ds.isEmpty
  | .md kvs => some !kvs.isEmpty
  | _ => none
def tTru (m : OM) : TM := fun env => match m env with
  | .val r env1 => match r.get env1 with
    | some lv => match lv.truth with
      | some b => .val b env1
      | none => .bad
    | none => .bad
  | .exc x env1 => .exc x env1
  | .bad => .bad
theorem RepL.empty {F : Hp} {ds : List D} {vs : List V} (r : RepL R F ds vs) : ds.isEmpty = vs.isEmpty := by cases r <;> rfl
theorem truth_of {F H : Hp} {lv : LV} {v : V} {k : Bool} (l : Le F H) (r : LRel R F H lv v) (h : lv.truth = some k) : TruV R.K v H k := by
  cases r with
  | dat r =>
    cases r with
    | non => cases h; rfl
    | bl b => cases h; rfl
    | int i => cases h; rfl
    | str x =>
      unfold LV.truth at h
      simp only at h
      split at h
      · cases h; exact ⟨by assumption, rfl⟩
      · cases h
    | tup q rs => cases h; exact .inr (.inl ⟨_, .inl (.inl (l.tupE q)), by rw [rs.empty]⟩)
    | lst q rs => cases h; exact .inl ⟨_, .inl (.inl (l.lstE q)), by rw [rs.empty]⟩
    | _ => cases h
  | ml f q rs => cases h; exact .inl ⟨_, .inl (.inl q), by rw [rs.empty]⟩
  | md f q k rs =>
    cases h
    refine .inr (.inr ⟨_, q, ?_⟩)
    have e := congrArg List.isEmpty k
    simp only [List.isEmpty_map] at e
    rw [e]
  | _ => cases h
theorem tj_truth (hK : R.K = X.K) (h : OJ X R W e m) (he : ∀ whole, isTrue e X.env whole = (do let v ← whole; standAt e.pos; holding [v] (truthy v))) : TJ X R W e (tTru m) := by
  obtain ⟨t, h1, h2⟩ := h
  refine ⟨_, pt_truth h1 he, fun σ F H env Q er l p => ?_⟩
  unfold tTru at p
  refine h2 σ F H env _ er l ?_
  cases e1 : m env with
  | bad => rw [e1] at p; exact p.elim
  | exc x env1 => rw [e1] at p; exact p
  | val r env1 =>
    rw [e1] at p
    intro v F1 H1 er1 rr d1 g1
    simp only at p
    cases e2 : r.get env1 with
    | none => simp only [e2] at p; exact p.elim
    | some lv =>
      simp only [e2] at p
      cases e3 : lv.truth with
      | none => simp only [e3] at p; exact p.elim
      | some k =>
        simp only [e3] at p
        exact ⟨k, by rw [← hK]; exact truth_of g1.sub (rr.get er1 e2).1 e3, p F1 H1 er1 (g1.weak fun a q => .inl q)⟩

def tmAnd (ta tb : TM) : TM := fun env => match ta env with
  | .val true env1 => tb env1
  | .val false env1 => .val false env1
  | .exc x env1 => .exc x env1
  | .bad => .bad
def tmOr (ta tb : TM) : TM := fun env => match ta env with
  | .val false env1 => tb env1
  | .val true env1 => .val true env1
  | .exc x env1 => .exc x env1
  | .bad => .bad
def tmNot (ta : TM) : TM := fun env => match ta env with
  | .val b env1 => .val (!b) env1
  | .exc x env1 => .exc x env1
  | .bad => .bad
/-- the rest runs from a grown heap -/
theorem TPost.after {O : Addr → Prop} {σ : L2.St} {F H F1 H1 : Hp} {env1 : LEnv} {r : TR} {Q : Bool → Hp → Prop} (l : Le F H) (g : Gr O F H (Own env1 σ) F1 H1) (p : TPost R W O σ F H r Q) : TPost R W (Own env1 σ) σ F1 H1 r Q := by
  cases r with
  | bad => exact p
  | exc x env' => exact fun cls d F' H' er xr g' => p cls d F' H' er xr (g.trans l g')
  | val b env' => exact fun F' H' er g' => p F' H' er (g.trans l g')
theorem OPost.after {O : Addr → Prop} {σ : L2.St} {F H F1 H1 : Hp} {env1 : LEnv} {r : OR} {Q : VK} (l : Le F H) (g : Gr O F H (Own env1 σ) F1 H1) (p : OPost R W O σ F H r Q) : OPost R W (Own env1 σ) σ F1 H1 r Q := by
  cases r with
  | bad => exact p
  | exc x env' => exact fun cls d F' H' er xr g' => p cls d F' H' er xr (g.trans l g')
  | val rf env' => exact fun v F' H' er rr d g' => p v F' H' er rr d (g.trans l g')
theorem ts_and {t u : TT} (ha : TSd R W t ta) (hb : TSd R W u tb) : TSd R W (tAnd t u) (tmAnd ta tb) := by
  intro σ F H env Q er l p
  unfold tmAnd at p
  refine ha σ F H env _ er l ?_
  cases e1 : ta env with
  | bad => rw [e1] at p; exact p.elim
  | exc x env1 => rw [e1] at p; exact p
  | val k env1 =>
    rw [e1] at p
    intro F1 H1 er1 g1
    cases k with
    | true => rw [if_pos rfl]; exact hb σ F1 H1 env1 Q er1 g1.sub (TPost.after l g1 p)
    | false => rw [if_neg Bool.false_ne_true]; exact p F1 H1 er1 g1
theorem ts_or {t u : TT} (ha : TSd R W t ta) (hb : TSd R W u tb) : TSd R W (tOr t u) (tmOr ta tb) := by
  intro σ F H env Q er l p
  unfold tmOr at p
  refine ha σ F H env _ er l ?_
  cases e1 : ta env with
  | bad => rw [e1] at p; exact p.elim
  | exc x env1 => rw [e1] at p; exact p
  | val k env1 =>
    rw [e1] at p
    intro F1 H1 er1 g1
    cases k with
    | false => rw [if_neg Bool.false_ne_true]; exact hb σ F1 H1 env1 Q er1 g1.sub (TPost.after l g1 p)
    | true => rw [if_pos rfl]; exact p F1 H1 er1 g1
theorem ts_not {t : TT} (ha : TSd R W t ta) : TSd R W (tNot t) (tmNot ta) := by
  intro σ F H env Q er l p
  unfold tmNot at p
  refine ha σ F H env _ er l ?_
  cases e1 : ta env with
  | bad => rw [e1] at p; exact p.elim
  | exc x env1 => rw [e1] at p; exact p
  | val k env1 => rw [e1] at p; exact p
theorem wj_and1 (ha : TJ X R W a ta) : WJ X R W (.BoolOp .And [a] pos) ta := let ⟨t, h1, h2⟩ := ha; ⟨t, pw_and1 h1, h2⟩
theorem wj_or1 (ha : TJ X R W a ta) : WJ X R W (.BoolOp .Or [a] pos) ta := let ⟨t, h1, h2⟩ := ha; ⟨t, pw_or1 h1, h2⟩
theorem wj_and (ha : TJ X R W a ta) (hb : WJ X R W (.BoolOp .And (b :: rest) pos) tb) : WJ X R W (.BoolOp .And (a :: b :: rest) pos) (tmAnd ta tb) :=
  let ⟨t, h1, h2⟩ := ha; let ⟨u, k1, k2⟩ := hb; ⟨_, pw_and h1 k1, ts_and h2 k2⟩
theorem wj_or (ha : TJ X R W a ta) (hb : WJ X R W (.BoolOp .Or (b :: rest) pos) tb) : WJ X R W (.BoolOp .Or (a :: b :: rest) pos) (tmOr ta tb) :=
  let ⟨t, h1, h2⟩ := ha; let ⟨u, k1, k2⟩ := hb; ⟨_, pw_or h1 k1, ts_or h2 k2⟩
theorem tj_w (h : WJ X R W e ta) : TJ X R W e ta := let ⟨t, h1, h2⟩ := h; ⟨t, h1.pt, h2⟩
theorem tj_not (ha : TJ X R W a ta) : TJ X R W (.UnaryOp .Not a pos) (tmNot ta) := let ⟨t, h1, h2⟩ := ha; ⟨_, pt_not h1, ts_not h2⟩

/-- bools as values: x and y, x or y, not x -/
def oBool (t : TM) : OM := fun env => match t env with
  | .val b env1 => .val (.tmp (.dat (.bl b))) env1
  | .exc x env1 => .exc x env1
  | .bad => .bad
def oAnd (ma mb : OM) : OM := fun env => match tOf ma env with
  | .val true env1 => mb env1
  | .val false env1 => .val (.tmp (.dat (.bl false))) env1
  | .exc x env1 => .exc x env1
  | .bad => .bad
def oOr (ma mb : OM) : OM := fun env => match tOf ma env with
  | .val false env1 => mb env1
  | .val true env1 => .val (.tmp (.dat (.bl true))) env1
  | .exc x env1 => .exc x env1
  | .bad => .bad
theorem Gr.tmpd {O : Addr → Prop} {F H F' H' : Hp} {env' : LEnv} {σ : L2.St} {d : D} {v : V} (g : Gr O F H (Own env' σ) F' H') : Gr O F H (fun a => Own env' σ a ∨ RfO (.tmp (.dat d)) v a) F' H' := g.weak fun a q => q.elim id fun z => by cases z.1
theorem os_and {t u : TE} (ha : OS R W t ma) (hb : OS R W u mb) : OS R W (tAndV t u) (oAnd ma mb) := by
  intro σ F H env Q er l p
  unfold oAnd at p
  refine ts_bool ha σ F H env (fun c H1 => if c = true then u σ H1 Q else Q (.bl false) H1) er l ?_
  cases e1 : tOf ma env with
  | bad => rw [e1] at p; exact p.elim
  | exc x env1 => rw [e1] at p; exact p
  | val k env1 =>
    rw [e1] at p
    intro F1 H1 er1 g1
    cases k with
    | true => rw [if_pos rfl]; exact hb σ F1 H1 env1 Q er1 g1.sub (OPost.after l g1 p)
    | false => rw [if_neg Bool.false_ne_true]; exact p _ F1 H1 er1 ⟨by simp, .dat (.bl false)⟩ (fun _ o => by cases o.1) g1.tmpd
theorem os_or {t u : TE} (ha : OS R W t ma) (hb : OS R W u mb) : OS R W (tOrV t u) (oOr ma mb) := by
  intro σ F H env Q er l p
  unfold oOr at p
  refine ts_bool ha σ F H env (fun c H1 => if c = true then Q (.bl true) H1 else u σ H1 Q) er l ?_
  cases e1 : tOf ma env with
  | bad => rw [e1] at p; exact p.elim
  | exc x env1 => rw [e1] at p; exact p
  | val k env1 =>
    rw [e1] at p
    intro F1 H1 er1 g1
    cases k with
    | false => rw [if_neg Bool.false_ne_true]; exact hb σ F1 H1 env1 Q er1 g1.sub (OPost.after l g1 p)
    | true => rw [if_pos rfl]; exact p _ F1 H1 er1 ⟨by simp, .dat (.bl true)⟩ (fun _ o => by cases o.1) g1.tmpd
theorem oj_one {op} (h : OJ X R W a m) : OJ X R W (.BoolOp op [a] pos) m := let ⟨t, h1, h2⟩ := h; ⟨t, pe_one h1, h2⟩
theorem oj_and (ha : OJ X R W a ma) (hb : OJ X R W (.BoolOp .And (b :: rest) pos) mb) : OJ X R W (.BoolOp .And (a :: b :: rest) pos) (oAnd ma mb) :=
  let ⟨t, h1, h2⟩ := ha; let ⟨u, k1, k2⟩ := hb; ⟨_, pe_and h1 k1, os_and h2 k2⟩
theorem oj_or (ha : OJ X R W a ma) (hb : OJ X R W (.BoolOp .Or (b :: rest) pos) mb) : OJ X R W (.BoolOp .Or (a :: b :: rest) pos) (oOr ma mb) :=
  let ⟨t, h1, h2⟩ := ha; let ⟨u, k1, k2⟩ := hb; ⟨_, pe_or h1 k1, os_or h2 k2⟩
def oNot (m : OM) : OM := oBool (tmNot (tOf m))
theorem oj_not (ha : OJ X R W a m) : OJ X R W (.UnaryOp .Not a pos) (oNot m) := by
  obtain ⟨t, h1, h2⟩ := ha
  refine ⟨_, pe_not h1, fun σ F H env Q er l p => ?_⟩
  unfold oNot oBool tmNot at p
  refine ts_bool h2 σ F H env (fun c H1 => Q (.bl (!c)) H1) er l ?_
  cases e1 : tOf m env with
  | bad => rw [e1] at p; exact p.elim
  | exc x env1 => rw [e1] at p; exact p
  | val k env1 =>
    rw [e1] at p
    intro F1 H1 er1 g1
    exact p _ F1 H1 er1 ⟨by simp, .dat (.bl _)⟩ (fun _ o => by cases o.1) g1.tmpd
/-- a if c else b -/
def oIf (t : TM) (ma mb : OM) : OM := fun env => match t env with
  | .val true env1 => ma env1
  | .val false env1 => mb env1
  | .exc x env1 => .exc x env1
  | .bad => .bad
theorem oj_if {t : TM} (hc : TJ X R W c t) (ha : OJ X R W a ma) (hb : OJ X R W b mb) : OJ X R W (.IfExp c a b pos) (oIf t ma mb) := by
  obtain ⟨tc, c1, c2⟩ := hc
  obtain ⟨ua, a1, a2⟩ := ha
  obtain ⟨ub, b1, b2⟩ := hb
  refine ⟨_, pe_ifExp c1 a1 b1, fun σ F H env Q er l p => ?_⟩
  unfold oIf at p
  refine c2 σ F H env _ er l ?_
  cases e1 : t env with
  | bad => rw [e1] at p; exact p.elim
  | exc x env1 => rw [e1] at p; exact p
  | val k env1 =>
    rw [e1] at p
    intro F1 H1 er1 g1
    cases k with
    | true => rw [if_pos rfl]; exact a2 σ F1 H1 env1 Q er1 g1.sub (OPost.after l g1 p)
    | false => rw [if_neg Bool.false_ne_true]; exact b2 σ F1 H1 env1 Q er1 g1.sub (OPost.after l g1 p)

/-- a op1 b op2 c: the first two, then with the middle one the third; the middle is a temporary or a variable that stays -/
def oChain (ma mb mc : OM) (f g : List LV → Option LV) : OM := fun env => match aCons ma (aCons mb aNil) env with
  | .val [ra, rb] env1 => match ra.get env1, rb.get env1 with
    | some la, some lb => match f [la, lb] with
      | some (.dat (.bl true)) => match mc env1 with
        | .val rc env2 => match rb.get env2, rc.get env2 with
          | some lb2, some lc => match g [lb2, lc] with
            | some (.dat (.bl k)) => .val (.tmp (.dat (.bl k))) env2
            | _ => .bad
          | _, _ => .bad
        | .exc x env2 => .exc x env2
        | .bad => .bad
      | some (.dat (.bl false)) => .val (.tmp (.dat (.bl false))) env1
      | _ => .bad
    | _, _ => .bad
  | .val _ _ => .bad
  | .exc x env1 => .exc x env1
  | .bad => .bad
/-- r computes a truth value f, nothing is made -/
def RB (R : RE) (r : R2) (f : List LV → Option LV) : Prop := ∀ F H x y lx ly k Q, Le F H → LRel R F H lx x → LRel R F H ly y → f [lx, ly] = some (.dat (.bl k)) → Q (.bl k) H → r x y H Q
theorem os_chain {r r' : R2} {ua ub uc : TE} {f g : List LV → Option LV} (ha : OS R W ua ma) (hb : OS R W ub mb) (hc : OS R W uc mc) (hr : RB R r f) (hr' : RB R r' g) :
    OS R W (tChain r r' ua ub uc) (oChain ma mb mc f g) := by
  intro σ F H env Q er l p
  unfold oChain at p
  refine as_cons ha (as_cons hb (as_nil (W := W))) σ F H env (fun vs H2 => match vs with
    | [x, y] => r x y H2 fun z H3 => ∃ k, z = .bl k ∧ (if k = true then uc σ H3 fun w' H4 => r' y w' H4 Q else Q (.bl false) H3)
    | _ => False) er l ?_
  cases e1 : aCons ma (aCons mb aNil) env with
  | bad => rw [e1] at p; exact p.elim
  | exc x env1 => rw [e1] at p; exact p
  | val rs env1 =>
    rw [e1] at p
    intro vs F1 H1 er1 rr d1 dd1 g1
    match rs, vs, rr, p, d1, dd1, g1 with
    | [ra, rb], [x, y], .cons qa (.cons qb .nil), p, d1, dd1, g1 =>
      simp only at p ⊢
      have gw : Gr (Own env σ) F H (Own env1 σ) F1 H1 := g1.weak fun a q => .inl q
      cases ea : ra.get env1 with
      | none => simp only [ea] at p; exact p.elim
      | some la =>
        cases eb : rb.get env1 with
        | none => simp only [ea, eb] at p; exact p.elim
        | some lb =>
          simp only [ea, eb] at p
          have ka := (qa.get er1 ea).1
          have kb := (qb.get er1 eb).1
          cases ef : f [la, lb] with
          | none => simp only [ef] at p; exact p.elim
          | some z =>
            match z, ef, p with
            | .dat (.bl true), ef, p =>
              refine hr F1 H1 x y la lb true _ g1.sub ka kb ef ⟨true, rfl, ?_⟩
              rw [if_pos rfl]
              simp only [ef] at p
              refine hc σ F1 H1 env1 _ er1 g1.sub ?_
              cases ec : mc env1 with
              | bad => simp only [ec] at p; exact p.elim
              | exc x' env2 =>
                simp only [ec] at p
                exact fun cls d F' H' er xr g' => p cls d F' H' er xr (gw.trans l g')
              | val rc env2 =>
                simp only [ec] at p
                intro v F2 H2 er2 qc d2 g2
                have qb2 : RfR R F2 H2 σ rb y := qb.gr g2 fun a o => d1 a ⟨1, rb, y, rfl, rfl, o⟩
                cases eb2 : rb.get env2 with
                | none => simp only [eb2] at p; exact p.elim
                | some lb2 =>
                  cases ec2 : rc.get env2 with
                  | none => simp only [eb2, ec2] at p; exact p.elim
                  | some lc =>
                    simp only [eb2, ec2] at p
                    cases eg : g [lb2, lc] with
                    | none => simp only [eg] at p; exact p.elim
                    | some z2 =>
                      match z2, eg, p with
                      | .dat (.bl k), eg, p =>
                        simp only [eg] at p
                        refine hr' F2 H2 y v lb2 lc k Q g2.sub (qb2.get er2 eb2).1 (qc.get er2 ec2).1 eg ?_
                        exact p _ F2 H2 er2 ⟨by simp, .dat (.bl k)⟩ (fun _ o => by cases o.1) (gw.trans l (g2.weak fun a q => .inl q)).tmpd
                      | .un, eg, p => simp only [eg] at p; exact p.elim
                      | .ml _, eg, p => simp only [eg] at p; exact p.elim
                      | .md _, eg, p => simp only [eg] at p; exact p.elim
                      | .mt _, eg, p => simp only [eg] at p; exact p.elim
                      | .mi _ _, eg, p => simp only [eg] at p; exact p.elim
                      | .dat .non, eg, p => simp only [eg] at p; exact p.elim
                      | .dat (.int _), eg, p => simp only [eg] at p; exact p.elim
                      | .dat (.str _), eg, p => simp only [eg] at p; exact p.elim
                      | .dat (.tup _), eg, p => simp only [eg] at p; exact p.elim
                      | .dat (.lst _), eg, p => simp only [eg] at p; exact p.elim
                      | .dat (.dic _), eg, p => simp only [eg] at p; exact p.elim
                      | .dat (.dit _), eg, p => simp only [eg] at p; exact p.elim
                      | .dat (.ins _ _), eg, p => simp only [eg] at p; exact p.elim
                      | .dat (.cst _), eg, p => simp only [eg] at p; exact p.elim
                      | .dat .opq, eg, p => simp only [eg] at p; exact p.elim
                      | .dat (.cls _), eg, p => simp only [eg] at p; exact p.elim
                      | .dat (.exc _ _), eg, p => simp only [eg] at p; exact p.elim
                      | .dat (.slst _), eg, p => simp only [eg] at p; exact p.elim
            | .dat (.bl false), ef, p =>
              refine hr F1 H1 x y la lb false _ g1.sub ka kb ef ⟨false, rfl, ?_⟩
              rw [if_neg Bool.false_ne_true]
              simp only [ef] at p
              exact p _ F1 H1 er1 ⟨by simp, .dat (.bl false)⟩ (fun _ o => by cases o.1) gw.tmpd
            | .un, ef, p => simp only [ef] at p; exact p.elim
            | .ml _, ef, p => simp only [ef] at p; exact p.elim
            | .md _, ef, p => simp only [ef] at p; exact p.elim
            | .mt _, ef, p => simp only [ef] at p; exact p.elim
            | .mi _ _, ef, p => simp only [ef] at p; exact p.elim
            | .dat .non, ef, p => simp only [ef] at p; exact p.elim
            | .dat (.int _), ef, p => simp only [ef] at p; exact p.elim
            | .dat (.str _), ef, p => simp only [ef] at p; exact p.elim
            | .dat (.tup _), ef, p => simp only [ef] at p; exact p.elim
            | .dat (.lst _), ef, p => simp only [ef] at p; exact p.elim
            | .dat (.dic _), ef, p => simp only [ef] at p; exact p.elim
            | .dat (.dit _), ef, p => simp only [ef] at p; exact p.elim
            | .dat (.ins _ _), ef, p => simp only [ef] at p; exact p.elim
            | .dat (.cst _), ef, p => simp only [ef] at p; exact p.elim
            | .dat .opq, ef, p => simp only [ef] at p; exact p.elim
            | .dat (.cls _), ef, p => simp only [ef] at p; exact p.elim
            | .dat (.exc _ _), ef, p => simp only [ef] at p; exact p.elim
            | .dat (.slst _), ef, p => simp only [ef] at p; exact p.elim
    | [], _, _, p, _, _, _ => exact p.elim
    | [_], _, _, p, _, _, _ => exact p.elim
    | _ :: _ :: _ :: _, _, _, p, _, _, _ => exact p.elim
def CmJ (X : Cx) (R : RE) (op : CmpOp) (f : List LV → Option LV) : Prop := ∃ r, OpR X (compareOp op) r ∧ RB R r f
theorem oj_chain {op op' : CmpOp} {f g : List LV → Option LV} (h1 : CmJ X R op f) (h2 : CmJ X R op' g) (ha : OJ X R W a ma) (hb : OJ X R W b mb) (hc : OJ X R W c mc) (hm : lastMarks [op, op'] [b, c] = false) :
    OJ X R W (.Compare a [op, op'] [b, c] pos) (oChain ma mb mc f g) := by
  obtain ⟨r, q1, q2⟩ := h1; obtain ⟨r', q3, q4⟩ := h2; obtain ⟨ua, a1, a2⟩ := ha; obtain ⟨ub, b1, b2⟩ := hb; obtain ⟨uc, c1, c2⟩ := hc
  exact ⟨_, pe_chain q1 q3 a1 b1 c1 hm, os_chain a2 b2 c2 q2 q4⟩
theorem tj_chain {op op' : CmpOp} {f g : List LV → Option LV} (h1 : CmJ X R op f) (h2 : CmJ X R op' g) (ha : OJ X R W a ma) (hb : OJ X R W b mb) (hc : OJ X R W c mc) (hm : lastMarks [op, op'] [b, c] = false) :
    TJ X R W (.Compare a [op, op'] [b, c] pos) (tOf (oChain ma mb mc f g)) := by
  obtain ⟨r, q1, q2⟩ := h1; obtain ⟨r', q3, q4⟩ := h2; obtain ⟨ua, a1, a2⟩ := ha; obtain ⟨ub, b1, b2⟩ := hb; obtain ⟨uc, c1, c2⟩ := hc
  exact ⟨_, pt_chain q1 q3 a1 b1 c1 hm, ts_bool (os_chain a2 b2 c2 q2 q4)⟩
end
end PL
set_option maxRecDepth 100000
set_option maxHeartbeats 4000000
/-! Statements: blocks, names stored, tests, loops. -/
namespace PL
open PySem L2 PyProof.Rows

inductive SR where
  | nx (env : LEnv)
  | rt (lv : LV) (env : LEnv)
  | bk (env : LEnv)
  | ct (env : LEnv)
  | exc (x : Xc) (env : LEnv)
  | bad
abbrev SM := LEnv → SR
/-- the slots that are never stored keep their values -/
def Fix (P : List Nat) (σ σ' : L2.St) : Prop := ∀ i ∈ P, σ'[i]? = σ[i]?
theorem Fix.refl {P : List Nat} {σ : L2.St} : Fix P σ σ := fun _ _ => rfl
theorem Fix.trans {P : List Nat} {σ σ1 σ2 : L2.St} (h : Fix P σ σ1) (k : Fix P σ1 σ2) : Fix P σ σ2 := fun i q => (k i q).trans (h i q)
structure At (R : RE) (P : List Nat) (O : Addr → Prop) (σ : L2.St) (F H : Hp) (env' : LEnv) (σ' : L2.St) (F' H' : Hp) : Prop where
  er : ER R F' H' σ' env'
  gr : Gr O F H (Own env' σ') F' H'
  fx : Fix P σ σ'
def SPost (R : RE) (W : WX) (P : List Nat) (O : Addr → Prop) (σ : L2.St) (F H : Hp) (r : SR) (D : Ends) : Prop :=
  match r with
  | .nx env' => ∀ σ' F' H', At R P O σ F H env' σ' F' H' → D.nx σ' H'
  | .bk env' => ∀ σ' F' H', At R P O σ F H env' σ' F' H' → D.bk σ' H'
  | .ct env' => ∀ σ' F' H', At R P O σ F H env' σ' F' H' → D.ct σ' H'
  | .rt lv env' => ∀ v σ' F' H', ER R F' H' σ' env' → lv ≠ .un → LRel R F' H' lv v → (∀ a, Owns lv v a → ¬ Own env' σ' a) → Gr O F H (fun a => Own env' σ' a ∨ Owns lv v a) F' H' → Fix P σ σ' → D.rt v H'
  | .exc x env' => ∀ cls d σ' F' H', ER R F' H' σ' env' → XR R F' H' x cls d → Gr O F H (Own env' σ') F' H' → Fix P σ σ' → W cls d σ' H'
  | .bad => False
def SSd (R : RE) (W : WX) (P : List Nat) (t : TS) (m : SM) : Prop := ∀ σ F H env D, ER R F H σ env → Le F H → SPost R W P (Own env σ) σ F H (m env) D → t D σ H
def SJ (X : Cx) (R : RE) (W : WX) (P : List Nat) (s : Stmt) (m : SM) : Prop := ∃ t, PS X s t ∧ SSd R W P t m
def BJ (X : Cx) (R : RE) (W : WX) (P : List Nat) (s : List Stmt) (m : SM) : Prop := ∃ t, PSs X s t ∧ SSd R W P t m

section
variable {X : Cx} {R : RE} {W : WX} {P : List Nat} {pos : Pos} {e a b c : Expr} {es rest : List Expr} {m ma mb mc : OM} {ms : AM} {ta tb : TM} {s : Stmt} {ss : List Stmt} {n n1 n2 : SM}
variable {O : Addr → Prop} {σ σ1 : L2.St} {F H F1 H1 : Hp} {env env1 : LEnv}
theorem At.refl (er : ER R F H σ env) (l : Le F H) : At R P (Own env σ) σ F H env σ F H := ⟨er, .refl l, .refl⟩
/-- the rest runs from a later state -/
theorem SPost.after {r : SR} {D : Ends} (l : Le F H) (g : Gr O F H (Own env1 σ1) F1 H1) (f : Fix P σ σ1) (p : SPost R W P O σ F H r D) : SPost R W P (Own env1 σ1) σ1 F1 H1 r D := by
  cases r with
  | bad => exact p
  | nx env' => exact fun σ' F' H' q => p σ' F' H' ⟨q.er, g.trans l q.gr, f.trans q.fx⟩
  | bk env' => exact fun σ' F' H' q => p σ' F' H' ⟨q.er, g.trans l q.gr, f.trans q.fx⟩
  | ct env' => exact fun σ' F' H' q => p σ' F' H' ⟨q.er, g.trans l q.gr, f.trans q.fx⟩
  | rt lv env' => exact fun v σ' F' H' er ne lr d g' f' => p v σ' F' H' er ne lr d (g.trans l g') (f.trans f')
  | exc x env' => exact fun cls d σ' F' H' er xr g' f' => p cls d σ' F' H' er xr (g.trans l g') (f.trans f')
theorem SPost.imp {r : SR} {D D' : Ends} (p : SPost R W P O σ F H r D) (h1 : ∀ σ' H', D.nx σ' H' → D'.nx σ' H') (h2 : ∀ v H', D.rt v H' → D'.rt v H') (h3 : ∀ σ' H', D.bk σ' H' → D'.bk σ' H') (h4 : ∀ σ' H', D.ct σ' H' → D'.ct σ' H') : SPost R W P O σ F H r D' := by
  cases r with
  | bad => exact p
  | nx env' => exact fun σ' F' H' q => h1 _ _ (p σ' F' H' q)
  | bk env' => exact fun σ' F' H' q => h3 _ _ (p σ' F' H' q)
  | ct env' => exact fun σ' F' H' q => h4 _ _ (p σ' F' H' q)
  | rt lv env' => exact fun v σ' F' H' er ne lr d g' f' => h2 _ _ (p v σ' F' H' er ne lr d g' f')
  | exc x env' => exact p
theorem XPost.stm {x : Xc} {env' : LEnv} {D : Ends} (p : SPost R W P O σ F H (.exc x env') D) : XPost R W O σ F H x env' := fun cls d F' H' er xr g => p cls d σ F' H' er xr g .refl

/-! ### blocks -/
def sNil : SM := fun env => .nx env
def sSeq (n1 n2 : SM) : SM := fun env => match n1 env with
  | .nx env1 => n2 env1
  | r => r
theorem bj_nil : BJ X R W P [] sNil := ⟨_, pss_nil, fun σ F H env D er l p => p σ F H (.refl er l)⟩
theorem ss_seq {t u : TS} (h1 : SSd R W P t n1) (h2 : SSd R W P u n2) : SSd R W P (tSeq t u) (sSeq n1 n2) := by
  intro σ F H env D er l p
  unfold sSeq at p
  refine h1 σ F H env { D with nx := u D } er l ?_
  cases e1 : n1 env with
  | bad => rw [e1] at p; exact p.elim
  | nx env1 =>
    rw [e1] at p
    exact fun σ1 F1 H1 q => h2 σ1 F1 H1 env1 D q.er q.gr.sub (SPost.after l q.gr q.fx p)
  | bk env1 => rw [e1] at p; exact p
  | ct env1 => rw [e1] at p; exact p
  | rt lv env1 => rw [e1] at p; exact p
  | exc x env1 => rw [e1] at p; exact p
theorem bj_cons (h1 : SJ X R W P s n1) (h2 : BJ X R W P ss n2) : BJ X R W P (s :: ss) (sSeq n1 n2) :=
  let ⟨t, a1, a2⟩ := h1; let ⟨u, b1, b2⟩ := h2; ⟨_, pss_cons a1 b1, ss_seq a2 b2⟩
theorem bj_one (h1 : SJ X R W P s n1) : BJ X R W P [s] n1 := let ⟨t, a1, a2⟩ := h1; ⟨_, pss_one a1, a2⟩
theorem sj_pass : SJ X R W P (.Pass pos) sNil := ⟨_, ps_pass, fun σ F H env D er l p => p σ F H (.refl er l)⟩
def sBrk : SM := fun env => .bk env
def sCnt : SM := fun env => .ct env
theorem sj_brk : SJ X R W P (.Break pos) sBrk := ⟨_, ps_break, fun σ F H env D er l p => p σ F H (.refl er l)⟩
theorem sj_cnt : SJ X R W P (.Continue pos) sCnt := ⟨_, ps_continue, fun σ F H env D er l p => p σ F H (.refl er l)⟩
/-- an expression, its value dropped -/
def sExpr (m : OM) : SM := fun env => match m env with
  | .val _ env1 => .nx env1
  | .exc x env1 => .exc x env1
  | .bad => .bad
theorem sj_expr (h : OJ X R W e m) (hs : swapsWith e none pos.line X.env = pure false := by rfl) : SJ X R W P (.Expr e pos) (sExpr m) := by
  obtain ⟨t, h1, h2⟩ := h
  refine ⟨_, ps_expr h1 hs, fun σ F H env D er l p => ?_⟩
  unfold sExpr at p
  refine h2 σ F H env _ er l ?_
  cases e1 : m env with
  | bad => rw [e1] at p; exact p.elim
  | exc x env1 => rw [e1] at p; exact XPost.stm p
  | val r env1 => rw [e1] at p; exact fun v F1 H1 er1 rr d g => p σ F1 H1 ⟨er1, g.weak fun a q => .inl q, .refl⟩
/-- return e (e no owned name: freeze it, or sRetV) -/
def sRet (m : OM) : SM := fun env => match m env with
  | .val (.tmp lv) env1 => .rt lv env1
  | .val (.var _) _ => .bad
  | .exc x env1 => .exc x env1
  | .bad => .bad
theorem sj_ret (h : OJ X R W e m) : SJ X R W P (.Return (some e) pos) (sRet m) := by
  obtain ⟨t, h1, h2⟩ := h
  refine ⟨_, ps_ret h1, fun σ F H env D er l p => ?_⟩
  unfold sRet at p
  refine h2 σ F H env _ er l ?_
  cases e1 : m env with
  | bad => rw [e1] at p; exact p.elim
  | exc x env1 => rw [e1] at p; exact XPost.stm p
  | val r env1 =>
    rw [e1] at p
    cases r with
    | tmp lv => exact fun v F1 H1 er1 rr d g => p v σ F1 H1 er1 rr.1 rr.2 d g .refl
    | var i => exact p.elim
def sRetN : SM := fun env => .rt (.dat .non) env
theorem sj_retN : SJ X R W P (.Return none pos) sRetN := ⟨_, ps_retN, fun σ F H env D er l p => p .non σ F H er (by simp) (.dat .non) (fun _ o => by cases o.1) ((Gr.refl l).weak fun a q => q.elim id fun z => by cases z.1) .refl⟩
/-- an owned local is handed out: it is no more the frame's -/
theorem ER.drop {i : Nat} (er : ER R F H σ env) : ER R F H σ (env.set i .un) := by
  have z : ∀ {j : Nat} {lv' : LV}, (env.set i .un)[j]? = some lv' → lv' ≠ .un → env[j]? = some lv' := fun {j lv'} h o => by
    by_cases e : j = i
    · subst e
      rw [List.getElem?_set] at h
      split at h
      · split at h
        · cases h; exact absurd rfl o
        · cases h
      · exact absurd rfl (by assumption)
    · rw [List.getElem?_set_ne (Ne.symm e)] at h; exact h
  refine ⟨by rw [List.length_set]; exact er.len, fun j lv' h n => er.rel j lv' (z h n) n, fun j k lv1 lv2 b h1 h2 o1 o2 s1 s2 => ?_⟩
  exact er.dis j k lv1 lv2 b (z h1 (by rintro rfl; cases o1)) (z h2 (by rintro rfl; cases o2)) o1 o2 s1 s2
theorem own_drop {i : Nat} {x : Addr} (o : Own (env.set i .un) σ x) : ∃ j lv, j ≠ i ∧ env[j]? = some lv ∧ lv.isOwn = true ∧ σ[j]? = some (some (.ref x)) := by
  obtain ⟨j, lv, h1, h2, h3⟩ := o
  by_cases e : j = i
  · subst e
    rw [List.getElem?_set] at h1
    split at h1
    · split at h1
      · cases h1; cases h2
      · cases h1
    · exact absurd rfl (by assumption)
  · rw [List.getElem?_set_ne (Ne.symm e)] at h1
    exact ⟨j, lv, e, h1, h2, h3⟩
def oMove (m : OM) : OM := fun env => match m env with
  | .val (.tmp lv) env1 => .val (.tmp lv) env1
  | .val (.var i) env1 => match env1[i]? with
    | some lv => if lv.ok then .val (.tmp lv) (env1.set i .un) else .bad
    | none => .bad
  | .exc x env1 => .exc x env1
  | .bad => .bad
theorem os_move {t : TE} (h : OS R W t m) : OS R W t (oMove m) := by
  intro σ F H env Q er l p
  unfold oMove at p
  refine h σ F H env Q er l ?_
  cases e1 : m env with
  | bad => rw [e1] at p; exact p.elim
  | exc x env1 => rw [e1] at p; exact p
  | val r env1 =>
    rw [e1] at p
    cases r with
    | tmp lv => exact p
    | var i =>
      simp only at p
      intro v F1 H1 er1 rr d1 g1
      cases e2 : env1[i]? with
      | none => simp only [e2] at p; exact p.elim
      | some lv =>
        simp only [e2] at p
        cases e3 : lv.ok with
        | false => simp [e3] at p; exact p.elim
        | true =>
          simp only [e3, if_true] at p
          obtain ⟨v', q1, q2⟩ := er1.rel i lv e2 (ok_ne e3)
          have rr' : σ[i]? = some (some v) := rr
          rw [q1] at rr'; cases rr'
          refine p v F1 H1 er1.drop ⟨ok_ne e3, q2⟩ (fun x o q => ?_) ?_
          · obtain ⟨j, lv', ne, h1, h2, h3⟩ := own_drop q
            exact ne (er1.dis j i lv' lv x h1 e2 h2 o.1 h3 (by rw [q1, o.2]))
          · refine g1.weak fun x q => .inl ?_
            rcases q with q | q
            · obtain ⟨j, lv', ne, h1, h2, h3⟩ := own_drop q
              exact ⟨j, lv', h1, h2, h3⟩
            · exact ⟨i, lv, e2, q.1, by rw [q1, q.2]⟩
theorem oj_move (h : OJ X R W e m) : OJ X R W e (oMove m) := let ⟨t, h1, h2⟩ := h; ⟨t, h1, os_move h2⟩

/-! ### if -/
def sIf (t : TM) (n1 n2 : SM) : SM := fun env => match t env with
  | .val true env1 => n1 env1
  | .val false env1 => n2 env1
  | .exc x env1 => .exc x env1
  | .bad => .bad
theorem sj_if {t : TM} {sa sb : List Stmt} (hc : TJ X R W c t) (ha : BJ X R W P sa n1) (hb : BJ X R W P sb n2) : SJ X R W P (.If c sa sb pos) (sIf t n1 n2) := by
  obtain ⟨tc, c1, c2⟩ := hc
  obtain ⟨ua, a1, a2⟩ := ha
  obtain ⟨ub, b1, b2⟩ := hb
  refine ⟨_, ps_if c1 a1 b1, fun σ F H env D er l p => ?_⟩
  unfold sIf at p
  refine c2 σ F H env _ er l ?_
  cases e1 : t env with
  | bad => rw [e1] at p; exact p.elim
  | exc x env1 => rw [e1] at p; exact XPost.stm p
  | val k env1 =>
    rw [e1] at p
    intro F1 H1 er1 g1
    cases k with
    | true => rw [if_pos rfl]; exact a2 σ F1 H1 env1 D er1 g1.sub (SPost.after l g1 .refl p)
    | false => rw [if_neg Bool.false_ne_true]; exact b2 σ F1 H1 env1 D er1 g1.sub (SPost.after l g1 .refl p)

/-! ### stores -/
theorem getElem?_set_self' {α : Type} {l : List α} {i : Nat} {x : α} (h : i < l.length) : (l.set i x)[i]? = some x := by rw [List.getElem?_set]; simp [h]
/-- a slot gets a new content -/
theorem ER.set {i : Nat} {lv : LV} {v : V} (er : ER R F H σ env) (ne : lv ≠ .un) (lr : LRel R F H lv v) (d : ∀ x, Owns lv v x → ¬ Own env σ x) : ER R F H (σ.set i (some v)) (env.set i lv) := by
  have z : ∀ {j : Nat} {lv' : LV}, (env.set i lv)[j]? = some lv' → (j = i ∧ lv' = lv ∧ i < env.length) ∨ (j ≠ i ∧ env[j]? = some lv') := fun {j lv'} h => by
    by_cases e : j = i
    · subst e
      rw [List.getElem?_set] at h
      split at h
      · split at h
        · cases h; exact .inl ⟨rfl, rfl, by assumption⟩
        · cases h
      · exact absurd rfl (by assumption)
    · rw [List.getElem?_set_ne (Ne.symm e)] at h; exact .inr ⟨e, h⟩
  refine ⟨by rw [List.length_set, List.length_set]; exact er.len, fun j lv' h n => ?_, fun j k lv1 lv2 b h1 h2 o1 o2 s1 s2 => ?_⟩
  · rcases z h with ⟨rfl, rfl, hl⟩ | ⟨ne', h'⟩
    · exact ⟨v, getElem?_set_self' (by rw [er.len]; exact hl), lr⟩
    · obtain ⟨v', q1, q2⟩ := er.rel j lv' h' n
      exact ⟨v', by rw [List.getElem?_set_ne (Ne.symm ne')]; exact q1, q2⟩
  · rcases z h1 with ⟨e1, f1, l1⟩ | ⟨e1, f1⟩
    · rcases z h2 with ⟨e2, f2, l2⟩ | ⟨e2, f2⟩
      · rw [e1, e2]
      · rw [e1] at s1
        rw [getElem?_set_self' (by rw [er.len]; exact l1)] at s1
        cases s1
        rw [List.getElem?_set_ne (Ne.symm e2)] at s2
        rw [f1] at o1
        exact (d b ⟨o1, rfl⟩ ⟨k, lv2, f2, o2, s2⟩).elim
    · rcases z h2 with ⟨e2, f2, l2⟩ | ⟨e2, f2⟩
      · rw [e2] at s2
        rw [getElem?_set_self' (by rw [er.len]; exact l2)] at s2
        cases s2
        rw [List.getElem?_set_ne (Ne.symm e1)] at s1
        rw [f2] at o2
        exact (d b ⟨o2, rfl⟩ ⟨j, lv1, f1, o1, s1⟩).elim
      · rw [List.getElem?_set_ne (Ne.symm e1)] at s1
        rw [List.getElem?_set_ne (Ne.symm e2)] at s2
        exact er.dis j k lv1 lv2 b f1 f2 o1 o2 s1 s2
theorem own_setv {i : Nat} {lv : LV} {v : V} {x : Addr} (o : Own (env.set i lv) (σ.set i (some v)) x) : Own env σ x ∨ Owns lv v x := by
  obtain ⟨j, lv', h1, h2, h3⟩ := o
  by_cases e : j = i
  · subst e
    rw [List.getElem?_set] at h1 h3
    split at h1
    · split at h1
      · cases h1
        split at h3
        · split at h3
          · cases h3; exact .inr ⟨h2, rfl⟩
          · cases h3
        · exact absurd rfl (by assumption)
      · cases h1
    · exact absurd rfl (by assumption)
  · rw [List.getElem?_set_ne (Ne.symm e)] at h1 h3
    exact .inl ⟨j, lv', h1, h2, h3⟩
theorem Fix.set {i : Nat} {v : V} (h : i ∉ P) : Fix P σ (σ.set i (some v)) := fun j hj => List.getElem?_set_ne (fun (e : i = j) => h (by rw [e]; exact hj))
def sSet (i : Nat) (m : OM) : SM := fun env => match m env with
  | .val (.tmp lv) env1 => .nx (env1.set i lv)
  | .val (.var _) _ => .bad
  | .exc x env1 => .exc x env1
  | .bad => .bad
theorem ss_set {i : Nat} {te : TE} (hP : i ∉ P) (h : OS R W te m) : SSd R W P (tAsg te (gName i)) (sSet i m) := by
  intro σ F H env D er l p
  unfold sSet at p
  refine h σ F H env _ er l ?_
  cases e1 : m env with
  | bad => rw [e1] at p; exact p.elim
  | exc x env1 => rw [e1] at p; exact XPost.stm p
  | val r env1 =>
    rw [e1] at p
    cases r with
    | var j => exact p.elim
    | tmp lv =>
      intro v F1 H1 er1 rr d1 g1
      exact p _ F1 H1 ⟨er1.set rr.1 rr.2 d1, g1.weak fun x o => own_setv o, .set hP⟩
theorem sj_set {i : Nat} {x : Str} {pos' : Pos} (hN : X.N.Nodup) (hi : X.N[i]? = some x) (hx : Loc X.env.scope x) (hP : i ∉ P) (he : OJ X R W e m) (hs : swapsWith e (some (.Name x pos')) pos.line X.env = pure false := by rfl)
    (hf : X.fn x = true ∨ X.env.scope.names.lookup x = some .local := by first | exact .inl rfl | exact .inr rfl | assumption) : SJ X R W P (.Assign [.Name x pos'] e pos) (sSet i m) :=
  let ⟨t, h1, h2⟩ := he; ⟨_, ps_set hN hi hx h1 hs hf, ss_set hP h2⟩

/-! ### targets that take data -/
abbrev GM := D → LEnv → Option LEnv
def GSd (R : RE) (P : List Nat) (t : TG) (g : GM) : Prop := ∀ σ F H env v d env' Q, ER R F H σ env → Le F H → Rep R F d v → g d env = some env' →
  (∀ σ', ER R F H σ' env' → (∀ x, Own env' σ' x → Own env σ x) → Fix P σ σ' → Q σ' H) → t v σ H Q
def GJ (X : Cx) (R : RE) (P : List Nat) (tg : Expr) (g : GM) : Prop := ∃ t, PG X tg t ∧ GSd R P t g
abbrev GMs := List D → LEnv → Option LEnv
def GSds (R : RE) (P : List Nat) (t : TGs) (g : GMs) : Prop := ∀ σ F H env vs ds env' Q, ER R F H σ env → Le F H → RepL R F ds vs → g ds env = some env' →
  (∀ σ', ER R F H σ' env' → (∀ x, Own env' σ' x → Own env σ x) → Fix P σ σ' → Q σ' H) → t vs σ H Q
def GJs (X : Cx) (R : RE) (P : List Nat) (tgs : List Expr) (g : GMs) : Prop := ∃ t, PGs X tgs t ∧ GSds R P t g
def gmName (i : Nat) : GM := fun d env => some (env.set i (.dat d))
theorem own_setd {i : Nat} {d : D} {v : V} {x : Addr} (o : Own (env.set i (.dat d)) (σ.set i (some v)) x) : Own env σ x := (own_setv o).elim id fun z => by cases z.1
theorem gj_name {i : Nat} {x : Str} (hN : X.N.Nodup) (hi : X.N[i]? = some x) (hx : Loc X.env.scope x) (hP : i ∉ P) (hf : X.fn x = true ∨ X.env.scope.names.lookup x = some .local := by first | exact .inl rfl | exact .inr rfl | assumption) :
    GJ X R P (.Name x pos) (gmName i) := by
  refine ⟨_, pg_name hN hi hx hf, fun σ F H env v d env' Q er l rp h q => ?_⟩
  cases h
  exact q _ (er.set (by simp) (.dat rp) fun _ o => by cases o.1) (fun x o => own_setd o) (.set hP)
def gmNil : GMs := fun ds env => match ds with
  | [] => some env
  | _ => none
def gmCons (g : GM) (gs : GMs) : GMs := fun ds env => match ds with
  | d :: r => match g d env with
    | some env1 => gs r env1
    | none => none
  | [] => none
def gmTup (k : Nat) (gs : GMs) : GM := fun d env => match d with
  | .tup ds => if ds.length = k then gs ds env else none
  | _ => none
theorem gjs_nil : GJs X R P [] gmNil := by
  refine ⟨_, pgs_nil, fun σ F H env vs ds env' Q er l rp h q => ?_⟩
  cases rp with
  | nil => cases h; exact ⟨rfl, q σ er (fun _ o => o) .refl⟩
  | cons _ _ => cases h
theorem gjs_cons {g : GM} {gs : GMs} (h1 : GJ X R P e g) (h2 : GJs X R P es gs) (hs : (assignEach (e :: es) X.env).map (·.2) = assign e X.env :: (assignEach es X.env).map (·.2) := by rfl) : GJs X R P (e :: es) (gmCons g gs) := by
  obtain ⟨t, a1, a2⟩ := h1
  obtain ⟨u, b1, b2⟩ := h2
  refine ⟨_, pgs_cons a1 b1 hs, fun σ F H env vs ds env' Q er l rp h q => ?_⟩
  cases rp with
  | nil => cases h
  | cons r rs =>
    unfold gmCons at h
    simp only at h
    rename_i d v ds' vs'
    cases e1 : g d env with
    | none => rw [e1] at h; cases h
    | some env1 =>
      rw [e1] at h
      refine ⟨_, _, rfl, a2 σ F H env _ _ env1 _ er l r e1 fun σ1 er1 o1 f1 => ?_⟩
      exact b2 σ1 F H env1 _ _ env' _ er1 l rs h fun σ2 er2 o2 f2 => q σ2 er2 (fun x o => o1 x (o2 x o)) (f1.trans f2)
theorem gj_tup {k n : Nat} {gs : GMs} (hK : R.K = X.K) (hc : X.calm = true) (h : GJs X R P es gs) (hn : (assignEach es X.env).length = n := by rfl) (hst : (assignEach es X.env).findIdx? (·.1) = none := by rfl) : GJ X R P (.Tuple es k pos) (gmTup n gs) := by
  obtain ⟨t, a1, a2⟩ := h
  refine ⟨_, pg_tup hc a1 hn hst, fun σ F H env v d env' Q er l rp h q => ?_⟩
  unfold gmTup at h
  cases rp with
  | tup sq rs =>
    simp only at h
    split at h
    · rename_i hl
      exact ⟨_, _, rfl, by rw [← hK]; exact .inl (.inl (l.tupE sq)), by rw [← rs.length]; exact hl, a2 σ F H env _ _ env' Q er l rs h q⟩
    · cases h
  | _ => cases h
def sTgt (g : GM) (m : OM) : SM := fun env => match oFrz m env with
  | .val (.tmp (.dat d)) env1 => match g d env1 with
    | some env2 => .nx env2
    | none => .bad
  | .val _ _ => .bad
  | .exc x env1 => .exc x env1
  | .bad => .bad
theorem sj_tgt {tg : Expr} {g : GM} (he : OJ X R W e m) (hg : GJ X R P tg g) (hs : swapsWithSole [tg] e pos.line X.env = pure false := by rfl) (hw : swappedStores [tg] e X.env = pure none := by rfl)
    (h1 : (assignEach [tg] X.env).map (·.2) = [assign tg X.env] := by rfl) : SJ X R W P (.Assign [tg] e pos) (sTgt g m) := by
  obtain ⟨t, a1, a2⟩ := oj_frz he
  obtain ⟨u, b1, b2⟩ := hg
  refine ⟨_, ps_asg a1 b1 hs hw h1, fun σ F H env D er l p => ?_⟩
  unfold sTgt at p
  refine a2 σ F H env _ er l ?_
  cases e1 : oFrz m env with
  | bad => rw [e1] at p; exact p.elim
  | exc x env1 => rw [e1] at p; exact XPost.stm p
  | val r env1 =>
    rw [e1] at p
    intro v F1 H1 er1 rr d1 g1
    match r, rr, p with
    | .tmp (.dat d), rr, p =>
      simp only at p
      cases e2 : g d env1 with
      | none => simp only [e2] at p; exact p.elim
      | some env2 =>
        simp only [e2] at p
        cases rr.2 with
        | dat rp =>
          exact b2 σ F1 H1 env1 v d env2 D.nx er1 g1.sub rp e2 fun σ2 er2 o2 f2 => p σ2 F1 H1 ⟨er2, g1.weak fun x o => .inl (o2 x o), f2⟩
    | .var i, rr, p => exact p.elim
    | .tmp .un, rr, p => exact p.elim
    | .tmp (.ml _), rr, p => exact p.elim
    | .tmp (.md _), rr, p => exact p.elim
    | .tmp (.mt _), rr, p => exact p.elim
    | .tmp (.mi _ _), rr, p => exact p.elim

/-! ### for, over data -/
/-- what is locked stays locked -/
def Fzn (H0 H : Hp) : Prop := ∀ a ob u, H0 a = some (.frz ob u) → H a = some (.frz ob u)
structure Walks (R : RE) (J : It) (F H0 : Hp) (ds : List D) : Prop where
  go : ∀ i G H, Le F G → Le G H → Fzn H0 H → i < ds.length → J.go i H
  stop : ∀ i G H, Le F G → Le G H → Fzn H0 H → ds.length ≤ i → J.stop i H
  yld : ∀ i G H x H', Le F G → Le G H → Fzn H0 H → i < ds.length → J.yld i H x H' → ∃ d G', ds[i]? = some d ∧ Nw G H G' H' ∧ Rep R G' d x
inductive IR where
  | val (ds : List D) (env : LEnv)
  | exc (x : Xc) (env : LEnv)
  | bad
abbrev IM := LEnv → IR
def IPost (R : RE) (W : WX) (O : Addr → Prop) (σ : L2.St) (F H : Hp) (r : IR) (Q : It → Hp → Prop) : Prop :=
  match r with
  | .val ds env' => ∀ J F' H', ER R F' H' σ env' → Walks R J F' H' ds → Gr O F H (Own env' σ) F' H' → Q J H'
  | .exc x env' => XPost R W O σ F H x env'
  | .bad => False
def ISd (R : RE) (W : WX) (t : TI) (m : IM) : Prop := ∀ σ F H env Q, ER R F H σ env → Le F H → IPost R W (Own env σ) σ F H (m env) Q → t σ H Q
def IJ (X : Cx) (R : RE) (W : WX) (tg e : Expr) (m : IM) : Prop := ∃ t, PI X tg e t ∧ ISd R W t m
def forD (g : GM) (n : SM) : List D → LEnv → SR
  | [], env => .nx env
  | d :: ds, env => match g d env with
    | none => .bad
    | some env1 => match n env1 with
      | .nx env2 => forD g n ds env2
      | .ct env2 => forD g n ds env2
      | .bk env2 => .nx env2
      | .rt lv env2 => .rt lv env2
      | .exc x env2 => .exc x env2
      | .bad => .bad
def sFor (i : IM) (g : GM) (n : SM) : SM := fun env => match i env with
  | .val ds env1 => forD g n ds env1
  | .exc x env1 => .exc x env1
  | .bad => .bad
theorem for_walks {J : It} {g : GM} {n : SM} {tg : TG} {tb : TS} {D : Ends} {ds : List PL.D} (er : ER R F H σ env) (l : Le F H) (wk : Walks R J F H ds) (hg : GSd R P tg g) (hb : SSd R W P tb n) (p : SPost R W P (Own env σ) σ F H (forD g n ds env) D) :
    ∃ W : Nat → Nat → L2.St → Hp → Prop, (∃ m, W 0 m σ H) ∧ ∀ i m σ H, W i m σ H →
      (J.stop i H ∧ D.nx σ H) ∨ (J.go i H ∧ ∃ N : L2.St → Hp → Prop, (∀ σ' H', N σ' H' → ∃ m', m' < m ∧ W (i + 1) m' σ' H') ∧ ∀ x H', J.yld i H x H' → tg x σ H' fun σ2 H2 => tb { D with nx := N, ct := N, bk := D.nx } σ2 H2) := by
  let Wv : Nat → Nat → L2.St → Hp → Prop := fun i m σ' H' => i ≤ ds.length ∧ m = ds.length - i ∧ ∃ F' env', At R P (Own env σ) σ F H env' σ' F' H' ∧ SPost R W P (Own env' σ') σ' F' H' (forD g n (ds.drop i) env') D
  refine ⟨Wv, ⟨ds.length, Nat.zero_le _, rfl, F, env, .refl er l, by simpa using p⟩, ?_⟩
  rintro i m σ1 H1 ⟨hi, rfl, F1, env1, a1, p1⟩
  by_cases hlt : i < ds.length
  · refine .inr ⟨wk.go i F1 H1 a1.gr.le a1.gr.sub a1.gr.frz hlt, Wv (i + 1) (ds.length - (i + 1)), fun σ' H' w => ⟨_, by omega, w⟩, fun x H2 y => ?_⟩
    obtain ⟨d, F2, hd, nw, rp⟩ := wk.yld i F1 H1 x H2 a1.gr.le a1.gr.sub a1.gr.frz hlt y
    have ed : ds.drop i = d :: ds.drop (i + 1) := by
      have : ds[i] = d := by rw [List.getElem?_eq_getElem hlt] at hd; exact Option.some.inj hd
      rw [← this]; exact List.drop_eq_getElem_cons hlt
    rw [ed] at p1
    unfold forD at p1
    cases e1 : g d env1 with
    | none => simp only [e1] at p1; exact p1.elim
    | some env2 =>
      simp only [e1] at p1
      have g2 : Gr (Own env1 σ1) F1 H1 (Own env1 σ1) F2 H2 := nw.gr fun a q => .inl q
      refine hg σ1 F2 H2 env1 x d env2 _ (a1.er.nw nw) nw.sub rp e1 fun σ2 er2 o2 f2 => ?_
      have g3 : Gr (Own env1 σ1) F1 H1 (Own env2 σ2) F2 H2 := g2.weak fun a q => o2 a q
      refine hb σ2 F2 H2 env2 _ er2 nw.sub ?_
      have fin : ∀ {env3 : LEnv} {σ3 : L2.St} {F3 H3 : Hp}, At R P (Own env2 σ2) σ2 F2 H2 env3 σ3 F3 H3 → SPost R W P (Own env1 σ1) σ1 F1 H1 (forD g n (ds.drop (i + 1)) env3) D → Wv (i + 1) (ds.length - (i + 1)) σ3 H3 := fun {env3 σ3 F3 H3} a3 p3 => by
        refine ⟨hlt, rfl, F3, env3, ⟨a3.er, (a1.gr.trans l g3).trans l a3.gr, (a1.fx.trans f2).trans a3.fx⟩, ?_⟩
        exact SPost.after a1.gr.sub (g3.trans a1.gr.sub a3.gr) (f2.trans a3.fx) p3
      cases e2 : n env2 with
      | bad => simp only [e2] at p1; exact p1.elim
      | nx env3 => simp only [e2] at p1; exact fun σ3 F3 H3 a3 => fin a3 p1
      | ct env3 => simp only [e2] at p1; exact fun σ3 F3 H3 a3 => fin a3 p1
      | bk env3 =>
        simp only [e2] at p1
        exact fun σ3 F3 H3 a3 => p1 σ3 F3 H3 ⟨a3.er, g3.trans a1.gr.sub a3.gr, f2.trans a3.fx⟩
      | rt lv env3 =>
        simp only [e2] at p1
        exact fun v σ3 F3 H3 er3 ne lr d3 gr3 f3 => p1 v σ3 F3 H3 er3 ne lr d3 (g3.trans a1.gr.sub gr3) (f2.trans f3)
      | exc x3 env3 =>
        simp only [e2] at p1
        exact fun cls d3 σ3 F3 H3 er3 xr gr3 f3 => p1 cls d3 σ3 F3 H3 er3 xr (g3.trans a1.gr.sub gr3) (f2.trans f3)
  · have e : ds.drop i = [] := List.drop_eq_nil_of_le (by omega)
    rw [e] at p1
    exact .inl ⟨wk.stop i F1 H1 a1.gr.le a1.gr.sub a1.gr.frz (by omega), p1 σ1 F1 H1 (.refl a1.er a1.gr.sub)⟩
theorem ss_for {wi : TI} {i : IM} {g : GM} {tg : TG} {tb : TS} (hi : ISd R W wi i) (hg : GSd R P tg g) (hb : SSd R W P tb n) : SSd R W P (tFor wi tg tb) (sFor i g n) := by
  intro σ F H env D er l p
  unfold sFor at p
  refine hi σ F H env _ er l ?_
  cases e1 : i env with
  | bad => rw [e1] at p; exact p.elim
  | exc x env1 => rw [e1] at p; exact XPost.stm p
  | val ds env1 =>
    rw [e1] at p
    intro J F1 H1 er1 wk g1
    exact for_walks er1 g1.sub wk hg hb (SPost.after l g1 .refl p)
theorem sj_for {tg : Expr} {i : IM} {g : GM} (hp : PassesOwn (model X.prog X.w) X.A X.env X.xe) (hc : X.calm = true) (hi : IJ X R W tg e i) (hg : GJ X R P tg g) (hb : BJ X R W P ss n) (hs : ∀ x, foldedSetIterable e X.env x = pure x := by intro _; rfl) :
    SJ X R W P (.For tg e ss [] pos) (sFor i g n) :=
  let ⟨_, a1, a2⟩ := hi; let ⟨_, b1, b2⟩ := hg; let ⟨_, c1, c2⟩ := hb; ⟨_, ps_for hp hc a1 b1 c1 hs, ss_for a2 b2 c2⟩

/-! ### while, with so many turns at most -/
def whileD (t : TM) (n : SM) : Nat → LEnv → SR
  | 0, _ => .bad
  | k + 1, env => match t env with
    | .bad => .bad
    | .exc x env1 => .exc x env1
    | .val false env1 => .nx env1
    | .val true env1 => match n env1 with
      | .nx env2 => whileD t n k env2
      | .ct env2 => whileD t n k env2
      | .bk env2 => .nx env2
      | .rt lv env2 => .rt lv env2
      | .exc x env2 => .exc x env2
      | .bad => .bad
theorem sj_while {t : TM} (k : Nat) (hp : PassesOwn (model X.prog X.w) X.A X.env X.xe) (hc : TJ X R W c t) (hb : BJ X R W P ss n) : SJ X R W P (.While c ss [] pos) (whileD t n k) := by
  obtain ⟨tc, c1, c2⟩ := hc
  obtain ⟨tb, b1, b2⟩ := hb
  refine ⟨_, ps_while hp c1 b1, fun σ F H env D er l p => ?_⟩
  let Wv : Nat → L2.St → Hp → Prop := fun m σ' H' => ∃ F' env', At R P (Own env σ) σ F H env' σ' F' H' ∧ SPost R W P (Own env' σ') σ' F' H' (whileD t n m env') D
  refine ⟨Wv, ⟨k, F, env, .refl er l, p⟩, ?_⟩
  rintro m σ1 H1 ⟨F1, env1, a1, p1⟩
  cases m with
  | zero => exact p1.elim
  | succ m =>
    unfold whileD at p1
    refine c2 σ1 F1 H1 env1 _ a1.er a1.gr.sub ?_
    cases e1 : t env1 with
    | bad => simp only [e1] at p1; exact p1.elim
    | exc x env2 => simp only [e1] at p1; exact XPost.stm p1
    | val kk env2 =>
      simp only [e1] at p1
      intro F2 H2 er2 g2
      cases kk with
      | false => rw [if_neg Bool.false_ne_true]; exact p1 σ1 F2 H2 ⟨er2, g2, .refl⟩
      | true =>
        rw [if_pos rfl]
        refine ⟨Wv m, fun σ' H' w => ⟨m, Nat.lt_succ_self m, w⟩, ?_⟩
        simp only at p1
        refine b2 σ1 F2 H2 env2 _ er2 g2.sub ?_
        have fin : ∀ {env3 : LEnv} {σ3 : L2.St} {F3 H3 : Hp}, At R P (Own env2 σ1) σ1 F2 H2 env3 σ3 F3 H3 → SPost R W P (Own env1 σ1) σ1 F1 H1 (whileD t n m env3) D → Wv m σ3 H3 := fun {env3 σ3 F3 H3} a3 p3 => by
          refine ⟨F3, env3, ⟨a3.er, (a1.gr.trans l g2).trans l a3.gr, a1.fx.trans a3.fx⟩, ?_⟩
          exact SPost.after a1.gr.sub (g2.trans a1.gr.sub a3.gr) a3.fx p3
        cases e2 : n env2 with
        | bad => simp only [e2] at p1; exact p1.elim
        | nx env3 => simp only [e2] at p1; exact fun σ3 F3 H3 a3 => fin a3 p1
        | ct env3 => simp only [e2] at p1; exact fun σ3 F3 H3 a3 => fin a3 p1
        | bk env3 => simp only [e2] at p1; exact fun σ3 F3 H3 a3 => p1 σ3 F3 H3 ⟨a3.er, g2.trans a1.gr.sub a3.gr, a3.fx⟩
        | rt lv env3 => simp only [e2] at p1; exact fun v σ3 F3 H3 er3 ne lr d3 gr3 f3 => p1 v σ3 F3 H3 er3 ne lr d3 (g2.trans a1.gr.sub gr3) f3
        | exc x3 env3 => simp only [e2] at p1; exact fun cls d3 σ3 F3 H3 er3 xr gr3 f3 => p1 cls d3 σ3 F3 H3 er3 xr (g2.trans a1.gr.sub gr3) f3
end
end PL
set_option maxRecDepth 100000
set_option maxHeartbeats 4000000
/-! Defs: what they promise, calls. -/
namespace PL
open PySem L2 PyProof.Rows

inductive FR where
  | ret (lv : LV) (lvs : List LV)
  | exc (x : Xc) (lvs : List LV)
  | bad
abbrev FM := List LV → FR
def FPost (R : RE) (vs : List V) (lvs : List LV) (F H : Hp) (r : FR) (Q : VK) (E : XK) : Prop :=
  match r with
  | .ret lv lvs' => ∀ v F' H', ER R F' H' (vs.map some) lvs' → lv ≠ .un → LRel R F' H' lv v → (∀ a, Owns lv v a → ¬ Own lvs' (vs.map some) a) → Gr (Own lvs (vs.map some)) F H (fun a => Own lvs' (vs.map some) a ∨ Owns lv v a) F' H' → Q v H'
  | .exc x lvs' => ∀ cls d F' H', ER R F' H' (vs.map some) lvs' → XR R F' H' x cls d → Gr (Own lvs (vs.map some)) F H (Own lvs' (vs.map some)) F' H' → E cls d H'
  | .bad => False
def spOf (R : RE) (n : Nat) (g : FM) : Sp := fun vs H Q E => vs.length = n ∧ ∃ F lvs, Le F H ∧ ER R F H (vs.map some) lvs ∧ FPost R vs lvs F H (g lvs) Q E

/-! ### a body -/
def okArgs (P : List Nat) (lvs : List LV) : Bool := lvs.zipIdx.all fun p => P.contains p.2 || !p.1.isOwn
def back (P : List Nat) (lvs : List LV) (env : LEnv) : List LV := lvs.zipIdx.map fun p => if P.contains p.2 then env.getD p.2 .un else p.1
def defM (N : Nat) (P : List Nat) (body : SM) : FM := fun lvs =>
  if okArgs P lvs then
    match body (lvs ++ List.replicate (N - lvs.length) .un) with
    | .nx env => .ret (.dat .non) (back P lvs env)
    | .rt lv env => .ret lv (back P lvs env)
    | .exc x env => .exc x (back P lvs env)
    | _ => .bad
  else .bad
section
variable {R : RE} {F H F' H' : Hp} {σ : L2.St} {env : LEnv} {vs : List V} {lvs : List LV} {P : List Nat} {a : Addr} {n : Nat}
theorem back_get (k : Nat) : (back P lvs env)[k]? = (lvs[k]?).map fun lv => if P.contains k then env.getD k .un else lv := by
  unfold back
  rw [List.getElem?_map, List.getElem?_zipIdx]
  cases lvs[k]? <;> simp
theorem okArgs_at (h : okArgs P lvs = true) {k : Nat} {lv : LV} (e : lvs[k]? = some lv) (n : P.contains k = false) : lv.isOwn = false := by
  unfold okArgs at h
  rw [List.all_eq_true] at h
  have q := h (lv, k) (List.mem_of_getElem? (i := k) (by rw [List.getElem?_zipIdx, e]; simp))
  simp only [n, Bool.false_or, Bool.not_eq_true'] at q
  exact q
theorem start_get {N : List Str} {k : Nat} (hN : vs.length ≤ N.length) : (L2.start N vs)[k]? = if k < vs.length then (vs[k]?).map some else if k < N.length then some none else none := by
  unfold L2.start
  by_cases h : k < vs.length
  · rw [List.getElem?_append_left (by simpa using h), List.getElem?_map, if_pos h]
  · rw [List.getElem?_append_right (by simpa using h), List.getElem?_replicate, if_neg h]
    by_cases h2 : k < N.length
    · rw [if_pos h2]; simp; omega
    · rw [if_neg h2]; simp; omega
theorem env0_get (k : Nat) : (lvs ++ List.replicate n LV.un)[k]? = if k < lvs.length then lvs[k]? else if k < lvs.length + n then some .un else none := by
  by_cases h : k < lvs.length
  · rw [List.getElem?_append_left h, if_pos h]
  · rw [List.getElem?_append_right (by omega), List.getElem?_replicate, if_neg h]
    by_cases h2 : k < lvs.length + n
    · rw [if_pos h2, if_pos (by omega)]
    · rw [if_neg h2, if_neg (by omega)]
theorem ER.start {N : List Str} (hN : vs.length ≤ N.length) (er : ER R F H (vs.map some) lvs) : ER R F H (L2.start N vs) (lvs ++ List.replicate (N.length - lvs.length) .un) ∧ (∀ a, Own (lvs ++ List.replicate (N.length - lvs.length) .un) (L2.start N vs) a ↔ Own lvs (vs.map some) a) := by
  have hl : vs.length = lvs.length := by simpa using er.len
  have z : ∀ {k : Nat} {lv : LV}, (lvs ++ List.replicate (N.length - lvs.length) LV.un)[k]? = some lv → lv ≠ .un → lvs[k]? = some lv ∧ k < vs.length := fun {k lv} h ne => by
    rw [env0_get] at h
    split at h
    · exact ⟨h, by omega⟩
    · split at h
      · cases h; exact absurd rfl ne
      · cases h
  have y : ∀ {k : Nat}, k < vs.length → (L2.start N vs)[k]? = (vs.map some)[k]? := fun {k} h => by rw [start_get hN, if_pos h, List.getElem?_map]
  refine ⟨⟨?_, fun i lv h ne => ?_, fun i j lv lv' b h1 h2 o1 o2 s1 s2 => ?_⟩, fun a => ⟨?_, ?_⟩⟩
  · unfold L2.start; simp; omega
  · obtain ⟨h1, h2⟩ := z h ne
    obtain ⟨v, q1, q2⟩ := er.rel i lv h1 ne
    exact ⟨v, by rw [y h2]; exact q1, q2⟩
  · obtain ⟨h1, l1⟩ := z h1 (by rintro rfl; cases o1)
    obtain ⟨h2, l2⟩ := z h2 (by rintro rfl; cases o2)
    exact er.dis i j lv lv' b h1 h2 o1 o2 (by rw [← y l1]; exact s1) (by rw [← y l2]; exact s2)
  · rintro ⟨i, lv, h1, h2, h3⟩
    obtain ⟨h1, l1⟩ := z h1 (by rintro rfl; cases h2)
    exact ⟨i, lv, h1, h2, by rw [← y l1]; exact h3⟩
  · rintro ⟨i, lv, h1, h2, h3⟩
    have l1 : i < lvs.length := (List.getElem?_eq_some_iff.mp h1).1
    exact ⟨i, lv, by rw [env0_get, if_pos l1]; exact h1, h2, by rw [y (by omega)]; exact h3⟩
/-- behind the body: the arguments as they are now -/
theorem ER.back {N : List Str} {σ' : L2.St} {env' : LEnv} {O' : Addr → Prop} (hN : vs.length ≤ N.length) (er0 : ER R F H (vs.map some) lvs) (ok : okArgs P lvs = true) (er : ER R F' H' σ' env') (g : Le F F') (fx : Fix P (L2.start N vs) σ') :
    ER R F' H' (vs.map some) (back P lvs env') ∧ ∀ a, Own (back P lvs env') (vs.map some) a → Own env' σ' a := by
  have hl : vs.length = lvs.length := by simpa using er0.len
  have key : ∀ {k : Nat} {lv : LV}, (PL.back P lvs env')[k]? = some lv → lv ≠ .un → (P.contains k = true ∧ env'[k]? = some lv ∧ σ'[k]? = (vs.map some)[k]?) ∨ (P.contains k = false ∧ lvs[k]? = some lv ∧ lv.isOwn = false) := fun {k lv} h ne => by
    rw [back_get] at h
    cases e : lvs[k]? with
    | none => rw [e] at h; cases h
    | some lv0 =>
      rw [e] at h
      have hk : k < vs.length := by have := (List.getElem?_eq_some_iff.mp e).1; omega
      cases c : P.contains k with
      | true =>
        simp only [c, if_true, Option.map_some, Option.some.injEq] at h
        refine .inl ⟨rfl, ?_, ?_⟩
        · rw [List.getD_eq_getElem?_getD] at h
          cases q : env'[k]? with
          | none => rw [q] at h; exact absurd h.symm ne
          | some lv1 => rw [q] at h; simp at h; rw [h]
        · rw [fx k (by simpa using c), start_get hN, if_pos hk, List.getElem?_map]
      | false =>
        simp only [c, Bool.false_eq_true, if_false, Option.map_some, Option.some.injEq] at h
        subst h
        exact .inr ⟨rfl, rfl, okArgs_at ok e c⟩
  refine ⟨⟨by unfold PL.back; simp [hl], fun i lv h ne => ?_, fun i j lv lv' b h1 h2 o1 o2 s1 s2 => ?_⟩, fun a ⟨i, lv, h1, h2, h3⟩ => ?_⟩
  · rcases key h ne with ⟨_, h1, h2⟩ | ⟨_, h1, h2⟩
    · obtain ⟨v, q1, q2⟩ := er.rel i lv h1 ne
      exact ⟨v, by rw [← h2]; exact q1, q2⟩
    · obtain ⟨v, q1, q2⟩ := er0.rel i lv h1 ne
      refine ⟨v, q1, ?_⟩
      cases q2 with
      | dat r => exact .dat (r.mono g)
      | _ => cases h2
  · rcases key h1 (by rintro rfl; cases o1) with ⟨_, a1, a2⟩ | ⟨_, a1, a2⟩
    · rcases key h2 (by rintro rfl; cases o2) with ⟨_, b1, b2⟩ | ⟨_, b1, b2⟩
      · exact er.dis i j lv lv' b a1 b1 o1 o2 (by rw [a2]; exact s1) (by rw [b2]; exact s2)
      · rw [b2] at o2; cases o2
    · rw [a2] at o1; cases o1
  · rcases key h1 (by rintro rfl; cases h2) with ⟨_, a1, a2⟩ | ⟨_, a1, a2⟩
    · exact ⟨i, lv, a1, h2, by rw [a2]; exact h3⟩
    · rw [a2] at h2; cases h2
/-- a body's reading gives its def's promise -/
theorem body_post {N : List Str} {t : TS} {m : SM} {W : WX} {Q : VK} {E : XK} (hW : ∀ cls d σ H, E cls d H → W cls d σ H) (hN : vs.length ≤ N.length) (h : SSd R W P t m) (l : Le F H) (er : ER R F H (vs.map some) lvs) (p : FPost R vs lvs F H (defM N.length P m lvs) Q E) :
    t { nx := fun _ H' => Q .non H', rt := Q } (L2.start N vs) H := by
  unfold defM at p
  cases ok : okArgs P lvs with
  | false => simp [ok] at p; exact p.elim
  | true =>
    simp only [ok, if_true] at p
    obtain ⟨er0, ow⟩ := er.start hN
    refine h (L2.start N vs) F H _ _ er0 l ?_
    cases e1 : m (lvs ++ List.replicate (N.length - lvs.length) .un) with
    | bad => simp only [e1] at p; exact p.elim
    | bk env1 => simp only [e1] at p; exact p.elim
    | ct env1 => simp only [e1] at p; exact p.elim
    | nx env1 =>
      simp only [e1] at p
      intro σ' F' H' q
      obtain ⟨eb, ob⟩ := er.back (O' := fun _ => True) hN ok q.er q.gr.le q.fx
      refine p .non F' H' eb (by simp) (.dat .non) (fun _ o => by cases o.1) ?_
      refine (q.gr.more fun a o => (ow a).mp o).weak fun a o => ?_
      rcases o with o | o
      · exact ob a o
      · cases o.1
    | rt lv env1 =>
      simp only [e1] at p
      intro v σ' F' H' er' ne lr d g fx
      obtain ⟨eb, ob⟩ := er.back (O' := fun _ => True) hN ok er' g.le fx
      refine p v F' H' eb ne lr (fun a o q => d a o (ob a q)) ?_
      refine (g.more fun a o => (ow a).mp o).weak fun a o => ?_
      rcases o with o | o
      · exact .inl (ob a o)
      · exact .inr o
    | exc x env1 =>
      simp only [e1] at p
      intro cls d σ' F' H' er' xr g fx
      obtain ⟨eb, ob⟩ := er.back (O' := fun _ => True) hN ok er' g.le fx
      exact hW cls d σ' H' (p cls d F' H' eb xr ((g.more fun a o => (ow a).mp o).weak fun a o => ob a o))
end

/-- THE RULE for a def -/
theorem fn_ok {Pg : Program} {w : World} {R : RE} {mg : Str → Option Value} {base : Heap} {x qual : Str} {st : Stmt} {f : Addr} {fd : FuncData} {N ps : List Str} {k : Nat} {P : List Nat} {m : SM} (Fn : Fun R.K x qual st f fd) (S : FnScope N ps (defScope st))
    (hbody : ∀ (X : Cx) (W : WX), X.prog = Pg → X.w = w → X.K = R.K → X.mg = mg → X.base = base → X.N = N → X.calm = true → X.env.scope = defScope st → X.fn = (fun _ => true) → Room k X.A → X.stack = X.env :: X.outer → X.env.frame = some X.env.locals → Takes X W → PassesOwn (model X.prog X.w) X.A X.env X.xe →
      (∃ (cdv : Value) (A : Around) (outer : List Env) (s : Shared) (H : Hp) (E : XK), X = cxOf (L2.CX Pg w) Pg w R.K mg base N qual (defScope st) f cdv A outer s H E) → BJ X R W P (defBody st) m) :
    FnOk Pg w R.K mg base (L2.CX Pg w) (k + 1) f fd ps (spOf R ps.length (defM N.length P m)) := by
  have hpl : ps.length ≤ N.length := by have := congrArg List.length S.pre; rw [List.length_take] at this; omega
  refine Fn.okX S (fun vs H Q E h => h.1) (fun cdv A outer s H vs Q E hr h => ?_)
  obtain ⟨hl, F, lvs, l, er, p⟩ := h
  obtain ⟨t, h1, h2⟩ := hbody (cxOf (L2.CX Pg w) Pg w R.K mg base N qual (defScope st) f cdv A outer s H E) (fun cls d _ H => E cls d H) rfl rfl rfl rfl rfl rfl rfl rfl rfl hr rfl rfl (takes_of rfl rfl rfl rfl) (passes_of rfl) ⟨cdv, A, outer, s, H, E, rfl⟩
  exact ⟨t, h1, body_post (fun _ _ _ _ e => e) (by omega) h2 l er p⟩

/-! ### a call -/
def ownVars (rs : List Rf) (env : LEnv) : List Nat := rs.filterMap fun r => match r with
  | .var i => if (env.getD i .un).isOwn then some i else none
  | .tmp _ => none
def wb : List Rf → List LV → LEnv → LEnv
  | .var i :: rs, lv :: lvs, env => wb rs lvs (env.set i lv)
  | .tmp _ :: rs, _ :: lvs, env => wb rs lvs env
  | _, _, env => env
/-- what was data stays data -/
def okBack (lvs lvs' : List LV) : Bool := (lvs.zip lvs').all fun p => !p.2.isOwn || p.1.isOwn
def oCall (g : FM) (ms : AM) : OM := fun env => match ms env with
  | .val rs env1 => match gets rs env1 with
    | some lvs => if (ownVars rs env1).Nodup then
        match g lvs with
        | .ret lv lvs' => if lv.ok && okBack lvs lvs' then .val (.tmp lv) (wb rs lvs' env1) else .bad
        | .exc x lvs' => if okBack lvs lvs' then .exc x (wb rs lvs' env1) else .bad
        | .bad => .bad
      else .bad
    | none => .bad
  | .exc x env1 => .exc x env1
  | .bad => .bad
section
variable {R : RE} {W : WX} {F H F' H' : Hp} {σ : L2.St} {env : LEnv} {vs : List V} {lvs lvs' : List LV} {rs : List Rf} {a : Addr}
theorem gets_get : ∀ {rs : List Rf} {lvs : List LV} {k : Nat} {lv : LV}, gets rs env = some lvs → lvs[k]? = some lv → ∃ r, rs[k]? = some r ∧ r.get env = some lv
  | [], lvs, k, lv, h, e => by cases h; simp at e
  | r :: rs, lvs, k, lv, h, e => by
    unfold gets at h
    cases e1 : r.get env with
    | none => rw [e1] at h; cases h
    | some lv0 =>
      rw [e1] at h
      cases e2 : gets rs env with
      | none => simp only [e2] at h; cases h
      | some lvs0 =>
        simp only [e2] at h
        cases h
        cases k with
        | zero => simp at e; subst e; exact ⟨r, rfl, e1⟩
        | succ k =>
          obtain ⟨r', h1, h2⟩ := gets_get (k := k) e2 (by simpa using e)
          exact ⟨r', by simpa using h1, h2⟩
theorem gets_length : ∀ {rs : List Rf} {lvs : List LV}, gets rs env = some lvs → rs.length = lvs.length
  | [], lvs, h => by cases h; rfl
  | r :: rs, lvs, h => by
    unfold gets at h
    cases e1 : r.get env with
    | none => rw [e1] at h; cases h
    | some lv0 =>
      rw [e1] at h
      cases e2 : gets rs env with
      | none => simp only [e2] at h; cases h
      | some lvs0 =>
        simp only [e2] at h
        cases h
        simp [gets_length e2]
theorem get_var {i : Nat} {lv : LV} (h : (Rf.var i).get env = some lv) : env[i]? = some lv ∧ lv.ok = true := by
  unfold Rf.get at h
  simp only at h
  cases e : env[i]? with
  | none => rw [e] at h; cases h
  | some lv' =>
    rw [e] at h
    cases e2 : lv'.ok with
    | false => simp [e2] at h
    | true => simp [e2] at h; subst h; exact ⟨rfl, e2⟩
theorem get_tmp {lv lv' : LV} (h : (Rf.tmp lv').get env = some lv) : lv' = lv ∧ lv.ok = true := by
  unfold Rf.get at h
  cases e2 : lv'.ok with
  | false => simp [e2] at h
  | true => simp [e2] at h; subst h; exact ⟨rfl, e2⟩
/-- two places with one owned variable are one place -/
theorem ownVars_inj : ∀ {rs : List Rf} {k k' i : Nat}, (ownVars rs env).Nodup → rs[k]? = some (Rf.var i) → rs[k']? = some (Rf.var i) → (env.getD i .un).isOwn = true → k = k'
  | [], k, k', i, _, h, _, _ => by simp at h
  | r :: rs, k, k', i, nd, h, h', o => by
    have mem : ∀ {k : Nat}, rs[k]? = some (Rf.var i) → i ∈ ownVars rs env := fun {k} e => List.mem_filterMap.mpr ⟨.var i, List.mem_of_getElem? e, by simp only [o, if_true]⟩
    have tl : (ownVars rs env).Nodup := by
      unfold ownVars at nd ⊢
      rw [List.filterMap_cons] at nd
      split at nd
      · exact nd
      · exact (List.nodup_cons.mp nd).2
    have hd : r = .var i → i ∉ ownVars rs env := fun e => by
      unfold ownVars at nd ⊢
      rw [List.filterMap_cons, e] at nd
      simp only [o, if_true] at nd
      exact (List.nodup_cons.mp nd).1
    cases k with
    | zero =>
      cases k' with
      | zero => rfl
      | succ k' => simp at h h'; exact (hd h (mem h')).elim
    | succ k =>
      cases k' with
      | zero => simp at h h'; exact (hd h' (mem h)).elim
      | succ k' =>
        simp at h h'
        rw [ownVars_inj tl h h' o]
theorem getD_of {i : Nat} {lv : LV} (h : env[i]? = some lv) : env.getD i .un = lv := by rw [List.getD_eq_getElem?_getD, h]; rfl
/-- the arguments as a callee takes them -/
theorem RsR.args (er : ER R F H σ env) (rr : RsR R F H σ rs vs) (d : ∀ a, RsO rs vs a → ¬ Own env σ a) (dd : RsD rs vs) (h : PL.gets rs env = some lvs) (nd : (ownVars rs env).Nodup) : ER R F H (vs.map some) lvs := by
  have rel := rr.gets er h
  have key : ∀ {k : Nat} {lv : LV} {b : Addr}, lvs[k]? = some lv → lv.isOwn = true → (vs.map some)[k]? = some (some (.ref b)) → (∃ i, rs[k]? = some (Rf.var i) ∧ env[i]? = some lv ∧ σ[i]? = some (some (.ref b))) ∨ (∃ r, rs[k]? = some r ∧ vs[k]? = some (.ref b) ∧ RfO r (.ref b) b) := fun {k lv b} e o s => by
    rw [List.getElem?_map] at s
    have s' : vs[k]? = some (.ref b) := by
      cases q : vs[k]? with
      | none => rw [q] at s; cases s
      | some x => rw [q] at s; simp at s; rw [s]
    obtain ⟨r, h1, h2⟩ := gets_get h e
    cases r with
    | var i =>
      have := rr.at (k := k) h1 s'
      exact .inl ⟨i, h1, (get_var h2).1, this⟩
    | tmp lv' =>
      obtain ⟨rfl, _⟩ := get_tmp h2
      exact .inr ⟨_, h1, s', o, rfl⟩
  refine ⟨by simp [← rr.length, gets_length h], fun k lv e ne => ?_, fun k k' lv lv' b e1 e2 o1 o2 s1 s2 => ?_⟩
  · obtain ⟨v, q1, q2⟩ : ∃ v, vs[k]? = some v ∧ LRel R F H lv v := by
      clear key
      revert rel e
      clear h nd dd d rr
      intro rel e
      induction rel generalizing k with
      | nil => simp at e
      | cons r rs ih =>
        cases k with
        | zero => simp at e; subst e; exact ⟨_, rfl, r⟩
        | succ k => simpa using ih k (by simpa using e)
    exact ⟨v, by rw [List.getElem?_map, q1]; rfl, q2⟩
  · rcases key e1 o1 s1 with ⟨i, a1, a2, a3⟩ | ⟨r, a1, a2, a3⟩
    · rcases key e2 o2 s2 with ⟨j, b1, b2, b3⟩ | ⟨r', b1, b2, b3⟩
      · have ij := er.dis i j lv lv' b a2 b2 o1 o2 a3 b3
        subst ij
        exact ownVars_inj nd a1 b1 (by rw [getD_of a2]; exact o1)
      · exact (d b ⟨k', r', _, b1, b2, b3⟩ ⟨i, lv, a2, o1, a3⟩).elim
    · rcases key e2 o2 s2 with ⟨j, b1, b2, b3⟩ | ⟨r', b1, b2, b3⟩
      · exact (d b ⟨k, r, _, a1, a2, a3⟩ ⟨j, lv', b2, o2, b3⟩).elim
      · exact dd k k' r r' _ _ b a1 a2 b1 b2 a3 b3
theorem wb_get : ∀ {rs : List Rf} {lvs : List LV} {env : LEnv} {j : Nat} {lv : LV}, rs.length = lvs.length → (wb rs lvs env)[j]? = some lv → (∃ k : Nat, rs[k]? = some (Rf.var j) ∧ lvs[k]? = some lv) ∨ (env[j]? = some lv ∧ ∀ k : Nat, rs[k]? ≠ some (Rf.var j))
  | [], [], env, j, lv, _, h => .inr ⟨h, fun k => by simp⟩
  | .tmp x :: rs, y :: lvs, env, j, lv, hl, h => by
    rcases wb_get (by simpa using hl) (show (wb rs lvs env)[j]? = some lv from h) with ⟨k, h1, h2⟩ | ⟨h1, h2⟩
    · exact .inl ⟨k + 1, by simpa using h1, by simpa using h2⟩
    · refine .inr ⟨h1, fun k => ?_⟩
      cases k with
      | zero => simp
      | succ k => simpa using h2 k
  | .var i :: rs, y :: lvs, env, j, lv, hl, h => by
    rcases wb_get (by simpa using hl) (show (wb rs lvs (env.set i y))[j]? = some lv from h) with ⟨k, h1, h2⟩ | ⟨h1, h2⟩
    · exact .inl ⟨k + 1, by simpa using h1, by simpa using h2⟩
    · by_cases e : i = j
      · subst e
        rw [List.getElem?_set] at h1
        simp at h1
        exact .inl ⟨0, rfl, by simp [h1.2]⟩
      · rw [List.getElem?_set_ne e] at h1
        refine .inr ⟨h1, fun k => ?_⟩
        cases k with
        | zero => simp; exact e
        | succ k => simpa using h2 k
  | [], _ :: _, _, _, _, hl, _ => by simp at hl
  | _ :: _, [], _, _, _, hl, _ => by simp at hl
theorem wb_length : ∀ {rs : List Rf} {lvs : List LV} {env : LEnv}, (wb rs lvs env).length = env.length
  | [], _, _ => by unfold wb; rfl
  | .tmp x :: rs, [], _ => by unfold wb; rfl
  | .var x :: rs, [], _ => by unfold wb; rfl
  | .tmp x :: rs, y :: lvs, env => by unfold wb; exact wb_length
  | .var i :: rs, y :: lvs, env => by unfold wb; rw [wb_length]; simp
theorem okBack_at {k : Nat} {lv lv' : LV} (h : okBack lvs lvs' = true) (e : lvs[k]? = some lv) (e' : lvs'[k]? = some lv') (o : lv'.isOwn = true) : lv.isOwn = true := by
  unfold okBack at h
  rw [List.all_eq_true] at h
  have q := h (lv, lv') (List.mem_of_getElem? (i := k) (by rw [List.getElem?_zip_eq_some]; exact ⟨e, e'⟩))
  simpa [o] using q
/-- behind the call -/
theorem ER.wb (er : ER R F H σ env) (rr : RsR R F H σ rs vs) (d : ∀ a, RsO rs vs a → ¬ Own env σ a) (h : gets rs env = some lvs) (nd : (ownVars rs env).Nodup) (ok : okBack lvs lvs' = true) (er' : ER R F' H' (vs.map some) lvs') {O' : Addr → Prop} (g : Gr (Own lvs (vs.map some)) F H O' F' H') :
    ER R F' H' σ (PL.wb rs lvs' env) ∧ (∀ a, Own (PL.wb rs lvs' env) σ a → Own env σ a) ∧ ∀ a, Own (PL.wb rs lvs' env) σ a → Own lvs' (vs.map some) a ∨ (¬ Own lvs (vs.map some) a ∧ H a ≠ none) := by
  have hl : rs.length = lvs'.length := by rw [rr.length]; simpa using er'.len
  have arg : ∀ {k : Nat} {lv : LV} {b : Addr}, lvs[k]? = some lv → lv.isOwn = true → (vs.map some)[k]? = some (some (.ref b)) → (∃ i, rs[k]? = some (Rf.var i) ∧ env[i]? = some lv ∧ σ[i]? = some (some (.ref b))) ∨ ¬ Own env σ b := fun {k lv b} e o s => by
    rw [List.getElem?_map] at s
    have s' : vs[k]? = some (.ref b) := by
      cases q : vs[k]? with
      | none => rw [q] at s; cases s
      | some x => rw [q] at s; simp at s; rw [s]
    obtain ⟨r, h1, h2⟩ := gets_get h e
    cases r with
    | var i => exact .inl ⟨i, h1, (get_var h2).1, rr.at (k := k) h1 s'⟩
    | tmp lv' =>
      obtain ⟨rfl, _⟩ := get_tmp h2
      exact .inr (d b ⟨k, _, _, h1, s', o, rfl⟩)
  have slot : ∀ {k j : Nat}, rs[k]? = some (Rf.var j) → (vs.map some)[k]? = σ[j]? := fun {k j} e => by
    have lt : k < vs.length := by rw [← rr.length]; exact (List.getElem?_eq_some_iff.mp e).1
    have q : vs[k]? = some vs[k] := by simp [lt]
    have this' : σ[j]? = some (some vs[k]) := rr.at (k := k) e q
    rw [List.getElem?_map, q, this']
    rfl
  have apart : ∀ {j : Nat} {lv : LV} {b : Addr}, env[j]? = some lv → lv.isOwn = true → σ[j]? = some (some (.ref b)) → (∀ k : Nat, rs[k]? ≠ some (Rf.var j)) → ¬ Own lvs (vs.map some) b := fun {j lv b} e o s n ⟨k, lv', e', o', s'⟩ => by
    rcases arg e' o' s' with ⟨i, a1, a2, a3⟩ | q
    · have ij := er.dis i j lv' lv b a2 e o' o a3 s
      subst ij
      exact n k a1
    · exact q ⟨j, lv, e, o, s⟩
  -- a written slot that is owned was owned
  have was : ∀ {k j : Nat} {lv : LV}, rs[k]? = some (Rf.var j) → lvs'[k]? = some lv → lv.isOwn = true → ∃ lv0, env[j]? = some lv0 ∧ lv0.isOwn = true := fun {k j lv} e e' o => by
    have lt : k < lvs.length := by rw [← gets_length h]; exact (List.getElem?_eq_some_iff.mp e).1
    have e0 : lvs[k]? = some lvs[k] := by simp [lt]
    obtain ⟨r, c1, c2⟩ := gets_get h e0
    rw [e] at c1; cases c1
    exact ⟨_, (get_var c2).1, okBack_at ok e0 e' o⟩
  refine ⟨⟨by rw [wb_length]; exact er.len, fun j lv e ne => ?_, fun i j lv lv' b e1 e2 o1 o2 s1 s2 => ?_⟩, fun a ⟨j, lv, h1, h2, h3⟩ => ?_, fun a ⟨j, lv, h1, h2, h3⟩ => ?_⟩
  · rcases wb_get hl e with ⟨k, h1, h2⟩ | ⟨h1, n⟩
    · obtain ⟨v, q1, q2⟩ := er'.rel k lv h2 ne
      exact ⟨v, by rw [← slot h1]; exact q1, q2⟩
    · obtain ⟨v, q1, q2⟩ := er.rel j lv h1 ne
      exact ⟨v, q1, q2.gr g fun b ob => apart h1 ob.1 (by rw [q1, ob.2]) n⟩
  · have f : ∀ {j : Nat} {lv : LV}, (PL.wb rs lvs' env)[j]? = some lv → lv.isOwn = true → ∃ lv0, env[j]? = some lv0 ∧ lv0.isOwn = true := fun {j lv} e o => by
      rcases wb_get hl e with ⟨k, h1, h2⟩ | ⟨h1, n⟩
      · exact was h1 h2 o
      · exact ⟨lv, h1, o⟩
    obtain ⟨l1, a1, a2⟩ := f e1 o1
    obtain ⟨l2, b1, b2⟩ := f e2 o2
    exact er.dis i j l1 l2 b a1 b1 a2 b2 s1 s2
  · rcases wb_get hl h1 with ⟨k, e1, e2⟩ | ⟨e1, n⟩
    · obtain ⟨lv0, q1, q2⟩ := was e1 e2 h2
      exact ⟨j, lv0, q1, q2, h3⟩
    · exact ⟨j, lv, e1, h2, h3⟩
  · rcases wb_get hl h1 with ⟨k, e1, e2⟩ | ⟨e1, n⟩
    · exact .inl ⟨k, lv, e2, h2, by rw [slot e1]; exact h3⟩
    · exact .inr ⟨apart e1 h2 h3 n, (er.tracked ⟨j, lv, e1, h2, h3⟩).2⟩
theorem Gr.reown {O O' O2 : Addr → Prop} (g : Gr O F H O' F' H') (h : ∀ a, O2 a → O a ∨ H a = none) : Gr O F H O2 F' H' := ⟨g.le, g.sub, g.keep, g.old, h, g.frz⟩
/-- what the arguments own is the frame's or a temporary's -/
theorem args_own (er : ER R F H σ env) (rr : RsR R F H σ rs vs) (h : gets rs env = some lvs) (o : Own lvs (vs.map some) a) : Own env σ a ∨ RsO rs vs a := by
  obtain ⟨k, lv, e, o, s⟩ := o
  rw [List.getElem?_map] at s
  have s' : vs[k]? = some (.ref a) := by
    cases q : vs[k]? with
    | none => rw [q] at s; cases s
    | some x => rw [q] at s; simp at s; rw [s]
  obtain ⟨r, h1, h2⟩ := gets_get h e
  cases r with
  | var i => exact .inl ⟨i, lv, (get_var h2).1, o, rr.at (k := k) h1 s'⟩
  | tmp lv' =>
    obtain ⟨rfl, _⟩ := get_tmp h2
    exact .inr ⟨k, _, _, h1, s', o, rfl⟩
theorem os_call {n : Nat} {g : FM} {t : TA} {ms : AM} (h : AS R W t ms) (hn : ∀ env rs env1, ms env = .val rs env1 → rs.length = n) : OS R W (tCallS (spOf R n g) (WE W) t) (oCall g ms) := by
  intro σ F H env Q er l p
  unfold oCall at p
  refine h σ F H env _ er l ?_
  cases e1 : ms env with
  | bad => rw [e1] at p; exact p.elim
  | exc x env1 => rw [e1] at p; exact p
  | val rs env1 =>
    rw [e1] at p
    intro vs F1 H1 er1 rr1 d1 dd1 g1
    simp only at p
    cases e2 : gets rs env1 with
    | none => simp only [e2] at p; exact p.elim
    | some lvs =>
      simp only [e2] at p
      by_cases nd : (ownVars rs env1).Nodup
      · rw [if_pos nd] at p
        refine ⟨by rw [← rr1.length]; exact hn _ _ _ e1, F1, lvs, g1.sub, rr1.args er1 d1 dd1 e2 nd, ?_⟩
        have g1' : Gr (Own env σ) F H (fun a => Own env1 σ a ∨ RsO rs vs a) F1 H1 := g1
        cases e3 : g lvs with
        | bad => simp only [e3] at p; exact p.elim
        | exc x lvs' =>
          simp only [e3] at p
          cases ok : okBack lvs lvs' with
          | false => simp [ok] at p; exact p.elim
          | true =>
            simp only [ok, if_true] at p
            intro cls d F2 H2 er2 xr g2
            obtain ⟨erw, oww, _⟩ := er1.wb rr1 d1 e2 nd ok er2 g2
            refine p cls d F2 H2 erw xr (g1.trans l ((g2.more fun a o => args_own er1 rr1 e2 o).reown fun a o => .inl (.inl (oww a o))))
        | ret lv lvs' =>
          simp only [e3] at p
          cases ok : (lv.ok && okBack lvs lvs') with
          | false => simp [ok] at p; exact p.elim
          | true =>
            simp only [ok, if_true] at p
            rw [Bool.and_eq_true] at ok
            intro v F2 H2 er2 ne lr d2 g2
            obtain ⟨erw, oww, oww2⟩ := er1.wb rr1 d1 e2 nd ok.2 er2 g2
            refine p v F2 H2 erw ⟨ne, lr⟩ (fun a o q => ?_) (g1.trans l ((g2.more fun a o => args_own er1 rr1 e2 o).reown fun a o => ?_))
            · rcases oww2 a q with z | ⟨z1, z2⟩
              · exact d2 a o z
              · rcases g2.own a (.inr o) with y | y
                · exact z1 y
                · exact z2 y
            · rcases o with o | o
              · exact .inl (.inl (oww a o))
              · rcases g2.own a (.inr o) with y | y
                · exact .inl (args_own er1 rr1 e2 y)
                · exact .inr y
      · rw [if_neg nd] at p; exact p.elim
end
section
variable {X : Cx} {R : RE} {W : WX}
def AM.len (ms : AM) (n : Nat) : Prop := ∀ env rs env1, ms env = .val rs env1 → rs.length = n
theorem AM.len_nil : AM.len aNil 0 := fun env rs env1 h => by cases h; rfl
theorem AM.len_cons {m : OM} {ms : AM} {n : Nat} (h : AM.len ms n) : AM.len (aCons m ms) (n + 1) := fun env rs env1 e => by
  unfold aCons at e
  cases e1 : m env with
  | bad => rw [e1] at e; cases e
  | exc x env2 => rw [e1] at e; cases e
  | val r env2 =>
    rw [e1] at e
    cases e2 : ms env2 with
    | bad => simp only [e2] at e; cases e
    | exc x env3 => simp only [e2] at e; cases e
    | val rs' env3 => simp only [e2] at e; cases e; simp [h _ _ _ e2]
/-- f(..), f a def of the text -/
theorem oj_call {k n : Nat} {f : Addr} {fd : FuncData} {ps : List Str} {g : FM} {x : Str} {p pos : Pos} {e : Expr} {es : List Expr} {ms : AM} (Fn : FnOk X.prog X.w X.K X.mg X.base (L2.CX X.prog X.w) k f fd ps (spOf R n g)) (hr : Room k X.A) (hm : X.mg x = some (.ref f)) (hk : PySem.W.keepIn X.K (.ref f) = true) (hb : Binds X.K fd ps []) (tk : Takes X W)
    (hg : Gl X x) (ha : AJ X R W (e :: es) ms) (hn : AM.len ms n)
    (hd : (x == ("__debug__" : Str)) = false := by decide)
    (he : starEach (e :: es) X.env = (false, eval e X.env) :: starEach es X.env := by rfl) (hpl : (backTo pos (starEach es X.env)).any (·.1) = false := by rfl) : OJ X R W (.Call (.Name x p) (e :: es) [] pos) (oCall g ms) :=
  let ⟨t, a1, a2⟩ := ha; ⟨_, pe_callS Fn hr hg hm hk hb (fun σ => passAt tk σ) a1 hd he hpl, os_call a2 hn⟩
end
end PL
set_option maxRecDepth 100000
set_option maxHeartbeats 4000000
/-! Operations on data. -/
namespace PL
open PySem L2 PyProof.Rows

/-! ### shapes of argument lists -/
def f0 (g : Option LV) : List LV → Option LV
  | [] => g
  | _ => none
def f1 (g : LV → Option LV) : List LV → Option LV
  | [a] => g a
  | _ => none
def f2 (g : LV → LV → Option LV) : List LV → Option LV
  | [a, b] => g a b
  | _ => none
def f3 (g : LV → LV → LV → Option LV) : List LV → Option LV
  | [a, b, c] => g a b c
  | _ => none
section
variable {X : Cx} {R : RE} {F H : Hp}
theorem rs1 {r : V → Hp → VK → Prop} {g : LV → Option LV} (h : ∀ F H x lx z Q, Le F H → LRel R F H lx x → g lx = some z → (∀ w F' H', Nw F H F' H' → LRel R F' H' z w → (∀ a, Owns z w a → H a = none) → Q w H') → r x H Q) : RS R (r1L r) (f1 g) := by
  intro F H vs lvs z Q l rl e k
  match lvs, vs, rl, e with
  | [lx], [x], .cons r1 .nil, e => exact h F H x lx z Q l r1 e k
  | [], _, _, e => cases e
  | _ :: _ :: _, _, _, e => cases e
theorem rs2 {r : R2} {g : LV → LV → Option LV} (h : ∀ F H x y lx ly z Q, Le F H → LRel R F H lx x → LRel R F H ly y → g lx ly = some z → (∀ w F' H', Nw F H F' H' → LRel R F' H' z w → (∀ a, Owns z w a → H a = none) → Q w H') → r x y H Q) : RS R (r2L r) (f2 g) := by
  intro F H vs lvs z Q l rl e k
  match lvs, vs, rl, e with
  | [lx, ly], [x, y], .cons r1 (.cons r2 .nil), e => exact h F H x y lx ly z Q l r1 r2 e k
  | [], _, _, e => cases e
  | [_], _, _, e => cases e
  | _ :: _ :: _ :: _, _, _, e => cases e
/-- a rule for a call of one value | of two -/
theorem rsc1 {r : List V → Hp → VK → Prop} {g : LV → Option LV} (h : ∀ F H x lx z Q, Le F H → LRel R F H lx x → g lx = some z → (∀ w F' H', Nw F H F' H' → LRel R F' H' z w → (∀ a, Owns z w a → H a = none) → Q w H') → r [x] H Q) : RS R r (f1 g) := by
  intro F H vs lvs z Q l rl e k
  match lvs, vs, rl, e with
  | [lx], [x], .cons r1 .nil, e => exact h F H x lx z Q l r1 e k
  | [], _, _, e => cases e
  | _ :: _ :: _, _, _, e => cases e
theorem rsc2 {r : List V → Hp → VK → Prop} {g : LV → LV → Option LV} (h : ∀ F H x y lx ly z Q, Le F H → LRel R F H lx x → LRel R F H ly y → g lx ly = some z → (∀ w F' H', Nw F H F' H' → LRel R F' H' z w → (∀ a, Owns z w a → H a = none) → Q w H') → r [x, y] H Q) : RS R r (f2 g) := by
  intro F H vs lvs z Q l rl e k
  match lvs, vs, rl, e with
  | [lx, ly], [x, y], .cons r1 (.cons r2 .nil), e => exact h F H x y lx ly z Q l r1 r2 e k
  | [], _, _, e => cases e
  | [_], _, _, e => cases e
  | _ :: _ :: _ :: _, _, _, e => cases e
/-- the answer is data that needs no new object -/
theorem kdat {z : LV} {d : D} {w : V} {Q : VK} (l : Le F H) (k : ∀ w F' H', Nw F H F' H' → LRel R F' H' z w → (∀ a, Owns z w a → H a = none) → Q w H') (e : z = .dat d) (r : Rep R F d w) : Q w H := by
  subst e
  exact k w F H (.refl l) (.dat r) fun _ o => by cases o.1
theorem Nw.new {p : Addr} {o : HO} (l : Le F H) (hp : H p = none) : Nw F H F (upd H p o) :=
  ⟨.refl F, l.mut (l.nn hp), fun a o' e => by rw [upd_ne (ne_of_none e hp)]; exact e, fun _ h => .inl h⟩
theorem Nw.newF {p : Addr} {o : HO} (l : Le F H) (hp : H p = none) : Nw F H (upd F p o) (upd H p o) :=
  ⟨.upd (l.nn hp), l.upd2, fun a o' e => by rw [upd_ne (ne_of_none e hp)]; exact e, fun a h => by
    by_cases e : a = p
    · subst e; exact .inr hp
    · rw [upd_ne e] at h; exact .inl h⟩
/-- a new list | a new tuple -/
theorem klst {ds : List D} {vs : List V} {Q : VK} {p : Addr} (l : Le F H) (k : ∀ w F' H', Nw F H F' H' → LRel R F' H' (.ml ds) w → (∀ a, Owns (.ml ds) w a → H a = none) → Q w H') (r : RepL R F ds vs) (hp : H p = none) : Q (.ref p) (upd H p (.lst vs)) :=
  k (.ref p) F _ (.new l hp) (.ml (l.nn hp) upd_same r) fun a o => by obtain ⟨_, e⟩ := o; cases e; exact hp
theorem ktup {ds : List D} {vs : List V} {Q : VK} {p : Addr} (l : Le F H) (k : ∀ w F' H', Nw F H F' H' → LRel R F' H' (.dat (.tup ds)) w → (∀ a, Owns (.dat (.tup ds)) w a → H a = none) → Q w H') (r : RepL R F ds vs) (hp : H p = none) : Q (.ref p) (upd H p (.tup vs)) :=
  k (.ref p) (upd F p (.tup vs)) _ (.newF l hp) (.dat (.tup upd_same (r.mono (.upd (l.nn hp))))) fun a o => by cases o.1

/-! ### ints -/
def gI (g : Int → Int → D) (c : Int → Int → Bool) : LV → LV → Option LV
  | .dat (.int i), .dat (.int j) => if c i j then some (.dat (g i j)) else none
  | _, _ => none
def cT : Int → Int → Bool := fun _ _ => true
theorem rs_I {C : Int → Int → Prop} {c : Int → Int → Bool} {g : Int → Int → V} {g' : Int → Int → D} (hc : ∀ i j, c i j = true → C i j) (h : ∀ i j F, Rep R F (g' i j) (g i j)) : RS R (r2L (rI C g)) (f2 (gI g' c)) := rs2 fun F H x y lx ly z Q l r1 r2 e k => by
  cases r1 with
  | dat r1 =>
    cases r1 with
    | int i =>
      cases r2 with
      | dat r2 =>
        cases r2 with
        | int j =>
          unfold gI at e
          simp only at e
          split at e
          · rename_i hh
            cases e
            exact ⟨i, j, rfl, rfl, hc i j hh, kdat l k rfl (h i j F)⟩
          · cases e
        | _ => cases e
      | _ => cases e
    | _ => cases e
  | _ => cases e
theorem rs_I0 {g : Int → Int → V} {g' : Int → Int → D} (h : ∀ i j F, Rep R F (g' i j) (g i j)) : RS R (r2L (rI0 g)) (f2 (gI g' cT)) := rs2 fun F H x y lx ly z Q l r1 r2 e k => by
  cases r1 with
  | dat r1 =>
    cases r1 with
    | int i =>
      cases r2 with
      | dat r2 =>
        cases r2 with
        | int j => cases e; exact ⟨i, j, rfl, rfl, kdat l k rfl (h i j F)⟩
        | _ => cases e
      | _ => cases e
    | _ => cases e
  | _ => cases e
def fAddI := f2 (gI (fun i j => .int (i + j)) cT)
def fSubI := f2 (gI (fun i j => .int (i - j)) cT)
def cMulB (i j : Int) : Bool := decide (-(2 ^ 64) < i ∧ i < 2 ^ 64) || decide (-(2 ^ 64) < j ∧ j < 2 ^ 64) || decide (i.natAbs.log2 + j.natAbs.log2 < 1000000)
def fMulI := f2 (gI (fun i j => .int (i * j)) cMulB)
def fModI := f2 (gI (fun i j => .int (i.fmod j)) fun _ j => decide (j ≠ 0))
def cDivB (_ j : Int) : Bool := decide (0 < j ∧ j.natAbs.log2 < 9000) 
def fDivI := f2 (gI (fun i j => .int (i.fdiv j)) fun i j => cDivB i j || decide (j ≠ 0 ∧ j.natAbs < 1073741824))
def fPowI := f2 (gI (fun i j => .int (i ^ j.toNat)) fun i j => decide (0 ≤ j ∧ j ≤ 1000000 ∧ i.natAbs < 2 ^ 64))
theorem OpJ.mk {op : Value → Value → Sem Value} {r : R2} {f : List LV → Option LV} (h : OpR X op r) (k : RS R (r2L r) f) : OpJ X R op f := ⟨r, h, k⟩
theorem jAddI : OpJ X R (binaryOp .Add) fAddI := .mk op_add (rs_I0 fun _ _ _ => .int _)
theorem jSubI : OpJ X R (binaryOp .Sub) fSubI := .mk op_sub (rs_I0 fun _ _ _ => .int _)
theorem op_mulB : OpR X (binaryOp .Mult) (rI (fun i j => cMulB i j = true) fun i j => .int (i * j)) := by
  intro pins s σ H x y v u Q I rx ry h
  obtain ⟨i, j, hx, hy, hc, q⟩ := h
  unfold cMulB at hc
  simp only [Bool.or_eq_true, decide_eq_true_eq] at hc
  rcases hc with (hc | hc) | hc
  · exact op_mul pins s σ H x y v u Q I rx ry ⟨i, j, hx, hy, .inl hc, q⟩
  · exact op_mul pins s σ H x y v u Q I rx ry ⟨i, j, hx, hy, .inr hc, q⟩
  · exact op_mulW pins s σ H x y v u Q I rx ry ⟨i, j, hx, hy, hc, q⟩
theorem jMulI : OpJ X R (binaryOp .Mult) fMulI := .mk op_mulB (rs_I (fun _ _ h => h) fun _ _ _ => .int _)
theorem jModI : OpJ X R (binaryOp .Mod) fModI := .mk op_modN (rs_I (fun _ _ h => of_decide_eq_true h) fun _ _ _ => .int _)
theorem op_divB : OpR X (binaryOp .FloorDiv) (rI (fun i j => (cDivB i j || decide (j ≠ 0 ∧ j.natAbs < 1073741824)) = true) fun i j => .int (i.fdiv j)) := by
  intro pins s σ H x y v u Q I rx ry h
  obtain ⟨i, j, hx, hy, hc, q⟩ := h
  rw [Bool.or_eq_true] at hc
  rcases hc with hc | hc
  · have hc' := of_decide_eq_true hc
    exact op_fdivW pins s σ H x y v u Q I rx ry ⟨i, j, hx, hy, hc', by show Q (V.int (i / j)) H; rw [← Int.fdiv_eq_ediv_of_nonneg i (by omega)]; exact q⟩
  · exact op_fdivN pins s σ H x y v u Q I rx ry ⟨i, j, hx, hy, (by have h' := of_decide_eq_true hc; exact h'), q⟩
theorem jDivI : OpJ X R (binaryOp .FloorDiv) fDivI := .mk op_divB (rs_I (fun _ _ h => h) fun _ _ _ => .int _)
theorem jPowI : OpJ X R (binaryOp .Pow) fPowI := .mk op_pow (rs_I (fun _ _ h => (by have h' := of_decide_eq_true h; exact h')) fun _ _ _ => .int _)
def fLtI := f2 (gI (fun i j => .bl (decide (i < j))) cT)
def fLeI := f2 (gI (fun i j => .bl (decide (i ≤ j))) cT)
def fGtI := f2 (gI (fun i j => .bl (decide (j < i))) cT)
def fGeI := f2 (gI (fun i j => .bl (decide (j ≤ i))) cT)
theorem jLtI : OpJ X R (compareOp .Lt) fLtI := .mk op_lt (rs_I0 fun _ _ _ => .bl _)
theorem jLeI : OpJ X R (compareOp .LtE) fLeI := .mk op_le (rs_I0 fun _ _ _ => .bl _)
theorem jGtI : OpJ X R (compareOp .Gt) fGtI := .mk op_gt (rs_I0 fun _ _ _ => .bl _)
theorem jGeI : OpJ X R (compareOp .GtE) fGeI := .mk op_ge (rs_I0 fun _ _ _ => .bl _)
/-- for chains -/
theorem rb_I0 {g : Int → Int → Bool} : RB R (rI0 fun i j => .bl (g i j)) (f2 (gI (fun i j => .bl (g i j)) cT)) := fun F H x y lx ly k Q l r1 r2 e q => by
  cases r1 with
  | dat r1 =>
    cases r1 with
    | int i =>
      cases r2 with
      | dat r2 =>
        cases r2 with
        | int j => cases e; exact ⟨i, j, rfl, rfl, q⟩
        | _ => cases e
      | _ => cases e
    | _ => cases e
  | _ => cases e
theorem cLtI : CmJ X R .Lt fLtI := ⟨_, op_lt, rb_I0⟩
theorem cLeI : CmJ X R .LtE fLeI := ⟨_, op_le, rb_I0⟩
theorem cGtI : CmJ X R .Gt fGtI := ⟨_, op_gt, rb_I0⟩
theorem cGeI : CmJ X R .GtE fGeI := ⟨_, op_ge, rb_I0⟩
def fNegI := f1 fun x => match x with
  | .dat (.int i) => some (.dat (.int (-i)))
  | _ => none
theorem jNegI : UnJ X R (unaryOp .USub) fNegI := ⟨_, un_neg, rs1 fun F H x lx z Q l r1 e k => by
  cases r1 with
  | dat r1 =>
    cases r1 with
    | int i => cases e; exact ⟨i, rfl, kdat l k rfl (.int _)⟩
    | _ => cases e
  | _ => cases e⟩

/-! ### texts, lists, tuples joined -/
def gAddS : LV → LV → Option LV
  | .dat (.str x), .dat (.str y) => if x.length + y.length ≤ sizeLine then some (.dat (.str (x ++ y))) else none
  | _, _ => none
def fAddS := f2 gAddS
theorem jAddS : OpJ X R (binaryOp .Add) fAddS := .mk op_add_str (rs2 fun F H x y lx ly z Q l r1 r2 e k => by
  cases r1 with
  | dat r1 =>
    cases r1 with
    | str a =>
      cases r2 with
      | dat r2 =>
        cases r2 with
        | str b =>
          unfold gAddS at e
          simp only at e
          split at e
          · cases e; exact ⟨a, b, rfl, rfl, by assumption, kdat l k rfl (.str _)⟩
          · cases e
        | _ => cases e
      | _ => cases e
    | _ => cases e
  | _ => cases e)
def LV.items : LV → Option (List D)
  | .dat (.lst ds) => some ds
  | .ml ds => some ds
  | _ => none
theorem LRel.items {lv : LV} {v : V} {ds : List D} (l : Le F H) (r : LRel R F H lv v) (e : lv.items = some ds) : ∃ a vs, v = .ref a ∧ H a = some (.lst vs) ∧ RepL R F ds vs := by
  cases r with
  | dat r =>
    cases r with
    | lst h rs => cases e; exact ⟨_, _, rfl, l.lstE h, rs⟩
    | _ => cases e
  | ml f h rs => cases e; exact ⟨_, _, rfl, h, rs⟩
  | _ => cases e
def gAddL : LV → LV → Option LV := fun a b => match a.items, b.items with
  | some ds, some es => if ds.length + es.length ≤ sizeLine then some (.ml (ds ++ es)) else none
  | _, _ => none
def fAddL := f2 gAddL
theorem jAddL : OpJ X R (binaryOp .Add) fAddL := .mk op_cat (rs2 fun F H x y lx ly z Q l r1 r2 e k => by
  unfold gAddL at e
  cases e1 : lx.items with
  | none => simp [e1] at e
  | some ds =>
    cases e2 : ly.items with
    | none => simp [e1, e2] at e
    | some es =>
      simp only [e1, e2] at e
      split at e
      · rename_i hz
        cases e
        obtain ⟨a, vs, rfl, ha, ra⟩ := r1.items l e1
        obtain ⟨b, us, rfl, hb, rb⟩ := r2.items l e2
        exact ⟨a, b, vs, us, rfl, rfl, ha, hb, by rw [← ra.length, ← rb.length]; exact hz, fun p hp => klst l k (ra.append rb) hp⟩
      · cases e)
def gAddT : LV → LV → Option LV
  | .dat (.tup ds), .dat (.tup es) => if ds.length + es.length ≤ sizeLine then some (.dat (.tup (ds ++ es))) else none
  | _, _ => none
def fAddT := f2 gAddT
theorem RepL.nil_l {ds : List D} (r : RepL R F ds []) : ds = [] := by cases r; rfl
theorem jAddT (hK : R.K = X.K) : OpJ X R (binaryOp .Add) fAddT := .mk op_catA (rs2 fun F H x y lx ly z Q l r1 r2 e k => by
  cases r1 with
  | dat r1 =>
    cases r1 with
    | tup h1 ra =>
      cases r2 with
      | dat r2 =>
        cases r2 with
        | tup h2 rb =>
          unfold gAddT at e
          simp only at e
          split at e
          · rename_i hz
            cases e
            refine ⟨_, _, _, _, rfl, rfl, .inl (.inl (l.tupE h1)), .inl (.inl (l.tupE h2)), by rw [← ra.length, ← rb.length]; exact hz, fun e0 => ?_, fun n0 e0 => ?_, fun n0 n1 p hp => ?_⟩
            · subst e0
              have := ra.nil_l; subst this
              exact kdat l k (by simp) (.tup h2 rb)
            · subst e0
              have := rb.nil_l; subst this
              exact kdat l k (by simp) (.tup h1 ra)
            · exact ktup l k (ra.append rb) hp
          · cases e
        | _ => cases e
      | _ => cases e
    | _ => cases e
  | _ => cases e)
def gRepL : LV → LV → Option LV := fun a b => match a.items, b with
  | some ds, .dat (.int k) => if -(2 ^ 63) ≤ k ∧ k < 2 ^ 63 ∧ ds.length * k.toNat ≤ sizeLine then some (.ml (List.replicate k.toNat ds).flatten) else none
  | _, _ => none
def fRepL := f2 gRepL
theorem RepL.rep {ds : List D} {vs : List V} (r : RepL R F ds vs) : ∀ n : Nat, RepL R F (List.replicate n ds).flatten (List.replicate n vs).flatten
  | 0 => .nil
  | n + 1 => by rw [List.replicate_succ, List.replicate_succ, List.flatten_cons, List.flatten_cons]; exact r.append (r.rep n)
theorem jRepL : OpJ X R (binaryOp .Mult) fRepL := .mk op_rep (rs2 fun F H x y lx ly z Q l r1 r2 e k => by
  unfold gRepL at e
  cases e1 : lx.items with
  | none => simp [e1] at e
  | some ds =>
    simp only [e1] at e
    cases r2 with
    | dat r2 =>
      cases r2 with
      | int n =>
        simp only at e
        split at e
        · rename_i hz
          cases e
          obtain ⟨a, vs, rfl, ha, ra⟩ := r1.items l e1
          refine ⟨a, n, vs, rfl, rfl, ha, hz.1, hz.2.1, by rw [← ra.length]; exact hz.2.2, fun p hp => ?_⟩
          exact klst l k (ra.rep _) hp
        · cases e
      | _ => cases e
    | _ => cases e)

/-! ### data as the model's data: equality, membership -/
mutual
def D.py : D → Option PyData
  | .non => some .none
  | .bl b => some (.bool b)
  | .int i => some (.int i)
  | .str x => some (.str x)
  | .tup ds => match D.pys ds with
    | some ps => some (.tuple ps)
    | none => none
  | .lst ds => match D.pys ds with
    | some ps => some (.list ps)
    | none => none
  | _ => none
def D.pys : List D → Option (List PyData)
  | [] => some []
  | d :: ds => match D.py d, D.pys ds with
    | some p, some ps => some (p :: ps)
    | _, _ => none
end
def LV.py : LV → Option PyData
  | .dat d => d.py
  | .ml ds => match D.pys ds with
    | some ps => some (.list ps)
    | none => none
  | _ => none
mutual
theorem Rep.dp (l : Le F H) : ∀ {d : D} {v : V} {p : PyData}, Rep R F d v → d.py = some p → Dp R.K H v p
  | _, _, p, .non, e => by simp only [D.py, Option.some.injEq] at e; subst e; exact .non
  | _, _, p, .bl b, e => by simp only [D.py, Option.some.injEq] at e; subst e; exact .bl b
  | _, _, p, .int i, e => by simp only [D.py, Option.some.injEq] at e; subst e; exact .int i
  | _, _, p, .str x, e => by simp only [D.py, Option.some.injEq] at e; subst e; exact .str x
  | .tup ds, _, p, .tup h r, e => by
    unfold D.py at e
    cases e1 : D.pys ds with
    | none => rw [e1] at e; cases e
    | some ps => rw [e1] at e; cases e; exact .tup (.inl (.inl (l.tupE h))) (RepL.dp l r e1)
  | .lst ds, _, p, .lst h r, e => by
    unfold D.py at e
    cases e1 : D.pys ds with
    | none => rw [e1] at e; cases e
    | some ps => rw [e1] at e; cases e; exact .lst (.inl (.inl (l.lstE h))) (RepL.dp l r e1)
  | _, _, p, .slst _ _, e => by simp [D.py] at e
  | _, _, p, .dic _ _ _, e => by simp [D.py] at e
  | _, _, p, .dit _ _ _, e => by simp [D.py] at e
  | _, _, p, .ins _ _ _, e => by simp [D.py] at e
  | _, _, p, .cst _, e => by simp [D.py] at e
  | _, _, p, .opq, e => by simp [D.py] at e
theorem RepL.dp (l : Le F H) : ∀ {ds : List D} {vs : List V} {ps : List PyData}, RepL R F ds vs → D.pys ds = some ps → DpAll R.K H vs ps
  | _, _, ps, .nil, e => by simp only [D.pys, Option.some.injEq] at e; subst e; exact .nil
  | d :: ds, _, ps, .cons h r, e => by
    unfold D.pys at e
    cases e1 : D.py d with
    | none => simp [e1] at e
    | some p =>
      cases e2 : D.pys ds with
      | none => simp [e1, e2] at e
      | some ps' => simp only [e1, e2, Option.some.injEq] at e; subst e; exact .cons (Rep.dp l h e1) (RepL.dp l r e2)
end
theorem LRel.dp {lv : LV} {v : V} {p : PyData} (l : Le F H) (r : LRel R F H lv v) (e : lv.py = some p) : Dp R.K H v p := by
  cases r with
  | dat r => exact r.dp l e
  | @ml a ds vs f h r =>
    unfold LV.py at e
    simp only at e
    cases e1 : D.pys ds with
    | none => rw [e1] at e; cases e
    | some ps => rw [e1] at e; cases e; exact .lst (.inl (.inl h)) (r.dp l e1)
  | _ => cases e
def gEqD (neg : Bool) : LV → LV → Option LV := fun a b => match a.py, b.py with
  | some p, some q => if SeqAt.shaped p && SeqAt.shaped q then some (.dat (.bl (if neg then !PyData.eqv p q else PyData.eqv p q))) else none
  | _, _ => none
def fEqD := f2 (gEqD false)
def fNeD := f2 (gEqD true)
theorem jEqD (hK : R.K = X.K) (hu : X.A.units + 64 < cLine) : OpJ X R (compareOp .Eq) fEqD := .mk (op_eqD hu) (rs2 fun F H x y lx ly z Q l r1 r2 e k => by
  unfold gEqD at e
  cases e1 : lx.py with
  | none => simp [e1] at e
  | some p =>
    cases e2 : ly.py with
    | none => simp [e1, e2] at e
    | some q =>
      simp only [e1, e2] at e
      split at e
      · rename_i hs
        rw [Bool.and_eq_true] at hs
        cases e
        exact ⟨p, q, by rw [← hK]; exact r1.dp l e1, by rw [← hK]; exact r2.dp l e2, hs.1, hs.2, kdat l k rfl (.bl _)⟩
      · cases e)
theorem jNeD (hK : R.K = X.K) (hu : X.A.units + 64 < cLine) : OpJ X R (compareOp .NotEq) fNeD := .mk (op_neD hu) (rs2 fun F H x y lx ly z Q l r1 r2 e k => by
  unfold gEqD at e
  cases e1 : lx.py with
  | none => simp [e1] at e
  | some p =>
    cases e2 : ly.py with
    | none => simp [e1, e2] at e
    | some q =>
      simp only [e1, e2] at e
      split at e
      · rename_i hs
        rw [Bool.and_eq_true] at hs
        cases e
        exact ⟨p, q, by rw [← hK]; exact r1.dp l e1, by rw [← hK]; exact r2.dp l e2, hs.1, hs.2, kdat l k rfl (.bl _)⟩
      · cases e)
def gInD (neg : Bool) : LV → LV → Option LV := fun a b => match a.py, b.py with
  | some p, some (.list qs) => if SeqAt.shaped p && SeqAt.shaped (.list qs) then some (.dat (.bl (if neg then !qs.any fun z => PyData.eqv z p else qs.any fun z => PyData.eqv z p))) else none
  | _, _ => none
def fInD := f2 (gInD false)
def fNiD := f2 (gInD true)
theorem gInD_inv {neg : Bool} {lx ly z : LV} (e : gInD neg lx ly = some z) : ∃ p qs, lx.py = some p ∧ ly.py = some (.list qs) ∧ SeqAt.shaped p = true ∧ SeqAt.shaped (.list qs) = true ∧ z = .dat (.bl (if neg then !qs.any fun z => PyData.eqv z p else qs.any fun z => PyData.eqv z p)) := by
  unfold gInD at e
  split at e
  · rename_i p qs h1 h2
    split at e
    · rename_i hs
      rw [Bool.and_eq_true] at hs
      cases e
      exact ⟨p, qs, h1, h2, hs.1, hs.2, rfl⟩
    · cases e
  · cases e
theorem jInD (hK : R.K = X.K) (hu : X.A.units + 65 < cLine) : OpJ X R (compareOp .In) fInD := .mk (op_inD hu) (rs2 fun F H x y lx ly z Q l r1 r2 e k => by
  obtain ⟨p, qs, h1, h2, h3, h4, rfl⟩ := gInD_inv e
  exact ⟨p, qs, by rw [← hK]; exact r1.dp l h1, by rw [← hK]; exact r2.dp l h2, h3, h4, kdat l k rfl (.bl _)⟩)
theorem jNiD (hK : R.K = X.K) (hu : X.A.units + 65 < cLine) : OpJ X R (compareOp .NotIn) fNiD := .mk (op_notInD hu) (rs2 fun F H x y lx ly z Q l r1 r2 e k => by
  obtain ⟨p, qs, h1, h2, h3, h4, rfl⟩ := gInD_inv e
  exact ⟨p, qs, by rw [← hK]; exact r1.dp l h1, by rw [← hK]; exact r2.dp l h2, h3, h4, kdat l k rfl (.bl _)⟩)
/-- a text in a text -/
def subIn (x y : Str) : Bool := !(Builtin.Str.occurrences y x 0 y.length 1).isEmpty
def gInS (neg : Bool) : LV → LV → Option LV
  | .dat (.str x), .dat (.str y) => some (.dat (.bl (if neg then !subIn x y else subIn x y)))
  | _, _ => none
def fInS := f2 (gInS false)
def fNiS := f2 (gInS true)
theorem jInS : OpJ X R (compareOp .In) fInS := .mk op_in_str (rs2 fun F H x y lx ly z Q l r1 r2 e k => by
  cases r1 with
  | dat r1 =>
    cases r1 with
    | str a =>
      cases r2 with
      | dat r2 =>
        cases r2 with
        | str b => cases e; exact ⟨a, b, rfl, rfl, kdat l k rfl (.bl _)⟩
        | _ => cases e
      | _ => cases e
    | _ => cases e
  | _ => cases e)
theorem jNiS : OpJ X R (compareOp .NotIn) fNiS := .mk op_notin_str (rs2 fun F H x y lx ly z Q l r1 r2 e k => by
  cases r1 with
  | dat r1 =>
    cases r1 with
    | str a =>
      cases r2 with
      | dat r2 =>
        cases r2 with
        | str b => cases e; exact ⟨a, b, rfl, rfl, kdat l k rfl (.bl _)⟩
        | _ => cases e
      | _ => cases e
    | _ => cases e
  | _ => cases e)
/-- is None, is not None; is of bools -/
def LV.isNon : LV → Option Bool
  | .dat .non => some true
  | .dat (.cst _) => none
  | .dat .opq => some false
  | .un => none
  | _ => some false
def gIsN (neg : Bool) : LV → LV → Option LV := fun a b => match b with
  | .dat .non => match a.isNon with
    | some k => some (.dat (.bl (if neg then !k else k)))
    | none => none
  | _ => none
def fIsN := f2 (gIsN false)
def fNtN := f2 (gIsN true)
theorem LRel.isNon {lv : LV} {v : V} {k : Bool} (r : LRel R F H lv v) (e : lv.isNon = some k) : decide (v = .non) = k := by
  cases r with
  | dat r => cases r <;> cases e <;> simp
  | _ => cases e <;> simp
theorem gIsN_inv {neg : Bool} {lx ly z : LV} (e : gIsN neg lx ly = some z) : ∃ k, lx.isNon = some k ∧ ly = .dat .non ∧ z = .dat (.bl (if neg then !k else k)) := by
  unfold gIsN at e
  split at e
  · cases e1 : lx.isNon with
    | none => simp [e1] at e
    | some k => simp only [e1, Option.some.injEq] at e; exact ⟨k, rfl, rfl, e.symm⟩
  · cases e
theorem jIsN : OpJ X R (compareOp .Is) fIsN := .mk op_isN (rs2 fun F H x y lx ly z Q l r1 r2 e k => by
  obtain ⟨b, h1, rfl, rfl⟩ := gIsN_inv e
  cases r2 with
  | dat r2 => cases r2; exact ⟨rfl, by rw [r1.isNon h1]; exact kdat l k rfl (.bl _)⟩)
theorem jNtN : OpJ X R (compareOp .IsNot) fNtN := .mk op_notN (rs2 fun F H x y lx ly z Q l r1 r2 e k => by
  obtain ⟨b, h1, rfl, rfl⟩ := gIsN_inv e
  cases r2 with
  | dat r2 => cases r2; exact ⟨rfl, by rw [r1.isNon h1]; exact kdat l k rfl (.bl _)⟩)
def gIsB (neg : Bool) : LV → LV → Option LV
  | .dat (.bl a), .dat (.bl b) => some (.dat (.bl (if neg then !decide (a = b) else decide (a = b))))
  | _, _ => none
def fIsB := f2 (gIsB false)
def fNtB := f2 (gIsB true)
theorem jIsB : OpJ X R (compareOp .Is) fIsB := .mk op_isBl (rs2 fun F H x y lx ly z Q l r1 r2 e k => by
  cases r1 with
  | dat r1 =>
    cases r1 with
    | bl a =>
      cases r2 with
      | dat r2 =>
        cases r2 with
        | bl b => cases e; exact ⟨a, b, rfl, rfl, kdat l k rfl (.bl _)⟩
        | _ => cases e
      | _ => cases e
    | _ => cases e
  | _ => cases e)
theorem jNtB : OpJ X R (compareOp .IsNot) fNtB := .mk op_notBl (rs2 fun F H x y lx ly z Q l r1 r2 e k => by
  cases r1 with
  | dat r1 =>
    cases r1 with
    | bl a =>
      cases r2 with
      | dat r2 =>
        cases r2 with
        | bl b => cases e; exact ⟨a, b, rfl, rfl, kdat l k rfl (.bl _)⟩
        | _ => cases e
      | _ => cases e
    | _ => cases e
  | _ => cases e)

/-! ### displays -/
end
section
variable {X : Cx} {R : RE} {W : WX} {pos : Pos} {e a b c : Expr} {es : List Expr} {m ma mb : OM} {ms : AM}
/-- every item is data -/
def LV.datum : LV → Option D
  | .dat d => some d
  | _ => none
def data : List LV → Option (List D)
  | [] => some []
  | lv :: r => match lv.datum, data r with
    | some d, some ds => some (d :: ds)
    | _, _ => none
theorem LRelL.data {F H : Hp} : ∀ {lvs : List LV} {vs : List V} {ds : List D}, LRelL R F H lvs vs → data lvs = some ds → RepL R F ds vs
  | [], [], ds, .nil, e => by cases e; exact .nil
  | lv :: r, v :: vs, ds, .cons h t, e => by
    unfold PL.data at e
    cases e1 : lv.datum with
    | none => simp [e1] at e
    | some d =>
      cases e2 : PL.data r with
      | none => simp [e1, e2] at e
      | some ds' =>
        simp only [e1, e2, Option.some.injEq] at e
        subst e
        cases h with
        | dat h => cases e1; exact .cons h (LRelL.data t e2)
        | _ => cases e1
def fLst : List LV → Option LV := fun l => match data l with
  | some ds => if ds.length ≤ sizeLine then some (.ml ds) else none
  | none => none
def fTup : List LV → Option LV := fun l => match data l with
  | some ds => if ds.length ≤ sizeLine then some (.dat (.tup ds)) else none
  | none => none
theorem oj_lst (h : AJ X R W es ms) : OJ X R W (.List es pos) (oOp ms fLst) := by
  obtain ⟨t, h1, h2⟩ := h
  refine ⟨_, pe_lst h1, os_op (rr := fun xs H Q => xs.length ≤ sizeLine ∧ ∀ p, H p = none → Q (.ref p) (upd H p (.lst xs))) h2 fun F H vs lvs z Q l rl e k => ?_⟩
  unfold fLst at e
  cases e1 : data lvs with
  | none => rw [e1] at e; cases e
  | some ds =>
    simp only [e1] at e
    split at e
    · cases e
      have r := rl.data e1
      exact ⟨by rw [← r.length]; assumption, fun p hp => klst l k r hp⟩
    · cases e
theorem oj_tup {x1} (h : AJ X R W es ms) : OJ X R W (.Tuple es x1 pos) (oOp ms fTup) := by
  obtain ⟨t, h1, h2⟩ := h
  refine ⟨_, pe_tup h1, os_op (rr := fun xs H Q => xs.length ≤ sizeLine ∧ ∀ p, H p = none → Q (.ref p) (upd H p (.tup xs))) h2 fun F H vs lvs z Q l rl e k => ?_⟩
  unfold fTup at e
  cases e1 : data lvs with
  | none => rw [e1] at e; cases e
  | some ds =>
    simp only [e1] at e
    split at e
    · cases e
      have r := rl.data e1
      exact ⟨by rw [← r.length]; assumption, fun p hp => ktup l k r hp⟩
    · cases e

/-! ### items, slices -/
def IxJ (X : Cx) (R : RE) (f : List LV → Option LV) : Prop := ∃ r, IxR X r ∧ RS R (r2L r) f
theorem IxJ.or {f g : List LV → Option LV} (h1 : IxJ X R f) (h2 : IxJ X R g) : IxJ X R (fOr f g) := by
  obtain ⟨r, a1, a2⟩ := h1
  obtain ⟨s, b1, b2⟩ := h2
  refine ⟨_, a1.or b1, (RS.or a2 b2).imp fun vs H Q q => ?_⟩
  match vs, q with
  | [x, y], q => exact q
  | [], q => exact q.elim id id
  | [x], q => exact q.elim id id
  | x :: y :: z :: r, q => exact q.elim id id
theorem oj_ix {f : List LV → Option LV} (h : IxJ X R f) (ha : OJ X R W a ma) (hb : OJ X R W b mb) (hs : PlainIx b) : OJ X R W (.Subscript a b pos) (o2 ma mb f) :=
  let ⟨r, h1, h2⟩ := h; let ⟨ta, a1, a2⟩ := ha; let ⟨tb, b1, b2⟩ := hb; ⟨tOp r ta tb, pe_ix h1 a1 b1 hs, os_op2 a2 b2 h2⟩
theorem RepL.atI {F : Hp} {ds : List D} {vs : List V} {i : Int} {d : D} (r : RepL R F ds vs) (e : L2.atI ds i = some d) : ∃ v, L2.atI vs i = some v ∧ Rep R F d v := by
  unfold L2.atI at e ⊢
  rw [← r.length]
  cases e1 : ixN ds.length i with
  | none => rw [e1] at e; cases e
  | some j =>
    rw [e1] at e
    exact r.get e
def gIxL : LV → LV → Option LV := fun a b => match a.items, b with
  | some ds, .dat (.int i) => (L2.atI ds i).map .dat
  | _, _ => none
def fIxL := f2 gIxL
theorem jIxL (hK : R.K = X.K) : IxJ X R fIxL := ⟨_, ix_list, rs2 fun F H x y lx ly z Q l r1 r2 e k => by
  unfold gIxL at e
  cases e1 : lx.items with
  | none => simp [e1] at e
  | some ds =>
    simp only [e1] at e
    cases r2 with
    | dat r2 =>
      cases r2 with
      | int i =>
        simp only at e
        cases e2 : L2.atI ds i with
        | none => rw [e2] at e; cases e
        | some d =>
          rw [e2] at e
          cases e
          obtain ⟨p, vs, rfl, hp, rp⟩ := r1.items l e1
          obtain ⟨v, q1, q2⟩ := rp.atI e2
          exact ⟨p, vs, i, v, rfl, rfl, .inl (.inl hp), q1, kdat l k rfl q2⟩
      | _ => cases e
    | _ => cases e⟩
def gIxT : LV → LV → Option LV
  | .dat (.tup ds), .dat (.int i) => (L2.atI ds i).map .dat
  | _, _ => none
def fIxT := f2 gIxT
theorem jIxT : IxJ X R fIxT := ⟨_, ix_tup, rs2 fun F H x y lx ly z Q l r1 r2 e k => by
  cases r1 with
  | dat r1 =>
    cases r1 with
    | @tup p ds vs hp rp =>
      cases r2 with
      | dat r2 =>
        cases r2 with
        | int i =>
          unfold gIxT at e
          simp only at e
          cases e2 : L2.atI ds i with
          | none => rw [e2] at e; cases e
          | some d =>
            rw [e2] at e
            cases e
            obtain ⟨v, q1, q2⟩ := rp.atI e2
            exact ⟨p, vs, i, v, rfl, rfl, .inl (.inl (l.tupE hp)), q1, kdat l k rfl q2⟩
        | _ => cases e
      | _ => cases e
    | _ => cases e
  | _ => cases e⟩
def gIxS : LV → LV → Option LV
  | .dat (.str x), .dat (.int i) => if x.length ≤ sizeLine then (L2.atI x.cps.toList i).map fun c => .dat (.str ⟨#[c]⟩) else none
  | _, _ => none
def fIxS := f2 gIxS
theorem jIxS : IxJ X R fIxS := ⟨_, ix_str, rs2 fun F H x y lx ly z Q l r1 r2 e k => by
  cases r1 with
  | dat r1 =>
    cases r1 with
    | str t =>
      cases r2 with
      | dat r2 =>
        cases r2 with
        | int i =>
          unfold gIxS at e
          simp only at e
          split at e
          · cases e2 : L2.atI t.cps.toList i with
            | none => rw [e2] at e; cases e
            | some c =>
              rw [e2] at e
              cases e
              exact ⟨t, i, c, rfl, rfl, by assumption, e2, kdat l k rfl (.str _)⟩
          · cases e
        | _ => cases e
      | _ => cases e
    | _ => cases e
  | _ => cases e⟩

/-! ### built-ins called by name -/
theorem CallJ.mk {fv : Value} {r : List V → Hp → VK → Prop} {f : List LV → Option LV} (h : CallR X fv r) (k : RS R r f) : CallJ X R fv f := ⟨r, h, k⟩
def gLen : LV → Option LV
  | .dat (.str x) => if x.length ≤ sizeLine then some (.dat (.int x.length)) else none
  | .dat (.lst ds) => some (.dat (.int ds.length))
  | .dat (.tup ds) => some (.dat (.int ds.length))
  | .ml ds => some (.dat (.int ds.length))
  | _ => none
def fLen := f1 gLen
theorem jLen : CallJ X R (.builtin "len") fLen := .mk call_len (rsc1 fun F H x lx z Q l r1 e k => by
  cases r1 with
  | dat r1 =>
    cases r1 with
    | str t =>
      unfold gLen at e
      simp only at e
      split at e
      · cases e; exact ⟨_, _, rfl, ⟨by assumption, rfl⟩, kdat l k rfl (.int _)⟩
      · cases e
    | lst h rs => cases e; exact ⟨_, _, rfl, .inl ⟨_, .inl (.inl (l.lstE h)), rs.length⟩, kdat l k rfl (.int _)⟩
    | tup h rs => cases e; exact ⟨_, _, rfl, .inr ⟨_, .inl (.inl (l.tupE h)), rs.length⟩, kdat l k rfl (.int _)⟩
    | _ => cases e
  | ml f h rs => cases e; exact ⟨_, _, rfl, .inl ⟨_, .inl (.inl h), rs.length⟩, kdat l k rfl (.int _)⟩
  | _ => cases e)
def gInt : LV → Option LV
  | .dat (.int i) => some (.dat (.int i))
  | .dat (.bl b) => some (.dat (.int (if b then 1 else 0)))
  | _ => none
def fInt := f1 gInt
theorem jInt : CallJ X R (.type "int") fInt := .mk call_int1 (rsc1 fun F H x lx z Q l r1 e k => by
  cases r1 with
  | dat r1 =>
    cases r1 with
    | int i => cases e; exact .inl ⟨i, rfl, kdat l k rfl (.int _)⟩
    | bl b => cases e; exact .inr ⟨b, rfl, kdat l k rfl (.int _)⟩
    | _ => cases e
  | _ => cases e)
def gAbs : LV → Option LV
  | .dat (.int i) => some (.dat (.int (if i < 0 then -i else i)))
  | _ => none
def fAbs := f1 gAbs
theorem jAbs : CallJ X R (.builtin "abs") fAbs := .mk call_abs (rsc1 fun F H x lx z Q l r1 e k => by
  cases r1 with
  | dat r1 =>
    cases r1 with
    | int i => cases e; exact ⟨i, rfl, kdat l k rfl (.int _)⟩
    | _ => cases e
  | _ => cases e)
end
end PL
set_option maxRecDepth 100000
set_option maxHeartbeats 4000000
/-! Slices, comprehensions, what is walked. -/
namespace PL
open PySem L2 PyProof.Rows

/-! ### one reading for each meaning -/
def tM (R : RE) (W : WX) (m : OM) : TE := fun σ H Q => ∃ F env, ER R F H σ env ∧ Le F H ∧ OPost R W (Own env σ) σ F H (m env) Q
def tT (R : RE) (W : WX) (m : TM) : TT := fun σ H Q => ∃ F env, ER R F H σ env ∧ Le F H ∧ TPost R W (Own env σ) σ F H (m env) Q
def tG (R : RE) (P : List Nat) (g : GM) : TG := fun v σ H Q => ∃ F env d env', ER R F H σ env ∧ Le F H ∧ Rep R F d v ∧ g d env = some env' ∧ ∀ σ', ER R F H σ' env' → (∀ x, Own env' σ' x → Own env σ x) → Fix P σ σ' → Q σ' H
def tI (R : RE) (W : WX) (m : IM) : TI := fun σ H Q => ∃ F env, ER R F H σ env ∧ Le F H ∧ IPost R W (Own env σ) σ F H (m env) Q
section
variable {X : Cx} {R : RE} {W : WX} {P : List Nat} {pos : Pos} {e a b c : Expr} {es : List Expr} {m ma mb : OM} {ms : AM}
theorem OJ.uni (h : OJ X R W e m) : PE X e (tM R W m) := by
  obtain ⟨t, h1, h2⟩ := h
  exact ⟨fun pins s σ H Q I ⟨F, env, er, l, p⟩ => h1.run pins s σ H Q I (h2 σ F H env Q er l p)⟩
theorem os_uni : OS R W (tM R W m) m := fun σ F H env Q er l p => ⟨F, env, er, l, p⟩
theorem TJ.uni {m : TM} (h : TJ X R W e m) : PT X e (tT R W m) := by
  obtain ⟨t, h1, h2⟩ := h
  exact ⟨fun pins s σ H Q I ⟨F, env, er, l, p⟩ => h1.run pins s σ H Q I (h2 σ F H env Q er l p)⟩
theorem ts_uni {m : TM} : TSd R W (tT R W m) m := fun σ F H env Q er l p => ⟨F, env, er, l, p⟩
theorem GJ.uni {g : GM} (h : GJ X R P e g) : PG X e (tG R P g) := by
  obtain ⟨t, h1, h2⟩ := h
  exact ⟨fun pins s σ H v u Q I r ⟨F, env, d, env', er, l, rp, q1, q2⟩ => h1.run pins s σ H v u Q I r (h2 σ F H env v d env' Q er l rp q1 q2)⟩
theorem gs_uni {g : GM} : GSd R P (tG R P g) g := fun σ F H env v d env' Q er l rp q1 q2 => ⟨F, env, d, env', er, l, rp, q1, q2⟩
theorem IJ.uni {tg : Expr} {m : IM} (h : IJ X R W tg e m) : PI X tg e (tI R W m) := by
  obtain ⟨t, h1, h2⟩ := h
  exact ⟨fun pins s σ H Q I ⟨F, env, er, l, p⟩ => h1.run pins s σ H Q I (h2 σ F H env Q er l p)⟩
theorem is_uni {m : IM} : ISd R W (tI R W m) m := fun σ F H env Q er l p => ⟨F, env, er, l, p⟩

/-! ### slices -/
inductive PR where
  | val (o : Option Int) (env : LEnv)
  | exc (x : Xc) (env : LEnv)
  | bad
abbrev PM := LEnv → PR
def PPost (R : RE) (W : WX) (O : Addr → Prop) (σ : L2.St) (F H : Hp) (r : PR) (Q : Option Int → Hp → Prop) : Prop :=
  match r with
  | .val o env' => ∀ F' H', ER R F' H' σ env' → Gr O F H (Own env' σ) F' H' → Q o H'
  | .exc x env' => XPost R W O σ F H x env'
  | .bad => False
def PoS (R : RE) (W : WX) (t : TO) (m : PM) : Prop := ∀ σ F H env Q, ER R F H σ env → Le F H → PPost R W (Own env σ) σ F H (m env) Q → t σ H Q
def PoJ (X : Cx) (R : RE) (W : WX) (o : Option Expr) (m : PM) : Prop := ∃ t, PO X o t ∧ PoS R W t m
def pNone : PM := fun env => .val none env
def pSome (m : OM) : PM := fun env => match m env with
  | .val r env1 => match r.get env1 with
    | some (.dat (.int i)) => .val (some i) env1
    | _ => .bad
  | .exc x env1 => .exc x env1
  | .bad => .bad
theorem po_j_none : PoJ X R W none pNone := ⟨_, po_none, fun σ F H env Q er l p => p F H er (.refl l)⟩
theorem po_j_some (h : OJ X R W e m) : PoJ X R W (some e) (pSome m) := by
  obtain ⟨t, h1, h2⟩ := h
  refine ⟨_, po_some h1, fun σ F H env Q er l p => ?_⟩
  unfold pSome at p
  refine h2 σ F H env _ er l ?_
  cases e1 : m env with
  | bad => rw [e1] at p; exact p.elim
  | exc x env1 => rw [e1] at p; exact p
  | val r env1 =>
    rw [e1] at p
    intro v F1 H1 er1 rr d1 g1
    simp only at p
    cases e2 : r.get env1 with
    | none => simp only [e2] at p; exact p.elim
    | some lv =>
      have lr := (rr.get er1 e2).1
      cases lr with
      | dat rp =>
        cases rp with
        | int k => simp only [e2] at p; exact ⟨k, rfl, p F1 H1 er1 (g1.weak fun a q => .inl q)⟩
        | _ => simp only [e2] at p; exact p.elim
      | _ => simp only [e2] at p; exact p.elim
abbrev SlF := LV → Option Int → Option Int → Option LV
def oSl (m : OM) (pl ph : PM) (f : SlF) : OM := fun env => match m env with
  | .val r env1 => match pl env1 with
    | .val lo env2 => match ph env2 with
      | .val hi env3 => match r.get env3 with
        | some lv => match f lv lo hi with
          | some z => if z.ok then .val (.tmp z) env3 else .bad
          | none => .bad
        | none => .bad
      | .exc x env3 => .exc x env3
      | .bad => .bad
    | .exc x env2 => .exc x env2
    | .bad => .bad
  | .exc x env1 => .exc x env1
  | .bad => .bad
def RSl (R : RE) (r : V → Option Int → Option Int → Hp → VK → Prop) (f : SlF) : Prop :=
  ∀ F H x lx lo hi z Q, Le F H → LRel R F H lx x → f lx lo hi = some z → (∀ w F' H', Nw F H F' H' → LRel R F' H' z w → (∀ a, Owns z w a → H a = none) → Q w H') → r x lo hi H Q
def SlJ (X : Cx) (R : RE) (f : SlF) : Prop := ∃ r, SlR X r ∧ RSl R r f
theorem SlJ.or {f g : SlF} (h1 : SlJ X R f) (h2 : SlJ X R g) : SlJ X R (fun x lo hi => match f x lo hi with | some z => some z | none => g x lo hi) := by
  obtain ⟨r, a1, a2⟩ := h1
  obtain ⟨s, b1, b2⟩ := h2
  refine ⟨_, a1.or b1, fun F H x lx lo hi z Q l rl e k => ?_⟩
  cases q : f lx lo hi with
  | some w => simp only [q] at e; cases e; exact .inl (a2 F H x lx lo hi _ Q l rl q k)
  | none => simp only [q] at e; exact .inr (b2 F H x lx lo hi z Q l rl e k)
theorem oj_sl {lo hi : Option Expr} {pl ph : PM} {f : SlF} {p2 : Pos} (hf : SlJ X R f) (he : OJ X R W e m) (hl : PoJ X R W lo pl) (hh : PoJ X R W hi ph) : OJ X R W (.Subscript e (.Slice lo hi none p2) pos) (oSl m pl ph f) := by
  obtain ⟨r, r1, r2⟩ := hf
  obtain ⟨te, a1, a2⟩ := he
  obtain ⟨tl, b1, b2⟩ := hl
  obtain ⟨th, c1, c2⟩ := hh
  refine ⟨_, pe_slice r1 a1 b1 c1, fun σ F H env Q er l p => ?_⟩
  unfold oSl at p
  refine a2 σ F H env _ er l ?_
  cases e1 : m env with
  | bad => rw [e1] at p; exact p.elim
  | exc x env1 => rw [e1] at p; exact p
  | val rf env1 =>
    rw [e1] at p
    intro v F1 H1 er1 rr d1 g1
    have g1w : Gr (Own env σ) F H (Own env1 σ) F1 H1 := g1.weak fun a q => .inl q
    refine b2 σ F1 H1 env1 _ er1 g1.sub ?_
    cases e2 : pl env1 with
    | bad => simp only [e2] at p; exact p.elim
    | exc x env2 => simp only [e2] at p; exact fun cls d F2 H2 er2 xr g2 => p cls d F2 H2 er2 xr (g1w.trans l g2)
    | val o1 env2 =>
      simp only [e2] at p
      intro F2 H2 er2 g2
      have rr2 := rr.gr g2 d1
      have ap2 : ∀ a, RfO rf v a → ¬ Own env2 σ a := fun a o q => by
        rcases g2.own a q with z | z
        · exact d1 a o z
        · exact (rr.tracked o).2 z
      refine c2 σ F2 H2 env2 _ er2 g2.sub ?_
      cases e3 : ph env2 with
      | bad => simp only [e3] at p; exact p.elim
      | exc x env3 => simp only [e3] at p; exact fun cls d F3 H3 er3 xr g3 => p cls d F3 H3 er3 xr (g1w.trans l (g2.trans g1.sub g3))
      | val o2 env3 =>
        simp only [e3] at p
        intro F3 H3 er3 g3
        have rr3 := rr2.gr g3 ap2
        have gg : Gr (Own env σ) F H (Own env3 σ) F3 H3 := g1w.trans l (g2.trans g1.sub g3)
        cases e4 : rf.get env3 with
        | none => simp only [e4] at p; exact p.elim
        | some lv =>
          simp only [e4] at p
          cases e5 : f lv o1 o2 with
          | none => simp only [e5] at p; exact p.elim
          | some z =>
            simp only [e5] at p
            cases e6 : z.ok with
            | false => simp [e6] at p; exact p.elim
            | true =>
              simp only [e6, if_true] at p
              refine r2 F3 H3 v lv o1 o2 z Q g3.sub (rr3.get er3 e4).1 e5 fun w F4 H4 nw lr ow => ?_
              refine p w F4 H4 (er3.nw nw) ⟨ok_ne e6, lr⟩ (fun a o q => (er3.tracked q).2 (ow a o)) ?_
              exact gg.trans l (nw.gr fun a q => q.elim .inl fun o => .inr (ow a o))
/-- a cut of items -/
def cutD (xs : List D) (lo hi : Option Int) : List D := (xs.drop (HT.sIx xs.length 0 lo)).take (HT.sIx xs.length xs.length hi - HT.sIx xs.length 0 lo)
theorem RepL.cut {F : Hp} {ds : List D} {vs : List V} (r : RepL R F ds vs) (lo hi : Option Int) : RepL R F (cutD ds lo hi) (cutV vs lo hi) := by
  unfold cutD cutV
  rw [← r.length]
  exact (r.drop _).take _
def slL : SlF := fun x lo hi => match x with
  | .dat (.lst ds) => some (.ml (cutD ds lo hi))
  | .dat (.slst ds) => some (.ml (cutD ds lo hi))
  | .ml ds => some (.ml (cutD ds lo hi))
  | _ => none
theorem jSlL (hK : R.K = X.K) : SlJ X R slL := ⟨_, sl_list, fun F H x lx lo hi z Q l r1 e k => by
  cases r1 with
  | dat r1 =>
    cases r1 with
    | lst h rs => cases e; exact ⟨_, _, rfl, .inl (.inl (l.lstE h)), fun p hp => klst l k (rs.cut lo hi) hp⟩
    | slst h rs => cases e; exact ⟨_, _, rfl, by rw [← hK]; exact l.sqL h, fun p hp => klst l k (rs.cut lo hi) hp⟩
    | _ => cases e
  | ml f h rs => cases e; exact ⟨_, _, rfl, .inl (.inl h), fun p hp => klst l k (rs.cut lo hi) hp⟩
  | _ => cases e⟩
def slT : SlF := fun x lo hi => match x with
  | .dat (.tup ds) => some (.dat (.tup (cutD ds lo hi)))
  | _ => none
theorem cutD_whole {ds : List D} {lo hi : Option Int} (h : HT.sIx ds.length 0 lo = 0 ∧ HT.sIx ds.length ds.length hi = ds.length) : cutD ds lo hi = ds := by
  unfold cutD
  rw [h.1, h.2]
  simp
theorem jSlT : SlJ X R slT := ⟨_, sl_tupA, fun F H x lx lo hi z Q l r1 e k => by
  cases r1 with
  | dat r1 =>
    cases r1 with
    | tup h rs =>
      cases e
      refine ⟨_, _, rfl, .inl (.inl (l.tupE h)), fun w => ?_, fun n p hp => ktup l k (rs.cut lo hi) hp⟩
      rw [← rs.length] at w
      exact kdat l k (by rw [cutD_whole w]) (.tup h rs)
    | _ => cases e
  | _ => cases e⟩
def slS : SlF := fun x lo hi => match x with
  | .dat (.str x) => if x.length ≤ sizeLine then some (.dat (.str (cutS x lo hi))) else none
  | _ => none
theorem jSlS : SlJ X R slS := ⟨_, sl_str, fun F H x lx lo hi z Q l r1 e k => by
  cases r1 with
  | dat r1 =>
    cases r1 with
    | str t =>
      unfold slS at e
      simp only at e
      split at e
      · cases e; exact ⟨t, rfl, by assumption, kdat l k rfl (.str _)⟩
      · cases e
    | _ => cases e
  | _ => cases e⟩

/-! ### what is walked -/
/-- a list's items | a tuple's -/
def iSeq (m : OM) : IM := fun env => match oFrz m env with
  | .val (.tmp (.dat (.lst ds))) env1 => .val ds env1
  | .val _ _ => .bad
  | .exc x env1 => .exc x env1
  | .bad => .bad
def iTp (m : OM) : IM := fun env => match oFrz m env with
  | .val (.tmp (.dat (.tup ds))) env1 => .val ds env1
  | .val _ _ => .bad
  | .exc x env1 => .exc x env1
  | .bad => .bad
theorem SqL.inj {K : PySem.W.Frag} {H : Hp} {a : Addr} {xs ys : List V} (h : H a = some (.lst xs)) (h' : SqL K H a ys) (n : K.lookup a = none ∨ True) : (Rd H a (.lst ys)) ∨ ∃ o, K.lookup a = some o := by
  rcases h' with h' | ⟨o, its, n, k, _⟩
  · exact .inl h'
  · exact .inr ⟨o, k⟩
theorem walks_lst {F H0 : Hp} {K : PySem.W.Frag} {a : Addr} {ds : List D} {vs : List V} (h : F a = some (.lst vs)) (r : RepL R F ds vs) : Walks R (Itl K a) F H0 ds where
  go := fun i G H l g _ hi => by
    obtain ⟨x, hx⟩ : ∃ x, vs[i]? = some x := ⟨_, List.getElem?_eq_getElem (by rw [← r.length]; exact hi)⟩
    exact ⟨vs, x, .inl (.inl (g.lstE (l.lstE h))), hx⟩
  stop := fun i G H l g _ hi => ⟨vs, .inl (.inl (g.lstE (l.lstE h))), by rw [← r.length]; exact hi⟩
  yld := fun i G H x H' l g _ hi y => by
    obtain ⟨rfl, y⟩ := y
    have hx := y vs (.inl (.inl (g.lstE (l.lstE h))))
    obtain ⟨d, h1, h2⟩ := r.getV hx
    exact ⟨d, G, h1, .refl g, h2.mono l⟩
theorem walks_tup {F H0 : Hp} {K : PySem.W.Frag} {a : Addr} {ds : List D} {vs : List V} (h : F a = some (.tup vs)) (r : RepL R F ds vs) : Walks R (Itt K a) F H0 ds where
  go := fun i G H l g _ hi => by
    obtain ⟨x, hx⟩ : ∃ x, vs[i]? = some x := ⟨_, List.getElem?_eq_getElem (by rw [← r.length]; exact hi)⟩
    exact ⟨vs, x, .inl (.inl (g.tupE (l.tupE h))), hx⟩
  stop := fun i G H l g _ hi => ⟨vs, .inl (.inl (g.tupE (l.tupE h))), by rw [← r.length]; exact hi⟩
  yld := fun i G H x H' l g _ hi y => by
    obtain ⟨rfl, y⟩ := y
    have hx := y vs (.inl (.inl (g.tupE (l.tupE h))))
    obtain ⟨d, h1, h2⟩ := r.getV hx
    exact ⟨d, G, h1, .refl g, h2.mono l⟩
theorem ij_seq {tg : Expr} (h : OJ X R W e m) : IJ X R W tg e (iSeq m) := by
  obtain ⟨t, h1, h2⟩ := oj_frz h
  refine ⟨_, pi_list h1, fun σ F H env Q er l p => ?_⟩
  unfold iSeq at p
  refine h2 σ F H env _ er l ?_
  cases e1 : oFrz m env with
  | bad => rw [e1] at p; exact p.elim
  | exc x env1 => rw [e1] at p; exact p
  | val r env1 =>
    rw [e1] at p
    intro v F1 H1 er1 rr d1 g1
    match r, rr, p with
    | .tmp (.dat (.lst ds)), rr, p =>
      cases rr.2 with
      | dat rp =>
        cases rp with
        | lst h rs => exact ⟨_, rfl, ⟨_, .inl (.inl (g1.sub.lstE h))⟩, p _ F1 H1 er1 (walks_lst h rs) (g1.weak fun a q => .inl q)⟩
    | .var i, rr, p => exact p.elim
    | .tmp .un, rr, p => exact p.elim
    | .tmp (.ml _), rr, p => exact p.elim
    | .tmp (.md _), rr, p => exact p.elim
    | .tmp (.mt _), rr, p => exact p.elim
    | .tmp (.mi _ _), rr, p => exact p.elim
    | .tmp (.dat .non), rr, p => exact p.elim
    | .tmp (.dat (.bl _)), rr, p => exact p.elim
    | .tmp (.dat (.int _)), rr, p => exact p.elim
    | .tmp (.dat (.str _)), rr, p => exact p.elim
    | .tmp (.dat (.tup _)), rr, p => exact p.elim
    | .tmp (.dat (.slst _)), rr, p => exact p.elim
    | .tmp (.dat (.dic _)), rr, p => exact p.elim
    | .tmp (.dat (.dit _)), rr, p => exact p.elim
    | .tmp (.dat (.ins _ _)), rr, p => exact p.elim
    | .tmp (.dat (.cst _)), rr, p => exact p.elim
    | .tmp (.dat .opq), rr, p => exact p.elim
theorem ij_tup {tg : Expr} (h : OJ X R W e m) : IJ X R W tg e (iTp m) := by
  obtain ⟨t, h1, h2⟩ := oj_frz h
  refine ⟨_, pi_tup h1, fun σ F H env Q er l p => ?_⟩
  unfold iTp at p
  refine h2 σ F H env _ er l ?_
  cases e1 : oFrz m env with
  | bad => rw [e1] at p; exact p.elim
  | exc x env1 => rw [e1] at p; exact p
  | val r env1 =>
    rw [e1] at p
    intro v F1 H1 er1 rr d1 g1
    match r, rr, p with
    | .tmp (.dat (.tup ds)), rr, p =>
      cases rr.2 with
      | dat rp =>
        cases rp with
        | tup h rs => exact ⟨_, rfl, ⟨_, .inl (.inl (g1.sub.tupE h))⟩, p _ F1 H1 er1 (walks_tup h rs) (g1.weak fun a q => .inl q)⟩
    | .var i, rr, p => exact p.elim
    | .tmp .un, rr, p => exact p.elim
    | .tmp (.ml _), rr, p => exact p.elim
    | .tmp (.md _), rr, p => exact p.elim
    | .tmp (.mt _), rr, p => exact p.elim
    | .tmp (.mi _ _), rr, p => exact p.elim
    | .tmp (.dat .non), rr, p => exact p.elim
    | .tmp (.dat (.bl _)), rr, p => exact p.elim
    | .tmp (.dat (.int _)), rr, p => exact p.elim
    | .tmp (.dat (.str _)), rr, p => exact p.elim
    | .tmp (.dat (.lst _)), rr, p => exact p.elim
    | .tmp (.dat (.slst _)), rr, p => exact p.elim
    | .tmp (.dat (.dic _)), rr, p => exact p.elim
    | .tmp (.dat (.dit _)), rr, p => exact p.elim
    | .tmp (.dat (.ins _ _)), rr, p => exact p.elim
    | .tmp (.dat (.cst _)), rr, p => exact p.elim
    | .tmp (.dat .opq), rr, p => exact p.elim
/-- two rules for one source -/
theorem PI.or {tg : Expr} {w1 w2 : TI} (h1 : PI X tg e w1) (h2 : PI X tg e w2) : PI X tg e (fun σ H Q => w1 σ H Q ∨ w2 σ H Q) :=
  ⟨fun pins s σ H Q I h => h.elim (h1.run pins s σ H Q I) (h2.run pins s σ H Q I)⟩
def iOr (i1 i2 : IM) : IM := fun env => match i1 env with
  | .bad => i2 env
  | r => r
theorem ij_or {tg : Expr} {i1 i2 : IM} (h1 : IJ X R W tg e i1) (h2 : IJ X R W tg e i2) : IJ X R W tg e (iOr i1 i2) := by
  obtain ⟨t, a1, a2⟩ := h1
  obtain ⟨u, b1, b2⟩ := h2
  refine ⟨_, PI.or a1 b1, fun σ F H env Q er l p => ?_⟩
  unfold iOr at p
  cases e1 : i1 env with
  | bad => rw [e1] at p; exact .inr (b2 σ F H env Q er l p)
  | exc x env1 => rw [e1] at p; exact .inl (a2 σ F H env Q er l (by rw [e1]; exact p))
  | val ds env1 => rw [e1] at p; exact .inl (a2 σ F H env Q er l (by rw [e1]; exact p))
/-- range -/
def rangeD (lo : Int) (n : Nat) : List D := (List.range n).map fun (i : Nat) => .int (lo + i)
def iRange1 (ms : AM) : IM := fun env => match ms env with
  | .val rs env1 => match gets rs env1 with
    | some [.dat (.int j)] => if -(2 ^ 62) ≤ j ∧ j < 2 ^ 62 then .val (rangeD 0 j.toNat) env1 else .bad
    | _ => .bad
  | .exc x env1 => .exc x env1
  | .bad => .bad
def iRange2 (ms : AM) : IM := fun env => match ms env with
  | .val rs env1 => match gets rs env1 with
    | some [.dat (.int i), .dat (.int j)] => if -(2 ^ 62) ≤ i ∧ i < 2 ^ 62 ∧ -(2 ^ 62) ≤ j ∧ j < 2 ^ 62 then .val (rangeD i (j - i).toNat) env1 else .bad
    | _ => .bad
  | .exc x env1 => .exc x env1
  | .bad => .bad
theorem walks_range {F H0 : Hp} {lo : Int} {n : Nat} : Walks R (Itr lo n) F H0 (rangeD lo n) where
  go := fun i G H l g _ hi => by show i < n; unfold rangeD at hi; simpa using hi
  stop := fun i G H l g _ hi => by show n ≤ i; unfold rangeD at hi; simpa using hi
  yld := fun i G H x H' l g _ hi y => by
    obtain ⟨rfl, rfl⟩ := y
    unfold rangeD at hi
    have hi' : i < n := by simpa using hi
    exact ⟨.int (lo + i), G, by unfold rangeD; simp [hi'], .refl g, .int _⟩
theorem ij_range1 {tg : Expr} {p' : Pos} (hg : Gl X "range") (hm : X.mg "range" = none) (ha : AJ X R W [a] ms) (hs : starEach [a] X.env = [(false, eval a X.env)] := by rfl) : IJ X R W tg (.Call (.Name "range" p') [a] [] pos) (iRange1 ms) := by
  obtain ⟨t, h1, h2⟩ := ha
  refine ⟨_, pi_range1 hg hm h1 hs, fun σ F H env Q er l p => ?_⟩
  unfold iRange1 at p
  refine h2 σ F H env _ er l ?_
  cases e1 : ms env with
  | bad => rw [e1] at p; exact p.elim
  | exc x env1 => rw [e1] at p; exact p
  | val rs env1 =>
    rw [e1] at p
    intro vs F1 H1 er1 rr d1 dd1 g1
    simp only at p
    split at p
    · rename_i j hj
      split at p
      · rename_i hb
        have rl := rr.gets er1 hj
        cases rl with
        | cons r1 rl =>
          cases rl
          cases r1 with
          | dat r1 =>
            cases r1
            exact ⟨j, rfl, hb.1, hb.2, p _ F1 H1 er1 walks_range (g1.weak fun a q => .inl q)⟩
      · exact p.elim
    · exact p.elim
theorem ij_range2 {tg : Expr} {p' : Pos} (hg : Gl X "range") (hm : X.mg "range" = none) (ha : AJ X R W [a, b] ms) (hs : starEach [a, b] X.env = [(false, eval a X.env), (false, eval b X.env)] := by rfl) (hs2 : starEach [b] X.env = [(false, eval b X.env)] := by rfl) : IJ X R W tg (.Call (.Name "range" p') [a, b] [] pos) (iRange2 ms) := by
  obtain ⟨t, h1, h2⟩ := ha
  refine ⟨_, pi_range2 hg hm h1 hs hs2, fun σ F H env Q er l p => ?_⟩
  unfold iRange2 at p
  refine h2 σ F H env _ er l ?_
  cases e1 : ms env with
  | bad => rw [e1] at p; exact p.elim
  | exc x env1 => rw [e1] at p; exact p
  | val rs env1 =>
    rw [e1] at p
    intro vs F1 H1 er1 rr d1 dd1 g1
    simp only at p
    split at p
    · rename_i i j hj
      split at p
      · rename_i hb
        have rl := rr.gets er1 hj
        cases rl with
        | cons r1 rl =>
          cases rl with
          | cons r2 rl =>
            cases rl
            cases r1 with
            | dat r1 =>
              cases r1
              cases r2 with
              | dat r2 =>
                cases r2
                exact ⟨i, j, rfl, ⟨hb.1, hb.2.1, hb.2.2.1, hb.2.2.2⟩, p _ F1 H1 er1 walks_range (g1.weak fun a q => .inl q)⟩
      · exact p.elim
    · exact p.elim
end
end PL
set_option maxRecDepth 100000
set_option maxHeartbeats 4000000
/-! Comprehensions. -/
namespace PL
open PySem L2 PyProof.Rows

def wipeE (env : LEnv) : List Nat → LEnv
  | [] => env
  | v :: vs => (wipeE env vs).set v .un
/-- the slots vs as they were -/
def restE (env0 env : LEnv) : List Nat → LEnv
  | [] => env
  | v :: vs => match env0[v]? with
    | some lv => (restE env0 env vs).set v lv
    | none => restE env0 env vs
inductive CR where
  | val (acc : List D) (env : LEnv)
  | bad
def lcD (g : GM) (t : TM) (m : OM) (vs : List Nat) : List D → List D → LEnv → CR
  | [], acc, env => .val acc env
  | d :: ds, acc, env => match g d env with
    | none => .bad
    | some env1 => match t env1 with
      | .val false env2 => lcD g t m vs ds acc (wipeE env2 vs)
      | .val true env2 => match oFrz m env2 with
        | .val (.tmp (.dat y)) env3 => if acc.length < sizeLine then lcD g t m vs ds (acc ++ [y]) (wipeE env3 vs) else .bad
        | _ => .bad
      | _ => .bad
def oLc (i : IM) (g : GM) (t : TM) (m : OM) (vs : List Nat) : OM := fun env => match i env with
  | .val ds env1 => match lcD g t m vs ds [] (wipeE env1 vs) with
    | .val acc env2 => .val (.tmp (.ml acc)) (restE env1 env2 vs)
    | .bad => .bad
  | .exc x env1 => .exc x env1
  | .bad => .bad
def tYesM : TM := fun env => .val true env

section
variable {R : RE} {F H F' H' : Hp} {σ : L2.St} {env env0 env1 : LEnv} {vs : List Nat} {a : Addr} {i : Nat} {lv : LV}
theorem wipeE_length : ∀ vs : List Nat, (wipeE env vs).length = env.length
  | [] => rfl
  | v :: vs => by unfold wipeE; rw [List.length_set, wipeE_length vs]
theorem wipeE_get : ∀ {vs : List Nat}, (wipeE env vs)[i]? = some lv → lv ≠ .un → env[i]? = some lv ∧ i ∉ vs
  | [], h, _ => ⟨h, by simp⟩
  | v :: vs, h, n => by
    unfold wipeE at h
    by_cases e : v = i
    · subst e
      rw [List.getElem?_set] at h
      split at h
      · split at h
        · cases h; exact absurd rfl n
        · cases h
      · exact absurd rfl (by assumption)
    · rw [List.getElem?_set_ne e] at h
      obtain ⟨h1, h2⟩ := wipeE_get h n
      exact ⟨h1, by simp only [List.mem_cons, not_or]; exact ⟨fun z => e z.symm, h2⟩⟩
theorem wipe_get {σ : L2.St} {i : Nat} : ∀ {vs : List Nat}, i ∉ vs → (wipe σ vs)[i]? = σ[i]?
  | [], _ => rfl
  | v :: vs, h => by
    simp only [List.mem_cons, not_or] at h
    unfold wipe
    rw [List.getElem?_set_ne (fun z => h.1 z.symm)]
    exact wipe_get h.2
theorem wipe_wipe (σ : L2.St) (vs : List Nat) : wipe (wipe σ vs) vs = wipe σ vs := by
  apply List.ext_getElem?
  intro i
  by_cases h : i ∈ vs
  · have key : ∀ {σ : L2.St} {vs : List Nat}, i ∈ vs → (wipe σ vs)[i]? = if i < σ.length then some none else none := by
      intro σ vs
      induction vs with
      | nil => intro h; simp at h
      | cons v vs ih =>
        intro h
        unfold wipe
        by_cases e : v = i
        · subst e
          rw [List.getElem?_set]
          simp [wipe_length]
        · rw [List.getElem?_set_ne e]
          rcases List.mem_cons.mp h with z | z
          · exact absurd z.symm e
          · exact ih z
    rw [key h, key h, wipe_length]
  · rw [wipe_get h]
theorem ER.wipe (er : ER R F H σ env) : ER R F H (L2.wipe σ vs) (wipeE env vs) ∧ ∀ a, Own (wipeE env vs) (L2.wipe σ vs) a → Own env σ a := by
  refine ⟨⟨by rw [wipe_length, wipeE_length]; exact er.len, fun i lv h n => ?_, fun i j lv lv' b h1 h2 o1 o2 s1 s2 => ?_⟩, fun a ⟨i, lv, h1, h2, h3⟩ => ?_⟩
  · obtain ⟨h1, h2⟩ := wipeE_get h n
    obtain ⟨v, q1, q2⟩ := er.rel i lv h1 n
    exact ⟨v, by rw [wipe_get h2]; exact q1, q2⟩
  · obtain ⟨h1, n1⟩ := wipeE_get h1 (by rintro rfl; cases o1)
    obtain ⟨h2, n2⟩ := wipeE_get h2 (by rintro rfl; cases o2)
    exact er.dis i j lv lv' b h1 h2 o1 o2 (by rw [← wipe_get n1]; exact s1) (by rw [← wipe_get n2]; exact s2)
  · obtain ⟨h1, n1⟩ := wipeE_get h1 (by rintro rfl; cases h2)
    exact ⟨i, lv, h1, h2, by rw [← wipe_get n1]; exact h3⟩
theorem restE_length : ∀ vs : List Nat, (restE env0 env vs).length = env.length
  | [] => rfl
  | v :: vs => by
    unfold restE
    split
    · rw [List.length_set, restE_length vs]
    · exact restE_length vs
theorem restE_get : ∀ {vs : List Nat}, env0.length = env.length → (restE env0 env vs)[i]? = some lv → (i ∈ vs ∧ env0[i]? = some lv) ∨ (i ∉ vs ∧ env[i]? = some lv)
  | [], _, h => .inr ⟨by simp, h⟩
  | v :: vs, hl, h => by
    unfold restE at h
    cases e : env0[v]? with
    | some lv0 =>
      rw [e] at h
      simp only at h
      by_cases ei : v = i
      · subst ei
        rw [List.getElem?_set] at h
        split at h
        · split at h
          · cases h; exact .inl ⟨by simp, e⟩
          · cases h
        · exact absurd rfl (by assumption)
      · rw [List.getElem?_set_ne ei] at h
        rcases restE_get hl h with ⟨h1, h2⟩ | ⟨h1, h2⟩
        · exact .inl ⟨List.mem_cons_of_mem _ h1, h2⟩
        · exact .inr ⟨by simp only [List.mem_cons, not_or]; exact ⟨fun z => ei z.symm, h1⟩, h2⟩
    | none =>
      rw [e] at h
      simp only at h
      rcases restE_get hl h with ⟨h1, h2⟩ | ⟨h1, h2⟩
      · exact .inl ⟨List.mem_cons_of_mem _ h1, h2⟩
      · by_cases ei : v = i
        · subst ei
          have l1 := (List.getElem?_eq_some_iff.mp h2).1
          rw [List.getElem?_eq_none_iff] at e
          omega
        · exact .inr ⟨by simp only [List.mem_cons, not_or]; exact ⟨fun z => ei z.symm, h1⟩, h2⟩
/-- behind a comprehension the block's names are as they were -/
theorem ER.rest {O' : Addr → Prop} (er : ER R F H σ env0) (g : Gr (Own (wipeE env0 vs) (L2.wipe σ vs)) F H O' F' H') (er1 : ER R F' H' (L2.wipe σ vs) env1) (hw : ∀ i lv, env1[i]? = some lv → lv ≠ .un → i ∉ vs) (ho : ∀ a, Own env1 (L2.wipe σ vs) a → O' a) :
    ER R F' H' σ (restE env0 env1 vs) ∧ ∀ a, Own (restE env0 env1 vs) σ a → (∃ i lv, i ∈ vs ∧ env0[i]? = some lv ∧ lv.isOwn = true ∧ σ[i]? = some (some (.ref a))) ∨ Own env1 (L2.wipe σ vs) a := by
  have hl : env0.length = env1.length := by rw [← er.len, ← er1.len, wipe_length]
  have old : ∀ {i : Nat} {lv : LV} {b : Addr}, i ∈ vs → env0[i]? = some lv → lv.isOwn = true → σ[i]? = some (some (.ref b)) → ¬ Own (wipeE env0 vs) (L2.wipe σ vs) b := fun {i lv b} hi e o s ⟨j, lv', h1, h2, h3⟩ => by
    obtain ⟨h1, n1⟩ := wipeE_get h1 (by rintro rfl; cases h2)
    have := er.dis i j lv lv' b e h1 o h2 s (by rw [← wipe_get n1]; exact h3)
    subst this
    exact n1 hi
  have cross : ∀ {i j : Nat} {lv lv' : LV} {b : Addr}, i ∈ vs → env0[i]? = some lv → lv.isOwn = true → σ[i]? = some (some (.ref b)) → env1[j]? = some lv' → lv'.isOwn = true → (L2.wipe σ vs)[j]? = some (some (.ref b)) → False := fun {i j lv lv' b} hi e o s e' o' s' => by
    rcases g.own b (ho b ⟨j, lv', e', o', s'⟩) with z | z
    · exact old hi e o s z
    · exact (er.tracked ⟨i, lv, e, o, s⟩).2 z
  refine ⟨⟨by rw [restE_length, ← hl]; exact er.len, fun i lv h n => ?_, fun i j lv lv' b h1 h2 o1 o2 s1 s2 => ?_⟩, fun a ⟨i, lv, h1, h2, h3⟩ => ?_⟩
  · rcases restE_get hl h with ⟨h1, h2⟩ | ⟨h1, h2⟩
    · obtain ⟨v, q1, q2⟩ := er.rel i lv h2 n
      exact ⟨v, q1, q2.gr g fun b ob => old h1 h2 ob.1 (by rw [q1, ob.2])⟩
    · obtain ⟨v, q1, q2⟩ := er1.rel i lv h2 n
      exact ⟨v, by rw [← wipe_get h1]; exact q1, q2⟩
  · rcases restE_get hl h1 with ⟨a1, a2⟩ | ⟨a1, a2⟩
    · rcases restE_get hl h2 with ⟨b1, b2⟩ | ⟨b1, b2⟩
      · exact er.dis i j lv lv' b a2 b2 o1 o2 s1 s2
      · exact (cross a1 a2 o1 s1 b2 o2 (by rw [wipe_get b1]; exact s2)).elim
    · rcases restE_get hl h2 with ⟨b1, b2⟩ | ⟨b1, b2⟩
      · exact (cross b1 b2 o2 s2 a2 o1 (by rw [wipe_get a1]; exact s1)).elim
      · exact er1.dis i j lv lv' b a2 b2 o1 o2 (by rw [wipe_get a1]; exact s1) (by rw [wipe_get b1]; exact s2)
  · rcases restE_get hl h1 with ⟨a1, a2⟩ | ⟨a1, a2⟩
    · exact .inl ⟨i, lv, a1, a2, h2, h3⟩
    · exact .inr ⟨i, lv, a2, h2, by rw [wipe_get a1]; exact h3⟩
end

section
variable {X : Cx} {R : RE} {W : WX} {P : List Nat} {pos : Pos} {elt tg iter : Expr} {ifs : List Expr} {i : IM} {g : GM} {t : TM} {m : OM}
abbrev W0 : WX := fun _ _ _ _ => False
/-- a target keeps the number of slots -/
def GLen (g : GM) : Prop := ∀ d env env', g d env = some env' → env'.length = env.length
def GLens (g : GMs) : Prop := ∀ d env env', g d env = some env' → env'.length = env.length
theorem glen_name {i : Nat} : GLen (gmName i) := fun d env env' h => by cases h; simp
theorem glens_nil : GLens gmNil := fun d env env' h => by unfold gmNil at h; split at h <;> cases h; rfl
theorem glens_cons {g : GM} {gs : GMs} (h1 : GLen g) (h2 : GLens gs) : GLens (gmCons g gs) := fun d env env' h => by
  unfold gmCons at h
  cases d with
  | nil => cases h
  | cons d r =>
    simp only at h
    cases e : g d env with
    | none => rw [e] at h; cases h
    | some env1 => rw [e] at h; rw [h2 r env1 env' h, h1 d env env1 e]
theorem glen_tup {k : Nat} {gs : GMs} (h : GLens gs) : GLen (gmTup k gs) := fun d env env' e => by
  unfold gmTup at e
  split at e
  · split at e
    · exact h _ _ _ e
    · cases e
  · cases e
def compl (vs : List Nat) (n : Nat) : List Nat := (List.range n).filter fun i => !vs.contains i
theorem mem_compl {vs : List Nat} {n i : Nat} (h1 : i < n) (h2 : i ∉ vs) : i ∈ compl vs n := by unfold compl; simp [h1, h2]
/-- only vs were stored -/
theorem wipe_fix {σ σ' : L2.St} {vs : List Nat} (hl : σ'.length = σ.length) (h : Fix (compl vs σ.length) σ σ') : wipe σ' vs = wipe σ vs := by
  apply List.ext_getElem?
  intro i
  by_cases hi : i ∈ vs
  · have key : ∀ {σ : L2.St} {vs : List Nat}, i ∈ vs → (wipe σ vs)[i]? = if i < σ.length then some none else none := by
      intro σ vs
      induction vs with
      | nil => intro h; simp at h
      | cons v vs ih =>
        intro h
        unfold wipe
        by_cases e : v = i
        · subst e
          rw [List.getElem?_set]
          simp [wipe_length]
        · rw [List.getElem?_set_ne e]
          rcases List.mem_cons.mp h with z | z
          · exact absurd z.symm e
          · exact ih z
    rw [key hi, key hi, hl]
  · rw [wipe_get hi, wipe_get hi]
    by_cases hn : i < σ.length
    · exact h i (mem_compl hn hi)
    · rw [List.getElem?_eq_none (by omega), List.getElem?_eq_none (by omega)]
theorem Gr.mut {O : Addr → Prop} {F H : Hp} {D : Addr} {o o' : HO} (l : Le F H) (hO : O D) (hF : F D = none) (hD : H D = some o) (hf : ∀ ob u, o ≠ .frz ob u) : Gr O F H O F (upd H D o') :=
  ⟨.refl F, l.mut hF, fun a u e f n => by rw [upd_ne (fun (z : a = D) => n (by rw [z]; exact hO))]; exact e, fun a h => .inl h, fun a h => .inl h, fun a ob u e => by
    by_cases z : a = D
    · subst z; rw [hD] at e; cases e; exact absurd rfl (hf ob u)
    · rw [upd_ne z]; exact e⟩
/-- an object that is none of the slots' own changes -/
theorem ER.other {F H : Hp} {σ : L2.St} {env : LEnv} {D : Addr} {o : HO} (er : ER R F H σ env) (hF : F D = none) (n : ¬ Own env σ D) : ER R F (upd H D o) σ env := by
  refine ⟨er.len, fun i lv h ne => ?_, er.dis⟩
  obtain ⟨v, q1, q2⟩ := er.rel i lv h ne
  refine ⟨v, q1, ?_⟩
  have na : ∀ a, v = .ref a → lv.isOwn = true → a ≠ D := fun a e o z => n ⟨i, lv, h, o, by rw [q1, e, z]⟩
  cases q2 with
  | dat r => exact .dat r
  | ml f hh r => exact .ml f (by rw [upd_ne (na _ rfl rfl)]; exact hh) r
  | md f hh k r => exact .md f (by rw [upd_ne (na _ rfl rfl)]; exact hh) k r
  | mt f hh k r => exact .mt f (by rw [upd_ne (na _ rfl rfl)]; exact hh) k r
  | mi f hh k r => exact .mi f (by rw [upd_ne (na _ rfl rfl)]; exact hh) k r
theorem lc_sound {σ : L2.St} {F H : Hp} {env : LEnv} {Q : VK} {J : It} {tg : TG} {tt : TT} {te : TE} {vs : List Nat} {ds : List D} (er : ER R F H σ env) (l : Le F H) (wk : Walks R J F H ds) (gl : GLen g)
    (hg : GSd R (compl vs σ.length) tg g) (ht : TSd R W0 tt t) (he : OS R W0 te m)
    (p : OPost R W (Own env σ) σ F H (match lcD g t m vs ds [] (wipeE env vs) with
      | .val acc env2 => .val (.tmp (.ml acc)) (restE env env2 vs)
      | .bad => .bad) Q) (D : Addr) (hD : H D = none) :
    ∃ W : Nat → Nat → Hp → Prop, (∃ m, W 0 m (upd H D (.lst []))) ∧ ∀ i m H, W i m H →
      (J.stop i H ∧ Q (.ref D) H) ∨ (J.go i H ∧ ∃ Nx : Hp → Prop, (∀ H', Nx H' → ∃ m', m' < m ∧ W (i + 1) m' H') ∧ ∀ x H', J.yld i H x H' → tg x (wipe σ vs) H' fun σ2 H2 => wipe σ2 vs = wipe σ vs ∧ tt σ2 H2 fun b H3 =>
        if b = true then te σ2 H3 fun y H4 => ∃ acc, H4 D = some (.lst acc) ∧ acc.length < sizeLine ∧ Nx (upd H4 D (.lst (acc ++ [y]))) else Nx H3) := by
  obtain ⟨er0, ow0⟩ := er.wipe (vs := vs)
  let OB : Addr → Prop := Own (wipeE env vs) (wipe σ vs)
  let Pst : List PL.D → List PL.D → LEnv → Prop := fun ds acc env1 => OPost R W (Own env σ) σ F H (match lcD g t m vs ds acc env1 with
      | .val acc env2 => .val (.tmp (.ml acc)) (restE env env2 vs)
      | .bad => .bad) Q
  let Wv : Nat → Nat → Hp → Prop := fun i k H1 => i ≤ ds.length ∧ k = ds.length - i ∧ ∃ F1 env1 acc accV, ER R F1 H1 (wipe σ vs) env1 ∧ (∀ j lv, env1[j]? = some lv → lv ≠ .un → j ∉ vs) ∧ Gr OB F H (fun a => Own env1 (wipe σ vs) a ∨ a = D) F1 H1 ∧ ¬ Own env1 (wipe σ vs) D ∧
    F1 D = none ∧ H1 D = some (.lst accV) ∧ RepL R F1 acc accV ∧ Pst (ds.drop i) acc env1
  have nw0 : Nw F H F (upd H D (.lst [])) := .new l hD
  refine ⟨Wv, ⟨ds.length, Nat.zero_le _, rfl, F, wipeE env vs, [], [], er0.nw nw0, fun j lv h n => (wipeE_get h n).2, nw0.gr fun a q => q.elim .inl fun z => .inr (z ▸ hD), fun o => (er.tracked (ow0 D o)).2 hD, l.nn hD, upd_same, .nil, by simpa using p⟩, ?_⟩
  rintro i k H1 ⟨hi, rfl, F1, env1, acc, accV, er1, hw1, g1, nD, fD, hD1, rA, p1⟩
  by_cases hlt : i < ds.length
  · refine .inr ⟨wk.go i F1 H1 g1.le g1.sub g1.frz hlt, Wv (i + 1) (ds.length - (i + 1)), fun H' w => ⟨_, by omega, w⟩, fun x H2 y => ?_⟩
    obtain ⟨d, F2, hd, nw, rp⟩ := wk.yld i F1 H1 x H2 g1.le g1.sub g1.frz hlt y
    have ed : ds.drop i = d :: ds.drop (i + 1) := by
      have : ds[i] = d := by rw [List.getElem?_eq_getElem hlt] at hd; exact Option.some.inj hd
      rw [← this]; exact List.drop_eq_getElem_cons hlt
    rw [ed] at p1
    have fD2 : F2 D = none := nw.fnone fD (by rw [hD1]; simp)
    have hD2 : H2 D = some (.lst accV) := nw.keep _ _ hD1
    cases e1 : g d env1 with
    | none =>
      have p1' : OPost R W (Own env σ) σ F H .bad Q := by
        have := p1
        simp only [Pst] at this
        unfold lcD at this
        simp only [e1] at this
        exact this
      exact p1'.elim
    | some env2 =>
      refine hg (wipe σ vs) F2 H2 env1 x d env2 _ (er1.nw nw) nw.sub rp e1 fun σ2 er2 o2 f2 => ?_
      have hl2 : σ2.length = (wipe σ vs).length := by rw [er2.len, gl d env1 env2 e1, er1.len]
      have w2 : wipe σ2 vs = wipe σ vs := by
        rw [wipe_fix hl2 (by rw [wipe_length]; exact f2), wipe_wipe]
      have nD2 : ¬ Own env2 σ2 D := fun o => nD (o2 D o)
      refine ⟨w2, ht σ2 F2 H2 env2 _ er2 nw.sub ?_⟩
      cases e2 : t env2 with
      | bad =>
        simp only [Pst] at p1
        unfold lcD at p1
        simp only [e1, e2] at p1
        exact p1.elim
      | exc x env3 =>
        simp only [Pst] at p1
        unfold lcD at p1
        simp only [e1, e2] at p1
        exact p1.elim
      | val b env3 =>
        intro F3 H3 er3 g3
        have nD3 : ¬ Own env3 σ2 D := fun o => by
          rcases g3.own D o with z | z
          · exact nD2 z
          · rw [hD2] at z; cases z
        have fD3 : F3 D = none := g3.fnone fD2 (by rw [hD2]; simp) nD2
        have hD3 : H3 D = some (.lst accV) := g3.keep D _ hD2 fD2 nD2
        -- from the turn's start to here
        have G3 : Gr (fun a => Own env1 (wipe σ vs) a ∨ a = D) F1 H1 (fun a => Own env3 σ2 a ∨ a = D) F3 H3 := by
          have s1 : Gr (fun a => Own env1 (wipe σ vs) a ∨ a = D) F1 H1 (fun a => Own env2 σ2 a ∨ a = D) F2 H2 := nw.gr fun a q => q.elim (fun z => .inl (.inl (o2 a z))) fun z => .inl (.inr z)
          exact s1.trans g1.sub ((g3.more fun a o => .inl o).reown fun a q => q.elim (fun z => (g3.own a z).elim (fun y => .inl (.inl y)) .inr) fun z => .inl (.inr z))
        cases b with
        | false =>
          rw [if_neg Bool.false_ne_true]
          have p2 : Pst (ds.drop (i + 1)) acc (wipeE env3 vs) := by
            have := p1
            simp only [Pst] at this ⊢
            unfold lcD at this
            simp only [e1, e2] at this
            exact this
          obtain ⟨erw, oww⟩ := er3.wipe (vs := vs)
          rw [w2] at erw oww
          refine ⟨hlt, rfl, F3, wipeE env3 vs, acc, accV, erw, fun j lv h n => (wipeE_get h n).2, ?_, fun o => nD3 (oww D o), fD3, hD3, rA.mono (nw.le.trans g3.le), p2⟩
          exact (g1.trans l G3).weak fun a q => q.elim (fun z => .inl (oww a z)) .inr
        | true =>
          rw [if_pos rfl]
          refine os_frz he σ2 F3 H3 env3 _ er3 g3.sub ?_
          cases e3 : oFrz m env3 with
          | bad =>
            simp only [Pst] at p1
            unfold lcD at p1
            simp only [e1, e2, e3] at p1
            exact p1.elim
          | exc x env4 =>
            simp only [Pst] at p1
            unfold lcD at p1
            simp only [e1, e2, e3] at p1
            exact p1.elim
          | val r env4 =>
            intro v F4 H4 er4 rr d4 g4
            have g4' : Gr (Own env3 σ2) F3 H3 (Own env4 σ2) F4 H4 := g4.weak fun a q => .inl q
            have nD4 : ¬ Own env4 σ2 D := fun o => by
              rcases g4'.own D o with z | z
              · exact nD3 z
              · rw [hD3] at z; cases z
            have fD4 : F4 D = none := g4'.fnone fD3 (by rw [hD3]; simp) nD3
            have hD4 : H4 D = some (.lst accV) := g4'.keep D _ hD3 fD3 nD3
            have G4 : Gr (fun a => Own env1 (wipe σ vs) a ∨ a = D) F1 H1 (fun a => Own env4 σ2 a ∨ a = D) F4 H4 :=
              G3.trans g1.sub ((g4'.more fun a o => .inl o).reown fun a q => q.elim (fun z => (g4'.own a z).elim (fun y => .inl (.inl y)) .inr) fun z => .inl (.inr z))
            have rA4 : RepL R F4 acc accV := rA.mono (nw.le.trans (g3.le.trans g4.le))
            have key : ∀ yv, r = .tmp (.dat yv) → acc.length < sizeLine ∧ Pst (ds.drop (i + 1)) (acc ++ [yv]) (wipeE env4 vs) := fun yv er => by
              have := p1
              simp only [Pst] at this ⊢
              unfold lcD at this
              simp only [e1, e2, e3, er] at this
              by_cases hz : acc.length < sizeLine
              · rw [if_pos hz] at this
                exact ⟨hz, this⟩
              · rw [if_neg hz] at this
                exact this.elim
            match r, rr, key with
            | .tmp (.dat yv), rr, key =>
              obtain ⟨hz, p2⟩ := key yv rfl
              refine ⟨accV, hD4, by rw [← rA4.length]; exact hz, ?_⟩
              cases rr.2 with
              | dat ry =>
                obtain ⟨erw, oww⟩ := er4.wipe (vs := vs)
                rw [w2] at erw oww
                have G5 : Gr (fun a => Own env4 σ2 a ∨ a = D) F4 H4 (fun a => Own env4 σ2 a ∨ a = D) F4 (upd H4 D (.lst (accV ++ [v]))) := Gr.mut g4.sub (.inr rfl) fD4 hD4 fun ob u z => by cases z
                refine ⟨hlt, rfl, F4, wipeE env4 vs, acc ++ [yv], accV ++ [v], erw.other fD4 fun o => nD4 (oww D o), fun j lv h n => (wipeE_get h n).2, ?_, fun o => nD4 (oww D o), fD4, upd_same, rA4.append (.cons ry .nil), p2⟩
                exact (g1.trans l (G4.trans g1.sub G5)).weak fun a q => q.elim (fun z => .inl (oww a z)) .inr
            | .var _, rr, _ =>
              exfalso
              simp only [Pst] at p1
              unfold lcD at p1
              simp only [e1, e2, e3] at p1
              exact p1.elim
            | .tmp .un, rr, _ => exact absurd rfl rr.1
            | .tmp (.ml _), rr, _ | .tmp (.md _), rr, _ | .tmp (.mt _), rr, _ | .tmp (.mi _ _), rr, _ =>
              exfalso
              simp only [Pst] at p1
              unfold lcD at p1
              simp only [e1, e2, e3] at p1
              exact p1.elim
  · have e : ds.drop i = [] := List.drop_eq_nil_of_le (by omega)
    rw [e] at p1
    refine .inl ⟨wk.stop i F1 H1 g1.le g1.sub g1.frz (by omega), ?_⟩
    have p2 : OPost R W (Own env σ) σ F H (.val (.tmp (.ml acc)) (restE env env1 vs)) Q := by
      have := p1
      simp only [Pst] at this
      unfold lcD at this
      exact this
    obtain ⟨err, owr⟩ := er.rest g1 er1 hw1 fun a o => .inl o
    refine p2 (.ref D) F1 H1 err ⟨by simp, .ml fD hD1 rA⟩ (fun a o q => ?_) ?_
    · obtain ⟨_, e⟩ := o
      cases e
      rcases owr D q with ⟨j, lv, _, h1, h2, h3⟩ | q
      · exact (er.tracked ⟨j, lv, h1, h2, h3⟩).2 hD
      · exact nD q
    · refine (g1.more fun a o => ow0 a o).reown fun a q => ?_
      rcases q with q | q
      · rcases owr a q with ⟨j, lv, _, h1, h2, h3⟩ | q
        · exact .inl ⟨j, lv, h1, h2, h3⟩
        · rcases g1.own a (.inl q) with z | z
          · exact .inl (ow0 a z)
          · exact .inr z
      · obtain ⟨_, e⟩ := q
        cases e
        exact .inr hD
/-- the block's contexts -/
abbrev blk (X : Cx) (scope : Scope) (s : Shared) (H : Hp) (C : Addr) (cl : List (Str × Addr)) (fp : List Addr) : Cx := X.blk s H scope (compEnvC scope cl C X.env) fp
/-- the tests of a clause -/
def TsJ (X : Cx) (R : RE) (ifs : List Expr) (t : TM) : Prop := PTs X ifs (tT R W0 t)
theorem tsj_nil : TsJ X R [] tYesM := ⟨fun pins s σ H Q I ⟨F, env, er, l, p⟩ => pts_nil.run pins s σ H Q I (p F H er (.refl l))⟩
theorem tsj_one {c : Expr} (h : TJ X R W0 c t) : TsJ X R [c] t := pts_one h.uni
theorem PE.lenN {e : Expr} {t : TE} (h : PE X e t) : PE X e (fun σ H Q => σ.length = X.N.length → t σ H Q) := ⟨fun pins s σ H Q I q => h.run pins s σ H Q I (q I.len)⟩
theorem PS.lenN {e : Stmt} {t : TS} (h : PS X e t) : PS X e (fun D σ H => σ.length = X.N.length → t D σ H) := ⟨fun pins s σ H D I q => h.run pins s σ H D I (q I.len)⟩
theorem os_lc {N : Nat} {wi : TI} {tg : TG} {tt : TT} {te : TE} {vs : List Nat} (hi : ISd R W wi i) (gl : GLen g) (hg : GSd R (compl vs N) tg g) (ht : TSd R W0 tt t) (he : OS R W0 te m) : OS R W (fun σ H Q => σ.length = N → tLc wi tg tt te vs σ H Q) (oLc i g t m vs) := by
  intro σ F H env Q er l p hN
  unfold oLc at p
  refine hi σ F H env _ er l ?_
  cases e1 : i env with
  | bad => rw [e1] at p; exact p.elim
  | exc x env1 => rw [e1] at p; exact p
  | val ds env1 =>
    rw [e1] at p
    intro J F1 H1 er1 wk g1 D hD
    exact lc_sound er1 g1.sub wk gl (by rw [hN]; exact hg) ht he (OPost.after l g1 p) D hD
theorem oj_lc {scope : Scope} {own : List (Str × Nat)} (hc : X.calm = true) (hN : X.N.Nodup) (ok : blkC X.N X.env.scope scope own = true) (hi : IJ X R W tg iter i) (gl : GLen g)
    (hg : ∀ s H C cl fp, GJ (blk X scope s H C cl fp) R (compl (own.map (·.2)) X.N.length) tg g) (ht : ∀ s H C cl fp, TsJ (blk X scope s H C cl fp) R ifs t) (he : ∀ s H C cl fp, OJ (blk X scope s H C cl fp) R W0 elt m)
    (hs : ∀ x, foldedSetIterable iter X.env x = pure x := by intro _; rfl) : OJ X R W (.ListComp elt [⟨tg, iter, ifs, 0⟩] scope pos) (oLc i g t m (own.map (·.2))) := by
  obtain ⟨wi, i1, i2⟩ := hi
  exact ⟨_, PE.lenN (pe_lc hc hN i1 (blkOk_by ok) (fun s H C cl fp => (hg s H C cl fp).uni) (fun s H C cl fp => ht s H C cl fp) (fun s H C cl fp => (he s H C cl fp).uni) hs), os_lc i2 gl gs_uni ts_uni os_uni⟩
/-- y = [..], y a local, the comprehension on its line -/
theorem sj_setLc {j : Nat} {y : Str} {py spos : Pos} {scope : Scope} {own : List (Str × Nat)} (hc : X.calm = true) (hN : X.N.Nodup) (hy : X.N[j]? = some y) (hyl : X.env.scope.names.lookup y = some .local) (hP : j ∉ P)
    (hsw : swapsWith (.ListComp elt [⟨tg, iter, ifs, 0⟩] scope pos) (some (.Name y py)) spos.line X.env = pure true) (ok : blkC X.N X.env.scope scope own = true) (hi : IJ X R W tg iter i) (gl : GLen g)
    (hg : ∀ s H C cl fp, GJ (blk X scope s H C cl fp) R (compl (own.map (·.2)) X.N.length) tg g) (ht : ∀ s H C cl fp, TsJ (blk X scope s H C cl fp) R ifs t) (he : ∀ s H C cl fp, OJ (blk X scope s H C cl fp) R W0 elt m)
    (hs : ∀ x, foldedSetIterable iter X.env x = pure x := by intro _; rfl) : SJ X R W P (.Assign [.Name y py] (.ListComp elt [⟨tg, iter, ifs, 0⟩] scope pos) spos) (sSet j (oLc i g t m (own.map (·.2)))) := by
  obtain ⟨wi, i1, i2⟩ := hi
  refine ⟨_, PS.lenN (ps_setLc hc hN hy hyl hsw i1 (blkOk_by ok) (fun s H C cl fp => (hg s H C cl fp).uni) (fun s H C cl fp => ht s H C cl fp) (fun s H C cl fp => (he s H C cl fp).uni) hs), fun σ F H env D er l p hn => ?_⟩
  have q := ss_set (te := fun σ H Q => σ.length = X.N.length → tLc wi (tG R (compl (own.map (·.2)) X.N.length) g) (tT R W0 t) (tM R W0 m) (own.map (·.2)) σ H Q) hP (os_lc i2 gl gs_uni ts_uni os_uni) σ F H env D er l p
  exact q hn
end
end PL
set_option maxRecDepth 100000
set_option maxHeartbeats 4000000
/-! What changes a variable's object: stores into it, its methods; pairs stored; enumerate. -/
namespace PL
open PySem L2 PyProof.Rows

structure Mu (F H : Hp) (o : V) (F' H' : Hp) : Prop where
  le : Le F F'
  sub : Le F' H'
  keep : ∀ a x, H a = some x → o ≠ .ref a → H' a = some x
  old : ∀ a, F' a ≠ none → F a ≠ none ∨ H a = none
  frz : ∀ a ob u, H a = some (.frz ob u) → H' a = some (.frz ob u)
section
variable {R : RE} {F H F' H' : Hp} {σ : L2.St} {env : LEnv} {a : Addr} {i : Nat} {lv lv' : LV} {o : V}
theorem Mu.of_nw (g : Nw F H F' H') : Mu F H o F' H' := ⟨g.le, g.sub, fun a x h _ => g.keep a x h, g.old, fun a ob u h => g.keep a _ h⟩
theorem Mu.upd {x y : HO} (l : Le F H) (hF : F a = none) (hH : H a = some x) (hf : ∀ ob u, x ≠ .frz ob u) : Mu F H (.ref a) F (L2.upd H a y) :=
  ⟨.refl F, l.mut hF, fun b z h n => by rw [upd_ne (fun e => n (by rw [e]))]; exact h, fun b h => .inl h, fun b ob u h => by
    by_cases z : b = a
    · subst z; rw [hH] at h; cases h; exact absurd rfl (hf ob u)
    · rw [upd_ne z]; exact h⟩
theorem LRel.mu {v : V} (g : Mu F H o F' H') (r : LRel R F H lv v) (n' : ∀ a, Owns lv v a → o ≠ .ref a) : LRel R F' H' lv v := by
  have fn : ∀ {a : Addr}, F a = none → H a ≠ none → F' a = none := fun {a} f h => by
    cases e : F' a with
    | none => rfl
    | some z =>
      rcases g.old a (by rw [e]; simp) with q | q
      · exact absurd f q
      · exact absurd q h
  cases r with
  | dat r => exact .dat (r.mono g.le)
  | ml f h r => exact .ml (fn f (by rw [h]; simp)) (g.keep _ _ h (n' _ ⟨rfl, rfl⟩)) (r.mono g.le)
  | md f h k r => exact .md (fn f (by rw [h]; simp)) (g.keep _ _ h (n' _ ⟨rfl, rfl⟩)) k (r.mono g.le)
  | mt f h k r => exact .mt (fn f (by rw [h]; simp)) (g.keep _ _ h (n' _ ⟨rfl, rfl⟩)) k (r.mono g.le)
  | mi f h k r => exact .mi (fn f (by rw [h]; simp)) (g.keep _ _ h (n' _ ⟨rfl, rfl⟩)) k (r.mono g.le)
/-- variable i's object changes -/
theorem ER.mu (er : ER R F H σ env) (g : Mu F H o F' H') (he : env[i]? = some lv) (hv : σ[i]? = some (some o)) (hc : lv.isOwn = true) (hc' : lv'.isOwn = true) (lr : LRel R F' H' lv' o) : ER R F' H' σ (env.set i lv') ∧ ∀ a, Own (env.set i lv') σ a → Own env σ a := by
  have hi : i < env.length := (List.getElem?_eq_some_iff.mp he).1
  have z : ∀ {j : Nat} {l2 : LV}, (env.set i lv')[j]? = some l2 → (j = i ∧ l2 = lv') ∨ (j ≠ i ∧ env[j]? = some l2) := fun {j l2} h => by
    by_cases e : j = i
    · subst e
      rw [getElem?_set_self' hi] at h
      cases h; exact .inl ⟨rfl, rfl⟩
    · rw [List.getElem?_set_ne (Ne.symm e)] at h; exact .inr ⟨e, h⟩
  have y : ∀ {j : Nat} {l2 : LV}, (env.set i lv')[j]? = some l2 → l2.isOwn = true → ∃ l3, env[j]? = some l3 ∧ l3.isOwn = true := fun {j l2} h o => by
    rcases z h with ⟨rfl, rfl⟩ | ⟨_, h⟩
    · exact ⟨lv, he, hc⟩
    · exact ⟨l2, h, o⟩
  refine ⟨⟨by rw [List.length_set]; exact er.len, fun j l2 h n => ?_, fun j k l1 l2 b h1 h2 o1 o2 s1 s2 => ?_⟩, fun a ⟨j, l2, h1, h2, h3⟩ => ?_⟩
  · rcases z h with ⟨rfl, rfl⟩ | ⟨nj, h⟩
    · exact ⟨o, hv, lr⟩
    · obtain ⟨v, q1, q2⟩ := er.rel j l2 h n
      refine ⟨v, q1, q2.mu g fun a ob e => ?_⟩
      subst e
      exact nj (er.dis j i l2 lv a h he ob.1 hc (by rw [q1, ob.2]) hv)
  · obtain ⟨l3, a1, a2⟩ := y h1 o1
    obtain ⟨l4, b1, b2⟩ := y h2 o2
    exact er.dis j k l3 l4 b a1 b1 a2 b2 s1 s2
  · obtain ⟨l3, a1, a2⟩ := y h1 h2
    exact ⟨j, l3, a1, a2, h3⟩
theorem Mu.gr {O O' : Addr → Prop} (g : Mu F H o F' H') (ho : ∀ a, o = .ref a → O a) (h : ∀ a, O' a → O a ∨ H a = none) : Gr O F H O' F' H' :=
  ⟨g.le, g.sub, fun a x e f n => g.keep a x e fun z => n (ho a z), fun a q => (g.old a q).elim .inl fun z => .inr (.inl z), h, g.frz⟩
end

/-! ### methods that change their object -/
/-- f tells the answer and the object behind -/
abbrev MtF := LV → List LV → Option (LV × LV)
def RMu (R : RE) (r : V → List V → Hp → VK → Prop) (f : MtF) : Prop :=
  ∀ F H o lo vs lvs z lo' Q, Le F H → LRel R F H lo o → LRelL R F H lvs vs → f lo lvs = some (z, lo') → (∀ w F' H', Mu F H o F' H' → LRel R F' H' lo' o → LRel R F' H' z w → (∀ a, Owns z w a → H a = none) → Q w H') → r o vs H Q
def MuJ (X : Cx) (R : RE) (id : String) (f : MtF) : Prop := ∃ r, MtR X id r ∧ RMu R r f
def LV.ty : LV → String
  | .dat (.str _) => "str"
  | .dat (.int _) => "int"
  | .dat (.lst _) => "list"
  | .dat (.slst _) => "list"
  | .ml _ => "list"
  | .md _ => "dict"
  | .mt _ => "dict"
  | _ => ""
theorem LRel.ty {R : RE} {F H : Hp} {lv : LV} {v : V} {T : String} (l : Le F H) (r : LRel R F H lv v) (h : lv.ty = T) (n : T ≠ "") : tyV R.K T v H := by
  subst h
  cases r with
  | dat r =>
    cases r with
    | str x => rfl
    | int x => rfl
    | lst h rs => exact .inl ⟨rfl, _, .inl (.inl (l.lstE h))⟩
    | slst h rs => exact .inl ⟨rfl, _, l.sqL h⟩
    | _ => exact absurd rfl n
  | ml f h rs => exact .inl ⟨rfl, _, .inl (.inl h)⟩
  | md f h k rs => exact .inr (.inr (.inl ⟨rfl, .inl ⟨_, h⟩⟩))
  | mt f h k rs => exact .inr (.inr (.inl ⟨rfl, .inr ⟨_, h⟩⟩))
  | mi f h k rs => exact absurd rfl n
/-- x.m(..), x a variable that owns its object -/
def oMu (T : String) (mo : OM) (ms : AM) (f : MtF) : OM := fun env => match mo env with
  | .val (.var i) env0 => match (Rf.var i).get env0 with
    | some l0 => if l0.ty = T then
        match ms env0 with
        | .val rs env1 => match (Rf.var i).get env1, gets rs env1 with
          | some lo, some lvs => match f lo lvs with
            | some (z, lo') => if z.ok && lo.isOwn && lo'.isOwn then .val (.tmp z) (env1.set i lo') else .bad
            | none => .bad
          | _, _ => .bad
        | .exc x env1 => .exc x env1
        | .bad => .bad
      else .bad
    | none => .bad
  | .val (.tmp _) _ => .bad
  | .exc x env0 => .exc x env0
  | .bad => .bad
section
variable {X : Cx} {R : RE} {W : WX} {P : List Nat} {pos : Pos} {e o : Expr} {es : List Expr} {mo m : OM} {ms : AM}
theorem os_mu {T : String} {to : TE} {t : TA} {r : V → List V → Hp → VK → Prop} {f : MtF} (hT : T ≠ "") (h1 : OS R W to mo) (h2 : AS R W t ms) (hr : RMu R r f) :
    OS R W (fun σ H Q => to σ H fun x H1 => tyV R.K T x H1 ∧ t σ H1 fun xs H2 => r x xs H2 Q) (oMu T mo ms f) := by
  intro σ F H env Q er l p
  unfold oMu at p
  refine h1 σ F H env _ er l ?_
  cases e1 : mo env with
  | bad => rw [e1] at p; exact p.elim
  | exc x env0 => rw [e1] at p; exact p
  | val ro env0 =>
    rw [e1] at p
    intro v F0 H0 er0 rr0 d0 g0
    cases ro with
    | tmp lv => exact p.elim
    | var i =>
      simp only at p
      have g0w : Gr (Own env σ) F H (Own env0 σ) F0 H0 := g0.weak fun a q => .inl q
      cases e2 : (Rf.var i).get env0 with
      | none => simp only [e2] at p; exact p.elim
      | some l0 =>
        simp only [e2] at p
        by_cases hty : l0.ty = T
        · rw [if_pos hty] at p
          refine ⟨(rr0.get er0 e2).1.ty g0.sub hty hT, ?_⟩
          refine h2 σ F0 H0 env0 _ er0 g0.sub ?_
          cases e3 : ms env0 with
          | bad => simp only [e3] at p; exact p.elim
          | exc x env1 => simp only [e3] at p; exact fun cls d F1 H1 er1 xr g1 => p cls d F1 H1 er1 xr (g0w.trans l g1)
          | val rs env1 =>
            simp only [e3] at p
            intro vs F1 H1 er1 rr1 d1 dd1 g1
            have rv : RfR R F1 H1 σ (.var i) v := rr0
            cases e4 : (Rf.var i).get env1 with
            | none => simp only [e4] at p; exact p.elim
            | some lo =>
              cases e5 : gets rs env1 with
              | none => simp only [e4, e5] at p; exact p.elim
              | some lvs =>
                simp only [e4, e5] at p
                cases e6 : f lo lvs with
                | none => simp only [e6] at p; exact p.elim
                | some zl =>
                  obtain ⟨z, lo'⟩ := zl
                  simp only [e6] at p
                  cases e7 : (z.ok && lo.isOwn && lo'.isOwn) with
                  | false => simp [e7] at p; exact p.elim
                  | true =>
                    simp only [e7, if_true] at p
                    rw [Bool.and_eq_true, Bool.and_eq_true] at e7
                    obtain ⟨⟨zok, hc⟩, hc'⟩ := e7
                    refine hr F1 H1 v lo vs lvs z lo' Q g1.sub (rv.get er1 e4).1 (rr1.gets er1 e5) e6 fun w F2 H2 mu lr' lrz ow => ?_
                    obtain ⟨er2, ow2⟩ := er1.mu mu (get_var e4).1 rv hc hc' lr'
                    have g1w : Gr (Own env0 σ) F0 H0 (Own env1 σ) F1 H1 := g1.weak fun a q => .inl q
                    refine p w F2 H2 er2 ⟨ok_ne zok, lrz⟩ (fun a oo q => (er1.tracked (ow2 a q)).2 (ow a oo)) ?_
                    refine (g0w.trans l g1w).trans l (mu.gr (fun a e => ⟨i, lo, (get_var e4).1, hc, by rw [← e]; exact rv⟩) fun a q => ?_)
                    rcases q with q | q
                    · exact .inl (ow2 a q)
                    · exact .inr (ow a q)
        · rw [if_neg hty] at p; exact p.elim
theorem oj_mu {T id : String} {name : Str} {apos cpos : Pos} {f : MtF} (hK : R.K = X.K) (pa : PlainAttrs T) (slot : Slot T name id) (hty : typeOf (.builtin id) = pure (.type "method_descriptor")) (hT : T ≠ "") (hf : MuJ X R id f) (ho : OJ X R W o mo) (ha : AJ X R W (e :: es) ms)
    (hbase : attributeBase o name X.env (eval o X.env) = eval o X.env := by rfl)
    (hfew : ((backTo cpos (starEach (e :: es) X.env)).all (fun x => !x.1) && (backToKw cpos (keywordEach [] X.env)).all (fun x => x.1.isSome)
      && decide ((e :: es).length + ([] : List Keyword).length + (if ([] : List Keyword).isEmpty then 0 else 1) < 30)) = true := by rfl)
    (hline : (apos.endLine == cpos.line) = true := by rfl) (hs : starEach (e :: es) X.env = (false, eval e X.env) :: starEach es X.env := by rfl) (hplain : (backTo cpos (starEach es X.env)).any (·.1) = false := by rfl) :
    OJ X R W (.Call (.Attribute o name apos) (e :: es) [] cpos) (oMu T mo ms f) := by
  obtain ⟨r, r1, r2⟩ := hf
  obtain ⟨to, a1, a2⟩ := ho
  obtain ⟨t, b1, b2⟩ := ha
  refine ⟨_, pe_bm pa slot hty r1 a1 b1 hbase hfew hline hs hplain, ?_⟩
  have q := os_mu (T := T) hT a2 b2 r2
  rw [hK] at q
  exact q
theorem oj_mu0 {T id : String} {name : Str} {apos cpos : Pos} {f : MtF} (hK : R.K = X.K) (pa : PlainAttrs T) (slot : Slot T name id) (hty : typeOf (.builtin id) = pure (.type "method_descriptor")) (hT : T ≠ "") (hf : MuJ X R id f) (ho : OJ X R W o mo)
    (hbase : attributeBase o name X.env (eval o X.env) = eval o X.env := by rfl) (hline : (apos.endLine == cpos.line) = true := by rfl) :
    OJ X R W (.Call (.Attribute o name apos) [] [] cpos) (oMu T mo aNil f) := by
  obtain ⟨r, r1, r2⟩ := hf
  obtain ⟨to, a1, a2⟩ := ho
  refine ⟨_, pe_bm0 pa slot hty r1 a1 hbase hline, ?_⟩
  have q := os_mu (T := T) (W := W) hT a2 as_nil r2
  rw [hK] at q
  exact q
/-! list.append, list.extend, list.pop -/
def mAppend : MtF := fun o l => match o, l with
  | .ml ds, [.dat d] => if ds.length < sizeLine then some (.dat .non, .ml (ds ++ [d])) else none
  | _, _ => none
theorem jAppend : MuJ X R "list.append" mAppend := ⟨_, mt_append, fun F H o lo vs lvs z lo' Q l r1 rl e k => by
  unfold mAppend at e
  split at e
  · rename_i ds d
    split at e
    · rename_i hz
      cases e
      cases rl with
      | cons r2 rl =>
        cases rl
        cases r1 with
        | ml f h rs =>
          cases r2 with
          | dat r2 =>
            refine ⟨_, _, _, rfl, rfl, h, by rw [← rs.length]; exact hz, ?_⟩
            exact k .non F _ (.upd l f h fun _ _ z => by cases z) (.ml f upd_same (rs.append (.cons r2 .nil))) (.dat .non) fun a o => by cases o.1
    · cases e
  · cases e⟩
def mExtend : MtF := fun o l => match o, l with
  | .ml ds, [b] => match b.items with
    | some es => if ds.length + es.length ≤ sizeLine then some (.dat .non, .ml (ds ++ es)) else none
    | none => none
  | _, _ => none
theorem jExtend : MuJ X R "list.extend" mExtend := ⟨_, mt_extend, fun F H o lo vs lvs z lo' Q l r1 rl e k => by
  unfold mExtend at e
  split at e
  · rename_i ds b
    cases e1 : b.items with
    | none => simp [e1] at e
    | some es =>
      simp only [e1] at e
      split at e
      · rename_i hz
        cases e
        cases rl with
        | cons r2 rl =>
          cases rl
          obtain ⟨p, us, rfl, hp, rb⟩ := r2.items l e1
          cases r1 with
          | ml f h rs =>
            refine ⟨_, _, _, _, rfl, rfl, h, hp, by rw [← rs.length, ← rb.length]; exact hz, ?_⟩
            exact k .non F _ (.upd l f h fun _ _ z => by cases z) (.ml f upd_same (rs.append rb)) (.dat .non) fun a o => by cases o.1
      · cases e
  · cases e⟩
def mPop : MtF := fun o l => match o, l with
  | .ml ds, [] => match ds[ds.length - 1]? with
    | some d => some (.dat d, .ml ds.dropLast)
    | none => none
  | .ml ds, [.dat (.int i)] => if -(2 ^ 63) ≤ i ∧ i < 2 ^ 63 then match seqIndex? i ds.length with
    | some k => match ds[k]? with
      | some d => some (.dat d, .ml (ds.eraseIdx k))
      | none => none
    | none => none
    else none
  | _, _ => none
theorem RepL.dropLast {F : Hp} {ds : List D} {vs : List V} (r : RepL R F ds vs) : RepL R F ds.dropLast vs.dropLast := by
  rw [List.dropLast_eq_take, List.dropLast_eq_take, r.length]
  exact r.take _
theorem jPop : MuJ X R "list.pop" mPop := ⟨_, MtR.or mt_pop mt_popAt, fun F H o lo vs lvs z lo' Q l r1 rl e k => by
  unfold mPop at e
  split at e
  · rename_i ds
    cases rl
    cases e1 : ds[ds.length - 1]? with
    | none => simp [e1] at e
    | some d =>
      simp only [e1, Option.some.injEq, Prod.mk.injEq] at e
      obtain ⟨rfl, rfl⟩ := e
      cases r1 with
      | ml f h rs =>
        obtain ⟨v, h1, h2⟩ := rs.get e1
        exact .inl ⟨_, _, v, rfl, rfl, h, by rw [← rs.length]; exact h1, k v F _ (.upd l f h fun _ _ z => by cases z) (.ml f upd_same rs.dropLast) (.dat h2) fun a o => by cases o.1⟩
  · rename_i ds i
    split at e
    · rename_i hb
      cases e1 : seqIndex? i ds.length with
      | none => simp [e1] at e
      | some j =>
        simp only [e1] at e
        cases e2 : ds[j]? with
        | none => simp [e2] at e
        | some d =>
          simp only [e2, Option.some.injEq, Prod.mk.injEq] at e
          obtain ⟨rfl, rfl⟩ := e
          cases rl with
          | cons r2 rl =>
            cases rl
            cases r2 with
            | dat r2 =>
              cases r2
              cases r1 with
              | ml f h rs =>
                obtain ⟨v, h1, h2⟩ := rs.get e2
                exact .inr ⟨_, _, i, j, v, rfl, rfl, h, hb.1, hb.2, by rw [← rs.length]; exact e1, h1, k v F _ (.upd l f h fun _ _ z => by cases z) (.ml f upd_same (rs.eraseIdx j)) (.dat h2) fun a o => by cases o.1⟩
    · cases e
  · cases e⟩

/-! ### stores -/
abbrev StF := LV → LV → D → Option LV
def RSt (R : RE) (t : TSet) (f : StF) : Prop := ∀ F H o lo i li x d lo' Q, Le F H → LRel R F H lo o → LRel R F H li i → Rep R F d x → f lo li d = some lo' → (∀ H', Mu F H o F H' → LRel R F H' lo' o → Q H') → t o i x H Q
def StJ (X : Cx) (R : RE) (f : StF) : Prop := ∃ t, PSet X t ∧ RSt R t f
theorem StJ.or {f g : StF} (h1 : StJ X R f) (h2 : StJ X R g) : StJ X R (fun a b c => match f a b c with | some z => some z | none => g a b c) := by
  obtain ⟨r, a1, a2⟩ := h1
  obtain ⟨s, b1, b2⟩ := h2
  refine ⟨fun o i v H Q => r o i v H Q ∨ s o i v H Q, fun pins s' σ H o i v ov iv u Q I ro ri rv q => q.elim (a1 pins s' σ H o i v ov iv u Q I ro ri rv) (b1 pins s' σ H o i v ov iv u Q I ro ri rv), fun F H o lo i li x d lo' Q l r1 r2 r3 e k => ?_⟩
  cases q : f lo li d with
  | some w => simp only [q] at e; cases e; exact .inl (a2 F H o lo i li x d _ Q l r1 r2 r3 q k)
  | none => simp only [q] at e; exact .inr (b2 F H o lo i li x d lo' Q l r1 r2 r3 e k)
/-- x[i] = e, x a variable that owns its object -/
def sPut (mv mo mi : OM) (f : StF) : SM := fun env => match aCons (oFrz mv) (aCons mo (aCons mi aNil)) env with
  | .val [rv, .var j, ri] env1 => match rv.get env1, (Rf.var j).get env1, ri.get env1 with
    | some (.dat d), some lo, some li => match f lo li d with
      | some lo' => if lo.isOwn && lo'.isOwn then .nx (env1.set j lo') else .bad
      | none => .bad
    | _, _, _ => .bad
  | .val _ _ => .bad
  | .exc x env1 => .exc x env1
  | .bad => .bad
theorem ss_put {tv to ti : TE} {t : TSet} {f : StF} {mv mi : OM} (h1 : OS R W tv mv) (h2 : OS R W to mo) (h3 : OS R W ti mi) (ht : RSt R t f) : SSd R W P (tAsg tv (gSub to ti t)) (sPut mv mo mi f) := by
  intro σ F H env D er l p
  unfold sPut at p
  refine as_cons (os_frz h1) (as_cons h2 (as_cons h3 as_nil)) σ F H env (fun vs H3 => match vs with
    | [x, o, i] => t o i x H3 fun H4 => D.nx σ H4
    | _ => False) er l ?_
  cases e1 : aCons (oFrz mv) (aCons mo (aCons mi aNil)) env with
  | bad => rw [e1] at p; exact p.elim
  | exc x env1 => rw [e1] at p; exact XPost.stm p
  | val rs env1 =>
    rw [e1] at p
    intro vs F1 H1 er1 rr d1 dd1 g1
    match rs, vs, rr, p, g1 with
    | [rv, .var j, ri], [x, o, i], .cons qv (.cons qo (.cons qi .nil)), p, g1 =>
      simp only at p ⊢
      cases e2 : rv.get env1 with
      | none => simp only [e2] at p; exact p.elim
      | some lv =>
        have kv := (qv.get er1 e2).1
        cases kv with
        | dat kv =>
          cases e3 : (Rf.var j).get env1 with
          | none => simp only [e2, e3] at p; exact p.elim
          | some lo =>
            cases e4 : ri.get env1 with
            | none => simp only [e2, e3, e4] at p; exact p.elim
            | some li =>
              simp only [e2, e3, e4] at p
              rename_i d
              cases e5 : f lo li d with
              | none => simp only [e5] at p; exact p.elim
              | some lo' =>
                simp only [e5] at p
                cases e6 : (lo.isOwn && lo'.isOwn) with
                | false => simp [e6] at p; exact p.elim
                | true =>
                  simp only [e6, if_true] at p
                  rw [Bool.and_eq_true] at e6
                  refine ht F1 H1 o lo i li x d lo' _ g1.sub (qo.get er1 e3).1 (qi.get er1 e4).1 kv e5 fun H2 mu lr => ?_
                  obtain ⟨er2, ow2⟩ := er1.mu mu (get_var e3).1 qo e6.1 e6.2 lr
                  refine p σ F1 H2 ⟨er2, ?_, .refl⟩
                  exact (g1.weak fun a q => .inl q : Gr (Own env σ) F H (Own env1 σ) F1 H1).trans l (mu.gr (fun a e => ⟨j, lo, (get_var e3).1, e6.1, by rw [← e]; exact qo⟩) fun a q => .inl (ow2 a q))
        | _ => simp only [e2] at p; exact p.elim
    | [], _, _, p, _ => exact (show False from p).elim
    | [_], _, _, p, _ => exact (show False from p).elim
    | [_, .tmp _], _, _, p, _ => exact (show False from p).elim
    | [_, .var _], _, _, p, _ => exact (show False from p).elim
    | [_, .tmp _, _], _, _, p, _ => exact (show False from p).elim
    | _ :: .tmp _ :: _ :: _ :: _, _, _, p, _ => exact (show False from p).elim
    | _ :: .var _ :: _ :: _ :: _, _, _, p, _ => exact (show False from p).elim
theorem sj_put {i : Expr} {mv mi : OM} {f : StF} {pos' : Pos} (hf : StJ X R f) (hv : OJ X R W e mv) (ho : OJ X R W o mo) (hi : OJ X R W i mi)
    (ha : ∀ v, assign (.Subscript o i pos') X.env v = (do
      let ov ← holding [v] (eval o X.env)
      let iv ← holding [v, ov] (eval i X.env)
      standAt pos'
      holding [v, ov, iv] (setItem ov iv v)
      release [v, ov, iv] []) := by intro _; rfl)
    (hs : swapsWithSole [.Subscript o i pos'] e pos.line X.env = pure false := by rfl) (hw : swappedStores [.Subscript o i pos'] e X.env = pure none := by rfl)
    (h1 : (assignEach [.Subscript o i pos'] X.env).map (·.2) = [assign (.Subscript o i pos') X.env] := by rfl) : SJ X R W P (.Assign [.Subscript o i pos'] e pos) (sPut mv mo mi f) := by
  obtain ⟨t, t1, t2⟩ := hf
  obtain ⟨tv, a1, a2⟩ := hv
  obtain ⟨to, b1, b2⟩ := ho
  obtain ⟨ti, c1, c2⟩ := hi
  exact ⟨_, ps_asg a1 (pg_sub b1 c1 t1 ha) hs hw h1, ss_put a2 b2 c2 t2⟩
def stL : StF := fun o i d => match o, i with
  | .ml ds, .dat (.int k) => match ixN ds.length k with
    | some j => some (.ml (ds.set j d))
    | none => none
  | _, _ => none
theorem jStL : StJ X R stL := ⟨_, set_list, fun F H o lo i li x d lo' Q l r1 r2 r3 e k => by
  unfold stL at e
  split at e
  · rename_i ds n
    cases e1 : ixN ds.length n with
    | none => simp [e1] at e
    | some j =>
      simp only [e1, Option.some.injEq] at e
      subst e
      cases r1 with
      | ml f h rs =>
        cases r2 with
        | dat r2 =>
          cases r2
          exact ⟨_, _, n, j, rfl, rfl, h, by rw [← rs.length]; exact e1, k _ (.upd l f h fun _ _ z => by cases z) (.ml f upd_same (rs.set j r3))⟩
  · cases e⟩

/-! ### a, b = e1, e2 (two local names): both are data -/
def Rf.datum : Rf → Option PL.D
  | .tmp (.dat d) => some d
  | _ => none
theorem RfR.datum {F H : Hp} {σ : L2.St} {r : Rf} {v : V} {d : PL.D} (q : RfR R F H σ r v) (e : r.datum = some d) : Rep R F d v := by
  unfold Rf.datum at e
  split at e
  · cases e
    cases q.2 with
    | dat r => exact r
  · cases e
def sPar (i j : Nat) (ma mb : OM) : SM := fun env => match aCons (oFrz ma) (aCons (oFrz mb) aNil) env with
  | .val [r1, r2] env1 => match r1.datum, r2.datum with
    | some d, some d' => .nx ((env1.set i (.dat d)).set j (.dat d'))
    | _, _ => .bad
  | .val _ _ => .bad
  | .exc x env1 => .exc x env1
  | .bad => .bad
theorem sj_par {i j : Nat} {x y : Str} {a b : Expr} {ma mb : OM} {px py pt : Pos} {kt k2 pt2} (hc : X.calm = true) (hN : X.N.Nodup) (hi : X.N[i]? = some x) (hj : X.N[j]? = some y) (hij : i ≠ j)
    (hx : X.env.scope.names.lookup x = some .local) (hy : X.env.scope.names.lookup y = some .local) (hPi : i ∉ P) (hPj : j ∉ P) (ha : OJ X R W a ma) (hb : OJ X R W b mb)
    (hw : swappedStores [.Tuple [.Name x px, .Name y py] kt pt] (.Tuple [a, b] k2 pt2) X.env = pure (some [x, y]))
    (hs : swapsWithSole [.Tuple [.Name x px, .Name y py] kt pt] (.Tuple [a, b] k2 pt2) pos.line X.env = pure false := by rfl)
    (hs2 : starEach [a, b] X.env = [(false, eval a X.env), (false, eval b X.env)] := by rfl) (hs3 : starEach [b] X.env = [(false, eval b X.env)] := by rfl) :
    SJ X R W P (.Assign [.Tuple [.Name x px, .Name y py] kt pt] (.Tuple [a, b] k2 pt2) pos) (sPar i j ma mb) := by
  obtain ⟨ta, a1, a2⟩ := oj_frz ha
  obtain ⟨tb, b1, b2⟩ := oj_frz hb
  refine ⟨_, ps_par hc hN hi hj hij hx hy (pa_cons a1 (pa_cons b1 pa_nil (by rw [hs3]; rfl)) (by rw [hs2, hs3])) hw hs, fun σ F H env D er l p => ?_⟩
  unfold sPar at p
  refine as_cons a2 (as_cons b2 as_nil) σ F H env _ er l ?_
  cases e1 : aCons (oFrz ma) (aCons (oFrz mb) aNil) env with
  | bad => rw [e1] at p; exact p.elim
  | exc x env1 => rw [e1] at p; exact XPost.stm p
  | val rs env1 =>
    rw [e1] at p
    intro vs F1 H1 er1 rr d1 dd1 g1
    match rs, vs, rr, p, g1 with
    | [r1, r2], [v, w], .cons q1 (.cons q2 .nil), p, g1 =>
      simp only at p
      cases k1 : r1.datum with
      | none => simp only [k1] at p; exact p.elim
      | some d =>
        cases k2 : r2.datum with
        | none => simp only [k1, k2] at p; exact p.elim
        | some d' =>
          simp only [k1, k2] at p
          have er2 := er1.set (i := i) (lv := .dat d) (v := v) (by simp) (.dat (q1.datum k1)) fun _ o => by cases o.1
          have er3 := er2.set (i := j) (lv := .dat d') (v := w) (by simp) (.dat (q2.datum k2)) fun _ o => by cases o.1
          refine ⟨v, w, rfl, p _ F1 H1 ⟨er3, g1.weak fun a o => .inl (own_setd (own_setd o)), (Fix.set hPi).trans (Fix.set hPj)⟩⟩
    | [], _, _, p, _ => exact (show False from p).elim
    | [_], _, _, p, _ => exact (show False from p).elim
    | _ :: _ :: _ :: _, _, _, p, _ => exact (show False from p).elim
/-! ### enumerate of a list -/
def enumD (n : Nat) : List PL.D → List PL.D
  | [] => []
  | d :: ds => .tup [.int n, d] :: enumD (n + 1) ds
theorem enumD_get : ∀ {ds : List PL.D} {n i : Nat}, (enumD n ds)[i]? = (ds[i]?).map fun d => .tup [.int ((n + i : Nat) : Int), d]
  | [], n, i => by simp [enumD]
  | d :: ds, n, 0 => by simp [enumD]
  | d :: ds, n, i + 1 => by
    unfold enumD
    simp only [List.getElem?_cons_succ]
    rw [enumD_get]
    congr 1
    funext d'
    rw [show n + 1 + i = n + (i + 1) by omega]
theorem enumD_length : ∀ {ds : List PL.D} {n : Nat}, (enumD n ds).length = ds.length
  | [], _ => rfl
  | _ :: ds, n => by unfold enumD; simp [enumD_length]
def iEnumM (m : OM) : IM := fun env => match oFrz m env with
  | .val (.tmp (.dat (.lst ds))) env1 => .val (enumD 0 ds) env1
  | .val _ _ => .bad
  | .exc x env1 => .exc x env1
  | .bad => .bad
theorem walks_enum {F H0 : Hp} {K : PySem.W.Frag} {a : Addr} {ds : List PL.D} {vs : List V} (h : F a = some (.lst vs)) (r : RepL R F ds vs) : Walks R (Ite K a) F H0 (enumD 0 ds) where
  go := fun i G H l g _ hi => by
    rw [enumD_length] at hi
    obtain ⟨x, hx⟩ : ∃ x, vs[i]? = some x := ⟨_, List.getElem?_eq_getElem (by rw [← r.length]; exact hi)⟩
    exact ⟨vs, x, .inl (.inl (g.lstE (l.lstE h))), hx⟩
  stop := fun i G H l g _ hi => ⟨vs, .inl (.inl (g.lstE (l.lstE h))), by rw [← r.length]; rw [enumD_length] at hi; exact hi⟩
  yld := fun i G H v H' l g _ hi y => by
    obtain ⟨T, x, rfl, hT, rfl, y⟩ := y
    have hx := y vs (.inl (.inl (g.lstE (l.lstE h))))
    obtain ⟨d, h1, h2⟩ := r.getV hx
    refine ⟨.tup [.int (i : Nat), d], L2.upd G T (.tup [.int (i : Nat), x]), by rw [enumD_get, h1]; simp, .newF g hT, .tup upd_same ?_⟩
    exact .cons (.int _) (.cons (h2.mono (l.trans (.upd (g.nn hT)))) .nil)
theorem ij_enum {elts : List Expr} {kk : Nat} {tpos p' : Pos} (hg : Gl X "enumerate") (hm : X.mg "enumerate" = none) (ha : OJ X R W e m) (hs : starEach [e] X.env = [(false, eval e X.env)] := by rfl) :
    IJ X R W (.Tuple elts kk tpos) (.Call (.Name "enumerate" p') [e] [] pos) (iEnumM m) := by
  obtain ⟨t, h1, h2⟩ := oj_frz ha
  refine ⟨_, pi_enum hg hm (pa_cons h1 pa_nil (by rw [hs]; rfl)) hs, fun σ F H env Q er l p => ?_⟩
  unfold iEnumM at p
  refine h2 σ F H env _ er l ?_
  cases e1 : oFrz m env with
  | bad => rw [e1] at p; exact p.elim
  | exc x env1 => rw [e1] at p; exact p
  | val r env1 =>
    rw [e1] at p
    intro v F1 H1 er1 rr d1 g1
    match r, rr, p with
    | .tmp (.dat (.lst ds)), rr, p =>
      cases rr.2 with
      | dat rp =>
        cases rp with
        | lst h rs => exact ⟨_, _, rfl, .inl (.inl (g1.sub.lstE h)), p _ F1 H1 er1 (walks_enum h rs) (g1.weak fun a q => .inl q)⟩
    | .var i, rr, p => exact p.elim
    | .tmp .un, rr, p => exact p.elim
    | .tmp (.ml _), rr, p => exact p.elim
    | .tmp (.md _), rr, p => exact p.elim
    | .tmp (.mt _), rr, p => exact p.elim
    | .tmp (.mi _ _), rr, p => exact p.elim
    | .tmp (.dat .non), rr, p => exact p.elim
    | .tmp (.dat (.bl _)), rr, p => exact p.elim
    | .tmp (.dat (.int _)), rr, p => exact p.elim
    | .tmp (.dat (.str _)), rr, p => exact p.elim
    | .tmp (.dat (.tup _)), rr, p => exact p.elim
    | .tmp (.dat (.slst _)), rr, p => exact p.elim
    | .tmp (.dat (.dic _)), rr, p => exact p.elim
    | .tmp (.dat (.dit _)), rr, p => exact p.elim
    | .tmp (.dat (.ins _ _)), rr, p => exact p.elim
    | .tmp (.dat (.cst _)), rr, p => exact p.elim
    | .tmp (.dat .opq), rr, p => exact p.elim
end
end PL
set_option maxRecDepth 100000
set_option maxHeartbeats 4000000
/-! Defs by name; unions of rules. -/
namespace PL
open PySem L2 PyProof.Rows

/-- what is fixed through a law -/
structure Base where
  P : Program
  w : World
  R : RE
  mg : Str → Option Value
  base : Heap
/-- the def x computes g, by level k -/
def FJ (B : Base) (x : Str) (k n : Nat) (g : FM) : Prop :=
  ∃ (f : Addr) (fd : FuncData) (ps : List Str), ps.length = n ∧ B.mg x = some (.ref f) ∧ PySem.W.keepIn B.R.K (.ref f) = true ∧ Binds B.R.K fd ps [] ∧ FnOk B.P B.w B.R.K B.mg B.base (L2.CX B.P B.w) k f fd ps (spOf B.R n g)
/-- the def x stands in the text -/
def DefAt (B : Base) (x : Str) (st : Stmt) (ps : List Str) : Prop :=
  ∃ (f : Addr) (fd : FuncData), Fun B.R.K x x st f fd ∧ B.mg x = some (.ref f) ∧ Binds B.R.K fd ps []
abbrev bx (B : Base) (x : Str) (st : Stmt) (N : List Str) (f : Addr) (cdv : Value) (A : Around) (outer : List PySem.Env) (s : Shared) (H : Hp) (E : XK) : Cx :=
  cxOf (L2.CX B.P B.w) B.P B.w B.R.K B.mg B.base N x (defScope st) f cdv A outer s H E
abbrev wx (E : XK) : WX := fun cls d _ H => E cls d H
theorem fj_mk {B : Base} {x : Str} {st : Stmt} {N ps : List Str} {k : Nat} {P : List Nat} {m : SM} (D : DefAt B x st ps) (S : FnScope N ps (defScope st))
    (hbody : ∀ (f : Addr) (cdv : Value) (A : Around) (outer : List PySem.Env) (s : Shared) (H : Hp) (E : XK), Room k (bx B x st N f cdv A outer s H E).A → Takes (bx B x st N f cdv A outer s H E) (wx E) →
      PassesOwn (model B.P B.w) (bx B x st N f cdv A outer s H E).A (bx B x st N f cdv A outer s H E).env (bx B x st N f cdv A outer s H E).xe → BJ (bx B x st N f cdv A outer s H E) B.R (wx E) P (defBody st) m) :
    FJ B x (k + 1) ps.length (defM N.length P m) := by
  obtain ⟨f, fd, Fn, hm, hb⟩ := D
  refine ⟨f, fd, ps, rfl, hm, Fn.kp, hb, ?_⟩
  have hpl : ps.length ≤ N.length := by have := congrArg List.length S.pre; rw [List.length_take] at this; omega
  refine Fn.okX S (fun vs H Q E h => h.1) (fun cdv A outer s H vs Q E hr h => ?_)
  obtain ⟨hl, F, lvs, l, er, p⟩ := h
  obtain ⟨t, h1, h2⟩ := hbody f cdv A outer s H E hr (takes_of rfl rfl rfl rfl) (passes_of rfl)
  exact ⟨t, h1, body_post (fun _ _ _ _ e => e) (by omega) h2 l er p⟩
/-- nothing is promised -/
theorem fj_bad {B : Base} {x : Str} {st : Stmt} {ps : List Str} {k : Nat} (D : DefAt B x st ps) : FJ B x k ps.length (fun _ => .bad) := by
  obtain ⟨f, fd, Fn, hm, hb⟩ := D
  refine ⟨f, fd, ps, rfl, hm, Fn.kp, hb, fun vs H Q E h => h.1, fun A outer s H args us vs Q E hr he hb' hv h => ?_⟩
  obtain ⟨_, F, lvs, l, er, p⟩ := h
  exact p.elim
theorem FJ.up {B : Base} {x : Str} {j k n : Nat} {g : FM} (h : FJ B x j n g) (e : j ≤ k) : FJ B x k n g := by
  obtain ⟨f, fd, ps, h1, h2, h3, h4, h5⟩ := h
  exact ⟨f, fd, ps, h1, h2, h3, h4, h5.mono e⟩
/-- another function that answers no worse -/
theorem FJ.of {B : Base} {x : Str} {k n : Nat} {g g' : FM} (h : FJ B x k n g) (e : ∀ lvs, g' lvs = .bad ∨ g lvs = g' lvs) : FJ B x k n g' := by
  obtain ⟨f, fd, ps, h1, h2, h3, h4, h5⟩ := h
  refine ⟨f, fd, ps, h1, h2, h3, h4, h5.imp fun vs H Q E ⟨q1, F, lvs, l, er, p⟩ => ⟨q1, F, lvs, l, er, ?_⟩⟩
  rcases e lvs with z | z
  · rw [z] at p; exact p.elim
  · rw [z]; exact p
theorem oj_callJ {B : Base} {X : Cx} {W : WX} {k n : Nat} {g : FM} {x : Str} {p pos : Pos} {e : Expr} {es : List Expr} {ms : AM} (h : FJ B x k n g) (hr : Room k X.A) (tk : Takes X W)
    (ha : AJ X B.R W (e :: es) ms) (hn : AM.len ms n)
    (e1 : X.prog = B.P := by rfl) (e2 : X.w = B.w := by rfl) (e3 : X.K = B.R.K := by rfl) (e4 : X.mg = B.mg := by rfl) (e5 : X.base = B.base := by rfl)
    (hg : Gl X x := by rfl) (hd : (x == ("__debug__" : Str)) = false := by decide)
    (he : starEach (e :: es) X.env = (false, eval e X.env) :: starEach es X.env := by rfl) (hpl : (backTo pos (starEach es X.env)).any (·.1) = false := by rfl) : OJ X B.R W (.Call (.Name x p) (e :: es) [] pos) (oCall g ms) := by
  obtain ⟨f, fd, ps, h1, h2, h3, h4, h5⟩ := h
  rw [← e1, ← e2, ← e3, ← e4, ← e5] at h5
  rw [← e3] at h3 h4
  rw [← e4] at h2
  exact oj_call h5 hr h2 h3 h4 tk hg ha hn hd he hpl

section
variable {X : Cx} {R : RE} {W : WX} {P : List Nat} {pos : Pos} {a b : Expr}
/-! ### unions -/
def fAdd := fOr fAddI (fOr fAddS (fOr fAddL fAddT))
theorem jAdd (hK : R.K = X.K) : OpJ X R (binaryOp .Add) fAdd := jAddI.or (jAddS.or (jAddL.or (jAddT hK)))
def fMul := fOr fMulI fRepL
theorem jMul : OpJ X R (binaryOp .Mult) fMul := jMulI.or jRepL
def fIx := fOr fIxL (fOr fIxT fIxS)
theorem jIx (hK : R.K = X.K) : IxJ X R fIx := (jIxL hK).or (jIxT.or jIxS)
def slA : SlF := fun x lo hi => match slL x lo hi with
  | some z => some z
  | none => match slT x lo hi with
    | some z => some z
    | none => slS x lo hi
theorem jSl (hK : R.K = X.K) : SlJ X R slA := (jSlL hK).or (jSlT.or jSlS)
def fIn := fOr fInD fInS
def fNi := fOr fNiD fNiS
theorem jIn (hK : R.K = X.K) (hu : X.A.units + 65 < cLine) : OpJ X R (compareOp .In) fIn := (jInD hK hu).or jInS
theorem jNi (hK : R.K = X.K) (hu : X.A.units + 65 < cLine) : OpJ X R (compareOp .NotIn) fNi := (jNiD hK hu).or jNiS
def fIs := fOr fIsN fIsB
def fNt := fOr fNtN fNtB
theorem jIs : OpJ X R (compareOp .Is) fIs := jIsN.or jIsB
theorem jNt : OpJ X R (compareOp .IsNot) fNt := jNtN.or jNtB
/-- a list's items or a tuple's -/
def iAny (m : OM) : IM := iOr (iSeq m) (iTp m)
theorem ij_any {tg e : Expr} {m : OM} (h : OJ X R W e m) : IJ X R W tg e (iAny m) := ij_or (ij_seq h) (ij_tup h)
theorem hu64 {k : Nat} {A : Around} (r : Room k A) : A.units + 64 < cLine := r.units
theorem hu65 {k : Nat} {A : Around} (r : Room k A) : A.units + 65 < cLine := by have := r.un; omega
theorem hu1 {k : Nat} {A : Around} (r : Room k A) : A.units + 1 < cLine := by have := r.un; omega
theorem oj_callBn {es : List Expr} {e : Expr} {ms : AM} {f : List LV → Option LV} {x : Str} {p : Pos} {n : String} (hc : CallJ X R (.builtin n) f) (hm : X.mg x = none) (hv : bootBuiltins x = some (.builtin n)) (ha : AJ X R W (e :: es) ms) (hg : Gl X x := by rfl) (hn : x ≠ "__name__" := by decide) (hdb : (x == ("__debug__" : Str)) = false := by decide)
    (he : starEach (e :: es) X.env = (false, eval e X.env) :: starEach es X.env := by rfl) (hpl : (backTo pos (starEach es X.env)).any (·.1) = false := by rfl) : OJ X R W (.Call (.Name x p) (e :: es) [] pos) (oOp ms f) :=
  oj_callB hc ha fun r t h1 h2 => pe_callB h1 hg hm hv h2 hn hdb he hpl
theorem oj_callTn {es : List Expr} {e : Expr} {ms : AM} {f : List LV → Option LV} {x : Str} {p : Pos} {n : String} (hc : CallJ X R (.type n) f) (hm : X.mg x = none) (hv : bootBuiltins x = some (.type n)) (ha : AJ X R W (e :: es) ms) (hg : Gl X x := by rfl) (hn : x ≠ "__name__" := by decide) (hdb : (x == ("__debug__" : Str)) = false := by decide)
    (he : starEach (e :: es) X.env = (false, eval e X.env) :: starEach es X.env := by rfl) (hpl : (backTo pos (starEach es X.env)).any (·.1) = false := by rfl) : OJ X R W (.Call (.Name x p) (e :: es) [] pos) (oOp ms f) :=
  oj_callT hc ha fun r t h1 h2 => pe_callTy h1 hg hm hv h2 hn hdb he hpl
theorem oj_neg {m : OM} (h : OJ X R W a m) : OJ X R W (.UnaryOp .USub a pos) (o1 m fNegI) := oj_un jNegI h fun r ta h1 h2 => pe_un h1 h2
/-- the slot i -/
theorem ov (i : Nat) {x : Str} (hN : X.N[i]? = some x := by rfl) (hv : Vis X.env.scope x := by first | exact Or.inl rfl | exact Or.inr (Or.inl rfl) | exact Or.inr (Or.inr rfl)) (hd : (x == ("__debug__" : Str)) = false := by decide)
    (hcd : (x == ("__classdict__" : Str)) = false := by decide) : OJ X R W (.Name x pos) (oVar i) := oj_var (pe_var hN hv hd hcd)
theorem bootB (x : Str) (v : Value) (h : bootBuiltins x = some v) : bootBuiltins x = some v := h
end
end PL
set_option maxRecDepth 100000
set_option maxHeartbeats 4000000
/-! Built-ins: isinstance, all, any, list, tuple, str, sorted; dicts. -/
namespace PL
open PySem L2 PyProof.Rows

section
variable {X : Cx} {R : RE} {W : WX} {P : List Nat} {pos : Pos} {e a b o i : Expr} {es : List Expr} {m ma mb mo mi : OM} {ms : AM} {F H : Hp}
/-! ### isinstance of built-in types -/
def LV.tn : LV → Option String
  | .dat .non => some "NoneType"
  | .dat (.bl _) => some "bool"
  | .dat (.int _) => some "int"
  | .dat (.str _) => some "str"
  | .dat (.tup _) => some "tuple"
  | .dat (.lst _) => some "list"
  | .dat (.dic _) => some "dict"
  | .ml _ => some "list"
  | .md _ => some "dict"
  | .mt _ => some "dict"
  | _ => none
theorem LRel.tyx {lv : LV} {v : V} {t : String} (l : Le F H) (r : LRel R F H lv v) (h : lv.tn = some t) : TyX R.K H v (.type t) := by
  cases r with
  | dat r =>
    cases r with
    | non => cases h; exact .base .non
    | bl b => cases h; exact .base (.bl b)
    | int i => cases h; exact .base (.int i)
    | str x => cases h; exact .base (.str x)
    | tup h1 rs => cases h; exact .base (.tup (l.tupE h1))
    | lst h1 rs => cases h; exact .base (.lst (l.lstE h1))
    | dic h1 k rs =>
      cases h
      rcases l.dic (u := .dK _) trivial h1 with q | ⟨ob, q⟩
      · exact .base (.dK q)
      · exact .fDict q
    | _ => cases h
  | ml f h1 rs => cases h; exact .base (.lst h1)
  | md f h1 k rs => cases h; exact .base (.dK h1)
  | mt f h1 k rs => cases h; exact .base (.dT h1)
  | mi f h1 k rs => cases h
/-- is a built-in type a or a kind of b -/
def isB (a b : String) : Option Bool :=
  if (["NoneType", "bool", "int", "str", "tuple", "list", "dict"].contains a && ["bool", "int", "str", "tuple", "list", "dict"].contains b) = true then some (a == b || (a == "bool" && b == "int")) else none
theorem isB_ok {a b : String} {r : Bool} (h : isB a b = some r) : kitB a b = some r := by
  unfold isB at h
  split at h
  · rename_i hc
    rw [Bool.and_eq_true, List.contains_iff_mem, List.contains_iff_mem] at hc
    obtain ⟨h1, h2⟩ := hc
    simp only [List.mem_cons, List.not_mem_nil, or_false] at h1 h2
    cases h
    have t : ∀ a ∈ ["NoneType", "bool", "int", "str", "tuple", "list", "dict"], ∀ b ∈ ["bool", "int", "str", "tuple", "list", "dict"], kitB a b = some (a == b || (a == "bool" && b == "int")) := by decide +kernel
    exact t a (by simp only [List.mem_cons, List.not_mem_nil, or_false]; exact h1) b (by simp only [List.mem_cons, List.not_mem_nil, or_false]; exact h2)
  · cases h
def gIsi : LV → LV → Option LV := fun x c => match x.tn, c with
  | some t, .dat (.cst (.ty b)) => (isB t b).map fun r => .dat (.bl r)
  | _, _ => none
def fIsi := f2 gIsi
theorem jIsi (hK : R.K = X.K) : CallJ X R (.builtin "isinstance") fIsi := .mk call_isi (rsc2 fun F H x y lx ly z Q l r1 r2 e k => by
  unfold gIsi at e
  cases e1 : lx.tn with
  | none => simp [e1] at e
  | some t =>
    simp only [e1] at e
    split at e
    · rename_i t' b ht
      cases ht
      cases e2 : isB t b with
      | none => rw [e2] at e; cases e
      | some q =>
        rw [e2] at e
        cases e
        cases r2 with
        | dat r2 =>
          cases r2
          exact ⟨x, _, .type t, .type b, q, rfl, .ty b, by rw [← hK]; exact r1.tyx l e1, kit_ty (isB_ok e2), kdat l k rfl (.bl _)⟩
    · cases e)
/-- isinstance(x, (T, U)) -/
def gIsi2 : LV → LV → Option LV := fun x c => match x.tn, c with
  | some t, .dat (.tup [.cst (.ty b), .cst (.ty c)]) => match isB t b, isB t c with
    | some r, some q => some (.dat (.bl (r || q)))
    | _, _ => none
  | _, _ => none
def fIsi2 := f2 gIsi2
theorem jIsi2 (hK : R.K = X.K) : CallJ X R (.builtin "isinstance") fIsi2 := .mk call_isiT (rsc2 fun F H x y lx ly z Q l r1 r2 e k => by
  unfold gIsi2 at e
  cases e1 : lx.tn with
  | none => simp [e1] at e
  | some t =>
    simp only [e1] at e
    split at e
    · rename_i t' b c ht
      cases ht
      cases e2 : isB t b with
      | none => simp [e2] at e
      | some p =>
        cases e3 : isB t c with
        | none => simp [e2, e3] at e
        | some q =>
          simp only [e2, e3, Option.some.injEq] at e
          subst e
          cases r2 with
          | dat r2 =>
            cases r2 with
            | tup hT rs =>
              cases rs with
              | cons ra rs =>
                cases rs with
                | cons rb rs =>
                  cases rs
                  cases ra
                  cases rb
                  refine ⟨x, _, _, .type t, [.type b, .type c], p || q, rfl, l.tupE hT, .cons (.ty b) (.cons (.ty c) .nil), by rw [← hK]; exact r1.tyx l e1, ?_, kdat l k rfl (.bl _)⟩
                  refine kitAny_cons (kit_ty (isB_ok e2)) (fun hp => ?_) fun hp => by rw [hp]; rfl
                  refine kitAny_cons (kit_ty (isB_ok e3)) (fun hq => ?_) fun hq => by rw [hp, hq]; rfl
                  rw [hp, hq]
                  exact kitAny_nil
    · cases e)
/-! ### all, any, over a list of bools -/
def bools : List D → Option (List Bool)
  | [] => some []
  | .bl b :: r => match bools r with
    | some bs => some (b :: bs)
    | none => none
  | _ => none
theorem RepL.bools : ∀ {ds : List D} {vs : List V} {bs : List Bool}, RepL R F ds vs → PL.bools ds = some bs → vs = bs.map V.bl
  | [], [], bs, .nil, e => by cases e; rfl
  | .bl b :: r, _, bs, .cons h t, e => by
    unfold PL.bools at e
    cases e1 : PL.bools r with
    | none => rw [e1] at e; cases e
    | some bs' => rw [e1] at e; cases e; cases h; rw [t.bools e1]; rfl
def gAll : LV → Option LV := fun x => match x.items with
  | some ds => match bools ds with
    | some bs => some (.dat (.bl (bs.all id)))
    | none => none
  | none => none
def gAny : LV → Option LV := fun x => match x.items with
  | some ds => match bools ds with
    | some bs => some (.dat (.bl (bs.any id)))
    | none => none
  | none => none
def fAll := f1 gAll
def fAny := f1 gAny
theorem jAll (hc : X.calm = true) : CallJ X R (.builtin "all") fAll := .mk (cr_all hc) (rsc1 fun F H x lx z Q l r1 e k => by
  unfold gAll at e
  cases e1 : lx.items with
  | none => rw [e1] at e; cases e
  | some ds =>
    simp only [e1] at e
    cases e2 : bools ds with
    | none => rw [e2] at e; cases e
    | some bs =>
      rw [e2] at e
      cases e
      obtain ⟨p, vs, rfl, hp, rp⟩ := r1.items l e1
      exact ⟨p, bs, rfl, .inl (.inl (by rw [← rp.bools e2]; exact hp)), kdat l k rfl (.bl _)⟩)
theorem jAny (hc : X.calm = true) : CallJ X R (.builtin "any") fAny := .mk (cr_any hc) (rsc1 fun F H x lx z Q l r1 e k => by
  unfold gAny at e
  cases e1 : lx.items with
  | none => rw [e1] at e; cases e
  | some ds =>
    simp only [e1] at e
    cases e2 : bools ds with
    | none => rw [e2] at e; cases e
    | some bs =>
      rw [e2] at e
      cases e
      obtain ⟨p, vs, rfl, hp, rp⟩ := r1.items l e1
      exact ⟨p, bs, rfl, .inl (.inl (by rw [← rp.bools e2]; exact hp)), kdat l k rfl (.bl _)⟩)
/-! ### list(x), tuple(x), str(n) -/
def gList : LV → Option LV
  | .dat (.lst ds) => some (.ml ds)
  | .dat (.tup ds) => some (.ml ds)
  | .ml ds => some (.ml ds)
  | _ => none
def fList := f1 gList
theorem jList : CallJ X R (.type "list") fList := .mk call_list_of (rsc1 fun F H x lx z Q l r1 e k => by
  cases r1 with
  | dat r1 =>
    cases r1 with
    | lst h rs => cases e; exact ⟨_, _, rfl, .inl (.inl (.inl (l.lstE h))), fun p hp => klst l k rs hp⟩
    | tup h rs => cases e; exact ⟨_, _, rfl, .inr (.inl (.inl (l.tupE h))), fun p hp => klst l k rs hp⟩
    | _ => cases e
  | ml f h rs => cases e; exact ⟨_, _, rfl, .inl (.inl (.inl h)), fun p hp => klst l k rs hp⟩
  | _ => cases e)
def gTuple : LV → Option LV
  | .dat (.lst ds) => some (.dat (.tup ds))
  | .dat (.tup ds) => some (.dat (.tup ds))
  | .ml ds => some (.dat (.tup ds))
  | _ => none
def fTuple := f1 gTuple
theorem jTuple : CallJ X R (.type "tuple") fTuple := .mk call_tuple_of (rsc1 fun F H x lx z Q l r1 e k => by
  cases r1 with
  | dat r1 =>
    cases r1 with
    | lst h rs => cases e; exact ⟨_, _, rfl, .inl ⟨.inl (.inl (l.lstE h)), fun p hp => ktup l k rs hp⟩⟩
    | tup h rs => cases e; exact ⟨_, _, rfl, .inr ⟨.inl (.inl (l.tupE h)), kdat l k rfl (.tup h rs)⟩⟩
    | _ => cases e
  | ml f h rs => cases e; exact ⟨_, _, rfl, .inl ⟨.inl (.inl h), fun p hp => ktup l k rs hp⟩⟩
  | _ => cases e)
def gStrI : LV → Option LV
  | .dat (.int i) => if i.natAbs.log2 < 1920 then some (.dat (.str (toString i : String))) else none
  | _ => none
/-! ### sorted -/
def D.pyd (d : D) : PyData := d.py.getD .none
def sortOk (ps : List PyData) : Bool := (ps.all fun p => ps.all fun q => PySem.W.alike p q) &&
  ((ps.all fun p => match p with | .tuple (_ :: _) => true | _ => false) || (ps.all fun p => match p with | .none => false | .tuple _ => false | _ => true)) && (ps.all fun p => decide (p.depth ≤ 60)) && decide (ps.length ≤ sizeLine)
def sortD (ds : List D) : List D := ds.mergeSort (PySem.W.dataLe false D.pyd)
theorem pys_map : ∀ {ds : List D} {ps : List PyData}, D.pys ds = some ps → ps = ds.map D.pyd
  | [], ps, e => by simp only [D.pys, Option.some.injEq] at e; subst e; rfl
  | d :: ds, ps, e => by
    unfold D.pys at e
    cases e1 : D.py d with
    | none => simp [e1] at e
    | some p =>
      cases e2 : D.pys ds with
      | none => simp [e1, e2] at e
      | some ps' =>
        simp only [e1, e2, Option.some.injEq] at e
        subst e
        rw [pys_map e2]
        simp [D.pyd, e1]
def rSortA (R : RE) : List V → Hp → VK → Prop := fun vs H Q => ∃ (F : Hp) (a : Addr) (xs : List V) (ds : List D) (ps : List PyData), vs = [.ref a] ∧ Le F H ∧ H a = some (.lst xs) ∧ RepL R F ds xs ∧ D.pys ds = some ps ∧ sortOk ps = true ∧
  ∀ (ys : List V) (p : Addr), RepL R F (sortD ds) ys → H p = none → Q (.ref p) (upd H p (.lst ys))
theorem each_reads {X : Cx} {pins : List (Addr × Obj)} {σ : L2.St} {s : Shared} (hK : R.K = X.K) (I : L2.Inv X pins σ H s) (l : Le F H) : ∀ {ds : List D} {vs : List V} {us : List Value} {ps : List PyData}, RepL R F ds vs → Vals vs us → D.pys ds = some ps →
    PySem.W.EachIs (fun u (b : D × V) => RelV b.2 u ∧ Rep R F b.1 b.2) us (ds.zip vs) ∧ PySem.W.EachIs (fun u (b : D × V) => ∃ as, Reads s.heap u (D.pyd b.1) as) us (ds.zip vs)
  | [], _, _, ps, .nil, .nil, _ => ⟨.nil, .nil⟩
  | d :: ds, _, _, ps, .cons h r, .cons rv rs, e => by
    unfold D.pys at e
    cases e1 : D.py d with
    | none => simp [e1] at e
    | some p =>
      cases e2 : D.pys ds with
      | none => simp [e1, e2] at e
      | some ps' =>
        obtain ⟨q1, q2⟩ := each_reads hK I l r rs e2
        refine ⟨.cons ⟨rv, h⟩ q1, .cons ?_ q2⟩
        obtain ⟨as, w⟩ := Dp.reads I p _ _ (by rw [← hK]; exact h.dp l e1) rv
        exact ⟨as, by simp only [D.pyd, e1, Option.getD_some]; exact w⟩
theorem each_out {us : List Value} : ∀ {bs : List (D × V)}, PySem.W.EachIs (fun u (b : D × V) => RelV b.2 u ∧ Rep R F b.1 b.2) us bs → RepL R F (bs.map (·.1)) (bs.map (·.2)) ∧ Vals (bs.map (·.2)) us := by
  intro bs h
  induction h with
  | nil => exact ⟨.nil, .nil⟩
  | cons h t ih => exact ⟨.cons h.2 ih.1, .cons h.1 ih.2⟩
theorem zip_fst {ds : List D} {vs : List V} (r : RepL R F ds vs) : (ds.zip vs).map (·.1) = ds := List.map_fst_zip (by rw [r.length]; exact Nat.le_refl _)
theorem cr_sortA (hK : R.K = X.K) (hu : X.A.units + 64 < cLine) : CallR X (.builtin "sorted") (rSortA R) := by
  intro pins s σ H vs us Q I r h
  obtain ⟨F, a, xs, ds, ps, rfl, l, ha, rp, e, ok, q⟩ := h
  obtain ⟨its, rv, hl, hz⟩ := I.list (show SqL X.K H a xs from .inl (.inl ha))
  rw [Vals.ref1 r]
  obtain ⟨e1, e2⟩ := each_reads hK I l rp rv e
  unfold sortOk at ok
  simp only [Bool.and_eq_true, Bool.or_eq_true, List.all_eq_true, decide_eq_true_eq] at ok
  obtain ⟨⟨⟨o1, o2⟩, o3⟩, o4⟩ := ok
  have em : (ds.zip xs).map (fun b => D.pyd b.1) = ps := by
    rw [pys_map e]
    have z := congrArg (List.map D.pyd) (zip_fst rp)
    rw [List.map_map] at z
    exact z
  refine PySem.W.sorted_data (enc := fun b : D × V => D.pyd b.1) (bs := ds.zip xs) (vs := its) hl.isList e1 e2 (by rw [em]; exact fun d hd d' hd' => o1 d hd d' hd') ?_ ?_ ?_ fun out hlen hout => ?_
  · rw [em]
    rcases o2 with o2 | o2
    · refine .inl fun d hd => ?_
      have := o2 d hd
      split at this
      · exact ⟨_, _, rfl⟩
      · cases this
    · refine .inr fun d hd => ?_
      have := o2 d hd
      split at this
      · cases this
      · cases this
      · rename_i n1 n2
        exact ⟨n1, n2⟩
  · have : (ds.zip xs).length = ps.length := by rw [← em, List.length_map]
    rw [this]; exact o4
  · intro b hb
    have := o3 (D.pyd b.1) (by rw [← em]; exact List.mem_map.mpr ⟨b, hb, rfl⟩)
    omega
  · obtain ⟨r1, r2⟩ := each_out hout
    have es : ((ds.zip xs).mergeSort (PySem.W.dataLe false fun b : D × V => D.pyd b.1)).map (·.1) = sortD ds := by
      unfold sortD
      have z := PySem.W.sort_maps (r := PySem.W.dataLe false fun b : D × V => D.pyd b.1) (s := PySem.W.dataLe false D.pyd) (fun b : D × V => b.1) (l := ds.zip xs) (fun _ _ _ _ => rfl)
      rw [zip_fst rp] at z
      exact z
    rw [es] at r1
    obtain ⟨ep, he'⟩ := PyProof.Rows.sortedAll_at s.heap its out.toArray
    refine ⟨.ref _, upd H (s.heap.objs.size + 1) (.lst _), I.laid (t' := s.toks) (fun _ _ => PyProof.Rows.sortedAll_old) (Nat.le_succ _) ⟨?_, out, ep, r2, he'⟩, rfl, q _ _ r1 (I.hok.fresh (Nat.le_succ _))⟩
    rw [r2.length, hlen, List.length_zip, rp.length, Nat.min_self]
    exact hz
def gSort : LV → Option LV := fun x => match x.items with
  | some ds => match D.pys ds with
    | some ps => if sortOk ps then some (.ml (sortD ds)) else none
    | none => none
  | none => none
def fSort := f1 gSort
theorem jSort (hK : R.K = X.K) (hu : X.A.units + 64 < cLine) : CallJ X R (.builtin "sorted") fSort := .mk (cr_sortA hK hu) (rsc1 fun F H x lx z Q l r1 e k => by
  unfold gSort at e
  cases e1 : lx.items with
  | none => rw [e1] at e; cases e
  | some ds =>
    simp only [e1] at e
    cases e2 : D.pys ds with
    | none => rw [e2] at e; cases e
    | some ps =>
      simp only [e2] at e
      split at e
      · rename_i ok
        cases e
        obtain ⟨p, vs, rfl, hp, rp⟩ := r1.items l e1
        exact ⟨F, p, vs, ds, ps, rfl, l, hp, rp, e2, ok, fun ys p hy hp => klst l k hy hp⟩
      · cases e)
end
end PL
set_option maxRecDepth 100000
set_option maxHeartbeats 4000000
/-! Dicts. -/
namespace PL
open PySem L2 PyProof.Rows

section
variable {κ : Type} [DecidableEq κ]
def valD (kvs : List (κ × D)) (k : κ) : Option D := (kvs.find? fun kv => decide (kv.1 = k)).map (·.2)
def putD (kvs : List (κ × D)) (k : κ) (v : D) : List (κ × D) :=
  if (kvs.any fun kv => decide (kv.1 = k)) = true then kvs.map (fun kv => if kv.1 = k then (kv.1, v) else kv) else kvs ++ [(k, v)]
def delD (kvs : List (κ × D)) (k : κ) : List (κ × D) := kvs.filter fun kv => decide (kv.1 ≠ k)
variable {R : RE} {F : Hp}
/-- entries and what they stand for -/
structure KR (R : RE) (F : Hp) (kvs : List (κ × D)) (xs : List (κ × V)) : Prop where
  k : kvs.map (·.1) = xs.map (·.1)
  v : RepL R F (kvs.map (·.2)) (xs.map (·.2))
theorem KR.length {kvs : List (κ × D)} {xs : List (κ × V)} (r : KR R F kvs xs) : kvs.length = xs.length := by simpa using congrArg List.length r.k
theorem KR.nil : KR (κ := κ) R F [] [] := ⟨rfl, .nil⟩
theorem KR.inv {p : κ × D} {kvs : List (κ × D)} {xs : List (κ × V)} (r : KR R F (p :: kvs) xs) : ∃ q ys, xs = q :: ys ∧ p.1 = q.1 ∧ Rep R F p.2 q.2 ∧ KR R F kvs ys := by
  cases xs with
  | nil => cases r.k
  | cons q ys =>
    have k := r.k
    have v := r.v
    simp only [List.map_cons, List.cons.injEq] at k
    simp only [List.map_cons] at v
    cases v with
    | cons h t => exact ⟨q, ys, rfl, k.1, h, k.2, t⟩
theorem KR.cons {p : κ × D} {q : κ × V} {kvs : List (κ × D)} {xs : List (κ × V)} (e : p.1 = q.1) (h : Rep R F p.2 q.2) (r : KR R F kvs xs) : KR R F (p :: kvs) (q :: xs) := ⟨by simp [e, r.k], .cons h r.v⟩
theorem KR.append {kvs kvs' : List (κ × D)} {xs xs' : List (κ × V)} (r : KR R F kvs xs) (s : KR R F kvs' xs') : KR R F (kvs ++ kvs') (xs ++ xs') := ⟨by simp [r.k, s.k], by simpa using r.v.append s.v⟩
theorem KR.val : ∀ {kvs : List (κ × D)} {xs : List (κ × V)} (k : κ), KR R F kvs xs → (valD kvs k = none ∧ valV xs k = none) ∨ ∃ d v, valD kvs k = some d ∧ valV xs k = some v ∧ Rep R F d v
  | [], xs, k, r => by
    have : xs = [] := by have := r.length; simpa using (List.length_eq_zero_iff.mp this.symm)
    subst this
    exact .inl ⟨rfl, rfl⟩
  | p :: kvs, xs, k, r => by
    obtain ⟨q, ys, rfl, e, h, t⟩ := r.inv
    by_cases c : p.1 = k
    · exact .inr ⟨p.2, q.2, by simp [valD, List.find?_cons, c], valV_pos (e ▸ c), h⟩
    · have c' : ¬ q.1 = k := by rw [← e]; exact c
      have e1 : valD (p :: kvs) k = valD kvs k := by simp [valD, List.find?_cons, c]
      rw [e1, valV_neg c']
      exact t.val k
theorem KR.any : ∀ {kvs : List (κ × D)} {xs : List (κ × V)} (k : κ), KR R F kvs xs → (kvs.any fun kv => decide (kv.1 = k)) = (xs.any fun kv => decide (kv.1 = k))
  | [], xs, k, r => by
    have : xs = [] := by have := r.length; simpa using (List.length_eq_zero_iff.mp this.symm)
    subst this
    rfl
  | p :: kvs, xs, k, r => by
    obtain ⟨q, ys, rfl, e, h, t⟩ := r.inv
    rw [List.any_cons, List.any_cons, e, t.any k]
theorem KR.mapv : ∀ {kvs : List (κ × D)} {xs : List (κ × V)} (k : κ) {d : D} {v : V}, KR R F kvs xs → Rep R F d v → KR R F (kvs.map fun kv => if kv.1 = k then (kv.1, d) else kv) (xs.map fun kv => if kv.1 = k then (kv.1, v) else kv)
  | [], xs, k, d, v, r, _ => by
    have : xs = [] := by have := r.length; simpa using (List.length_eq_zero_iff.mp this.symm)
    subst this
    exact .nil
  | p :: kvs, xs, k, d, v, r, hd => by
    obtain ⟨q, ys, rfl, e, h, t⟩ := r.inv
    rw [List.map_cons, List.map_cons]
    refine KR.cons ?_ ?_ (t.mapv k hd)
    · rw [← e]; split <;> simp [e]
    · rw [← e]; split
      · exact hd
      · exact h
theorem KR.put {kvs : List (κ × D)} {xs : List (κ × V)} (k : κ) {d : D} {v : V} (r : KR R F kvs xs) (h : Rep R F d v) : KR R F (putD kvs k d) (putK xs k v) := by
  unfold putD putK
  rw [r.any k]
  split
  · exact r.mapv k h
  · exact r.append (.cons rfl h .nil)
theorem KR.del : ∀ {kvs : List (κ × D)} {xs : List (κ × V)} (k : κ), KR R F kvs xs → KR R F (delD kvs k) (dropK xs k)
  | [], xs, k, r => by
    have : xs = [] := by have := r.length; simpa using (List.length_eq_zero_iff.mp this.symm)
    subst this
    exact .nil
  | p :: kvs, xs, k, r => by
    obtain ⟨q, ys, rfl, e, h, t⟩ := r.inv
    have ih := t.del k
    unfold delD dropK at ih ⊢
    rw [List.filter_cons, List.filter_cons, ← e]
    split
    · exact .cons e h ih
    · exact ih
theorem KR.mono {G : Hp} {kvs : List (κ × D)} {xs : List (κ × V)} (l : Le F G) (r : KR R F kvs xs) : KR R G kvs xs := ⟨r.k, r.v.mono l⟩
end
def keyD : D → Option Key
  | .int i => some (.inl i)
  | .str x => some (.inr x)
  | _ => none
def keysD : List D → Option (List Key)
  | [] => some []
  | d :: ds => match keyD d, keysD ds with
    | some k, some ks => some (k :: ks)
    | _, _ => none
/-- a key as data -/
def dKey : Key → D
  | .inl i => .int i
  | .inr x => .str x
theorem keyD_rep {R : RE} {F : Hp} {d : D} {v : V} {k : Key} (r : Rep R F d v) (e : keyD d = some k) : v = kV k := by
  cases r <;> first | (cases e; rfl) | cases e
theorem keysD_rep {R : RE} {F : Hp} : ∀ {ds : List D} {vs : List V} {ks : List Key}, RepL R F ds vs → keysD ds = some ks → vs = ks.map kV
  | [], _, ks, .nil, e => by cases e; rfl
  | d :: ds, _, ks, .cons h r, e => by
    unfold keysD at e
    cases e1 : keyD d with
    | none => simp [e1] at e
    | some k =>
      cases e2 : keysD ds with
      | none => simp [e1, e2] at e
      | some ks' =>
        simp only [e1, e2, Option.some.injEq] at e
        subst e
        rw [keyD_rep h e1, keysD_rep r e2]
        rfl
theorem dKey_rep {R : RE} {F : Hp} (k : Key) : Rep R F (dKey k) (kV k) := by cases k <;> constructor

section
variable {X : Cx} {R : RE} {W : WX} {P : List Nat} {pos : Pos} {e a b o i : Expr} {es : List Expr} {m ma mb mo mi : OM} {ms : AM} {F H : Hp}
/-- what a variable's or a datum's dict holds at a key -/
def lookD : LV → LV → Option (Option D) := fun o i => match i with
  | .dat (.tup ds) => match keysD ds with
    | some ks => match o with
      | .dat (.dit kvs) => some (valD kvs ks)
      | .mt kvs => some (valD kvs ks)
      | _ => none
    | none => none
  | .dat d => match keyD d with
    | some k => match o with
      | .dat (.dic kvs) => some (valD kvs k)
      | .md kvs => some (valD kvs k)
      | _ => none
    | none => none
  | _ => none
theorem lookD_at {lo li : LV} {ov iv : V} {r : Option D} (l : Le F H) (r1 : LRel R F H lo ov) (r2 : LRel R F H li iv) (e : lookD lo li = some r) :
    ∃ a rv, ov = .ref a ∧ DGet H a iv rv ∧ ((r = none ∧ rv = none) ∨ ∃ d v, r = some d ∧ rv = some v ∧ Rep R F d v) := by
  have kcase : ∀ {κ : Type} [DecidableEq κ] {kvs : List (κ × D)} {xs : List (κ × V)} (k : κ), KR R F kvs xs → ((valD kvs k = none ∧ valV xs k = none) ∨ ∃ d v, valD kvs k = some d ∧ valV xs k = some v ∧ Rep R F d v) := fun k r => r.val k
  unfold lookD at e
  split at e
  · rename_i ds
    cases e1 : keysD ds with
    | none => rw [e1] at e; cases e
    | some ks =>
      simp only [e1] at e
      cases r2 with
      | dat r2 =>
        cases r2 with
        | @tup b _ vs hb rs =>
          have ev := keysD_rep rs e1
          subst ev
          have hb' := l.tupE hb
          split at e
          · cases e
            cases r1 with
            | dat r1 =>
              cases r1 with
              | dit h k rs' => exact ⟨_, _, rfl, .inr ⟨_, ks, b, l.dic (u := .dT _) trivial h, rfl, hb', rfl⟩, kcase ks ⟨k, rs'⟩⟩
          · cases e
            cases r1 with
            | mt f h k rs' => exact ⟨_, _, rfl, .inr ⟨_, ks, b, .inl h, rfl, hb', rfl⟩, kcase ks ⟨k, rs'⟩⟩
          · cases e
  · rename_i d hd
    cases e1 : keyD d with
    | none => rw [e1] at e; cases e
    | some k =>
      simp only [e1] at e
      cases r2 with
      | dat r2 =>
        have ev := keyD_rep r2 e1
        subst ev
        split at e
        · cases e
          cases r1 with
          | dat r1 =>
            cases r1 with
            | dic h kk rs' => exact ⟨_, _, rfl, .inl ⟨_, k, l.dic (u := .dK _) trivial h, rfl, rfl⟩, kcase k ⟨kk, rs'⟩⟩
        · cases e
          cases r1 with
          | md f h kk rs' => exact ⟨_, _, rfl, .inl ⟨_, k, .inl h, rfl, rfl⟩, kcase k ⟨kk, rs'⟩⟩
        · cases e
  · cases e
/-! d[k] -/
theorem ix_dict (hu : X.A.units + 1 < cLine) : IxR X (fun x y H Q => ∃ a v, x = .ref a ∧ DGet H a y (some v) ∧ Q v H) := by
  intro value slice pins s σ H x y v u Q I rx ry h hs
  obtain ⟨a, z, rfl, g, q⟩ := h
  cases rx
  exact tail_any (dict_typeIs I g) PySem.F.slot_dict_getitem.lookup (d_getItem hu I g ry fun w' s' I' rw' => ⟨z, H, I', rw', q⟩) hs
def gIxD : LV → LV → Option LV := fun o i => match lookD o i with
  | some (some d) => some (.dat d)
  | _ => none
def fIxD := f2 gIxD
theorem jIxD (hu : X.A.units + 1 < cLine) : IxJ X R fIxD := ⟨_, ix_dict hu, rs2 fun F H x y lx ly z Q l r1 r2 e k => by
  unfold gIxD at e
  split at e
  · rename_i d hd
    cases e
    obtain ⟨a, rv, rfl, g, h | ⟨d', v, h1, rfl, h3⟩⟩ := lookD_at l r1 r2 hd
    · cases h.1
    · cases h1; exact ⟨a, v, rfl, g, kdat l k rfl h3⟩
  · cases e⟩
/-! k in d -/
theorem op_inK (hu : X.A.units + 1 < cLine) : OpR X (compareOp .In) (fun x y H Q => ∃ a r, y = .ref a ∧ DGet H a x r ∧ Q (.bl r.isSome) H) := by
  intro pins s σ H x y v u Q I rx ry h
  obtain ⟨a, r, rfl, g, q⟩ := h
  cases ry
  exact d_in hu I g rx fun s' I' => ⟨.bl _, H, I', rfl, q⟩
theorem op_niK (hu : X.A.units + 1 < cLine) : OpR X (compareOp .NotIn) (fun x y H Q => ∃ a r, y = .ref a ∧ DGet H a x r ∧ Q (.bl (!r.isSome)) H) := by
  intro pins s σ H x y v u Q I rx ry h
  obtain ⟨a, r, rfl, g, q⟩ := h
  cases ry
  exact d_notIn hu I g rx fun s' I' => ⟨.bl _, H, I', rfl, q⟩
def gInK (neg : Bool) : LV → LV → Option LV := fun i o => match lookD o i with
  | some r => some (.dat (.bl (if neg then !r.isSome else r.isSome)))
  | none => none
def fInK := f2 (gInK false)
def fNiK := f2 (gInK true)
theorem isSome_eq {r : Option D} {rv : Option V} (h : (r = none ∧ rv = none) ∨ ∃ d v, r = some d ∧ rv = some v ∧ Rep R F d v) : rv.isSome = r.isSome := by
  rcases h with ⟨rfl, rfl⟩ | ⟨d, v, rfl, rfl, _⟩ <;> rfl
theorem jInK (hu : X.A.units + 1 < cLine) : OpJ X R (compareOp .In) fInK := .mk (op_inK hu) (rs2 fun F H x y lx ly z Q l r1 r2 e k => by
  unfold gInK at e
  cases e1 : lookD ly lx with
  | none => rw [e1] at e; cases e
  | some r =>
    rw [e1] at e
    cases e
    obtain ⟨a, rv, rfl, g, h⟩ := lookD_at l r2 r1 e1
    exact ⟨a, rv, rfl, g, by rw [isSome_eq h]; exact kdat l k rfl (.bl _)⟩)
theorem jNiK (hu : X.A.units + 1 < cLine) : OpJ X R (compareOp .NotIn) fNiK := .mk (op_niK hu) (rs2 fun F H x y lx ly z Q l r1 r2 e k => by
  unfold gInK at e
  cases e1 : lookD ly lx with
  | none => rw [e1] at e; cases e
  | some r =>
    rw [e1] at e
    cases e
    obtain ⟨a, rv, rfl, g, h⟩ := lookD_at l r2 r1 e1
    exact ⟨a, rv, rfl, g, by rw [isSome_eq h]; exact kdat l k rfl (.bl _)⟩)
/-! d[k] = v, d a variable's own dict -/
theorem set_dict (hu : X.A.units + 1 < cLine) : PSet X (fun o i v H Q => ∃ a H', o = .ref a ∧ DPut H a i v H' ∧ Q H') := by
  intro pins s σ H o i v ov iv u Q I ro ri rv h
  obtain ⟨a, H', rfl, g, q⟩ := h
  cases ro
  exact d_setItem hu I g ri rv fun s' I' => ⟨H', I', q⟩
def stD : StF := fun o i d => match o, i with
  | .mt kvs, .dat (.tup ds) => match keysD ds with
    | some ks => if kvs.length < sizeLine then some (.mt (putD kvs ks d)) else none
    | none => none
  | .md kvs, .dat c => match keyD c with
    | some k => if kvs.length < sizeLine then some (.md (putD kvs k d)) else none
    | none => none
  | _, _ => none
theorem jStD (hu : X.A.units + 1 < cLine) : StJ X R stD := ⟨_, set_dict hu, fun F H o lo i li x d lo' Q l r1 r2 r3 e k => by
  unfold stD at e
  split at e
  · rename_i kvs ds
    cases e1 : keysD ds with
    | none => rw [e1] at e; cases e
    | some ks =>
      simp only [e1] at e
      split at e
      · rename_i hz
        cases e
        cases r1 with
        | mt f h kk rs =>
          have kr : KR R F kvs _ := ⟨kk, rs⟩
          cases r2 with
          | dat r2 =>
            cases r2 with
            | tup hb rb =>
              have ev := keysD_rep rb e1
              subst ev
              have kp := kr.put ks r3
              exact ⟨_, _, rfl, .inr ⟨_, ks, _, h, rfl, l.tupE hb, by rw [← kr.length]; exact hz, rfl⟩, k _ (.upd l f h fun _ _ z => by cases z) (.mt f upd_same kp.k kp.v)⟩
      · cases e
  · rename_i kvs _
    cases e1 : keyD _ with
    | none => rw [e1] at e; cases e
    | some kk1 =>
      simp only [e1] at e
      split at e
      · rename_i hz
        cases e
        cases r1 with
        | md f h kk rs =>
          have kr : KR R F kvs _ := ⟨kk, rs⟩
          cases r2 with
          | dat r2 =>
            have ev := keyD_rep r2 e1
            subst ev
            have kp := kr.put kk1 r3
            exact ⟨_, _, rfl, .inl ⟨_, kk1, h, rfl, by rw [← kr.length]; exact hz, rfl⟩, k _ (.upd l f h fun _ _ z => by cases z) (.md f upd_same kp.k kp.v)⟩
      · cases e
  · cases e⟩
/-! {} -/
def oNewK : OM := fun env => .val (.tmp (.md [])) env
def oNewT : OM := fun env => .val (.tmp (.mt [])) env
theorem oj_newK : OJ X R W (.Dict [] [] pos) oNewK := ⟨_, pe_dnewK, fun σ F H env Q er l p q hq => by
  have nw : Nw F H F (upd H q (.dK [])) := .new l hq
  exact p (.ref q) F _ (er.nw nw) ⟨by simp, .md (l.nn hq) upd_same rfl .nil⟩ (fun a o w => by obtain ⟨_, z⟩ := o; cases z; exact (er.tracked w).2 hq) (nw.gr fun a w => w.elim .inl fun o => by obtain ⟨_, z⟩ := o; cases z; exact .inr hq)⟩
theorem oj_newT : OJ X R W (.Dict [] [] pos) oNewT := ⟨_, pe_dnewT, fun σ F H env Q er l p q hq => by
  have nw : Nw F H F (upd H q (.dT [])) := .new l hq
  exact p (.ref q) F _ (er.nw nw) ⟨by simp, .mt (l.nn hq) upd_same rfl .nil⟩ (fun a o w => by obtain ⟨_, z⟩ := o; cases z; exact (er.tracked w).2 hq) (nw.gr fun a w => w.elim .inl fun o => by obtain ⟨_, z⟩ := o; cases z; exact .inr hq)⟩
/-! len(d), list(d), dict(d) -/
def LV.dicK : LV → Option (List (Key × D))
  | .dat (.dic kvs) => some kvs
  | .md kvs => some kvs
  | _ => none
def LV.dicT : LV → Option (List (List Key × D))
  | .dat (.dit kvs) => some kvs
  | .mt kvs => some kvs
  | _ => none
theorem LRel.dicK {lv : LV} {v : V} {kvs : List (Key × D)} (l : Le F H) (r : LRel R F H lv v) (e : lv.dicK = some kvs) : ∃ a xs, v = .ref a ∧ Rd H a (.dK xs) ∧ KR R F kvs xs := by
  cases r with
  | dat r =>
    cases r with
    | dic h k rs => cases e; exact ⟨_, _, rfl, l.dic (u := .dK _) trivial h, k, rs⟩
    | _ => cases e
  | md f h k rs => cases e; exact ⟨_, _, rfl, .inl h, k, rs⟩
  | _ => cases e
theorem LRel.dicT {lv : LV} {v : V} {kvs : List (List Key × D)} (l : Le F H) (r : LRel R F H lv v) (e : lv.dicT = some kvs) : ∃ a xs, v = .ref a ∧ Rd H a (.dT xs) ∧ KR R F kvs xs := by
  cases r with
  | dat r =>
    cases r with
    | dit h k rs => cases e; exact ⟨_, _, rfl, l.dic (u := .dT _) trivial h, k, rs⟩
    | _ => cases e
  | mt f h k rs => cases e; exact ⟨_, _, rfl, .inl h, k, rs⟩
  | _ => cases e
theorem call_lenK : CallR X (.builtin "len") (fun xs H Q => ∃ a kvs, xs = [V.ref a] ∧ Rd H a (.dK kvs) ∧ Q (.int kvs.length) H) := by
  intro pins s σ H xs us Q I r h
  obtain ⟨a, kvs, rfl, ha, q⟩ := h
  rw [Vals.ref1 r]
  exact d_len I ha fun t s' I' => ⟨.int kvs.length, H, I', ⟨t, rfl⟩, q⟩
theorem call_lenT : CallR X (.builtin "len") (fun xs H Q => ∃ (a : Addr) (kvs : List (List Key × V)), xs = [V.ref a] ∧ Rd H a (.dT kvs) ∧ Q (.int kvs.length) H) := by
  intro pins s σ H xs us Q I r h
  obtain ⟨p, kvs, rfl, hp, q⟩ := h
  rw [Vals.ref1 r]
  obtain ⟨z, hd, ys, rel, dd⟩ := dt_rd I.hok hp
  have hl : kvs.length = ys.length := Paired.length rel
  refine call_len_dictH hd dd (by rw [← hl]; rw [sizeLine_eq] at z; omega) ?_
  rw [← hl]
  exact ⟨.int kvs.length, H, I.tok _, ⟨_, rfl⟩, q⟩
def gLenK : LV → Option LV := fun x => match x.dicK with
  | some kvs => some (.dat (.int kvs.length))
  | none => none
def gLenT : LV → Option LV := fun x => match x.dicT with
  | some kvs => some (.dat (.int kvs.length))
  | none => none
theorem jLenK : CallJ X R (.builtin "len") (f1 gLenK) := .mk call_lenK (rsc1 fun F H x lx z Q l r1 e k => by
  unfold gLenK at e
  cases e1 : lx.dicK with
  | none => rw [e1] at e; cases e
  | some kvs =>
    rw [e1] at e
    cases e
    obtain ⟨a, xs, rfl, h, kr⟩ := r1.dicK l e1
    exact ⟨a, xs, rfl, h, by rw [← kr.length]; exact kdat l k rfl (.int _)⟩)
theorem jLenT : CallJ X R (.builtin "len") (f1 gLenT) := .mk call_lenT (rsc1 fun F H x lx z Q l r1 e k => by
  unfold gLenT at e
  cases e1 : lx.dicT with
  | none => rw [e1] at e; cases e
  | some kvs =>
    rw [e1] at e
    cases e
    obtain ⟨a, xs, rfl, h, kr⟩ := r1.dicT l e1
    exact ⟨a, xs, rfl, h, by rw [← kr.length]; exact kdat l k rfl (.int _)⟩)
def fLenA := fOr fLen (fOr (f1 gLenK) (f1 gLenT))
theorem jLenA : CallJ X R (.builtin "len") fLenA := jLen.or (jLenK.or jLenT)
def gListK : LV → Option LV := fun x => match x.dicK with
  | some kvs => some (.ml (kvs.map fun kv => dKey kv.1))
  | none => none
theorem KR.keys {kvs : List (Key × D)} {xs : List (Key × V)} (r : KR R F kvs xs) : RepL R F (kvs.map fun kv => dKey kv.1) (xs.map fun kv => kV kv.1) := by
  have k := r.k
  clear r
  revert xs
  induction kvs with
  | nil => intro xs k; cases xs with
    | nil => exact .nil
    | cons _ _ => cases k
  | cons p kvs ih =>
    intro xs k
    cases xs with
    | nil => cases k
    | cons q xs =>
      simp only [List.map_cons, List.cons.injEq] at k
      simp only [List.map_cons]
      rw [k.1]
      exact .cons (dKey_rep _) (ih k.2)
theorem jListK (hc : X.calm = true) : CallJ X R (.type "list") (f1 gListK) := .mk (call_listD hc) (rsc1 fun F H x lx z Q l r1 e k => by
  unfold gListK at e
  cases e1 : lx.dicK with
  | none => rw [e1] at e; cases e
  | some kvs =>
    rw [e1] at e
    cases e
    obtain ⟨a, xs, rfl, h, kr⟩ := r1.dicK l e1
    exact ⟨a, xs, rfl, h, fun p hp => klst l k kr.keys hp⟩)
def gDictK : LV → Option LV := fun x => match x.dicK with
  | some kvs => some (.md kvs)
  | none => none
theorem jDictK : CallJ X R (.type "dict") (f1 gDictK) := .mk call_dictD (rsc1 fun F H x lx z Q l r1 e k => by
  unfold gDictK at e
  cases e1 : lx.dicK with
  | none => rw [e1] at e; cases e
  | some kvs =>
    rw [e1] at e
    cases e
    obtain ⟨a, xs, rfl, h, kr⟩ := r1.dicK l e1
    exact ⟨a, xs, rfl, h, fun p hp => k (.ref p) F _ (.new l hp) (.md (l.nn hp) upd_same kr.k kr.v) fun b o => by obtain ⟨_, z⟩ := o; cases z; exact hp⟩)
end
end PL
set_option maxRecDepth 100000
set_option maxHeartbeats 4000000
/-! Dicts walked: a dict that is data is locked for good when it is walked. -/
namespace PL
open PySem L2 PyProof.Rows

def tFz (te : TE) : TE := fun σ H Q => te σ H fun x H1 => ∃ d, x = .ref d ∧ ((∃ od u, H1 d = some (.frz od u) ∧ Q x H1) ∨ ∃ u, H1 d = some u ∧ Mut (some u) ∧ ∀ od, Q x (upd H1 d (.frz od u)))
section
variable {X : Cx} {R : RE} {W : WX} {P : List Nat} {pos : Pos} {e a b o i : Expr} {es : List Expr} {m ma mb mo mi : OM} {ms : AM} {F H : Hp} {σ : L2.St} {env : LEnv}
theorem pe_fz {te : TE} (h : PE X e te) : PE X e (tFz te) := by
  refine ⟨fun pins s σ H Q I hw => ?_⟩
  refine thn (h.run pins s σ H _ I hw) fun v s1 ⟨x, H1, I1, r, d, e1, q⟩ => ?_
  subst e1
  rcases q with ⟨od, u, hd, q⟩ | ⟨u, hd, mu, q⟩
  · exact ⟨_, _, I1, r, q⟩
  · obtain ⟨od, I2⟩ := I1.lock hd mu
    exact ⟨_, _, I2, r, q od⟩
theorem le_lock {d : Addr} {u : HO} {od : Obj} (du : Dk u) (hf : F d = some u) (l : Le F H) (hd : H d = some u) :
    Le F (upd F d (.frz od u)) ∧ Le (upd F d (.frz od u)) (upd H d (.frz od u)) :=
  ⟨fun b o e => by
    by_cases z : b = d
    · subst z; rw [hf] at e; cases e; exact ⟨_, upd_same, .inr ⟨u, du, .inl rfl, .inr ⟨od, rfl⟩⟩⟩
    · exact ⟨o, by rw [upd_ne z]; exact e, .refl _⟩, l.upd2⟩
/-- the same where F has it locked already by another look -/
theorem le_lock2 {d : Addr} {u o0 : HO} {od : Obj} (du : Dk u) (hf : F d = some o0) (h0 : o0 = u ∨ ∃ ob, o0 = .frz ob u) (l : Le F H) (hd : H d = some u) :
    Le F (upd F d (.frz od u)) ∧ Le (upd F d (.frz od u)) (upd H d (.frz od u)) :=
  ⟨fun b o e => by
    by_cases z : b = d
    · subst z; rw [hf] at e; cases e; exact ⟨_, upd_same, .inr ⟨u, du, h0, .inr ⟨od, rfl⟩⟩⟩
    · exact ⟨o, by rw [upd_ne z]; exact e, .refl _⟩, l.upd2⟩
theorem LRel.lock {G G' : Hp} {d : Addr} {o : HO} (l : Le F G) (hd : F d ≠ none) (hG : ∀ a, F a = none → G a = none) (hH : ∀ a, a ≠ d → G' a = H a) {lv : LV} {v : V} (r : LRel R F H lv v) : LRel R G G' lv v := by
  cases r with
  | dat r => exact .dat (r.mono l)
  | ml f h rs => exact .ml (hG _ f) (by rw [hH _ fun z => hd (z ▸ f)]; exact h) (rs.mono l)
  | md f h k rs => exact .md (hG _ f) (by rw [hH _ fun z => hd (z ▸ f)]; exact h) k (rs.mono l)
  | mt f h k rs => exact .mt (hG _ f) (by rw [hH _ fun z => hd (z ▸ f)]; exact h) k (rs.mono l)
  | mi f h k rs => exact .mi (hG _ f) (by rw [hH _ fun z => hd (z ▸ f)]; exact h) k (rs.mono l)
theorem ER.lock {d : Addr} {u o0 : HO} {od : Obj} (du : Dk u) (hf : F d = some o0) (h0 : o0 = u ∨ ∃ ob, o0 = .frz ob u) (l : Le F H) (hd : H d = some u) (er : ER R F H σ env) :
    ER R (upd F d (.frz od u)) (upd H d (.frz od u)) σ env where
  len := er.len
  rel := fun i lv e n => by
    obtain ⟨v, hv, r⟩ := er.rel i lv e n
    exact ⟨v, hv, r.lock (d := d) (o := o0) (le_lock2 du hf h0 l hd).1 (by rw [hf]; simp) (fun a z => by rw [upd_ne (fun q => by rw [q, hf] at z; cases z)]; exact z) fun a z => by rw [upd_ne z]⟩
  dis := er.dis
theorem gr_lock {O : Addr → Prop} {d : Addr} {u o0 : HO} {od : Obj} (du : Dk u) (hf : F d = some o0) (h0 : o0 = u ∨ ∃ ob, o0 = .frz ob u) (l : Le F H) (hd : H d = some u) : Gr O F H O (upd F d (.frz od u)) (upd H d (.frz od u)) where
  le := (le_lock2 du hf h0 l hd).1
  sub := (le_lock2 du hf h0 l hd).2
  keep := fun b o e f _ => by rw [upd_ne (fun q => by rw [q, hf] at f; cases f)]; exact e
  old := fun b n => by
    by_cases z : b = d
    · exact .inl (by rw [z, hf]; simp)
    · rw [upd_ne z] at n; exact .inl n
  own := fun b o => .inl o
  frz := fun b ob u' e => by
    by_cases z : b = d
    · subst z
      rw [hd] at e
      cases e
      cases du
    · rw [upd_ne z]; exact e
theorem dk_mut {u : HO} (du : Dk u) : Mut (some u) := by cases u <;> first | exact trivial | exact du.elim

/-- the three walks -/
def keysL (kvs : List (Key × D)) : List D := kvs.map fun kv => dKey kv.1
def valsL (kvs : List (Key × D)) : List D := kvs.map (·.2)
def itemsL (kvs : List (Key × D)) : List D := kvs.map fun kv => .tup [dKey kv.1, kv.2]
theorem KR.get {kvs : List (Key × D)} {xs : List (Key × V)} (r : KR R F kvs xs) {i : Nat} {k : Key} {v : V} (e : xs[i]? = some (k, v)) : ∃ d, kvs[i]? = some (k, d) ∧ Rep R F d v := by
  have h1 : (xs.map (·.2))[i]? = some v := by rw [List.getElem?_map, e]; rfl
  obtain ⟨d, h2, h3⟩ := r.v.getV h1
  have h4 : (kvs.map (·.1))[i]? = some k := by rw [r.k, List.getElem?_map, e]; rfl
  rw [List.getElem?_map] at h2 h4
  cases h5 : kvs[i]? with
  | none => rw [h5] at h2; cases h2
  | some p => rw [h5] at h2 h4; cases p; cases h2; cases h4; exact ⟨_, rfl, h3⟩
theorem walks_keys {d : Addr} {ob : Obj} {kvs : List (Key × D)} {xs : List (Key × V)} (h : H d = some (.frz ob (.dK xs))) (r : KR R F kvs xs) : Walks R (Itk d ob xs) F H (keysL kvs) where
  go := fun i G H' _ _ z hi => ⟨z d ob _ h, by rw [← r.length]; simpa [keysL] using hi⟩
  stop := fun i G H' _ _ z hi => ⟨z d ob _ h, by rw [← r.length]; simpa [keysL] using hi⟩
  yld := fun i G H' x H2 l g _ hi y => by
    obtain ⟨rfl, k, v, e, rfl⟩ := y
    obtain ⟨dd, h1, h2⟩ := r.get e
    exact ⟨dKey k, G, by unfold keysL; rw [List.getElem?_map, h1]; rfl, .refl g, dKey_rep k⟩
theorem walks_vals {d : Addr} {ob : Obj} {kvs : List (Key × D)} {xs : List (Key × V)} (h : H d = some (.frz ob (.dK xs))) (r : KR R F kvs xs) : Walks R (Itd d ob xs) F H (valsL kvs) where
  go := fun i G H' _ _ z hi => ⟨z d ob _ h, by rw [← r.length]; simpa [valsL] using hi⟩
  stop := fun i G H' _ _ z hi => ⟨z d ob _ h, by rw [← r.length]; simpa [valsL] using hi⟩
  yld := fun i G H' x H2 l g _ hi y => by
    obtain ⟨rfl, k, e⟩ := y
    obtain ⟨dd, h1, h2⟩ := r.get e
    exact ⟨dd, G, by unfold valsL; rw [List.getElem?_map, h1]; rfl, .refl g, h2.mono l⟩
theorem walks_items {d : Addr} {ob : Obj} {kvs : List (Key × D)} {xs : List (Key × V)} (h : H d = some (.frz ob (.dK xs))) (r : KR R F kvs xs) : Walks R (Iti d ob xs) F H (itemsL kvs) where
  go := fun i G H' _ _ z hi => ⟨z d ob _ h, by rw [← r.length]; simpa [itemsL] using hi⟩
  stop := fun i G H' _ _ z hi => ⟨z d ob _ h, by rw [← r.length]; simpa [itemsL] using hi⟩
  yld := fun i G H' x H2 l g _ hi y => by
    obtain ⟨T, k, v, e, rfl, hT, rfl⟩ := y
    obtain ⟨dd, h1, h2⟩ := r.get e
    refine ⟨.tup [dKey k, dd], L2.upd G T (.tup [kV k, v]), by unfold itemsL; rw [List.getElem?_map, h1]; rfl, .newF g hT, .tup upd_same ?_⟩
    exact .cons (dKey_rep k) (.cons (h2.mono (l.trans (.upd (g.nn hT)))) .nil)

/-- the dict's entries, locked -/
def iDic (f : List (Key × D) → List D) (m : OM) : IM := fun env => match oFrz m env with
  | .val (.tmp (.dat (.dic kvs))) env1 => .val (f kvs) env1
  | .val _ _ => .bad
  | .exc x env1 => .exc x env1
  | .bad => .bad
theorem is_dic {t : TE} {f : List (Key × D) → List D} {Jt : Addr → Obj → List (Key × V) → It} (h2 : OS R W t (oFrz m))
    (hw : ∀ {F H : Hp} {d : Addr} {ob : Obj} {kvs : List (Key × D)} {xs : List (Key × V)}, H d = some (.frz ob (.dK xs)) → KR R F kvs xs → Walks R (Jt d ob xs) F H (f kvs)) :
    ISd R W (fun σ H Q => tFz t σ H fun x H1 => ∃ d o kvs, x = .ref d ∧ H1 d = some (.frz o (.dK kvs)) ∧ Q (Jt d o kvs) H1) (iDic f m) := by
  intro σ F H env Q er l p
  unfold iDic at p
  refine h2 σ F H env _ er l ?_
  cases e1 : oFrz m env with
  | bad => rw [e1] at p; exact p.elim
  | exc x env1 => rw [e1] at p; exact p
  | val r env1 =>
    rw [e1] at p
    intro v F1 H1 er1 rr d1 g1
    match r, rr, p with
    | .tmp (.dat (.dic kvs)), rr, p =>
      cases rr.2 with
      | dat rp =>
        cases rp with
        | @dic d _ xs h k rs =>
          have kr : KR R F1 kvs xs := ⟨k, rs⟩
          obtain ⟨o0, hf, h0⟩ : ∃ o0, F1 d = some o0 ∧ (o0 = .dK xs ∨ ∃ ob, o0 = .frz ob (.dK xs)) := h.elim (fun h => ⟨_, h, .inl rfl⟩) fun ⟨ob, h⟩ => ⟨_, h, .inr ⟨ob, rfl⟩⟩
          rcases g1.sub.dic (u := .dK xs) trivial h with hH | ⟨od, hH⟩
          · refine ⟨d, rfl, .inr ⟨_, hH, trivial, fun od => ⟨d, od, xs, rfl, upd_same, ?_⟩⟩⟩
            have gl := gr_lock (O := Own env1 σ) (od := od) (u := .dK xs) trivial hf h0 g1.sub hH
            exact p _ _ _ (er1.lock trivial hf h0 g1.sub hH) (hw upd_same (kr.mono gl.le)) ((g1.weak fun a q => .inl q).trans l gl)
          · exact ⟨d, rfl, .inl ⟨od, _, hH, d, od, xs, rfl, hH, p _ F1 H1 er1 (hw hH kr) (g1.weak fun a q => .inl q)⟩⟩
    | .var i, rr, p => exact p.elim
    | .tmp .un, rr, p => exact p.elim
    | .tmp (.ml _), rr, p => exact p.elim
    | .tmp (.md _), rr, p => exact p.elim
    | .tmp (.mt _), rr, p => exact p.elim
    | .tmp (.mi _ _), rr, p => exact p.elim
    | .tmp (.dat .non), rr, p => exact p.elim
    | .tmp (.dat (.bl _)), rr, p => exact p.elim
    | .tmp (.dat (.int _)), rr, p => exact p.elim
    | .tmp (.dat (.str _)), rr, p => exact p.elim
    | .tmp (.dat (.tup _)), rr, p => exact p.elim
    | .tmp (.dat (.lst _)), rr, p => exact p.elim
    | .tmp (.dat (.slst _)), rr, p => exact p.elim
    | .tmp (.dat (.dit _)), rr, p => exact p.elim
    | .tmp (.dat (.ins _ _)), rr, p => exact p.elim
    | .tmp (.dat (.cst _)), rr, p => exact p.elim
    | .tmp (.dat .opq), rr, p => exact p.elim
theorem pe_cons {te : TE} (h : PE X e te) : PE X e (fun σ H Q => ∃ Q', te σ H Q' ∧ ∀ x H', Q' x H' → Q x H') :=
  ⟨fun pins s σ H Q I ⟨Q', hw, i⟩ => thn (h.run pins s σ H Q' I hw) fun v s1 ⟨x, H1, I1, r, q⟩ => ⟨x, H1, I1, r, i x H1 q⟩⟩
theorem ij_keys {tg : Expr} (h : OJ X R W e m) : IJ X R W tg e (iDic keysL m) := by
  obtain ⟨t, h1, h2⟩ := oj_frz h
  refine ⟨_, pi_keys (pe_cons (pe_fz h1)), fun σ F H env Q er l p => ?_⟩
  exact ⟨_, is_dic (Jt := Itk) h2 walks_keys σ F H env Q er l p, fun x H' ⟨d, o, kvs, e, hd, q⟩ => ⟨d, o, e, .inl ⟨kvs, hd, q⟩⟩⟩
theorem ij_vals {tg : Expr} {apos cpos : Pos} (h : OJ X R W e m) (hbase : attributeBase e "values" X.env (eval e X.env) = eval e X.env := by rfl) (hline : (apos.endLine == cpos.line) = true := by rfl) :
    IJ X R W tg (.Call (.Attribute e "values" apos) [] [] cpos) (iDic valsL m) := by
  obtain ⟨t, h1, h2⟩ := oj_frz h
  exact ⟨_, pi_values (pe_fz h1) hbase hline, is_dic (Jt := Itd) h2 walks_vals⟩
theorem ij_items {elts : List Expr} {kk : Nat} {tpos : Pos} {apos cpos : Pos} (h : OJ X R W e m) (hbase : attributeBase e "items" X.env (eval e X.env) = eval e X.env := by rfl) (hline : (apos.endLine == cpos.line) = true := by rfl) :
    IJ X R W (.Tuple elts kk tpos) (.Call (.Attribute e "items" apos) [] [] cpos) (iDic itemsL m) := by
  obtain ⟨t, h1, h2⟩ := oj_frz h
  exact ⟨_, pi_items (pe_fz h1) hbase hline, is_dic (Jt := Iti) h2 walks_items⟩
end
end PL
set_option maxRecDepth 100000
set_option maxHeartbeats 4000000
/-! Pairs and triples stored at once, zip, sum, texts of numbers, .. -/
namespace PL
open PySem L2 PyProof.Rows RZ

section
variable {X : Cx} {R : RE} {W : WX} {P : List Nat} {pos : Pos} {e a b c : Expr} {es : List Expr} {m ma mb mc : OM} {ms : AM} {F H : Hp} {σ : L2.St} {env : LEnv}
/-! ### x, y = a, b -/
def sPar2 (i j : Nat) (ms : AM) : SM := fun env => match ms env with
  | .val [.tmp u, .tmp v] env1 => .nx ((env1.set i u).set j v)
  | .val _ _ => .bad
  | .exc x env1 => .exc x env1
  | .bad => .bad
def sPar3 (i j k : Nat) (ms : AM) : SM := fun env => match ms env with
  | .val [.tmp u, .tmp v, .tmp w] env1 => .nx (((env1.set i u).set j v).set k w)
  | .val _ _ => .bad
  | .exc x env1 => .exc x env1
  | .bad => .bad
theorem ss_par2 {i j : Nat} {t : TA} (hPi : i ∉ P) (hPj : j ∉ P) (h : AS R W t ms) : SSd R W P (tPar i j t) (sPar2 i j ms) := by
  intro σ F H env D er l p
  unfold sPar2 at p
  refine h σ F H env _ er l ?_
  cases e1 : ms env with
  | bad => rw [e1] at p; exact p.elim
  | exc x env1 => rw [e1] at p; exact XPost.stm p
  | val rs env1 =>
    rw [e1] at p
    intro vs F1 H1 er1 rr d1 dd1 g1
    match rs, vs, rr, p, d1, dd1, g1 with
    | [.tmp u, .tmp v], [x, y], .cons q1 (.cons q2 .nil), p, d1, dd1, g1 =>
      have o1 : ∀ z, Owns u x z → RsO [.tmp u, .tmp v] [x, y] z := fun z o => ⟨0, _, _, rfl, rfl, o⟩
      have o2 : ∀ z, Owns v y z → RsO [.tmp u, .tmp v] [x, y] z := fun z o => ⟨1, _, _, rfl, rfl, o⟩
      have er2 := er1.set (i := i) q1.1 q1.2 fun z o => d1 z (o1 z o)
      have er3 := er2.set (i := j) q2.1 q2.2 fun z o w => (own_setv w).elim (d1 z (o2 z o)) fun w => by
        have := dd1 0 1 _ _ _ _ z rfl rfl rfl rfl w o
        cases this
      refine ⟨x, y, rfl, p _ F1 H1 ⟨er3, g1.weak fun z o => ?_, (Fix.set hPi).trans (Fix.set hPj)⟩⟩
      rcases own_setv o with o | o
      · rcases own_setv o with o | o
        · exact .inl o
        · exact .inr (o1 z o)
      · exact .inr (o2 z o)
    | [.tmp u, .var _], _, _, p, _, _, _ => exact (show False from p).elim
    | [.var _, _], _, _, p, _, _, _ => exact (show False from p).elim
    | [], _, _, p, _, _, _ => exact (show False from p).elim
    | [r], _, _, p, _, _, _ => cases r <;> exact (show False from p).elim
    | r :: r' :: _ :: _, _, _, p, _, _, _ => cases r <;> cases r' <;> exact (show False from p).elim
theorem ss_par3 {i j k : Nat} {t : TA} (hPi : i ∉ P) (hPj : j ∉ P) (hPk : k ∉ P) (h : AS R W t ms) : SSd R W P (tPar3 i j k t) (sPar3 i j k ms) := by
  intro σ F H env D er l p
  unfold sPar3 at p
  refine h σ F H env _ er l ?_
  cases e1 : ms env with
  | bad => rw [e1] at p; exact p.elim
  | exc x env1 => rw [e1] at p; exact XPost.stm p
  | val rs env1 =>
    rw [e1] at p
    intro vs F1 H1 er1 rr d1 dd1 g1
    match rs, vs, rr, p, d1, dd1, g1 with
    | [.tmp u, .tmp v, .tmp w], [x, y, t], .cons q1 (.cons q2 (.cons q3 .nil)), p, d1, dd1, g1 =>
      have o1 : ∀ z, Owns u x z → RsO [.tmp u, .tmp v, .tmp w] [x, y, t] z := fun z o => ⟨0, _, _, rfl, rfl, o⟩
      have o2 : ∀ z, Owns v y z → RsO [.tmp u, .tmp v, .tmp w] [x, y, t] z := fun z o => ⟨1, _, _, rfl, rfl, o⟩
      have o3 : ∀ z, Owns w t z → RsO [.tmp u, .tmp v, .tmp w] [x, y, t] z := fun z o => ⟨2, _, _, rfl, rfl, o⟩
      have er2 := er1.set (i := i) q1.1 q1.2 fun z o => d1 z (o1 z o)
      have er3 := er2.set (i := j) q2.1 q2.2 fun z o s => (own_setv s).elim (d1 z (o2 z o)) fun s => by
        have := dd1 0 1 _ _ _ _ z rfl rfl rfl rfl s o
        cases this
      have er4 := er3.set (i := k) q3.1 q3.2 fun z o s => (own_setv s).elim (fun s => (own_setv s).elim (d1 z (o3 z o)) fun s => by
        have := dd1 0 2 _ _ _ _ z rfl rfl rfl rfl s o
        cases this) fun s => by
        have := dd1 1 2 _ _ _ _ z rfl rfl rfl rfl s o
        cases this
      refine ⟨x, y, t, rfl, p _ F1 H1 ⟨er4, g1.weak fun z o => ?_, ((Fix.set hPi).trans (Fix.set hPj)).trans (Fix.set hPk)⟩⟩
      rcases own_setv o with o | o
      · rcases own_setv o with o | o
        · rcases own_setv o with o | o
          · exact .inl o
          · exact .inr (o1 z o)
        · exact .inr (o2 z o)
      · exact .inr (o3 z o)
    | [.tmp u, .tmp v, .var _], _, _, p, _, _, _ => exact (show False from p).elim
    | [.tmp u, .var _, _], _, _, p, _, _, _ => exact (show False from p).elim
    | [.var _, _, _], _, _, p, _, _, _ => exact (show False from p).elim
    | [], _, _, p, _, _, _ => exact (show False from p).elim
    | [r], _, _, p, _, _, _ => cases r <;> exact (show False from p).elim
    | [r, r'], _, _, p, _, _, _ => cases r <;> cases r' <;> exact (show False from p).elim
    | r :: r' :: q :: _ :: _, _, _, p, _, _, _ => cases r <;> cases r' <;> cases q <;> exact (show False from p).elim
theorem sj_par2 {i j : Nat} {x y : Str} {px py pt : Pos} {kt k2 pt2} (hc : X.calm = true) (hN : X.N.Nodup) (ha : AJ X R W [a, b] ms) (hi : X.N[i]? = some x := by rfl) (hj : X.N[j]? = some y := by rfl) (hij : i ≠ j := by decide)
    (hx : X.env.scope.names.lookup x = some .local := by rfl) (hy : X.env.scope.names.lookup y = some .local := by rfl) (hPi : i ∉ P := by decide) (hPj : j ∉ P := by decide)
    (hw : swappedStores [.Tuple [.Name x px, .Name y py] kt pt] (.Tuple [a, b] k2 pt2) X.env = pure (some [x, y]) := by rfl)
    (hs : swapsWithSole [.Tuple [.Name x px, .Name y py] kt pt] (.Tuple [a, b] k2 pt2) pos.line X.env = pure false := by rfl) :
    SJ X R W P (.Assign [.Tuple [.Name x px, .Name y py] kt pt] (.Tuple [a, b] k2 pt2) pos) (sPar2 i j ms) :=
  let ⟨_, a1, a2⟩ := ha; ⟨_, ps_par hc hN hi hj hij hx hy a1 hw hs, ss_par2 hPi hPj a2⟩
theorem sj_par3 {i j k : Nat} {x y z : Str} {px py pz pt : Pos} {kt k2 pt2} (hc : X.calm = true) (hN : X.N.Nodup) (ha : AJ X R W [a, b, c] ms) (hi : X.N[i]? = some x := by rfl) (hj : X.N[j]? = some y := by rfl) (hk : X.N[k]? = some z := by rfl)
    (hij : i ≠ j := by decide) (hik : i ≠ k := by decide) (hjk : j ≠ k := by decide)
    (hx : X.env.scope.names.lookup x = some .local := by rfl) (hy : X.env.scope.names.lookup y = some .local := by rfl) (hz : X.env.scope.names.lookup z = some .local := by rfl) (hPi : i ∉ P := by decide) (hPj : j ∉ P := by decide) (hPk : k ∉ P := by decide)
    (hw : swappedStores [.Tuple [.Name x px, .Name y py, .Name z pz] kt pt] (.Tuple [a, b, c] k2 pt2) X.env = pure (some [x, y, z]) := by rfl)
    (hs : swapsWithSole [.Tuple [.Name x px, .Name y py, .Name z pz] kt pt] (.Tuple [a, b, c] k2 pt2) pos.line X.env = pure false := by rfl) :
    SJ X R W P (.Assign [.Tuple [.Name x px, .Name y py, .Name z pz] kt pt] (.Tuple [a, b, c] k2 pt2) pos) (sPar3 i j k ms) :=
  let ⟨_, a1, a2⟩ := ha; ⟨_, ps_par3 hc hN hi hj hk hij hik hjk hx hy hz a1 hw hs, ss_par3 hPi hPj hPk a2⟩

/-! ### zip of two lists or two tuples -/
def zipD : List PL.D → List PL.D → List PL.D
  | x :: xs, y :: ys => .tup [x, y] :: zipD xs ys
  | _, _ => []
theorem zipD_get : ∀ {xs ys : List PL.D} {i : Nat} {x y : PL.D}, xs[i]? = some x → ys[i]? = some y → (zipD xs ys)[i]? = some (.tup [x, y])
  | [], _, _, _, _, h, _ => by simp at h
  | _ :: _, [], _, _, _, _, h => by simp at h
  | a :: xs, b :: ys, 0, x, y, h1, h2 => by simp at h1 h2; subst h1 h2; rfl
  | a :: xs, b :: ys, i + 1, x, y, h1, h2 => by
    simp at h1 h2
    unfold zipD
    simp only [List.getElem?_cons_succ]
    exact zipD_get h1 h2
theorem zipD_length : ∀ {xs ys : List PL.D}, (zipD xs ys).length = min xs.length ys.length
  | [], _ => by simp [zipD]
  | _ :: _, [] => by simp [zipD]
  | _ :: xs, _ :: ys => by unfold zipD; simp only [List.length_cons, zipD_length]; omega
def iZipM (ms : AM) : IM := fun env => match ms env with
  | .val rs env1 => match gets rs env1 with
    | some [.dat (.lst ds), .dat (.lst es)] => .val (zipD ds es) env1
    | some [.dat (.tup ds), .dat (.tup es)] => .val (zipD ds es) env1
    | _ => .bad
  | .exc x env1 => .exc x env1
  | .bad => .bad
theorem walks_zip {F H0 : Hp} {K : PySem.W.Frag} {a b : Addr} {ds es : List PL.D} {vs us : List V} (h : F a = some (.lst vs)) (r : RepL R F ds vs) (h' : F b = some (.lst us)) (r' : RepL R F es us) : Walks R (Itz K a b) F H0 (zipD ds es) where
  go := fun i G H l g _ hi => by
    rw [zipD_length] at hi
    have h1 : i < vs.length := by rw [← r.length]; omega
    have h2 : i < us.length := by rw [← r'.length]; omega
    exact ⟨vs, us, _, _, .inl (.inl (g.lstE (l.lstE h))), .inl (.inl (g.lstE (l.lstE h'))), List.getElem?_eq_getElem h1, List.getElem?_eq_getElem h2⟩
  stop := fun i G H l g _ hi => ⟨vs, us, .inl (.inl (g.lstE (l.lstE h))), .inl (.inl (g.lstE (l.lstE h'))), by rw [zipD_length] at hi; rw [← r.length, ← r'.length]; omega⟩
  yld := fun i G H v H' l g _ hi y => by
    obtain ⟨T, x, y', rfl, hT, rfl, y1, y2⟩ := y
    obtain ⟨d, h1, h2⟩ := r.getV (y1 vs (.inl (.inl (g.lstE (l.lstE h)))))
    obtain ⟨d', h1', h2'⟩ := r'.getV (y2 us (.inl (.inl (g.lstE (l.lstE h')))))
    refine ⟨.tup [d, d'], L2.upd G T (.tup [x, y']), zipD_get h1 h1', .newF g hT, .tup upd_same ?_⟩
    exact .cons (h2.mono (l.trans (.upd (g.nn hT)))) (.cons (h2'.mono (l.trans (.upd (g.nn hT)))) .nil)
theorem walks_zipT {F H0 : Hp} {K : PySem.W.Frag} {a b : Addr} {ds es : List PL.D} {vs us : List V} (h : F a = some (.tup vs)) (r : RepL R F ds vs) (h' : F b = some (.tup us)) (r' : RepL R F es us) : Walks R (ItzT K a b) F H0 (zipD ds es) where
  go := fun i G H l g _ hi => by
    rw [zipD_length] at hi
    have h1 : i < vs.length := by rw [← r.length]; omega
    have h2 : i < us.length := by rw [← r'.length]; omega
    exact ⟨vs, us, _, _, .inl (.inl (g.tupE (l.tupE h))), .inl (.inl (g.tupE (l.tupE h'))), List.getElem?_eq_getElem h1, List.getElem?_eq_getElem h2⟩
  stop := fun i G H l g _ hi => ⟨vs, us, .inl (.inl (g.tupE (l.tupE h))), .inl (.inl (g.tupE (l.tupE h'))), by rw [zipD_length] at hi; rw [← r.length, ← r'.length]; omega⟩
  yld := fun i G H v H' l g _ hi y => by
    obtain ⟨T, x, y', rfl, hT, rfl, y1, y2⟩ := y
    obtain ⟨d, h1, h2⟩ := r.getV (y1 vs (.inl (.inl (g.tupE (l.tupE h)))))
    obtain ⟨d', h1', h2'⟩ := r'.getV (y2 us (.inl (.inl (g.tupE (l.tupE h')))))
    refine ⟨.tup [d, d'], L2.upd G T (.tup [x, y']), zipD_get h1 h1', .newF g hT, .tup upd_same ?_⟩
    exact .cons (h2.mono (l.trans (.upd (g.nn hT)))) (.cons (h2'.mono (l.trans (.upd (g.nn hT)))) .nil)
theorem ij_zip {elts : List Expr} {kk : Nat} {tpos p' : Pos} (hg : Gl X "zip") (hm : X.mg "zip" = none) (ha : AJ X R W [a, b] ms) (hs : starEach [a, b] X.env = (false, eval a X.env) :: starEach [b] X.env := by rfl) (hpl : (backTo pos (starEach [b] X.env)).any (·.1) = false := by rfl) :
    IJ X R W (.Tuple elts kk tpos) (.Call (.Name "zip" p') [a, b] [] pos) (iZipM ms) := by
  obtain ⟨t, h1, h2⟩ := ha
  refine ⟨_, pi_zipA hg hm h1 hs hpl, fun σ F H env Q er l p => ?_⟩
  unfold iZipM at p
  refine h2 σ F H env _ er l ?_
  cases e1 : ms env with
  | bad => rw [e1] at p; exact p.elim
  | exc x env1 => rw [e1] at p; exact p
  | val rs env1 =>
    rw [e1] at p
    intro vs F1 H1 er1 rr d1 dd1 g1
    simp only at p
    split at p
    · rename_i ds es hj
      have q := rr.gets er1 hj
      cases q with
      | cons q1 q =>
        cases q with
        | cons q2 q =>
          cases q
          cases q1 with
          | dat q1 =>
            cases q2 with
            | dat q2 =>
              cases q1 with
              | lst h r =>
                cases q2 with
                | lst h' r' => exact ⟨_, _, _, _, rfl, .inl ⟨.inl (.inl (g1.sub.lstE h)), .inl (.inl (g1.sub.lstE h')), p _ F1 H1 er1 (walks_zip h r h' r') (g1.weak fun a q => .inl q)⟩⟩
    · rename_i ds es hj
      have q := rr.gets er1 hj
      cases q with
      | cons q1 q =>
        cases q with
        | cons q2 q =>
          cases q
          cases q1 with
          | dat q1 =>
            cases q2 with
            | dat q2 =>
              cases q1 with
              | tup h r =>
                cases q2 with
                | tup h' r' => exact ⟨_, _, _, _, rfl, .inr ⟨.inl (.inl (g1.sub.tupE h)), .inl (.inl (g1.sub.tupE h')), p _ F1 H1 er1 (walks_zipT h r h' r') (g1.weak fun a q => .inl q)⟩⟩
    · exact p.elim
/-! ### sum of a list of ints, a tuple repeated, texts of ints -/
def intsD : List PL.D → Option (List Int)
  | [] => some []
  | .int i :: r => match intsD r with
    | some l => some (i :: l)
    | none => none
  | _ => none
theorem intsD_rep : ∀ {ds : List PL.D} {vs : List V} {ns : List Int}, RepL R F ds vs → intsD ds = some ns → vs = ns.map V.int
  | [], _, ns, .nil, e => by cases e; rfl
  | d :: ds, _, ns, .cons h r, e => by
    cases h with
    | int i =>
      unfold intsD at e
      cases e1 : intsD ds with
      | none => simp [e1] at e
      | some l =>
        simp only [e1, Option.some.injEq] at e
        subst e
        rw [intsD_rep r e1]
        rfl
    | _ => cases e
def gSum : LV → Option LV := fun x => match x with
  | .dat (.lst ds) => match intsD ds with
    | some l => some (.dat (.int l.sum))
    | none => none
  | .ml ds => match intsD ds with
    | some l => some (.dat (.int l.sum))
    | none => none
  | _ => none
theorem jSum (hc : X.calm = true) : CallJ X R (.builtin "sum") (f1 gSum) := .mk (cr_sum hc) (rsc1 fun F H x lx z Q l r1 e k => by
  cases r1 with
  | dat r =>
    cases r with
    | @lst a ds vs h rs =>
      unfold gSum at e
      simp only at e
      cases e1 : intsD ds with
      | none => simp [e1] at e
      | some ns =>
        simp only [e1, Option.some.injEq] at e
        subst e
        have ev := intsD_rep rs e1
        subst ev
        exact ⟨_, ns, rfl, .inl (.inl (l.lstE h)), kdat l k rfl (.int _)⟩
    | _ => cases e
  | @ml a ds vs f h rs =>
    unfold gSum at e
    simp only at e
    cases e1 : intsD ds with
    | none => simp [e1] at e
    | some ns =>
      simp only [e1, Option.some.injEq] at e
      subst e
      have ev := intsD_rep rs e1
      subst ev
      exact ⟨_, ns, rfl, .inl (.inl h), kdat l k rfl (.int _)⟩
  | _ => cases e)
theorem RepL.repN {ds : List PL.D} {vs : List V} (r : RepL R F ds vs) : ∀ n, RepL R F (List.replicate n ds).flatten (List.replicate n vs).flatten
  | 0 => .nil
  | n + 1 => by rw [List.replicate_succ, List.replicate_succ, List.flatten_cons, List.flatten_cons]; exact r.append (RepL.repN r n)
def gRepT : LV → LV → Option LV := fun x y => match x, y with
  | .dat (.tup ds), .dat (.int k) => if ds ≠ [] ∧ 2 ≤ k ∧ k ≤ 1000 ∧ ds.length ≤ 1000 then some (.dat (.tup (List.replicate k.toNat ds).flatten)) else none
  | _, _ => none
theorem jRepT : OpJ X R (binaryOp .Mult) (f2 gRepT) := .mk op_repT (rs2 fun F H x y lx ly z Q l r1 r2 e k => by
  unfold gRepT at e
  split at e
  · split at e
    · rename_i ds n hz
      cases e
      cases r1 with
      | dat r1 =>
        cases r1 with
        | tup h rs =>
          cases r2 with
          | dat r2 =>
            cases r2
            refine ⟨_, _, _, rfl, rfl, .inl (.inl (l.tupE h)), ?_, hz.2.1, hz.2.2.1, by rw [← rs.length]; exact hz.2.2.2, fun p hp => ?_⟩
            · rintro rfl
              have := rs.length
              exact hz.1 (List.length_eq_zero_iff.mp (by simpa using this))
            · exact k (.ref p) (L2.upd F p _) _ (.newF l hp) (.dat (.tup upd_same ((rs.mono (.upd (l.nn hp))).repN _))) fun _ o => by cases o.1
    · cases e
  · cases e)
def gStrN : LV → Option LV := fun x => match x with
  | .dat (.int i) => if i.natAbs.log2 < 1920 then some (.dat (.str (toString i))) else none
  | _ => none
theorem jStrN : CallJ X R (.type "str") (f1 gStrN) := .mk call_str_int (rsc1 fun F H x lx z Q l r1 e k => by
  unfold gStrN at e
  split at e
  · split at e
    · cases e
      cases r1 with
      | dat r1 => cases r1; exact ⟨_, rfl, by assumption, kdat l k rfl (.str _)⟩
    · cases e
  · cases e)
def strsD : List PL.D → Option (List Str)
  | [] => some []
  | .str i :: r => match strsD r with
    | some l => some (i :: l)
    | none => none
  | _ => none
theorem strs_rep : ∀ {ds : List PL.D} {vs : List V} {ns : List Str}, RepL R F ds vs → strsD ds = some ns → vs = ns.map V.str
  | [], _, ns, .nil, e => by cases e; rfl
  | d :: ds, _, ns, .cons h r, e => by
    cases h with
    | str i =>
      unfold strsD at e
      cases e1 : strsD ds with
      | none => simp [e1] at e
      | some l =>
        simp only [e1, Option.some.injEq] at e
        subst e
        rw [strs_rep r e1]
        rfl
    | _ => cases e
end
end PL
set_option maxRecDepth 100000
set_option maxHeartbeats 4000000
/-! enumerate of a tuple. -/
namespace PL
open PySem L2 PyProof.Rows

/-- enumerate(v), no start told -/
theorem enum_new1 {v : Value} {o : Obj} {T : Heap → Prop} (B : Begins v o T) :
    Meets (Builtin.«enumerate.__new__» ⟨[.type "enumerate", v], []⟩) (fun _ R s => T s.heap ∧
      R (.ok (.ret (.ref (s.heap.push o).objs.size))) { s with heap := (s.heap.push o).push { cls := .type "enumerate", data := .fields #[.none, .bool false, .ref s.heap.objs.size, rawInt 0, .none, .none] } }) :=
  .of_wp fun prog w A R s hh => by
    obtain ⟨hp, g, d, tk, os⟩ := s
    obtain ⟨t1, hh⟩ := hh
    have hsub := sub_enumerate
    have start : ∀ {A' : Around} {E Q : Value → Shared → Prop}, Q (.ref hp.objs.size) ⟨hp.push o, g, d, tk, os⟩ → wpAny (model prog w) A' (pyIter v) Q E ⟨hp, g, d, tk, os⟩ :=
      fun q => B.iter prog w _ _ ⟨hp, g, d, tk, os⟩ _ t1 q
    wp_walk using start
    refine wpAny_stack_any fun st => wpAny_pure ?_
    split
    · rename_i c _ _ _ _ _
      cases (c == Value.type "enumerate")
      · wp_walk using start
        exact ⟨_, rfl, hh⟩
      · wp_walk using start
        exact ⟨_, rfl, hh⟩
    · wp_walk using start
      exact ⟨_, rfl, hh⟩
section
variable {prog : Program} {w : World} {A : Around} {E : Value → Shared → Prop} {s : Shared}
theorem enum_call1 {v : Value} {o : Obj} {T : Heap → Prop} {Q : Value → Shared → Prop} (B : Begins v o T) (t1 : T s.heap)
    (hq : ∀ h', IsEnum h' (s.heap.objs.size + 1) s.heap.objs.size 0 .none → h'.get? s.heap.objs.size = some o → h'.objs.size = s.heap.objs.size + 2 →
      (∀ b u, s.heap.get? b = some u → h'.get? b = some u) → Q (.ref (s.heap.objs.size + 1)) { s with heap := h' }) :
    wpAny (model prog w) A (call (.type "enumerate") [v]) Q E s := by
  refine callType_new F.called_enumerate (by decide) (F.typeCall_enumerate_1 _) (F.newCall_enumerate_1 _) (fun obj => F.args_object_init_2 obj _) F.entry_enumerate_new (enum_new1 B) ⟨t1, ?_⟩
  have sz : (s.heap.push o).objs.size = s.heap.objs.size + 1 := Heap.size_push ..
  show _ ∧ _
  rw [sz]
  have en := Heap.get?_push_size (s.heap.push o) (o := { cls := .type "enumerate", data := .fields #[.none, .bool false, .ref s.heap.objs.size, rawInt 0, .none, .none] }) rfl
  rw [sz] at en
  exact ⟨⟨_, en, rfl⟩, hq _ en (Heap.get?_push_of_some _ (Heap.get?_push_size _ B.free)) (by rw [Heap.size_push, sz]) fun b u x => Heap.get?_push_of_some _ (Heap.get?_push_of_some _ x)⟩
/-- a tuple's iterator behind its end -/
theorem draws_end {it t : Addr} {i : Nat} {items : Array Value} (hh : A.handled = none) (hx : items[i]? = none) :
    Draws prog w A it [it, t] i (fun _ _ => False) (fun j h => j = i ∧ h.IsTupleIter it t i ∧ h.IsTuple t items) where
  live := fun _ _ st => let ⟨o, ho, _⟩ := st.2.1; ⟨o, ho⟩
  frame := fun _ _ _ st hk => ⟨st.1, st.2.1.at fun o e => hk it (by simp) o e, st.2.2.at fun o e => hk t (by simp) o e⟩
  item := fun j s Q E hj st hQ => by
    obtain ⟨q, _⟩ := st
    omega
  done := fun s Q E st hE => wpAny_nextOf_tuple_end hh st.2.1 st.2.2 hx hE
end
/-- the tuple at a, each item in a new pair -/
def IteT (K : PySem.W.Frag) (a : Addr) : It :=
  ⟨fun i H => ∃ (xs : List V) (x : V), SqT K H a xs ∧ xs[i]? = some x, fun i H v H' => ∃ T x, v = .ref T ∧ H T = none ∧ H' = upd H T (.tup [.int (i : Nat), x]) ∧ ∀ xs, SqT K H a xs → xs[i]? = some x, fun i H => ∃ xs : List V, SqT K H a xs ∧ xs.length ≤ i⟩
theorem turn_enumT {P : Program} {w : World} {K : PySem.W.Frag} {elts : List Expr} {kk : Nat} {tpos : Pos} (a e it : Addr) :
    Turn P w K (.Tuple elts kk tpos) (IteT K a) [e, it] e (fun i h => (∃ old, IsEnum h e it ((i : Nat) : Int) old) ∧ h.IsTupleIter it a i ∧ e ≠ it) where
  mem := by simp
  obj := fun i h st b hb => by
    obtain ⟨⟨old, he⟩, ⟨o, ho, hc, hd⟩, _⟩ := st
    have e' : b = e ∨ b = it := by simpa using hb
    rcases e' with z | z
    · rw [z]; exact ⟨_, he, fun v q => nomatch q⟩
    · rw [z]; exact ⟨o, ho, fun v q => by rw [hd] at q; cases q⟩
  keep := fun i h h' st k => let ⟨⟨old, he⟩, hi, hne⟩ := st; ⟨⟨old, k e (by simp) _ he⟩, hi.at fun o q => k it (by simp) o q, hne⟩
  item := by
    intro X hP hw hK hc i pins s σ H E I hf st hg
    subst hP hw hK
    obtain ⟨⟨old, he⟩, hit, hne⟩ := st
    obtain ⟨xs, x, hq, hx⟩ := hg
    obtain ⟨its, rv, p, hz⟩ := I.tuple hq
    obtain ⟨u, hu, ru⟩ := rv.get hx
    have hel : e < s.heap.objs.size := Heap.lt_size he
    have hil : it < s.heap.objs.size := by obtain ⟨_, q, _⟩ := hit; exact Heap.lt_size q
    have nae : e ≠ a := by
      rintro rfl
      obtain ⟨o, ho, hc', _⟩ := p
      rw [he] at ho
      cases ho
      injection hc' with z
      exact absurd z (by decide)
    have nai : a ≠ it := by
      rintro rfl
      obtain ⟨o, ho, hc', _⟩ := p
      obtain ⟨o', ho', hc'', _⟩ := hit
      rw [ho] at ho'
      cases ho'
      rw [hc'] at hc''
      injection hc'' with z
      exact absurd z (by decide)
    have hlt : i < its.toArray.size := by
      have := (List.getElem?_eq_some_iff.mp hu).1
      simpa using this
    refine wpAny_pyNext_enum_itemD (Draws.tuple (by exact I.ok.hd hc) it a nai its.toArray) he ⟨hit, p⟩ hlt hne (by simp [hne, nae]) fun x' h' tk px ho st' hT hsz hk => ?_
    obtain rfl : u = x' := by
      have q : its.toArray[i]? = some x' := px
      rw [List.getElem?_toArray, hu] at q
      exact Option.some.inj q
    obtain ⟨hit', _⟩ := st'
    refine ⟨_, rfl, wpAny_letOwnedTupleGo_enum (s := { s with heap := h', toks := tk + 1 }) ho fun h'' he' sb => ?_⟩
    have hT2 : h''.get? s.heap.objs.size = some { cls := .type "tuple", data := .seq #[.int i tk, u] } := (sb.2 _ (Nat.ne_of_gt hel)).trans hT
    have new : ObjOk X.prog X.w (upd H s.heap.objs.size (.tup [.int (i : Nat), x])) h'' s.heap.objs.size (.tup [.int (i : Nat), x]) :=
      ⟨by show 2 ≤ sizeLine; decide, [.int i tk, u], .cons ⟨_, rfl⟩ (.cons ru .nil), ⟨_, hT2, rfl, _, rfl⟩⟩
    have I1 : Inv X pins σ (upd H s.heap.objs.size (.tup [.int (i : Nat), x])) { s with heap := h'', toks := tk + 1 } :=
      I.turnedNew (ch := [e, it]) (fun b ob hb q => (sb.2 b (fun z => hb (by simp [z]))).trans (hk b ob (fun z => hb (by simp [z])) (fun z => hb (by simp [z])) q)) hf (Nat.le_refl _) new
    refine ⟨.ref s.heap.objs.size, _, I1, rfl, ⟨_, x, rfl, I.hok.fresh (Nat.le_refl _), rfl, fun ys hy => ?_⟩, ⟨⟨u, ?_⟩, hit'.at fun o q => (sb.2 it (Ne.symm hne)).trans q, hne⟩, fun b hb => ?_⟩
    · rw [I.tuple_inj hy hq]; exact hx
    · have e1 : ((i + 1 : Nat) : Int) = (i : Int) + 1 := by omega
      rw [e1]; exact he'
    · have hb' : b < s.heap.objs.size := by
        have e' : b = e ∨ b = it := by simpa using hb
        rcases e' with z | z
        · rw [z]; exact hel
        · rw [z]; exact hil
      rw [upd_ne (Nat.ne_of_lt hb')]
      exact (hf b hb).1
  done := by
    intro X hP hw hK hc i pins s σ H E I hf st hg
    subst hP hw hK
    obtain ⟨⟨old, he⟩, hit, hne⟩ := st
    obtain ⟨xs, hq, hx⟩ := hg
    obtain ⟨its, rv, p, hz⟩ := I.tuple hq
    obtain ⟨f0, f1, f2, f3, f4, f5⟩ := hf it (by simp)
    have hl := rv.length
    exact wpAny_pyNext_enum_endD (draws_end (items := its.toArray) (t := a) (by exact I.ok.hd hc) (by simp; omega)) he ⟨rfl, hit, p⟩ fun h' eb => ⟨rfl, I.turned (t' := s.toks) (fun b o hb q => eb b o hb q) f0 f1 f3 f4 f5⟩
  self := fun A i s Q E st h => let ⟨⟨_, he⟩, _⟩ := st; wpAny_pyIter_enum he h
def iEnumT (K : PySem.W.Frag) (ta : TA) : TI := fun σ H R => ta σ H fun vs H1 => ∃ a xs, vs = [.ref a] ∧ SqT K H1 a xs ∧ R (IteT K a) H1
theorem pi_enumT {X : Cx} {e : Expr} {ta : TA} {p pos tpos : Pos} {elts : List Expr} {kk : Nat} (hg : Gl X "enumerate") (hm : X.mg "enumerate" = none) (ha : PA X [e] ta) (hs : starEach [e] X.env = [(false, eval e X.env)] := by rfl) :
    PI X (.Tuple elts kk tpos) (.Call (.Name "enumerate" p) [e] [] pos) (iEnumT X.K ta) := by
  refine ⟨fun pins s σ H R I h => ?_⟩
  refine Call_ (ld_blt I hg hm boot_enumerate (PyProof.Rows.callWith_type1 (thn (ha.run pos pins s σ H _ I h) fun us s1 ⟨vs, H1, I1, r1, q1⟩ => ?_) hs rfl))
  obtain ⟨a, xs, ex, hq, q⟩ := q1
  subst ex
  cases r1 with
  | cons r rr =>
    cases rr
    cases r
    obtain ⟨its, rv, p', hz⟩ := I1.tuple hq
    refine enum_call1 (begins_tuple a its.toArray) p' fun h' he hit hsz hk => wpAny_pyIter_enum he ?_
    have I2 : Inv X pins σ H1 { s1 with heap := h' } := I1.kept (t' := s1.toks) hk
    refine ⟨s1.heap.objs.size + 1, [s1.heap.objs.size + 1, s1.heap.objs.size], _, _, H1, rfl, I2, turn_enumT a (s1.heap.objs.size + 1) s1.heap.objs.size, ⟨⟨.none, he⟩, ⟨_, hit, rfl, rfl⟩, Nat.succ_ne_self _⟩, fun b hb => ?_, q⟩
    have e' : b = s1.heap.objs.size + 1 ∨ b = s1.heap.objs.size := by simpa using hb
    have hle : s1.heap.objs.size ≤ b := by
      rcases e' with z | z
      · rw [z]; exact Nat.le_add_right _ _
      · rw [z]; exact Nat.le_refl _
    exact I1.fpOk hle (I1.hok.fresh hle)
section
variable {X : Cx} {R : RE} {W : WX} {P : List Nat} {pos : Pos} {e : Expr} {m : OM}
def iEnumTM (m : OM) : IM := fun env => match oFrz m env with
  | .val (.tmp (.dat (.tup ds))) env1 => .val (enumD 0 ds) env1
  | .val _ _ => .bad
  | .exc x env1 => .exc x env1
  | .bad => .bad
theorem walks_enumT {F H0 : Hp} {K : PySem.W.Frag} {a : Addr} {ds : List PL.D} {vs : List V} (h : F a = some (.tup vs)) (r : RepL R F ds vs) : Walks R (IteT K a) F H0 (enumD 0 ds) where
  go := fun i G H l g _ hi => by
    rw [enumD_length] at hi
    obtain ⟨x, hx⟩ : ∃ x, vs[i]? = some x := ⟨_, List.getElem?_eq_getElem (by rw [← r.length]; exact hi)⟩
    exact ⟨vs, x, .inl (.inl (g.tupE (l.tupE h))), hx⟩
  stop := fun i G H l g _ hi => ⟨vs, .inl (.inl (g.tupE (l.tupE h))), by rw [← r.length]; rw [enumD_length] at hi; exact hi⟩
  yld := fun i G H v H' l g _ hi y => by
    obtain ⟨T, x, rfl, hT, rfl, y⟩ := y
    have hx := y vs (.inl (.inl (g.tupE (l.tupE h))))
    obtain ⟨d, h1, h2⟩ := r.getV hx
    refine ⟨.tup [.int (i : Nat), d], L2.upd G T (.tup [.int (i : Nat), x]), by rw [enumD_get, h1]; simp, .newF g hT, .tup upd_same ?_⟩
    exact .cons (.int _) (.cons (h2.mono (l.trans (.upd (g.nn hT)))) .nil)
theorem ij_enumT {elts : List Expr} {kk : Nat} {tpos p' : Pos} (hg : Gl X "enumerate") (hm : X.mg "enumerate" = none) (ha : OJ X R W e m) (hs : starEach [e] X.env = [(false, eval e X.env)] := by rfl) :
    IJ X R W (.Tuple elts kk tpos) (.Call (.Name "enumerate" p') [e] [] pos) (iEnumTM m) := by
  obtain ⟨t, h1, h2⟩ := oj_frz ha
  refine ⟨_, pi_enumT hg hm (pa_cons h1 pa_nil (by rw [hs]; rfl)) hs, fun σ F H env Q er l p => ?_⟩
  unfold iEnumTM at p
  refine h2 σ F H env _ er l ?_
  cases e1 : oFrz m env with
  | bad => rw [e1] at p; exact p.elim
  | exc x env1 => rw [e1] at p; exact p
  | val r env1 =>
    rw [e1] at p
    intro v F1 H1 er1 rr d1 g1
    cases r with
    | var i => exact p.elim
    | tmp lv =>
      cases lv with
      | dat d =>
        cases d with
        | tup ds =>
          cases rr.2 with
          | dat rp =>
            cases rp with
            | tup h rs => exact ⟨_, _, rfl, .inl (.inl (g1.sub.tupE h)), p _ F1 H1 er1 (walks_enumT h rs) (g1.weak fun a q => .inl q)⟩
        | _ => exact p.elim
      | _ => exact p.elim
def iEnumA (m : OM) : IM := iOr (iEnumM m) (iEnumTM m)
theorem ij_enumA {elts : List Expr} {kk : Nat} {tpos p' : Pos} (hm : X.mg "enumerate" = none) (ha : OJ X R W e m) (hg : Gl X "enumerate" := by rfl) (hs : starEach [e] X.env = [(false, eval e X.env)] := by rfl) :
    IJ X R W (.Tuple elts kk tpos) (.Call (.Name "enumerate" p') [e] [] pos) (iEnumA m) := ij_or (ij_enum hg hm ha hs) (ij_enumT hg hm ha hs)
end
end PL
set_option maxRecDepth 100000
set_option maxHeartbeats 4000000
/-! A starred target, own errors raised and caught, dict.pop, join. -/
namespace PL
open PySem L2 PyProof.Rows PySem.W

/-! ### first, *rest = a tuple -/
section
variable {prog : Program} {w : World} {A : Around} {E : Value → Shared → Prop} {s : Shared}
theorem star_items {l : Addr} {u : Value} {its : List Value} {Q : List Value → Shared → Prop} (ht : IsTup s.heap l (u :: its).toArray) (hh : A.handled = none) (hz : its.length + 1 ≤ sizeLine)
    (hq : ∀ (h' : Heap) (tk : Nat), (∀ b o, s.heap.get? b = some o → h'.get? b = some o) → Q [u, .ref h'.objs.size] { s with heap := h'.push { cls := .type "list", data := .seq its.toArray }, toks := tk }) :
    wpAny (model prog w) A (unpackItems (.ref l) 2 (some 1)) Q E s := by
  have hlt : l ≠ s.heap.objs.size := by obtain ⟨o, ho, _⟩ := ht; exact Nat.ne_of_lt (Heap.lt_size ho)
  unfold unpackItems notIterableAtAll
  refine wpAny_bind (wpAny_bind (wpAny_specialOf ht.typeIs PyProof.Rows.slot_tuple_iter.lookup (wpAny_pure ?_)))
  simp only [Bool.false_eq_true, if_false]
  refine wpAny_bind (wpAny_holding (iter_tuple ht ?_))
  refine wpAny_bind (wpAny_holding (draw_tuple hlt 1 0 _ _ ⟨_, Heap.get?_push_size _ rfl, rfl, rfl⟩ (ht.push _) (by simp) fun h1 hit1 hs1 => ?_))
  have ht1 : IsTup h1 l (u :: its).toArray := (ht.push _).extBut hs1.extBut hlt
  have e1 : ((u :: its).toArray.toList.drop 0).take 1 = [u] := by simp
  rw [e1]
  show wpAny _ _ (if [u].length < 1 then _ else _) _ _ _
  rw [if_neg (by simp)]
  obtain ⟨oi, hoi, _⟩ := id hit1
  obtain ⟨ol, hol, _⟩ := id ht1
  refine wpAny_bind (wpAny_holding (kun_collect (s := { s with heap := h1 }) (T := "tuple_iterator") (.inr (.inr (.inr rfl))) (PySem.Walks.tuple (A := A.in1) hh s.heap.objs.size l hlt (u :: its).toArray) (fun j u st => st.1.typeIs) (k := 1) (by simp) ⟨hit1, ht1⟩ (Heap.lt_size hoi) (Heap.lt_size hol) (fun h2 tk hk => ?_) (by simpa using hz)))
  have e2 : (u :: its).toArray.toList.drop 1 = its := by simp
  rw [e2]
  show wpAny _ _ (if its.length < 2 - 1 - 1 then _ else _) _ _ _
  rw [if_neg (by omega)]
  show wpAny _ _ (newList (its.take (its.length - (2 - 1 - 1))) >>= fun d => pure ([u] ++ [d] ++ its.drop (its.length - (2 - 1 - 1)))) _ _ _
  have e3 : its.length - (2 - 1 - 1) = its.length := by omega
  rw [e3, List.take_length, List.drop_length]
  have he : ∀ b o, s.heap.get? b = some o → h2.get? b = some o := fun b o e => by
    have nb : b ≠ s.heap.objs.size := Nat.ne_of_lt (Heap.lt_size e)
    exact hk b o nb (hs1.extBut b o nb (Heap.get?_push_of_some _ e))
  refine wpAny_bind (wpAny_newList (wpAny_pure ?_) (by omega))
  exact hq _ _ he
end

def gStar (K : PySem.W.Frag) (i j : Nat) : TG := fun v σ H Q => ∃ (a : Addr) (x : V) (xs : List V), v = .ref a ∧ SqT K H a (x :: xs) ∧ ∀ p, H p = none → Q ((σ.set i (some x)).set j (some (.ref p))) (L2.upd H p (.lst xs))
section
variable {X : Cx} {R : RE} {W : WX} {P : List Nat} {pos : Pos} {e a b c : Expr} {es : List Expr} {m ma mb mc : OM} {ms : AM} {F H F' H' : Hp} {σ σ' : L2.St} {env env' : LEnv}
theorem pg_star {i j : Nat} {x y : Str} {kt : Nat} {px py ps pt : Pos} (hc : X.calm = true) (hN : X.N.Nodup) (hi : X.N[i]? = some x) (hj : X.N[j]? = some y) (hx : X.env.scope.names.lookup x = some .local) (hy : X.env.scope.names.lookup y = some .local) :
    PG X (.Tuple [.Name x px, .Starred (.Name y py) ps] kt pt) (gStar X.K i j) := by
  refine ⟨fun pins s σ H v u Q I r hw => ?_⟩
  obtain ⟨a, d, xs, rfl, hq, hw⟩ := hw
  cases r
  obtain ⟨its, rv, ht, hz⟩ := I.tuple hq
  cases rv with
  | @cons _ u1 _ us r1 rr =>
    rw [assign_Tuple]
    refine wpAny_bind (wpAny_standAt ?_)
    show wpAny _ _ (holding [Value.ref a] (unpackItems (.ref a) 2 (some 1)) >>= fun its => assignInOrder [assign (.Name x px) X.env, assign (.Name y py) X.env] its) _ _ _
    have hl : us.length + 1 ≤ sizeLine := by rw [← rr.length]; simpa using hz
    refine wpAny_bind (wpAny_holding (star_items ht (I.ok.hd hc) hl fun h2 tk k => ?_))
    have I2 : L2.Inv X pins σ H { s with heap := h2, toks := tk } := I.kept k
    have hn : H h2.objs.size = none := I2.hok.fresh (Nat.le_refl _)
    have I3 : L2.Inv X pins σ (L2.upd H h2.objs.size (.lst xs)) { s with heap := h2.push { cls := .type "list", data := .seq us.toArray }, toks := tk } :=
      I2.laid (t' := tk) (fun b o e => Heap.get?_push_of_some _ e) (Nat.le_refl _) ⟨by rw [rr.length]; omega, us, 0, rr, Heap.get?_push_size _ rfl⟩
    refine assignInOrder_cons (wpAny_assign_Name (store_ok I3 hN hi (.inl hx) r1 (fun s3 I4 => ?_) (.inr hx)))
    refine assignInOrder_cons (wpAny_assign_Name (store_ok I4 hN hj (.inl hy) (v := .ref h2.objs.size) rfl (fun s4 I5 => ?_) (.inr hy)))
    exact assignInOrder_nil ⟨_, _, I5, hw _ hn⟩
/-- first, *rest = e -/
def sStar (i j : Nat) (m : OM) : SM := fun env => match oFrz m env with
  | .val (.tmp (.dat (.tup (d :: ds)))) env1 => .nx ((env1.set i (.dat d)).set j (.ml ds))
  | .val _ _ => .bad
  | .exc x env1 => .exc x env1
  | .bad => .bad
theorem sj_star {i j : Nat} {x y : Str} {kt : Nat} {px py ps pt : Pos} (hc : X.calm = true) (hN : X.N.Nodup) (he : OJ X R W e m) (hi : X.N[i]? = some x := by rfl) (hj : X.N[j]? = some y := by rfl) (hx : X.env.scope.names.lookup x = some .local := by rfl) (hy : X.env.scope.names.lookup y = some .local := by rfl)
    (hPi : i ∉ P := by decide) (hPj : j ∉ P := by decide)
    (hs : swapsWithSole [.Tuple [.Name x px, .Starred (.Name y py) ps] kt pt] e pos.line X.env = pure false := by rfl) (hw : swappedStores [.Tuple [.Name x px, .Starred (.Name y py) ps] kt pt] e X.env = pure none := by rfl) :
    SJ X R W P (.Assign [.Tuple [.Name x px, .Starred (.Name y py) ps] kt pt] e pos) (sStar i j m) := by
  obtain ⟨t, h1, h2⟩ := oj_frz he
  refine ⟨_, ps_asg h1 (pg_star hc hN hi hj hx hy) hs hw, fun σ F H env D er l p => ?_⟩
  unfold sStar at p
  refine h2 σ F H env _ er l ?_
  cases e1 : oFrz m env with
  | bad => rw [e1] at p; exact p.elim
  | exc x env1 => rw [e1] at p; exact XPost.stm p
  | val r env1 =>
    rw [e1] at p
    intro v F1 H1 er1 rr d1 g1
    cases r with
    | var i => exact p.elim
    | tmp lv =>
      cases lv with
      | dat d =>
        cases d with
        | tup ds =>
          cases ds with
          | nil => exact p.elim
          | cons d ds =>
            cases rr.2 with
            | dat rp =>
              cases rp with
              | @tup a0 _ _ h rs =>
                cases rs with
                | @cons _ u0 _ us q1 q2 =>
                  refine ⟨_, _, _, rfl, .inl (.inl (g1.sub.tupE h)), fun p' hp => ?_⟩
                  have nw : Nw F1 H1 F1 (L2.upd H1 p' (.lst us)) := .new g1.sub hp
                  have er2 := (er1.nw nw).set (i := i) (lv := .dat d) (by simp) (.dat q1) fun _ o => by cases o.1
                  have er3 := er2.set (i := j) (lv := .ml ds) (v := .ref p') (by simp) (.ml (g1.sub.nn hp) upd_same q2) fun z o w => by
                    obtain ⟨_, q⟩ := o
                    cases q
                    exact (er1.tracked (own_setd w)).2 hp
                  have g2 : Gr (fun a => Own env1 σ a ∨ RfO (.tmp (.dat (.tup (d :: ds)))) (V.ref a0) a) F1 H1 (Own ((env1.set i (.dat d)).set j (.ml ds)) ((σ.set i (some u0)).set j (some (.ref p')))) F1 (L2.upd H1 p' (.lst us)) := nw.gr fun z o => by
                    rcases own_setv o with o | o
                    · exact .inl (.inl (own_setd o))
                    · obtain ⟨_, q⟩ := o
                      cases q
                      exact .inr hp
                  exact p _ F1 _ ⟨er3, g1.trans l g2, (Fix.set hPi).trans (Fix.set hPj)⟩
        | _ => exact p.elim
      | _ => exact p.elim

/-! ### own errors -/
/-- what the class x must say -/
structure ExcAt (B : Base) (x : Str) : Prop where
  q : PySem.W.excIn B.R.K (B.R.ct x) [.type "ValueError", .type "Exception", .type "BaseException", .type "object"] "ValueError.__new__" = true
  g : B.mg x = some (.ref (B.R.ct x))
  k : PySem.W.keepIn B.R.K (.ref (B.R.ct x)) = true
  s : PySem.W.subIn B.R.K (.ref (B.R.ct x)) (.type "BaseException") = some true
  t : PySem.W.typeIn B.R.K (.ref (B.R.ct x)) = some (.type "type")
def sRaise (x : Str) : SM := fun env => .exc ⟨x, []⟩ env
theorem sj_raise {B : Base} {x w : Str} {j : Nat} {p1 p2 p3 : Pos} (h : ExcAt B x) (tk : Takes X W) (hc : X.calm = true) (e3 : X.K = B.R.K := by rfl) (e4 : X.mg = B.mg := by rfl) (hg : Gl X x := by rfl) (hd : (x == ("__debug__" : Str)) = false := by decide) :
    SJ X B.R W P (.Raise (some (.Call (.Name x p1) [.Constant (.str w) j p2] [] p3)) none pos) (sRaise x) := by
  obtain ⟨q, g, k, s, t⟩ := h
  rw [← e3] at q k s t
  rw [← e4] at g
  refine ⟨_, ps_raise hc tk (pmk_own PySem.F.excBase_ValueError q g k (raises_own s t) hg hd), fun σ F H env D er l p => ?_⟩
  exact p _ none σ F H er ⟨rfl, .inl ⟨rfl, rfl⟩⟩ (.refl l) .refl

def tS (R : RE) (W : WX) (P : List Nat) (m : SM) : TS := fun D σ H => ∃ F env, ER R F H σ env ∧ Le F H ∧ SPost R W P (Own env σ) σ F H (m env) D
theorem BJ.uni {ss : List Stmt} {m : SM} (h : BJ X R W P ss m) : PSs X ss (tS R W P m) := by
  obtain ⟨t, h1, h2⟩ := h
  exact ⟨fun pins s σ H D I ⟨F, env, er, l, p⟩ => h1.run pins s σ H D I (h2 σ F H env D er l p)⟩
theorem ER.unset (i : Nat) (er : ER R F H σ env) : ER R F H (σ.set i none) (env.set i .un) ∧ ∀ a, Own (env.set i .un) (σ.set i none) a → Own env σ a := by
  have z : ∀ {j : Nat} {lv' : LV}, (env.set i .un)[j]? = some lv' → lv' ≠ .un → j ≠ i ∧ env[j]? = some lv' := fun {j lv'} h n => by
    by_cases e : j = i
    · subst e
      rw [List.getElem?_set] at h
      split at h
      · split at h
        · cases h; exact absurd rfl n
        · cases h
      · exact absurd rfl (by assumption)
    · rw [List.getElem?_set_ne (Ne.symm e)] at h; exact ⟨e, h⟩
  have y : ∀ {lv : LV}, lv.isOwn = true → lv ≠ .un := fun h e => by subst e; cases h
  refine ⟨⟨by rw [List.length_set, List.length_set]; exact er.len, fun j lv' h n => ?_, fun j k lv1 lv2 b h1 h2 o1 o2 s1 s2 => ?_⟩, fun a ⟨j, lv, h1, h2, h3⟩ => ?_⟩
  · obtain ⟨ne, h'⟩ := z h n
    obtain ⟨v, q1, q2⟩ := er.rel j lv' h' n
    exact ⟨v, by rw [List.getElem?_set_ne (Ne.symm ne)]; exact q1, q2⟩
  · obtain ⟨n1, h1⟩ := z h1 (y o1)
    obtain ⟨n2, h2⟩ := z h2 (y o2)
    rw [List.getElem?_set_ne (Ne.symm n1)] at s1
    rw [List.getElem?_set_ne (Ne.symm n2)] at s2
    exact er.dis j k lv1 lv2 b h1 h2 o1 o2 s1 s2
  · obtain ⟨n1, h1⟩ := z h1 (y h2)
    rw [List.getElem?_set_ne (Ne.symm n1)] at h3
    exact ⟨j, lv, h1, h2, h3⟩
theorem Fix.unset {i : Nat} (h : i ∉ P) : Fix P σ (σ.set i none) := fun j hj => List.getElem?_set_ne (fun (e : i = j) => h (by rw [e]; exact hj))
/-- try: nb, except c as i: nh (what is caught is an object of which nothing is told) -/
def sTry (isC : Str → Option Bool) (i : Nat) (nb nh : SM) : SM := fun env => match nb env with
  | .exc x env1 => match isC x.cls with
    | some true => match nh (env1.set i (.dat .opq)) with
      | .nx env2 => .nx (env2.set i .un)
      | .bk env2 => .bk (env2.set i .un)
      | .ct env2 => .ct (env2.set i .un)
      | .rt lv env2 => .rt lv (env2.set i .un)
      | _ => .bad
    | some false => .exc x env1
    | none => .bad
  | r => r
theorem ss_try {c : Value} {i : Nat} {isC : Str → Option Bool} {nb nh : SM} (hP : i ∉ P) (hC : ∀ x b, isC x = some b → PySem.W.exmOne X.K (.ref (R.ct x)) c = some b) :
    SSd R W P (fun D σ H => tS R (wAs X.K c i (fun _ _ _ => tS R W0 P nh) W D) P nb D σ H) (sTry isC i nb nh) := by
  intro σ F H env D er l p
  refine ⟨F, env, er, l, ?_⟩
  unfold sTry at p
  cases e1 : nb env with
  | bad => rw [e1] at p; exact p.elim
  | nx env1 => rw [e1] at p; exact p
  | bk env1 => rw [e1] at p; exact p
  | ct env1 => rw [e1] at p; exact p
  | rt lv env1 => rw [e1] at p; exact p
  | exc x env1 =>
    rw [e1] at p
    intro cls dx σ1 F1 H1 er1 xr g1 f1
    simp only at p
    cases e2 : isC x.cls with
    | none => simp only [e2] at p; exact p.elim
    | some b =>
      have hx := hC _ _ e2
      rw [← xr.1] at hx
      cases b with
      | false =>
        simp only [e2] at p
        exact ⟨false, hx, (fun z => by cases z), fun _ => p cls dx σ1 F1 H1 er1 xr g1 f1⟩
      | true =>
        simp only [e2] at p
        refine ⟨true, hx, fun _ a ha => ?_, fun z => by cases z⟩
        have er2 := er1.set (i := i) (lv := .dat .opq) (v := .ref a) (by simp) (.dat .opq) fun _ o => by cases o.1
        refine ⟨F1, _, er2, g1.sub, ?_⟩
        have fin : ∀ {env2 : LEnv} {σ6 : L2.St} {F6 H6 : Hp}, At R P (Own (env1.set i (.dat .opq)) (σ1.set i (some (.ref a)))) (σ1.set i (some (.ref a))) F1 H1 env2 σ6 F6 H6 → At R P (Own env σ) σ F H (env2.set i .un) (σ6.set i none) F6 H6 := fun {env2 σ6 F6 H6} q => by
          obtain ⟨u1, u2⟩ := q.er.unset i
          exact ⟨u1, (g1.trans l (q.gr.more fun z o => own_setd o)).weak u2, ((f1.trans (Fix.set hP)).trans q.fx).trans (Fix.unset hP)⟩
        cases e3 : nh (env1.set i (.dat .opq)) with
        | bad => simp only [e3] at p; exact p.elim
        | exc x' env2 => simp only [e3] at p; exact p.elim
        | nx env2 => simp only [e3] at p; exact fun σ6 F6 H6 q => p _ F6 H6 (fin q)
        | bk env2 => simp only [e3] at p; exact fun σ6 F6 H6 q => p _ F6 H6 (fin q)
        | ct env2 => simp only [e3] at p; exact fun σ6 F6 H6 q => p _ F6 H6 (fin q)
        | rt lv env2 =>
          simp only [e3] at p
          intro v σ6 F6 H6 er6 ne lr dd g6 f6
          obtain ⟨u1, u2⟩ := er6.unset i
          exact p v (σ6.set i none) F6 H6 u1 ne lr (fun z o w => dd z o (u2 z w)) ((g1.trans l (g6.more fun z o => own_setd o)).weak fun z o => o.elim (fun o => .inl (u2 z o)) .inr) (((f1.trans (Fix.set hP)).trans f6).trans (Fix.unset hP))
theorem sj_try {x n : Str} {c : Value} {i : Nat} {body suite : List Stmt} {b₀ : Stmt} {np pos' : Pos} {isC : Str → Option Bool} {nb nh : SM} (hC : ∀ x b, isC x = some b → PySem.W.exmOne X.K (.ref (R.ct x)) c = some b) (hc : Names X x c) (tk : Takes X W)
    (hb : ∀ (W : WX) (pn : List (Addr × Obj)) (xe : Value → Shared → Prop), Takes (X.tr pn xe) W → PassesOwn (model X.prog X.w) X.A X.env xe → BJ (X.tr pn xe) R W P body nb)
    (hsu : ∀ (a : Addr) (oe : Obj) (pn : List (Addr × Obj)), BJ (X.suite a ((a, oe) :: pn)) R W0 P (b₀ :: suite) nh)
    (hN : X.N.Nodup) (hi : X.N[i]? = some n := by rfl) (hP : i ∉ P := by decide) (hs : X.stack = X.env :: X.outer := by rfl) (hf : X.env.frame = some X.env.locals := by rfl) (hln : X.env.kindOf n = some .local := by rfl) :
    SJ X R W P (.Try body [.ExceptHandler (some (.Name x np)) (some n) (b₀ :: suite) pos'] [] [] pos) (sTry isC i nb nh) :=
  ⟨_, ps_try_as hs hf hN hi hln hc tk (fun W pn xe t q => (hb W pn xe t q).uni) (fun a oe _ _ pn _ _ => (hsu a oe pn).uni), ss_try hP hC⟩

/-! ### dict.pop(k), join -/
def rPopK : V → List V → Hp → VK → Prop := fun x xs H Q => ∃ (a : Addr) (kvs : List (L2.Key × V)) (k : L2.Key) (v : V), x = .ref a ∧ xs = [kV k] ∧ H a = some (.dK kvs) ∧ valV kvs k = some v ∧ Q v (L2.upd H a (.dK (dropK kvs k)))
theorem mt_popK : MtM X "dict.pop" rPopK := by
  intro pins s σ H x xs v us Q I rx rxs h
  obtain ⟨a, kvs, k, d, rfl, rfl, ha, hv, q⟩ := h
  cases rx
  cases rxs with
  | cons r1 rr =>
    cases rr
    exact d_pop I ha r1 hv (.inl rfl) fun w' s' I' rw' => ⟨d, _, I', rw', q⟩
def mPopK : MtF := fun o l => match o, l with
  | .md kvs, [.dat c] => match keyD c with
    | some k => match valD kvs k with
      | some d => some (.dat d, .md (delD kvs k))
      | none => none
    | none => none
  | _, _ => none
theorem jPopK : MuJ X R "dict.pop" mPopK := ⟨_, mt_popK, fun F H o lo vs lvs z lo' Q l r1 rl e k => by
  unfold mPopK at e
  split at e
  · rename_i kvs c
    cases e1 : keyD c with
    | none => simp [e1] at e
    | some kk1 =>
      cases e2 : valD kvs kk1 with
      | none => simp [e1, e2] at e
      | some d =>
        simp only [e1, e2, Option.some.injEq, Prod.mk.injEq] at e
        obtain ⟨rfl, rfl⟩ := e
        cases rl with
        | cons r2 rl =>
          cases rl
          cases r1 with
          | md f h kk rs =>
            have kr : KR R F kvs _ := ⟨kk, rs⟩
            cases r2 with
            | dat r2 =>
              have ev := keyD_rep r2 e1
              subst ev
              have kd := kr.del kk1
              rcases kr.val kk1 with ⟨z1, z2⟩ | ⟨d', v', z1, z2, z3⟩
              · rw [e2] at z1; cases z1
              · rw [e2] at z1
                cases z1
                exact ⟨_, _, kk1, v', rfl, rfl, h, z2, k v' F _ (.upd l f h fun _ _ z => by cases z) (.md f upd_same kd.k kd.v) (.dat z3) fun a o => by cases o.1⟩
  · cases e⟩
end
end PL
set_option maxRecDepth 100000
set_option maxHeartbeats 4000000
/-! repr of data, dicts and the empty dict compared. -/
namespace PL
open PySem L2 PyProof.Rows

section
variable {prog : Program} {w : World} {hp : Heap}
/-- no dict among these stands at sys.modules -/
def NoSys (hp : Heap) (as : List Addr) : Prop := ∀ b ∈ as, (∃ o es n, hp.get? b = some o ∧ o.data = .dict es n) → b ≠ sysModules
theorem NoSys.app {as bs : List Addr} (h : NoSys hp (as ++ bs)) : NoSys hp as ∧ NoSys hp bs := ⟨fun b m => h b (List.mem_append_left _ m), fun b m => h b (List.mem_append_right _ m)⟩
theorem NoSys.join {as bs : List Addr} (h : NoSys hp as) (g : NoSys hp bs) : NoSys hp (as ++ bs) := fun b m => (List.mem_append.mp m).elim (h b) (g b)
mutual
theorem repr_one : ∀ {v : Value} {d : PyData} {as : List Addr}, Reads hp v d as → d.showable = true → NoSys hp as → d.shown.length ≤ sizeLine → ∃ cs, ReadAtMost hp d.depth cs ∧ ReprK prog w cs hp d.depth v d.shown
  | _, _, _, .none, _, _, _ => ⟨[], (fun _ z => nomatch z), by simp only [PyData.shown]; exact .of_is ReprIs.none _ _ _⟩
  | _, _, _, .bool c, _, _, _ => ⟨[], (fun _ z => nomatch z), by simp only [PyData.shown]; exact .of_is (ReprIs.bool c) _ _ _⟩
  | _, _, _, .int i k, q, _, _ => ⟨[], (fun _ z => nomatch z), by simp only [PyData.shown]; exact .of_is (ReprIs.int k (by simpa [PyData.showable] using q)) _ _ _⟩
  | _, _, _, .str x k, _, _, sz => ⟨[], (fun _ z => nomatch z), by simp only [PyData.shown]; exact .of_is (ReprIs.str x k (by simpa only [PyData.shown] using sz)) _ _ _⟩
  | _, _, _, .list (a := a) (vs := us) (xs := ds) e1 e2 e3 e4, q, ns, sz => by
    have sz1 : (listText (PyData.shownAll ds)).length ≤ sizeLine := by simpa only [PyData.shown] using sz
    obtain ⟨cs, c1, c2⟩ := repr_all e4 (by simpa [PyData.showable] using q) (fun b m => ns b (List.mem_cons_of_mem _ m)) (fun t m => Nat.le_trans (listText_mem_le m) sz1)
    have rd : Reads hp (.ref a) (.list ds) _ := .list e1 e2 e3 e4
    have out : a ∉ cs := not_mem_of_deeper rd (by simp only [PyData.depth]; omega) c1
    refine ⟨a :: cs, ReadAtMost.cons rd (by simp only [PyData.depth]; omega) c1, ?_⟩
    simp only [PyData.depth, PyData.shown]
    obtain ⟨l⟩ := us
    cases l with
    | nil =>
      have e5 : ReadsAll hp [] ds _ := e4
      cases e5
      simp only [PyData.shownAll, listText_nil]
      exact ReprK.listEmpty e1 e2 e3
    | cons x l => exact ReprK.list e1 e2 e3 out (by simpa using c2.length_eq) (fun i y e => c2.item i y (by simpa using e))
  | _, _, _, .tuple (a := a) (xs := ds) e1 e2 e3 e4, q, ns, sz => by
    have sz1 : (tupleText (PyData.shownAll ds)).length ≤ sizeLine := by simpa only [PyData.shown] using sz
    obtain ⟨cs, c1, c2⟩ := repr_all e4 (by simpa [PyData.showable] using q) ns (fun t m => Nat.le_trans (tupleText_mem_le m) sz1)
    have rd : Reads hp (.ref a) (.tuple ds) _ := .tuple e1 e2 e3 e4
    have out : a ∉ cs := not_mem_of_deeper rd (by simp only [PyData.depth]; omega) c1
    refine ⟨a :: cs, ReadAtMost.cons rd (by simp only [PyData.depth]; omega) c1, ?_⟩
    simp only [PyData.depth, PyData.shown]
    exact ReprK.tuple e1 e2 e3 out c2
  | _, _, _, .dict (a := a) (es := es) (kvs := kvs) (as := as1) (bs := bs1) e1 e2 e3 e4 e5, q, ns, sz => by
    have sz1 : (dictText (PyData.shownKv kvs)).length ≤ sizeLine := by simpa only [PyData.shown] using sz
    obtain ⟨q1, q2⟩ := PyData.showableKv_split kvs (by simpa [PyData.showable] using q)
    obtain ⟨n1, n2⟩ := NoSys.app ns
    obtain ⟨c1, d1, k1⟩ := repr_all e4 q1 (fun b m => n1 b (List.mem_cons_of_mem _ m)) (fun t m => let ⟨p, g, z⟩ := PyData.shownKv_key_le kvs t m; Nat.le_trans z (Nat.le_trans (dictText_mem_le g) sz1))
    obtain ⟨c2, d2, k2⟩ := repr_all e5 q2 n2 (fun t m => let ⟨p, g, z⟩ := PyData.shownKv_val_le kvs t m; Nat.le_trans z (Nat.le_trans (dictText_mem_le g) sz1))
    have rd : Reads hp (.ref a) (.dict kvs) _ := .dict e1 e2 e3 e4 e5
    have lvl : ReadAtMost hp (PyData.depthKv kvs) (c1 ++ c2) := (d1.mono (PyData.depthAll_keys_le kvs)).append (d2.mono (PyData.depthAll_vals_le kvs))
    have out : a ∉ c1 ++ c2 := not_mem_of_deeper rd (by simp only [PyData.depth]; omega) lvl
    have sys : (a == sysModules) = false := beq_eq_false_iff_ne.mpr (n1 a List.mem_cons_self ⟨_, _, _, e1, e3⟩)
    refine ⟨a :: (c1 ++ c2), ReadAtMost.cons rd (by simp only [PyData.depth]; omega) lvl, ?_⟩
    simp only [PyData.depth, PyData.shown, PyData.shownKv_eq]
    exact ReprK.dict e1 e2 e3 sys out (ReprEntriesK.of_two es.toList _ _
      (k1.more_le (fun b m => List.mem_append_left _ m) (PyData.depthAll_keys_le kvs)) (k2.more_le (fun b m => List.mem_append_right _ m) (PyData.depthAll_vals_le kvs)))
theorem repr_all : ∀ {vs : List Value} {ds : List PyData} {as : List Addr}, ReadsAll hp vs ds as → PyData.showableAll ds = true → NoSys hp as → (∀ t ∈ PyData.shownAll ds, t.length ≤ sizeLine) →
    ∃ cs, ReadAtMost hp (PyData.depthAll ds) cs ∧ ReprAllK prog w cs hp (PyData.depthAll ds) vs (PyData.shownAll ds)
  | _, _, _, .nil, _, _, _ => ⟨[], (fun _ z => nomatch z), by simp only [PyData.shownAll]; exact .nil⟩
  | _, _, _, .cons (d := d) (ds := ds) r rs, q, ns, sz => by
    have q1 : d.showable = true ∧ PyData.showableAll ds = true := by simpa [PyData.showableAll] using q
    obtain ⟨n1, n2⟩ := NoSys.app ns
    obtain ⟨c1, d1, k1⟩ := repr_one r q1.1 n1 (sz _ (by simp only [PyData.shownAll]; exact List.mem_cons_self ..))
    obtain ⟨c2, d2, k2⟩ := repr_all rs q1.2 n2 (fun t m => sz t (by simp only [PyData.shownAll]; exact List.mem_cons_of_mem _ m))
    refine ⟨c1 ++ c2, ?_, ?_⟩
    · simp only [PyData.depthAll]
      exact (d1.mono (Nat.le_max_left _ _)).append (d2.mono (Nat.le_max_right _ _))
    · simp only [PyData.depthAll, PyData.shownAll]
      exact .cons ((k1.more fun b m => List.mem_append_left _ m).level_le (Nat.le_max_left _ _)) (k2.more_le (fun b m => List.mem_append_right _ m) (Nat.le_max_right _ _))
end
end
end PL
set_option maxRecDepth 100000
set_option maxHeartbeats 4000000
/-! Defs called where no text of an object is under way: then a text of a list, a tuple, a dict is told. -/
namespace PL
open PySem L2 PyProof.Rows PySem.W

/-- a def's promise, where no text of an object is under way -/
structure FnG (P : Program) (w : World) (K : PySem.W.Frag) (mg : Str → Option Value) (bs : Heap) (k : Nat) (f : Addr) (fd : FuncData) (ps : List Str) (sp : Sp) : Prop where
  size : ∀ vs H Q E, sp vs H Q E → vs.length = ps.length
  runs : ∀ (A : Around) (out : List PySem.Env) (t : Shared) (H : Hp) (args : Args) (us : List Value) (vs : List V) (Q : VK) (E : XK), Room k A → A.guards = some [] → Env0 P w K mg bs A out t H → BindsTo t fd args (ps.zip us) → Vals vs us → sp vs H Q E →
    codeAny (model P w) A (.call (.ref f) args) (L2.CR (L2.CX P w) out P w H t Q E) t
section
variable {P : Program} {w : World} {K : PySem.W.Frag} {mg : Str → Option Value} {bs : Heap}
theorem FnG.up {j k : Nat} {f : Addr} {fd : FuncData} {ps : List Str} {sp : Sp} (F : FnG P w K mg bs j f fd ps sp) (le : j ≤ k) : FnG P w K mg bs k f fd ps sp :=
  ⟨F.size, fun A out t H args us vs Q E r => F.runs A out t H args us vs Q E (r.mono le)⟩
theorem FnG.imp {k : Nat} {f : Addr} {fd : FuncData} {ps : List Str} {sp sp' : Sp} (F : FnG P w K mg bs k f fd ps sp) (i : ∀ vs H Q E, sp' vs H Q E → sp vs H Q E) : FnG P w K mg bs k f fd ps sp' :=
  ⟨fun vs H Q E q => F.size vs H Q E (i _ _ _ _ q), fun A out t H args us vs Q E r g e b v q => F.runs A out t H args us vs Q E r g e b v (i _ _ _ _ q)⟩
/-- a def by its body -/
theorem fun_g {x : Str} {st : Stmt} {f : Addr} {fd : FuncData} {N ps : List Str} {k : Nat} {sp : Sp} (D : Fun K x x st f fd) (S : FnScope N ps (defScope st)) (sz : ∀ vs H Q E, sp vs H Q E → vs.length = ps.length)
    (bd : ∀ (cv : Value) (A : Around) (out : List PySem.Env) (t : Shared) (H : Hp) (vs : List V) (Q : VK) (E : XK), Room k (A.deeper (envOfC x (defScope st) t.heap.objs.size f cv)) → A.guards = some [] → sp vs H Q E →
      ∃ u, PSs (cxOf (L2.CX P w) P w K mg bs N x (defScope st) f cv A out t H E) (defBody st) u ∧ u { nx := fun _ H' => Q .non H', rt := Q } (L2.start N vs) H) : FnG P w K mg bs (k + 1) f fd ps sp := by
  obtain ⟨oc, od, kV, doc, pm, an, cv, ct, osl, rfl, lk, cd⟩ := D.ex
  refine ⟨sz, fun A out t H args us vs Q E room gd en bi rel pre => ?_⟩
  have n1 := sz _ _ _ _ pre
  have kin : K.In t.heap := en.mod.kin.keeps fun b o e => (en.bs b o e).1
  have lim : t.heap.NoLimit := en.mod.nolimit.keeps fun b o e => (en.bs b o e).1
  refine codeAny_call_function room.depth (kin _ _ lk) rfl S.co S.gen rfl (PySem.W.codeRec_of kin cd) (bi _ _ _ _ ?_)
  refine wpAny_newFunctionEnv_cells S.kind (fun y m => ?_) fun env he t1 x1 => ?_
  · obtain ⟨n, v⟩ := y
    rcases S.par n (List.of_mem_zip m).1 with z | z
    · exact .inl z
    · exact .inr ⟨z, PySem.W.cellsFrom_some _ _ _ (.inl z)⟩
  · subst he
    refine ⟨lim.keeps x1.toInCall.keep, codeAny_func ?_⟩
    obtain ⟨u, hu, wish⟩ := bd cv A out t H vs Q E (room.deeper _) gd pre
    have I := inv_start (CX := L2.CX P w) (E := E) S room.hd en n1 rel x1
    refine wpAny_mono (hu.run [] t1 (L2.start N vs) H _ I wish) (fun fl t2 z => ?_) fun e t2 z => z
    cases fl with
    | brk => obtain ⟨_, _, _, z⟩ := z; exact z.elim
    | cont => obtain ⟨_, _, _, z⟩ := z; exact z.elim
    | next => obtain ⟨σ1, H1, J, z⟩ := z; exact ⟨V.non, H1, J.os, J.bare, J.base, J.hok, rfl, z⟩
    | ret v => obtain ⟨y, σ1, H1, J, rv, z⟩ := z; exact ⟨y, H1, J.os, J.bare, J.base, J.hok, rv, z⟩
end
section
variable {X : Cx} {k : Nat} {f : Addr} {fd : FuncData} {ps : List Str} {sp : Sp} {E : L2.St → XK} {x : Str} {p pos : Pos} {e : Expr} {es : List Expr} {ta : TA}
/-- f(..), where no text is under way -/
theorem pe_callG (F : FnG X.prog X.w X.K X.mg X.base k f fd ps sp) (room : Room k X.A) (gd : X.A.guards = some []) (gl : Gl X x) (gm : X.mg x = some (.ref f)) (kp : PySem.W.keepIn X.K (.ref f) = true) (bi : Binds X.K fd ps []) (ps1 : ∀ σ, PassesAt (L2.CX X.prog X.w) X σ (E σ))
    (ha : PA X (e :: es) ta) (nd : (x == ("__debug__" : Str)) = false := by decide) (h1 : starEach (e :: es) X.env = (false, eval e X.env) :: starEach es X.env := by rfl) (h2 : (backTo pos (starEach es X.env)).any (·.1) = false := by rfl) :
    PE X (.Call (.Name x p) (e :: es) [] pos) (tCallS sp E ta) := by
  refine ⟨fun pins t σ H Q I wish => wpAny_Call_Name_kw (ld_glob I gl gm ?_ nd)⟩
  refine PySem.W.callWith_K (h₀ := X.base) I.ok.mod.kin kp (thn (ha.run pos pins t σ H _ I wish) fun us t1 z => ?_) h1 h2
  obtain ⟨vs, H1, I1, rel, pre⟩ := z
  refine ⟨I1.kIn, ?_⟩
  have n1 : us.length = ps.length := by rw [← rel.length]; exact F.size _ _ _ _ pre
  have b1 := bi t1 us I1.kIn (by rw [List.append_nil]; exact n1)
  rw [List.append_nil] at b1
  refine wpAny_call (codeAny_mono (F.runs X.A X.stack t1 H1 ⟨us, []⟩ us vs Q (E σ) room gd I1.env0 b1 rel pre) fun r t2 z => ?_)
  match r, z with
  | .error u, z => exact ps1 σ pins H1 t1 u t2 I1 z
  | .ok (.ret u), z => exact I1.after z
  | .ok .next, z => exact z.elim
  | .ok .brk, z => exact z.elim
  | .ok .cont, z => exact z.elim
end
/-! ### the law's own call -/
theorem law_in {P : Program} {w : World} {K : PySem.W.Frag} {mg mb : Str → Option Value} {k : Nat} {fa l0 : Addr} {fd : FuncData} {x : Str} {sp : Sp} {t : Shared} {vs : List Value} {ns : List Int}
    (kin : K.In t.heap) (gs : t.heap.Ns mainGlobals mg) (bn : t.heap.Ns builtinsNs mb) (bb : ∀ y : Str, y ≠ "__name__" → mb y = bootBuiltins y) (lim : t.heap.NoLimit) (ge : t.gens = #[])
    (ob : t.heap.get? l0 = some { cls := .type "list", data := .seq vs.toArray }) (ia : IntsAre vs ns) (sz : ns.length ≤ sizeLine) (room : Room k callerA)
    (F : ∀ bs : Heap, K.In bs → bs.Ns mainGlobals mg → FnG P w K mg bs k fa fd [x] sp) (bi : ∀ (t : Shared) (u : Value), BindsTo t fd ⟨[u], []⟩ [(x, u)])
    (pre : ∀ H : Hp, SqL K H l0 (ns.map V.int) → (∀ b, H b = none ∨ ∃ o xs, H b = some (.frz o (.lst xs))) → sp [.ref l0] H (fun v _ => v = .bl true) fun _ _ _ => False) :
    codeAny (model P w) callerA (.call (.ref fa) ⟨[.ref l0], []⟩) (fun r t' => r = .ok (.ret (.bool true)) ∧ OldK t.heap t'.heap ∧ t'.os = t.os ∧ AllBare t'.gens) t := by
  have go : ∀ H : Hp, SqL K H l0 (ns.map V.int) → (∀ b, H b = none ∨ (b = l0 ∧ K.lookup l0 = none ∧ ∃ o xs, H b = some (.frz o (.lst xs)))) → HOk P w H t.heap →
      codeAny (model P w) callerA (.call (.ref fa) ⟨[.ref l0], []⟩) (fun r t' => r = .ok (.ret (.bool true)) ∧ OldK t.heap t'.heap ∧ t'.os = t.os ∧ AllBare t'.gens) t := by
    intro H sq one ok
    have hide : ∀ {b : Addr} {o : Obj}, t.heap.get? b = some o → H b = none → (hidT t.heap H).get? b = some o := fun e n => hidT_get e n
    have dicts : ∀ {b : Addr} {m : Str → Option Value}, t.heap.Ns b m → (hidT t.heap H).Ns b m := fun {b m} ⟨o, es, ep, e, d, r⟩ => ⟨o, es, ep, hide e (by
      rcases one b with z | ⟨z, _⟩
      · exact z
      · subst z
        rw [ob] at e
        cases e
        exact (nomatch (show Data.seq vs.toArray _ = Data.dict es ep from d))), d, r⟩
    have kin1 : K.In (hidT t.heap H) := fun b o e => hide (kin b o e) (by
      rcases one b with z | ⟨z, n, _⟩
      · exact z
      · subst z
        rw [n] at e
        cases e)
    have md : Mod K mg (hidT t.heap H) := ⟨kin1, dicts gs, ⟨mb, dicts bn, bb⟩, let ⟨mc, q1, q2⟩ := lim; ⟨mc, dicts q1, q2⟩⟩
    have en : Env0 P w K mg (hidT t.heap H) callerA [] t H := ⟨rfl, md, fun b o e => of_hidT e, Nat.le_of_eq (hidT_size _ _), trivial, fun b m => absurd m List.not_mem_nil, ok, .of_eq ge⟩
    refine codeAny_mono ((F _ kin1 (dicts gs)).runs callerA [] t H ⟨[.ref l0], []⟩ [.ref l0] [.ref l0] _ _ room rfl en (bi t (.ref l0)) (.cons rfl .nil) (pre H sq fun b => (one b).elim .inl fun z => .inr z.2.2)) fun r t' z => ?_
    match r, z with
    | .error e, z => obtain ⟨_, _, _, _, _, _, _, _, _, _, _, _, z⟩ := z; exact z.elim
    | .ok .next, z => exact z.elim
    | .ok .brk, z => exact z.elim
    | .ok .cont, z => exact z.elim
    | .ok (.ret u), z =>
      obtain ⟨v, H1, os, bare, un, ok1, rel, rfl⟩ := z
      obtain rfl : u = Value.bool true := rel
      refine ⟨rfl, OldK.of_keep fun b o e => ?_, os, bare⟩
      rcases one b with z | ⟨_, _, o1, xs, z⟩
      · exact un.keep b o e z (fun m => absurd m List.not_mem_nil) (by simp)
      · obtain ⟨q1, _⟩ := ok b _ z
        obtain ⟨q2, _⟩ := ok1 b _ (un.frzs b o1 _ z)
        rw [e] at q1
        cases q1
        exact q2
  have rel := vals_ints ia
  have n1 := ia.length
  cases lk : K.lookup l0 with
  | some o =>
    have e := kin l0 o lk
    rw [ob] at e
    cases e
    exact go (fun _ => none) (.inr ⟨_, vs.toArray, _, lk, rfl, rfl, rfl, by rw [List.size_toArray, n1]; exact sz, by simpa using rel⟩) (fun _ => .inl rfl) fun b u z => nomatch (show (none : Option HO) = some u from z)
  | none =>
    refine go (fun b => if b = l0 then some (.frz { cls := .type "list", data := .seq vs.toArray } (.lst (ns.map V.int))) else none) (.inl (.inr ⟨_, if_pos rfl⟩)) (fun b => ?_) fun b u z => ?_
    · by_cases c : b = l0
      · exact .inr ⟨c, lk, _, _, if_pos c⟩
      · exact .inl (if_neg c)
    · by_cases c : b = l0
      · have z1 := (if_pos c).symm.trans z
        cases z1
        subst c
        exact ⟨ob, by rw [List.length_map]; exact sz, vs, _, rel, ob⟩
      · exact nomatch ((if_neg c).symm.trans z)
/-- what k_head leaves -/
theorem walk_in {l : PySem.W.OpenLaw} {n k : Nat} {q : Program} {loose : List Str} {XP : (Str → Option Value) → Heap → Prop} {YP : World → Heap → Prop} {d : DefRec} {K : Params → PySem.W.Frag} {sp : World → Sp} {x : Str}
    (most : l.most = some n) (few : n ≤ sizeLine) (nodef : d.params.defaults = []) (room : Room k callerA) (kin : ∀ (w : World) (h : Heap), YP w h → (K w.params).In h)
    (F : ∀ (w : World) (mg : Str → Option Value) (fa : Addr) (h : Heap), (K w.params).In h → h.Ns mainGlobals mg → mg d.name = some (.ref fa) →
      ∃ fd : FuncData, (∀ (t : Shared) (u : Value), BindsTo t fd ⟨[u], []⟩ [(x, u)]) ∧ ∀ bs : Heap, (K w.params).In bs → bs.Ns mainGlobals mg → FnG l.prog w (K w.params) mg bs k fa fd [x] (sp w))
    (pre : ∀ (w : World) (H : Hp) (a : Addr) (ns : List Int), ns.length ≤ n → SqL (K w.params) H a (ns.map V.int) → (∀ b, H b = none ∨ ∃ o xs, H b = some (.frz o (.lst xs))) → sp w [.ref a] H (fun v _ => v = .bl true) fun _ _ _ => False) :
    PySem.W.WalkO q loose XP YP l.row.toRowW d [] (fun f vs => PySem.call f vs) := by
  refine Att.attach_call most nodef fun w s0 t mg mb fa o pm cd doc a vs ns G Y hof hdd hcr gm ob ia le ge => ?_
  have k1 := kin w _ Y
  obtain ⟨fd, bi, F1⟩ := F w mg fa _ k1 G.T.g gm
  exact law_in k1 G.T.g G.T.b G.T.builtins G.T.nolimit ge ob ia (Nat.le_trans le few) room F1 bi fun H sq one => pre w H a ns le sq one
end PL
set_option maxRecDepth 100000
set_option maxHeartbeats 4000000
/-! repr(d), a dict against {}, defs by name. -/
namespace PL
open PySem L2 PyProof.Rows PySem.W

def kPy : L2.Key → PyData
  | .inl i => .int i
  | .inr x => .str x
mutual
def D.pyR : D → Option PyData
  | .non => some .none
  | .bl b => some (.bool b)
  | .int i => some (.int i)
  | .str x => some (.str x)
  | .tup ds => match D.pyRs ds with
    | some ps => some (.tuple ps)
    | none => none
  | .lst ds => match D.pyRs ds with
    | some ps => some (.list ps)
    | none => none
  | .dic kvs => match D.pyRk kvs with
    | some ps => some (.dict ps)
    | none => none
  | _ => none
def D.pyRs : List D → Option (List PyData)
  | [] => some []
  | d :: ds => match D.pyR d, D.pyRs ds with
    | some p, some ps => some (p :: ps)
    | _, _ => none
def D.pyRk : List (L2.Key × D) → Option (List (PyData × PyData))
  | [] => some []
  | (k, d) :: ds => match D.pyR d, D.pyRk ds with
    | some p, some ps => some ((kPy k, p) :: ps)
    | _, _ => none
end
theorem kPy_reads {h : Heap} {k : L2.Key} {u : Value} (r : keyIs k u = true) : Reads h u (kPy k) [] := by
  rcases keyIs_shape r with ⟨i, t, rfl, rfl⟩ | ⟨x, t, rfl, rfl⟩
  · exact .int i t
  · exact .str x t
section
variable {X : Cx} {R : RE} {F H : Hp} {pins : List (Addr × Obj)} {σ : L2.St} {s : Shared}
theorem NoSys.nil {h : Heap} : NoSys h [] := fun b m => absurd m List.not_mem_nil
theorem NoSys.cons {h : Heap} {a : Addr} {as : List Addr} (x : ∀ o es n, h.get? a = some o → o.data = .dict es n → a ≠ sysModules) (r : NoSys h as) : NoSys h (a :: as) := fun b m q => by
  rcases List.mem_cons.mp m with rfl | m
  · obtain ⟨o, es, n, e1, e2⟩ := q
    exact x o es n e1 e2
  · exact r b m q
mutual
theorem Rep.reads (I : L2.Inv X pins σ H s) (l : Le F H) : ∀ {d : D} {v : V} {u : Value} {p : PyData}, Rep R F d v → RelV v u → d.pyR = some p → ∃ as, Reads s.heap u p as ∧ NoSys s.heap as
  | _, _, u, p, .non, r, e => by simp only [D.pyR, Option.some.injEq] at e; subst e; cases r; exact ⟨_, .none, .nil⟩
  | _, _, u, p, .bl b, r, e => by simp only [D.pyR, Option.some.injEq] at e; subst e; cases r; exact ⟨_, .bool b, .nil⟩
  | _, _, u, p, .int i, r, e => by simp only [D.pyR, Option.some.injEq] at e; subst e; obtain ⟨t, rfl⟩ := r; exact ⟨_, .int i t, .nil⟩
  | _, _, u, p, .str x, r, e => by simp only [D.pyR, Option.some.injEq] at e; subst e; obtain ⟨t, rfl⟩ := r; exact ⟨_, .str x t, .nil⟩
  | .tup ds, _, u, p, .tup h r, ru, e => by
    unfold D.pyR at e
    cases e1 : D.pyRs ds with
    | none => rw [e1] at e; cases e
    | some ps =>
      rw [e1] at e
      cases e
      cases ru
      obtain ⟨its, rv, ⟨o, ho, hc, n, hd⟩, _⟩ := I.tuple (.inl (.inl (l.tupE h)))
      obtain ⟨as, q1, q2⟩ := RepL.reads I l r rv e1
      exact ⟨as, .tuple ho hc hd q1, q2⟩
  | .lst ds, _, u, p, .lst h r, ru, e => by
    unfold D.pyR at e
    cases e1 : D.pyRs ds with
    | none => rw [e1] at e; cases e
    | some ps =>
      rw [e1] at e
      cases e
      cases ru
      obtain ⟨its, rv, ⟨o, n, ho, hc, _, hd⟩, _⟩ := I.list (.inl (.inl (l.lstE h)))
      obtain ⟨as, q1, q2⟩ := RepL.reads I l r rv e1
      refine ⟨_, .list ho hc hd q1, q2.cons fun o' es n' e1 e2 => ?_⟩
      rw [ho] at e1
      cases e1
      rw [hd] at e2
      cases e2
  | .dic kvs, _, u, p, .dic h k r, ru, e => by
    unfold D.pyR at e
    cases e1 : D.pyRk kvs with
    | none => rw [e1] at e; cases e
    | some ps =>
      rw [e1] at e
      cases e
      cases ru
      obtain ⟨_, hs, vs, kv, o, es, ep, ho, hx, hd, _, pr, _⟩ := dk_rd I.hok (l.dic (u := .dK _) trivial h)
      obtain ⟨as, bs, q1, q2, q3, q4⟩ := KR.reads I l k r kv pr e1
      exact ⟨_, .dict ho hx.1 hd q1 q2, NoSys.join (q3.cons fun _ _ _ _ _ => beq_eq_false_iff_ne.mp hs) q4⟩
  | _, _, u, p, .slst _ _, _, e => by simp [D.pyR] at e
  | _, _, u, p, .dit _ _ _, _, e => by simp [D.pyR] at e
  | _, _, u, p, .ins _ _ _, _, e => by simp [D.pyR] at e
  | _, _, u, p, .cst _, _, e => by simp [D.pyR] at e
  | _, _, u, p, .opq, _, e => by simp [D.pyR] at e
theorem RepL.reads (I : L2.Inv X pins σ H s) (l : Le F H) : ∀ {ds : List D} {vs : List V} {us : List Value} {ps : List PyData}, RepL R F ds vs → Vals vs us → D.pyRs ds = some ps → ∃ as, ReadsAll s.heap us ps as ∧ NoSys s.heap as
  | _, _, us, ps, .nil, r, e => by simp only [D.pyRs, Option.some.injEq] at e; subst e; cases r; exact ⟨_, .nil, .nil⟩
  | d :: ds, _, us, ps, .cons h r, rv, e => by
    unfold D.pyRs at e
    cases e1 : D.pyR d with
    | none => simp [e1] at e
    | some p =>
      cases e2 : D.pyRs ds with
      | none => simp [e1, e2] at e
      | some ps' =>
        simp only [e1, e2, Option.some.injEq] at e
        subst e
        cases rv with
        | cons r1 r2 =>
          obtain ⟨as, q1, q2⟩ := Rep.reads I l h r1 e1
          obtain ⟨bs, q3, q4⟩ := RepL.reads I l r r2 e2
          exact ⟨_, .cons q1 q3, q2.join q4⟩
theorem KR.reads (I : L2.Inv X pins σ H s) (l : Le F H) : ∀ {kvs : List (L2.Key × D)} {xs : List (L2.Key × V)} {us : List (L2.Key × Value)} {es : List DictEntry} {ps : List (PyData × PyData)}, kvs.map (·.1) = xs.map (·.1) → RepL R F (kvs.map (·.2)) (xs.map (·.2)) → KV xs us → Pairs (mixKind X.prog X.w) es us → D.pyRk kvs = some ps →
    ∃ as bs, ReadsAll s.heap (es.map (·.key)) (ps.map (·.1)) as ∧ ReadsAll s.heap (es.map (·.val)) (ps.map (·.2)) bs ∧ NoSys s.heap as ∧ NoSys s.heap bs
  | [], [], _, _, ps, _, _, .nil, .nil, e => by simp only [D.pyRk, Option.some.injEq] at e; subst e; exact ⟨_, _, .nil, .nil, .nil, .nil⟩
  | [], _ :: _, _, _, ps, k, _, _, _, e => by cases k
  | (_, _) :: _, [], _, _, ps, k, _, _, _, e => by cases k
  | (k0, d) :: kvs, x :: xs, u :: us, en :: es, ps, k, .cons h r, .cons kv1 kv, .cons p1 p2 p3, e => by
    unfold D.pyRk at e
    cases e1 : D.pyR d with
    | none => simp [e1] at e
    | some p =>
      cases e2 : D.pyRk kvs with
      | none => simp [e1, e2] at e
      | some ps' =>
        simp only [e1, e2, Option.some.injEq] at e
        subst e
        simp only [List.map_cons, List.cons.injEq] at k
        obtain ⟨as, q1, q2⟩ := Rep.reads I l h kv1.2 e1
        obtain ⟨bs, cs, q3, q4, q5, q6⟩ := KR.reads I l k.2 r kv p3 e2
        rw [← p2] at q1
        have e3 : k0 = u.1 := k.1.trans kv1.1
        have q0 : Reads s.heap en.key (kPy k0) [] := kPy_reads (by rw [e3]; exact p1)
        exact ⟨_, _, .cons q0 q3, .cons q1 q4, NoSys.nil.join q5, q2.join q6⟩
end
end
end PL
set_option maxRecDepth 100000
set_option maxHeartbeats 4000000
/-! repr(d) called, a dict against {}, defs by name. -/
namespace PL
open PySem L2 PyProof.Rows PySem.W

section
variable {prog : Program} {w : World} {A : Around} {E : Value → Shared → Prop} {s : Shared}
theorem repr_call {u : Value} {p : PyData} {as : List Addr} {Q : Value → Shared → Prop} (rd : Reads s.heap u p as) (ns : NoSys s.heap as) (sh : p.showable = true) (sz : p.shown.length ≤ sizeLine) (gd : A.guards = some []) (un : A.units + (p.depth + 1) < cLine)
    (hq : ∀ h' t k, (∀ b o, s.heap.get? b = some o → h'.get? b = some o) → Q (.str p.shown t) { s with heap := h', toks := k }) : wpAny (model prog w) A (call (.builtin "repr") [u]) Q E s := by
  cases rd with
  | none => simp only [PyData.shown] at hq; exact PySem.P.repr_of_none (hq s.heap _ _ fun _ _ e => e)
  | bool b => simp only [PyData.shown] at hq; exact PySem.P.repr_of_bool (hq s.heap _ _ fun _ _ e => e)
  | int i t => simp only [PyData.shown] at hq; exact PySem.P.repr_of_int (by simpa [PyData.showable] using sh) (hq s.heap _ _ fun _ _ e => e)
  | str x t => simp only [PyData.shown] at hq sz; exact PySem.P.repr_of_str (hq s.heap _ _ fun _ _ e => e) sz
  | @list a o vs n ds as0 e1 e2 e3 e4 =>
    have sz1 : (listText (PyData.shownAll ds)).length ≤ sizeLine := by simpa only [PyData.shown] using sz
    obtain ⟨cs, c1, c2⟩ := repr_all (prog := prog) (w := w) e4 (by simpa [PyData.showable] using sh) (fun b m => ns b (List.mem_cons_of_mem _ m)) (fun t m => Nat.le_trans (listText_mem_le m) sz1)
    have out : a ∉ cs := not_mem_of_deeper (.list e1 e2 e3 e4) (by simp only [PyData.depth]; omega) c1
    simp only [PyData.depth] at un
    simp only [PyData.shown] at hq
    refine call_repr_slot (by omega) ⟨o, e1, e2⟩ PySem.F.slot_list_repr.toG ?_
    obtain ⟨l⟩ := vs
    cases l with
    | nil =>
      cases (show ReadsAll s.heap [] ds _ from e4)
      simp only [PyData.shownAll, listText_nil] at hq
      exact call_list_repr_empty ⟨o, e1, e2⟩ e1 e3 ⟨_, _, rfl, hq s.heap _ _ fun _ _ e => e⟩
    | cons x l => exact call_list_reprK e1 e2 e3 out (by simpa using c2.length_eq) (fun i y e => c2.item i y (by simpa using e)) gd (fun b _ => Clear.nil b) (by show A.units + 1 + _ < cLine; omega) (fun _ _ e => e) (fun h' t k q => ⟨_, _, rfl, hq h' t k q⟩) sz1
  | @tuple a o vs n ds as0 e1 e2 e3 e4 =>
    have sz1 : (tupleText (PyData.shownAll ds)).length ≤ sizeLine := by simpa only [PyData.shown] using sz
    obtain ⟨cs, c1, c2⟩ := repr_all (prog := prog) (w := w) e4 (by simpa [PyData.showable] using sh) ns (fun t m => Nat.le_trans (tupleText_mem_le m) sz1)
    have out : a ∉ cs := not_mem_of_deeper (.tuple e1 e2 e3 e4) (by simp only [PyData.depth]; omega) c1
    simp only [PyData.depth] at un
    simp only [PyData.shown] at hq
    exact call_repr_slot (by omega) ⟨o, e1, e2⟩ PySem.F.slot_tuple_repr (call_tuple_reprK e1 e2 e3 out c2 gd (fun b _ => Clear.nil b) (by show A.units + 1 + _ < cLine; omega) (fun _ _ e => e) (fun h' t k q => ⟨_, _, rfl, hq h' t k q⟩) sz1)
  | @dict a o es n kvs as1 bs1 e1 e2 e3 e4 e5 =>
    have sz1 : (dictText (PyData.shownKv kvs)).length ≤ sizeLine := by simpa only [PyData.shown] using sz
    obtain ⟨q1, q2⟩ := PyData.showableKv_split kvs (by simpa [PyData.showable] using sh)
    obtain ⟨n1, n2⟩ := NoSys.app ns
    obtain ⟨c1, d1, k1⟩ := repr_all (prog := prog) (w := w) e4 q1 (fun b m => n1 b (List.mem_cons_of_mem _ m)) (fun t m => let ⟨p, g, z⟩ := PyData.shownKv_key_le kvs t m; Nat.le_trans z (Nat.le_trans (dictText_mem_le g) sz1))
    obtain ⟨c2, d2, k2⟩ := repr_all (prog := prog) (w := w) e5 q2 n2 (fun t m => let ⟨p, g, z⟩ := PyData.shownKv_val_le kvs t m; Nat.le_trans z (Nat.le_trans (dictText_mem_le g) sz1))
    have lvl : ReadAtMost s.heap (PyData.depthKv kvs) (c1 ++ c2) := (d1.mono (PyData.depthAll_keys_le kvs)).append (d2.mono (PyData.depthAll_vals_le kvs))
    have out : a ∉ c1 ++ c2 := not_mem_of_deeper (.dict e1 e2 e3 e4 e5) (by simp only [PyData.depth]; omega) lvl
    have sys : (a == sysModules) = false := beq_eq_false_iff_ne.mpr (n1 a List.mem_cons_self ⟨_, _, _, e1, e3⟩)
    simp only [PyData.depth] at un
    simp only [PyData.shown, PyData.shownKv_eq] at hq
    exact call_repr_slot (by omega) ⟨o, e1, e2⟩ PySem.F.slot_dict_repr (call_dict_reprK e1 e2 e3 sys out (ReprEntriesK.of_two es.toList _ _
      (k1.more_le (fun b m => List.mem_append_left _ m) (PyData.depthAll_keys_le kvs)) (k2.more_le (fun b m => List.mem_append_right _ m) (PyData.depthAll_vals_le kvs))) gd (fun b _ => Clear.nil b) (by show A.units + 1 + _ < cLine; omega) (fun _ _ e => e)
      (fun h' t k q => ⟨_, _, rfl, hq h' t k q⟩) (by rw [← PyData.shownKv_eq]; exact sz1))
end
section
variable {X : Cx} {R : RE} {W : WX} {P : List Nat} {pos : Pos} {e a b : Expr} {m : OM} {F H : Hp}
def rReprA (R : RE) : List V → Hp → VK → Prop := fun vs H Q => ∃ (F : Hp) (v : V) (d : D) (p : PyData), vs = [v] ∧ Le F H ∧ Rep R F d v ∧ d.pyR = some p ∧ p.showable = true ∧ p.shown.length ≤ sizeLine ∧ p.depth ≤ 100 ∧ Q (.str p.shown) H
theorem cr_repr (gd : X.A.guards = some []) (un : X.A.units + 200 < cLine) : CallR X (.builtin "repr") (rReprA R) := by
  intro pins s σ H vs us Q I r hw
  obtain ⟨F, v, d, p, rfl, l, rp, e1, e2, e3, e4, q⟩ := hw
  obtain ⟨u, rfl, ru⟩ := vals1 r
  obtain ⟨as, q1, q2⟩ := rp.reads I l ru e1
  exact repr_call q1 q2 e2 e3 gd (by omega) fun h' t k keep => ⟨.str _, H, I.kept keep, ⟨t, rfl⟩, q⟩
def gRepr : LV → Option LV := fun x => match x with
  | .dat d => match d.pyR with
    | some p => if p.showable = true ∧ p.shown.length ≤ sizeLine ∧ p.depth ≤ 100 then some (.dat (.str p.shown)) else none
    | none => none
  | _ => none
theorem jRepr (gd : X.A.guards = some []) (un : X.A.units + 200 < cLine) : CallJ X R (.builtin "repr") (f1 gRepr) := .mk (cr_repr (R := R) gd un) (rsc1 fun F H x lx z Q l r1 e k => by
  unfold gRepr at e
  split at e
  · rename_i d
    cases e1 : d.pyR with
    | none => simp [e1] at e
    | some p =>
      simp only [e1] at e
      split at e
      · rename_i hz
        cases e
        cases r1 with
        | dat rp => exact ⟨F, x, d, p, rfl, l, rp, e1, hz.1, hz.2.1, hz.2.2, kdat l k rfl (.str _)⟩
      · cases e
  · cases e)
/-! a dict == {}, != {} -/
def rDe (neg : Bool) : R2 := fun x y H Q => ∃ (a b : Addr) (ka kb : List (L2.Key × V)), x = .ref a ∧ y = .ref b ∧ Rd H a (.dK ka) ∧ Rd H b (.dK kb) ∧ (ka = [] ∨ kb = []) ∧ Q (.bl (if neg then !decide (ka.length = kb.length) else decide (ka.length = kb.length))) H
theorem hits_empty {A : Around} {s : Shared} {ka kb : List (L2.Key × Value)} (e : ka = [] ∨ kb = []) : ka.length = kb.length → PySem.W.KeqHits A s kb ka true := fun q => by
  have z : ka = [] := by
    rcases e with rfl | rfl
    · rfl
    · exact List.length_eq_zero_iff.mp (by simpa using q)
  subst z
  exact .nil
theorem op_de (un : X.A.units < cLine) : OpR X (compareOp .Eq) (rDe false) := by
  intro pins s σ H x y v u Q I rx ry hw
  obtain ⟨a, b, ka, kb, rfl, rfl, ha, hb, em, q⟩ := hw
  cases rx
  cases ry
  obtain ⟨_, sa, va, kva, da⟩ := dk_rd I.hok ha
  obtain ⟨_, sb, vb, kvb, db⟩ := dk_rd I.hok hb
  have l1 : ka.length = va.length := Paired.length kva
  have l2 : kb.length = vb.length := Paired.length kvb
  refine PySem.W.keq_eq (knd := mixKind X.prog X.w) (r := true) sa sb da db un (hits_empty ?_) ⟨.bl _, H, I, rfl, ?_⟩
  · exact em.imp (fun z => List.length_eq_zero_iff.mp (by rw [← l1, z]; rfl)) fun z => List.length_eq_zero_iff.mp (by rw [← l2, z]; rfl)
  · rw [← l1, ← l2]
    rw [Bool.and_true, show (ka.length == kb.length) = decide (ka.length = kb.length) from by rw [Bool.eq_iff_iff]; simp]; simpa using q
theorem op_dn (un : X.A.units < cLine) : OpR X (compareOp .NotEq) (rDe true) := by
  intro pins s σ H x y v u Q I rx ry hw
  obtain ⟨a, b, ka, kb, rfl, rfl, ha, hb, em, q⟩ := hw
  cases rx
  cases ry
  obtain ⟨_, sa, va, kva, da⟩ := dk_rd I.hok ha
  obtain ⟨_, sb, vb, kvb, db⟩ := dk_rd I.hok hb
  have l1 : ka.length = va.length := Paired.length kva
  have l2 : kb.length = vb.length := Paired.length kvb
  refine PySem.W.keq_ne (knd := mixKind X.prog X.w) (r := true) sa sb da db un (hits_empty ?_) ⟨.bl _, H, I, rfl, ?_⟩
  · exact em.imp (fun z => List.length_eq_zero_iff.mp (by rw [← l1, z]; rfl)) fun z => List.length_eq_zero_iff.mp (by rw [← l2, z]; rfl)
  · rw [← l1, ← l2]
    rw [Bool.and_true, show (ka.length == kb.length) = decide (ka.length = kb.length) from by rw [Bool.eq_iff_iff]; simp]; simpa using q
def gDe (neg : Bool) : LV → LV → Option LV := fun x y => match x.dicK, y.dicK with
  | some ka, some kb => if ka.isEmpty || kb.isEmpty then some (.dat (.bl (if neg then !decide (ka.length = kb.length) else decide (ka.length = kb.length)))) else none
  | _, _ => none
theorem rs_de (neg : Bool) : RS R (r2L (rDe neg)) (f2 (gDe neg)) := rs2 fun F H x y lx ly z Q l r1 r2 e k => by
  unfold gDe at e
  cases e1 : lx.dicK with
  | none => simp [e1] at e
  | some ka =>
    cases e2 : ly.dicK with
    | none => simp [e1, e2] at e
    | some kb =>
      simp only [e1, e2] at e
      split at e
      · rename_i hz
        cases e
        obtain ⟨a, xa, rfl, ha, k1⟩ := r1.dicK l e1
        obtain ⟨b, xb, rfl, hb, k2⟩ := r2.dicK l e2
        refine ⟨a, b, xa, xb, rfl, rfl, ha, hb, ?_, by rw [← k1.length, ← k2.length]; exact kdat l k rfl (.bl _)⟩
        rcases Bool.or_eq_true_iff.mp hz with z | z
        · exact .inl (List.length_eq_zero_iff.mp (by rw [← k1.length]; simpa using z))
        · exact .inr (List.length_eq_zero_iff.mp (by rw [← k2.length]; simpa using z))
      · cases e
/-! a tuple == () -/
def rTe : R2 := fun x y H Q => ∃ (a b : Addr) (xs ys : List V), x = .ref a ∧ y = .ref b ∧ H a = some (.tup xs) ∧ H b = some (.tup ys) ∧ (xs = [] ∨ ys = []) ∧ Q (.bl (decide (xs.length = ys.length))) H
theorem op_te (un : X.A.units < cLine) : OpR X (compareOp .Eq) rTe := by
  intro pins s σ H x y v u Q I rx ry hw
  obtain ⟨a, b, xs, ys, rfl, rfl, ha, hb, em, q⟩ := hw
  cases rx
  cases ry
  obtain ⟨ia, r1, p1, _⟩ := I.tuple (.inl (.inl ha))
  obtain ⟨ib, r2, p2, _⟩ := I.tuple (.inl (.inl hb))
  have l1 := r1.length
  have l2 := r2.length
  refine SeqAt.eq_tupleAt (e := fun _ => true) p1 p2 un (fun j h1 h2 => ?_) ⟨.bl _, H, I, rfl, ?_⟩
  · exfalso
    rw [List.size_toArray] at h1 h2
    rcases em with rfl | rfl <;> simp at l1 l2 <;> omega
  · rw [List.size_toArray, List.size_toArray, ← l1, ← l2, show ((List.range (min xs.length ys.length)).all (fun _ => true) && xs.length == ys.length) = decide (xs.length = ys.length) from by rw [Bool.eq_iff_iff]; simp]
    exact q
def gTe : LV → LV → Option LV := fun x y => match x, y with
  | .dat (.tup ds), .dat (.tup es) => if ds.isEmpty || es.isEmpty then some (.dat (.bl (decide (ds.length = es.length)))) else none
  | _, _ => none
theorem rs_te : RS R (r2L rTe) (f2 gTe) := rs2 fun F H x y lx ly z Q l r1 r2 e k => by
  unfold gTe at e
  split at e
  · rename_i ds es
    split at e
    · rename_i hz
      cases e
      cases r1 with
      | dat r1 =>
        cases r1 with
        | tup ha ra =>
          cases r2 with
          | dat r2 =>
            cases r2 with
            | tup hb rb =>
              refine ⟨_, _, _, _, rfl, rfl, l.tupE ha, l.tupE hb, ?_, by rw [← ra.length, ← rb.length]; exact kdat l k rfl (.bl _)⟩
              rcases Bool.or_eq_true_iff.mp hz with z | z
              · exact .inl (List.length_eq_zero_iff.mp (by rw [← ra.length]; simpa using z))
              · exact .inr (List.length_eq_zero_iff.mp (by rw [← rb.length]; simpa using z))
    · cases e
  · cases e
/-! a list == [], != [] -/
def rLe (neg : Bool) : R2 := fun x y H Q => ∃ (a b : Addr) (xs ys : List V), x = .ref a ∧ y = .ref b ∧ H a = some (.lst xs) ∧ H b = some (.lst ys) ∧ (xs = [] ∨ ys = []) ∧ Q (.bl (if neg then !decide (xs.length = ys.length) else decide (xs.length = ys.length))) H
theorem both_nil {xs ys : List V} (em : xs = [] ∨ ys = []) (c : xs.length = ys.length) : xs = [] := by
  rcases em with rfl | rfl
  · rfl
  · exact List.length_eq_zero_iff.mp (by simpa using c)
theorem op_le0 (un : X.A.units < cLine) : OpR X (compareOp .Eq) (rLe false) := by
  intro pins s σ H x y v u Q I rx ry hw
  obtain ⟨a, b, xs, ys, rfl, rfl, ha, hb, em, q⟩ := hw
  cases rx
  cases ry
  obtain ⟨ia, r1, ⟨oa, na, ga, ca, _, da⟩, _⟩ := I.list (.inl (.inl ha))
  obtain ⟨ib, r2, ⟨ob, nb, gb, cb, _, db⟩, _⟩ := I.list (.inl (.inl hb))
  have l1 := r1.length
  have l2 := r2.length
  have pa : s.heap.IsList a ia.toArray := ⟨oa, ga, ca, na, da⟩
  have pb : s.heap.IsList b ib.toArray := ⟨ob, gb, cb, nb, db⟩
  by_cases c : xs.length = ys.length
  · have e1 := both_nil em c
    subst e1
    have z : ia.length = 0 := by rw [← l1]; rfl
    refine SeqAt.eq_listAt (e := fun _ => true) pa pb (by rw [List.size_toArray, List.size_toArray, ← l1, ← l2, c]) un (fun j h1 h2 => ?_) ⟨.bl _, H, I, rfl, ?_⟩
    · exfalso
      rw [List.size_toArray] at h1
      omega
    · rw [show (List.range ia.toArray.size).all (fun _ => true) = true from by simp]
      simpa [← c] using q
  · refine SeqAt.eq_list_lengthsAt pa pb (by rw [List.size_toArray, List.size_toArray, ← l1, ← l2]; simpa using c) un ⟨.bl _, H, I, rfl, ?_⟩
    simpa [c] using q
theorem op_ln0 (un : X.A.units < cLine) : OpR X (compareOp .NotEq) (rLe true) := by
  intro pins s σ H x y v u Q I rx ry hw
  obtain ⟨a, b, xs, ys, rfl, rfl, ha, hb, em, q⟩ := hw
  cases rx
  cases ry
  obtain ⟨ia, r1, ⟨oa, na, ga, ca, _, da⟩, _⟩ := I.list (.inl (.inl ha))
  obtain ⟨ib, r2, ⟨ob, nb, gb, cb, _, db⟩, _⟩ := I.list (.inl (.inl hb))
  have l1 := r1.length
  have l2 := r2.length
  have pa : s.heap.IsList a ia.toArray := ⟨oa, ga, ca, na, da⟩
  have pb : s.heap.IsList b ib.toArray := ⟨ob, gb, cb, nb, db⟩
  by_cases c : xs.length = ys.length
  · have e1 := both_nil em c
    subst e1
    have z : ia.length = 0 := by rw [← l1]; rfl
    refine SeqAt.RcNeAt.lists (e := fun _ => true) pa pb (by rw [List.size_toArray, List.size_toArray, ← l1, ← l2, c]) un (fun j h1 h2 => ?_) _ _ _ _ ⟨.bl _, H, I, rfl, ?_⟩
    · exfalso
      rw [List.size_toArray] at h1
      omega
    · rw [show (List.range ia.toArray.size).all (fun _ => true) = true from by simp]
      simpa [← c] using q
  · refine SeqAt.RcNeAt.lists_lengths pa pb (by rw [List.size_toArray, List.size_toArray, ← l1, ← l2]; simpa using c) un _ _ _ _ ⟨.bl _, H, I, rfl, ?_⟩
    simpa [c] using q
def gLe (neg : Bool) : LV → LV → Option LV := fun x y => match x.items, y.items with
  | some ds, some es => if ds.isEmpty || es.isEmpty then some (.dat (.bl (if neg then !decide (ds.length = es.length) else decide (ds.length = es.length)))) else none
  | _, _ => none
theorem rs_le (neg : Bool) : RS R (r2L (rLe neg)) (f2 (gLe neg)) := rs2 fun F H x y lx ly z Q l r1 r2 e k => by
  unfold gLe at e
  cases e1 : lx.items with
  | none => simp [e1] at e
  | some ds =>
    cases e2 : ly.items with
    | none => simp [e1, e2] at e
    | some es =>
      simp only [e1, e2] at e
      split at e
      · rename_i hz
        cases e
        obtain ⟨a, xa, rfl, ha, k1⟩ := r1.items l e1
        obtain ⟨b, xb, rfl, hb, k2⟩ := r2.items l e2
        refine ⟨a, b, xa, xb, rfl, rfl, ha, hb, ?_, by rw [← k1.length, ← k2.length]; exact kdat l k rfl (.bl _)⟩
        rcases Bool.or_eq_true_iff.mp hz with z | z
        · exact .inl (List.length_eq_zero_iff.mp (by rw [← k1.length]; simpa using z))
        · exact .inr (List.length_eq_zero_iff.mp (by rw [← k2.length]; simpa using z))
      · cases e
/-! texts -/
def gEqS (neg : Bool) : LV → LV → Option LV := fun x y => match x, y with
  | .dat (.str a), .dat (.str b) => some (.dat (.bl (if neg then !decide (a = b) else decide (a = b))))
  | .dat (.str _), .dat .non => some (.dat (.bl neg))
  | .dat .non, .dat (.str _) => some (.dat (.bl neg))
  | _, _ => none
theorem rs_eqS : RS R (r2L rEq) (f2 (gEqS false)) := rs2 fun F H x y lx ly z Q l r1 r2 e k => by
  unfold gEqS at e
  split at e
  · cases e
    cases r1 with
    | dat r1 =>
      cases r1
      cases r2 with
      | dat r2 =>
        cases r2
        exact ⟨rfl, by simpa using kdat l k rfl (.bl _)⟩
  · cases e
    cases r1 with
    | dat r1 =>
      cases r1
      cases r2 with
      | dat r2 =>
        cases r2
        exact ⟨rfl, by simpa using kdat l k rfl (.bl _)⟩
  · cases e
    cases r1 with
    | dat r1 =>
      cases r1
      cases r2 with
      | dat r2 =>
        cases r2
        exact ⟨rfl, by simpa using kdat l k rfl (.bl _)⟩
  · cases e
theorem rs_neS : RS R (r2L rNe) (f2 (gEqS true)) := rs2 fun F H x y lx ly z Q l r1 r2 e k => by
  unfold gEqS at e
  split at e
  · cases e
    cases r1 with
    | dat r1 =>
      cases r1
      cases r2 with
      | dat r2 =>
        cases r2
        exact ⟨rfl, by simpa using kdat l k rfl (.bl _)⟩
  · cases e
    cases r1 with
    | dat r1 =>
      cases r1
      cases r2 with
      | dat r2 =>
        cases r2
        exact ⟨rfl, by simpa using kdat l k rfl (.bl _)⟩
  · cases e
    cases r1 with
    | dat r1 =>
      cases r1
      cases r2 with
      | dat r2 =>
        cases r2
        exact ⟨rfl, by simpa using kdat l k rfl (.bl _)⟩
  · cases e
def fEqA := fOr (f2 (gEqS false)) (fOr fEqD (fOr (f2 (gDe false)) (fOr (f2 gTe) (f2 (gLe false)))))
def fNeA := fOr (f2 (gEqS true)) (fOr fNeD (fOr (f2 (gDe true)) (f2 (gLe true))))
theorem jEqA (hK : R.K = X.K) (hu : X.A.units + 64 < cLine) : OpJ X R (compareOp .Eq) fEqA := (OpJ.mk op_eq rs_eqS).or ((jEqD hK hu).or ((OpJ.mk (op_de (by omega)) (rs_de false)).or ((OpJ.mk (op_te (by omega)) rs_te).or (.mk (op_le0 (by omega)) (rs_le false)))))
theorem jNeA (hK : R.K = X.K) (hu : X.A.units + 64 < cLine) : OpJ X R (compareOp .NotEq) fNeA := (OpJ.mk op_ne rs_neS).or ((jNeD hK hu).or ((OpJ.mk (op_dn (by omega)) (rs_de true)).or (.mk (op_ln0 (by omega)) (rs_le true))))
end
end PL
set_option maxRecDepth 100000
set_option maxHeartbeats 4000000
/-! Words for printed proofs. -/
namespace PL
open PySem L2 PyProof.Rows PySem.W

/-- the def x computes g, by level k, where no text is under way -/
def DJ (B : Base) (x : Str) (k : Nat) (ps : List Str) (g : FM) : Prop :=
  ∃ (f : Addr) (fd : FuncData), B.mg x = some (.ref f) ∧ PySem.W.keepIn B.R.K (.ref f) = true ∧ Binds B.R.K fd ps [] ∧ (∃ oc od sl, B.R.K.lookup f = some ⟨oc, od, .func fd, sl⟩) ∧ FnG B.P B.w B.R.K B.mg B.base k f fd ps (spOf B.R ps.length g)
theorem dj_mk {B : Base} {x : Str} {st : Stmt} {N ps : List Str} {k : Nat} {P : List Nat} {m : SM} (D : DefAt B x st ps) (S : FnScope N ps (defScope st))
    (hbody : ∀ (f : Addr) (cdv : Value) (A : Around) (outer : List PySem.Env) (s : Shared) (H : Hp) (E : XK), Room k (bx B x st N f cdv A outer s H E).A → (bx B x st N f cdv A outer s H E).A.guards = some [] → Takes (bx B x st N f cdv A outer s H E) (wx E) →
      PassesOwn (model B.P B.w) (bx B x st N f cdv A outer s H E).A (bx B x st N f cdv A outer s H E).env (bx B x st N f cdv A outer s H E).xe → BJ (bx B x st N f cdv A outer s H E) B.R (wx E) P (defBody st) m) :
    DJ B x (k + 1) ps (defM N.length P m) := by
  obtain ⟨f, fd, Fn, hm, hb⟩ := D
  refine ⟨f, fd, hm, Fn.kp, hb, (let ⟨_, _, _, _, _, _, _, _, _, _, e, _⟩ := Fn.ex; ⟨_, _, _, e⟩), ?_⟩
  have hpl : ps.length ≤ N.length := by have := congrArg List.length S.pre; rw [List.length_take] at this; omega
  refine fun_g Fn S (fun vs H Q E h => h.1) (fun cdv A outer s H vs Q E hr gd h => ?_)
  obtain ⟨hl, F, lvs, l, er, p⟩ := h
  obtain ⟨t, h1, h2⟩ := hbody f cdv A outer s H E hr gd (takes_of rfl rfl rfl rfl) (passes_of rfl)
  exact ⟨t, h1, body_post (fun _ _ _ _ e => e) (by omega) h2 l er p⟩
theorem dj_bad {B : Base} {x : Str} {st : Stmt} {ps : List Str} {k : Nat} (D : DefAt B x st ps) : DJ B x k ps (fun _ => .bad) := by
  obtain ⟨f, fd, Fn, hm, hb⟩ := D
  refine ⟨f, fd, hm, Fn.kp, hb, (let ⟨_, _, _, _, _, _, _, _, _, _, e, _⟩ := Fn.ex; ⟨_, _, _, e⟩), fun vs H Q E h => h.1, fun A outer s H args us vs Q E hr gd he hb' hv h => ?_⟩
  obtain ⟨_, F, lvs, l, er, p⟩ := h
  exact p.elim
theorem DJ.up {B : Base} {x : Str} {j k : Nat} {ps : List Str} {g : FM} (h : DJ B x j ps g) (e : j ≤ k) : DJ B x k ps g := by
  obtain ⟨f, fd, h2, h3, h4, h6, h5⟩ := h
  exact ⟨f, fd, h2, h3, h4, h6, h5.up e⟩
theorem o_def {B : Base} {X : Cx} {W : WX} {j k n : Nat} {ps : List Str} {g : FM} {x : Str} {p pos : Pos} {e : Expr} {es : List Expr} {ms : AM} (h : DJ B x j ps g) (hr : Room k X.A) (gd : X.A.guards = some []) (tk : Takes X W)
    (ha : AJ X B.R W (e :: es) ms) (hn : AM.len ms n) (hj : j ≤ k := by first | omega | (simp only [Nat.add_eq]; omega) | exact Nat.le_refl _) (hl : n = ps.length := by rfl)
    (e1 : X.prog = B.P := by rfl) (e2 : X.w = B.w := by rfl) (e3 : X.K = B.R.K := by rfl) (e4 : X.mg = B.mg := by rfl) (e5 : X.base = B.base := by rfl)
    (hg : Gl X x := by rfl) (hd : (x == ("__debug__" : Str)) = false := by decide)
    (he : starEach (e :: es) X.env = (false, eval e X.env) :: starEach es X.env := by rfl) (hpl : (backTo pos (starEach es X.env)).any (·.1) = false := by rfl) : OJ X B.R W (.Call (.Name x p) (e :: es) [] pos) (oCall g ms) := by
  obtain ⟨f, fd, h2, h3, h4, _, h5⟩ := h.up hj
  rw [← e1, ← e2, ← e3, ← e4, ← e5] at h5
  rw [← e3] at h3 h4
  rw [← e4] at h2
  subst hl
  obtain ⟨t, a1, a2⟩ := ha
  exact ⟨_, pe_callG h5 hr gd hg h2 h3 h4 (fun σ => passAt tk σ) a1 hd he hpl, os_call a2 hn⟩
theorem tk0 {X : Cx} : Takes X W0 := fun u s' ⟨_, _, _, _, _, _, _, _, _, _, _, _, _, _, _, _, z⟩ => z.elim

section
variable {X : Cx} {R : RE} {W : WX} {P : List Nat} {pos : Pos} {e a b : Expr} {m ma mb : OM} {ms : AM}
def fMulA := fOr fMul (f2 gRepT)
theorem jMulA : OpJ X R (binaryOp .Mult) fMulA := jMul.or jRepT
def fIxA := fOr fIx fIxD
theorem jIxA (hK : R.K = X.K) (hu : X.A.units + 1 < cLine) : IxJ X R fIxA := (jIx hK).or (jIxD hu)
def fInA := fOr fIn fInK
def fNiA := fOr fNi fNiK
theorem jInA (hK : R.K = X.K) (hu : X.A.units + 65 < cLine) : OpJ X R (compareOp .In) fInA := (jIn hK hu).or (jInK (by omega))
theorem jNiA (hK : R.K = X.K) (hu : X.A.units + 65 < cLine) : OpJ X R (compareOp .NotIn) fNiA := (jNi hK hu).or (jNiK (by omega))
def fIsiA := fOr fIsi fIsi2
theorem jIsiA (hK : R.K = X.K) : CallJ X R (.builtin "isinstance") fIsiA := (jIsi hK).or (jIsi2 hK)
def fListA := fOr fList (f1 gListK)
theorem jListA (hc : X.calm = true) : CallJ X R (.type "list") fListA := jList.or (jListK hc)
def stA : StF := fun a b c => match stL a b c with | some z => some z | none => stD a b c
theorem jStA (hu : X.A.units + 1 < cLine) : StJ X R stA := jStL.or (jStD hu)
theorem hu200 {k : Nat} {A : Around} (r : Room k A) : A.units + 200 < cLine := by have := r.un; omega
theorem boot_len' : bootBuiltins ("len" : Str) = some (.builtin "len") := by decide +kernel
theorem boot_abs' : bootBuiltins ("abs" : Str) = some (.builtin "abs") := by decide +kernel
theorem boot_isinstance' : bootBuiltins ("isinstance" : Str) = some (.builtin "isinstance") := by decide +kernel
theorem boot_sum' : bootBuiltins ("sum" : Str) = some (.builtin "sum") := by decide +kernel
theorem boot_all' : bootBuiltins ("all" : Str) = some (.builtin "all") := by decide +kernel
theorem boot_any' : bootBuiltins ("any" : Str) = some (.builtin "any") := by decide +kernel
theorem boot_sorted' : bootBuiltins ("sorted" : Str) = some (.builtin "sorted") := by decide +kernel
theorem boot_repr' : bootBuiltins ("repr" : Str) = some (.builtin "repr") := by decide +kernel
theorem boot_list' : bootBuiltins ("list" : Str) = some (.type "list") := by decide +kernel
theorem boot_tuple' : bootBuiltins ("tuple" : Str) = some (.type "tuple") := by decide +kernel
theorem boot_dict' : bootBuiltins ("dict" : Str) = some (.type "dict") := by decide +kernel
theorem boot_int' : bootBuiltins ("int" : Str) = some (.type "int") := by decide +kernel
theorem boot_bool' : bootBuiltins ("bool" : Str) = some (.type "bool") := by decide +kernel
theorem boot_str' : bootBuiltins ("str" : Str) = some (.type "str") := by decide +kernel
/-- a built-in class as a value -/
theorem o_ty {x : Str} {t : String} (hm : X.mg x = none) (hv : bootBuiltins x = some (.type t)) (hg : Gl X x := by rfl) (hn : x ≠ "__name__" := by decide) (hd : (x == ("__debug__" : Str)) = false := by decide) : OJ X R W (.Name x pos) (oC (.cst (.ty t))) := oj_cst (pe_bltn hg hm hv rfl hn hd)
/-- a name of the module that holds a text -/
theorem o_gs {x y : Str} {u : Tok} (hm : X.mg x = some (.str y u)) (hg : Gl X x := by rfl) (hd : (x == ("__debug__" : Str)) = false := by decide) : OJ X R W (.Name x pos) (oC (.str y)) := oj_gstr hg hm (pe_glob hg hm ⟨u, rfl⟩ hd)
theorem o_gi {x : Str} {i : Int} {u : Tok} (hm : X.mg x = some (.int i u)) (hg : Gl X x := by rfl) (hd : (x == ("__debug__" : Str)) = false := by decide) : OJ X R W (.Name x pos) (oC (.int i)) := ⟨_, pe_glob (v := .int i) hg hm ⟨u, rfl⟩ hd, os_c fun _ => .int i⟩
/-- what is walked: a list, a tuple, a dict's keys -/
def iAnyK (m : OM) : IM := iOr (iOr (iSeq m) (iTp m)) (iDic keysL m)
theorem ij_anyK {tg : Expr} (h : OJ X R W e m) : IJ X R W tg e (iAnyK m) := ij_or (ij_or (ij_seq h) (ij_tup h)) (ij_keys h)
end
end PL
set_option maxRecDepth 100000
set_option maxHeartbeats 4000000
/-! Pairs and triples stored where a name is a cell. -/
namespace PL
open PySem L2 PyProof.Rows PySem.W

section
variable {X : Cx} {R : RE} {W : WX} {P : List Nat} {pos : Pos} {a b c : Expr} {ms : AM} {F H F1 H1 : Hp} {σ : L2.St} {env env1 : LEnv} {O : Addr → Prop}
theorem par2_at {i j : Nat} {u v : LV} {x y : V} (hPi : i ∉ P) (hPj : j ∉ P) (er1 : ER R F1 H1 σ env1) (q1 : RfR R F1 H1 σ (.tmp u) x) (q2 : RfR R F1 H1 σ (.tmp v) y) (d1 : ∀ z, RsO [.tmp u, .tmp v] [x, y] z → ¬ Own env1 σ z) (dd1 : RsD [.tmp u, .tmp v] [x, y])
    (g1 : Gr O F H (fun z => Own env1 σ z ∨ RsO [.tmp u, .tmp v] [x, y] z) F1 H1) : At R P O σ F H ((env1.set i u).set j v) ((σ.set i (some x)).set j (some y)) F1 H1 := by
  have o1 : ∀ z, Owns u x z → RsO [.tmp u, .tmp v] [x, y] z := fun z o => ⟨0, _, _, rfl, rfl, o⟩
  have o2 : ∀ z, Owns v y z → RsO [.tmp u, .tmp v] [x, y] z := fun z o => ⟨1, _, _, rfl, rfl, o⟩
  have er2 := er1.set (i := i) q1.1 q1.2 fun z o => d1 z (o1 z o)
  have er3 := er2.set (i := j) q2.1 q2.2 fun z o w => (own_setv w).elim (d1 z (o2 z o)) fun w => by
    have := dd1 0 1 _ _ _ _ z rfl rfl rfl rfl w o
    cases this
  refine ⟨er3, g1.weak fun z o => ?_, (Fix.set hPi).trans (Fix.set hPj)⟩
  rcases own_setv o with o | o
  · rcases own_setv o with o | o
    · exact .inl o
    · exact .inr (o1 z o)
  · exact .inr (o2 z o)
theorem par3_at {i j k : Nat} {u v w : LV} {x y t : V} (hPi : i ∉ P) (hPj : j ∉ P) (hPk : k ∉ P) (er1 : ER R F1 H1 σ env1) (q1 : RfR R F1 H1 σ (.tmp u) x) (q2 : RfR R F1 H1 σ (.tmp v) y) (q3 : RfR R F1 H1 σ (.tmp w) t)
    (d1 : ∀ z, RsO [.tmp u, .tmp v, .tmp w] [x, y, t] z → ¬ Own env1 σ z) (dd1 : RsD [.tmp u, .tmp v, .tmp w] [x, y, t])
    (g1 : Gr O F H (fun z => Own env1 σ z ∨ RsO [.tmp u, .tmp v, .tmp w] [x, y, t] z) F1 H1) : At R P O σ F H (((env1.set i u).set j v).set k w) (((σ.set i (some x)).set j (some y)).set k (some t)) F1 H1 := by
  have o1 : ∀ z, Owns u x z → RsO [.tmp u, .tmp v, .tmp w] [x, y, t] z := fun z o => ⟨0, _, _, rfl, rfl, o⟩
  have o2 : ∀ z, Owns v y z → RsO [.tmp u, .tmp v, .tmp w] [x, y, t] z := fun z o => ⟨1, _, _, rfl, rfl, o⟩
  have o3 : ∀ z, Owns w t z → RsO [.tmp u, .tmp v, .tmp w] [x, y, t] z := fun z o => ⟨2, _, _, rfl, rfl, o⟩
  have er2 := er1.set (i := i) q1.1 q1.2 fun z o => d1 z (o1 z o)
  have er3 := er2.set (i := j) q2.1 q2.2 fun z o s => (own_setv s).elim (d1 z (o2 z o)) fun s => by
    have := dd1 0 1 _ _ _ _ z rfl rfl rfl rfl s o
    cases this
  have er4 := er3.set (i := k) q3.1 q3.2 fun z o s => (own_setv s).elim (fun s => (own_setv s).elim (d1 z (o3 z o)) fun s => by
    have := dd1 0 2 _ _ _ _ z rfl rfl rfl rfl s o
    cases this) fun s => by
    have := dd1 1 2 _ _ _ _ z rfl rfl rfl rfl s o
    cases this
  refine ⟨er4, g1.weak fun z o => ?_, ((Fix.set hPi).trans (Fix.set hPj)).trans (Fix.set hPk)⟩
  rcases own_setv o with o | o
  · rcases own_setv o with o | o
    · rcases own_setv o with o | o
      · exact .inl o
      · exact .inr (o1 z o)
    · exact .inr (o2 z o)
  · exact .inr (o3 z o)
theorem ss_parC2 {K : PySem.W.Frag} {i j : Nat} {t : TA} (hPi : i ∉ P) (hPj : j ∉ P) (h : AS R W t ms) : SSd R W P (tAsg (tTup t) (gTup K 2 (gCons (gName i) (gCons (gName j) gNil)))) (sPar2 i j ms) := by
  intro σ F H env D er l p
  unfold sPar2 at p
  refine h σ F H env _ er l ?_
  cases e1 : ms env with
  | bad => rw [e1] at p; exact p.elim
  | exc x env1 => rw [e1] at p; exact XPost.stm p
  | val rs env1 =>
    rw [e1] at p
    intro vs F1 H1 er1 rr d1 dd1 g1
    match rs, vs, rr, p, d1, dd1, g1 with
    | [.tmp u, .tmp v], [x, y], .cons q1 (.cons q2 .nil), p, d1, dd1, g1 =>
      refine ⟨by rw [sizeLine_eq]; simp, fun q hq => ⟨q, [x, y], rfl, .inl (.inl upd_same), rfl, x, [y], rfl, y, [], rfl, rfl, ?_⟩⟩
      have nw : Nw F1 H1 F1 (L2.upd H1 q (.tup [x, y])) := .new g1.sub hq
      exact p _ _ _ (par2_at hPi hPj (er1.nw nw) (q1.nw nw) (q2.nw nw) d1 dd1 (g1.trans l (nw.gr fun z o => .inl o)))
    | [.tmp u, .var _], _, _, p, _, _, _ => exact (show False from p).elim
    | [.var _, _], _, _, p, _, _, _ => exact (show False from p).elim
    | [], _, _, p, _, _, _ => exact (show False from p).elim
    | [r], _, _, p, _, _, _ => cases r <;> exact (show False from p).elim
    | r :: r' :: _ :: _, _, _, p, _, _, _ => cases r <;> cases r' <;> exact (show False from p).elim
theorem ss_parC3 {K : PySem.W.Frag} {i j k : Nat} {t : TA} (hPi : i ∉ P) (hPj : j ∉ P) (hPk : k ∉ P) (h : AS R W t ms) : SSd R W P (tAsg (tTup t) (gTup K 3 (gCons (gName i) (gCons (gName j) (gCons (gName k) gNil))))) (sPar3 i j k ms) := by
  intro σ F H env D er l p
  unfold sPar3 at p
  refine h σ F H env _ er l ?_
  cases e1 : ms env with
  | bad => rw [e1] at p; exact p.elim
  | exc x env1 => rw [e1] at p; exact XPost.stm p
  | val rs env1 =>
    rw [e1] at p
    intro vs F1 H1 er1 rr d1 dd1 g1
    match rs, vs, rr, p, d1, dd1, g1 with
    | [.tmp u, .tmp v, .tmp w], [x, y, t], .cons q1 (.cons q2 (.cons q3 .nil)), p, d1, dd1, g1 =>
      refine ⟨by rw [sizeLine_eq]; simp, fun q hq => ⟨q, [x, y, t], rfl, .inl (.inl upd_same), rfl, x, [y, t], rfl, y, [t], rfl, t, [], rfl, rfl, ?_⟩⟩
      have nw : Nw F1 H1 F1 (L2.upd H1 q (.tup [x, y, t])) := .new g1.sub hq
      exact p _ _ _ (par3_at hPi hPj hPk (er1.nw nw) (q1.nw nw) (q2.nw nw) (q3.nw nw) d1 dd1 (g1.trans l (nw.gr fun z o => .inl o)))
    | [.tmp u, .tmp v, .var _], _, _, p, _, _, _ => exact (show False from p).elim
    | [.tmp u, .var _, _], _, _, p, _, _, _ => exact (show False from p).elim
    | [.var _, _, _], _, _, p, _, _, _ => exact (show False from p).elim
    | [], _, _, p, _, _, _ => exact (show False from p).elim
    | [r], _, _, p, _, _, _ => cases r <;> exact (show False from p).elim
    | [r, r'], _, _, p, _, _, _ => cases r <;> cases r' <;> exact (show False from p).elim
    | r :: r' :: q :: _ :: _, _, _, p, _, _, _ => cases r <;> cases r' <;> cases q <;> exact (show False from p).elim
theorem sj_parC2 {i j : Nat} {x y : Str} {px py pt : Pos} {kt k2 pt2} (hc : X.calm = true) (hN : X.N.Nodup) (ha : AJ X R W [a, b] ms) (hx : Loc X.env.scope x) (hy : Loc X.env.scope y) (hi : X.N[i]? = some x := by rfl) (hj : X.N[j]? = some y := by rfl)
    (fx : X.fn x = true ∨ X.env.scope.names.lookup x = some .local := by first | exact .inl rfl | exact .inr rfl) (fy : X.fn y = true ∨ X.env.scope.names.lookup y = some .local := by first | exact .inl rfl | exact .inr rfl)
    (hPi : i ∉ P := by decide) (hPj : j ∉ P := by decide)
    (hs : swapsWithSole [.Tuple [.Name x px, .Name y py] kt pt] (.Tuple [a, b] k2 pt2) pos.line X.env = pure false := by rfl)
    (hw : swappedStores [.Tuple [.Name x px, .Name y py] kt pt] (.Tuple [a, b] k2 pt2) X.env = pure none := by rfl) :
    SJ X R W P (.Assign [.Tuple [.Name x px, .Name y py] kt pt] (.Tuple [a, b] k2 pt2) pos) (sPar2 i j ms) :=
  let ⟨_, a1, a2⟩ := ha; ⟨_, ps_asg (pe_tup a1) (pg_tup hc (pgs_cons (pg_name hN hi hx fx) (pgs_cons (pg_name hN hj hy fy) pgs_nil))) hs hw, ss_parC2 hPi hPj a2⟩
theorem sj_parC3 {i j k : Nat} {x y z : Str} {px py pz pt : Pos} {kt k2 pt2} (hc : X.calm = true) (hN : X.N.Nodup) (ha : AJ X R W [a, b, c] ms) (hx : Loc X.env.scope x) (hy : Loc X.env.scope y) (hz : Loc X.env.scope z) (hi : X.N[i]? = some x := by rfl) (hj : X.N[j]? = some y := by rfl) (hk : X.N[k]? = some z := by rfl)
    (fx : X.fn x = true ∨ X.env.scope.names.lookup x = some .local := by first | exact .inl rfl | exact .inr rfl) (fy : X.fn y = true ∨ X.env.scope.names.lookup y = some .local := by first | exact .inl rfl | exact .inr rfl) (fz : X.fn z = true ∨ X.env.scope.names.lookup z = some .local := by first | exact .inl rfl | exact .inr rfl)
    (hPi : i ∉ P := by decide) (hPj : j ∉ P := by decide) (hPk : k ∉ P := by decide)
    (hs : swapsWithSole [.Tuple [.Name x px, .Name y py, .Name z pz] kt pt] (.Tuple [a, b, c] k2 pt2) pos.line X.env = pure false := by rfl)
    (hw : swappedStores [.Tuple [.Name x px, .Name y py, .Name z pz] kt pt] (.Tuple [a, b, c] k2 pt2) X.env = pure none := by rfl) :
    SJ X R W P (.Assign [.Tuple [.Name x px, .Name y py, .Name z pz] kt pt] (.Tuple [a, b, c] k2 pt2) pos) (sPar3 i j k ms) :=
  let ⟨_, a1, a2⟩ := ha; ⟨_, ps_asg (pe_tup a1) (pg_tup hc (pgs_cons (pg_name hN hi hx fx) (pgs_cons (pg_name hN hj hy fy) (pgs_cons (pg_name hN hk hz fz) pgs_nil)))) hs hw, ss_parC3 hPi hPj hPk a2⟩
end
def isX (x : Str) : Str → Option Bool := fun y => if y = x then some true else none
theorem isX_ok {K : PySem.W.Frag} {ct : Str → Addr} {x : Str} {c : Value} (h : PySem.W.exmOne K (.ref (ct x)) c = some true) : ∀ y b, isX x y = some b → PySem.W.exmOne K (.ref (ct y)) c = some b := fun y b e => by
  unfold isX at e
  split at e
  · cases e
    rename_i z
    rw [z]
    exact h
  · cases e
theorem lenN : AM.len aNil 0 := AM.len_nil
theorem lenC {m : OM} {ms : AM} {n : Nat} (h : AM.len ms n) : AM.len (aCons m ms) (n + 1) := AM.len_cons h
theorem nmem {i : Nat} {l : List Nat} (h : l.contains i = false) : i ∉ l := fun m => by
  rw [List.contains_iff_mem.mpr m] at h
  cases h
end PL
set_option maxRecDepth 100000
set_option maxHeartbeats 4000000
/-! The end: a law by the function of its def. -/
namespace PL
open PySem L2 PyProof.Rows PySem.W

/-- a law's promise: a list of at most 63 ints is handed in, True comes out -/
def spLaw (K : PySem.W.Frag) : Sp := fun vs H Q _ => ∃ (a : Addr) (ns : List Int), vs = [.ref a] ∧ SqL K H a (ns.map V.int) ∧ ns.length ≤ 63 ∧ ∀ v H', v = .bl true → Q v H'
def scr (ns : List Int) : LV := .dat (.slst (ns.map .int))
theorem repL_ints {R : RE} {F : Hp} : ∀ ns : List Int, RepL R F (ns.map D.int) (ns.map V.int)
  | [] => .nil
  | n :: ns => .cons (.int n) (repL_ints ns)
theorem sp_law {R : RE} {g : FM} (h : ∀ ns : List Int, ns.length ≤ 63 → ∃ lvs, g [scr ns] = .ret (.dat (.bl true)) lvs) : ∀ vs H Q E, spLaw R.K vs H Q E → spOf R 1 g vs H Q E := fun vs H Q E ⟨a, ns, e, sq, le, q⟩ => by
  subst e
  refine ⟨rfl, H, [scr ns], .refl H, ⟨rfl, fun i lv e n => ?_, fun i j lv lv' b h1 h2 o1 o2 s1 s2 => ?_⟩, ?_⟩
  · match i, e with
    | 0, e =>
      cases e
      exact ⟨.ref a, rfl, .dat (.slst sq (repL_ints ns))⟩
    | i + 1, e => simp at e
  · match i, h1 with
    | 0, h1 => cases h1; cases o1
    | i + 1, h1 => simp at h1
  · obtain ⟨lvs, e⟩ := h ns le
    rw [e]
    intro v F' H' _ _ lr _ _
    cases lr with
    | dat r => cases r; exact q _ _ rfl
theorem law_fn {B : Base} {k : Nat} {g : FM} {fa : Addr} {fd : FuncData} {oc : Value} {od : Option Addr} {sl : Array (Option Value)} (h : DJ B "law" k ["script"] g) (hm : B.mg "law" = some (.ref fa)) (lk : B.R.K.lookup fa = some ⟨oc, od, .func fd, sl⟩)
    (t : ∀ ns : List Int, ns.length ≤ 63 → ∃ lvs, g [scr ns] = .ret (.dat (.bl true)) lvs) : FnG B.P B.w B.R.K B.mg B.base k fa fd ["script"] (spLaw B.R.K) := by
  obtain ⟨f, fd', h2, _, _, ⟨_, _, _, h3⟩, h4⟩ := h
  have e : f = fa := by
    rw [h2] at hm
    cases hm
    rfl
  subst e
  rw [h3] at lk
  cases lk
  exact h4.imp (sp_law t)
theorem walk_end {l : PySem.W.OpenLaw} {k : Nat} {q : Program} {loose : List Str} {XP : (Str → Option Value) → Heap → Prop} {YP : World → Heap → Prop} {d : DefRec} {K : Params → PySem.W.Frag}
    (most : l.most = some 63) (nodef : d.params.defaults = []) (room : Room k callerA) (kin : ∀ (w : World) (h : Heap), YP w h → (K w.params).In h)
    (F : ∀ (w : World) (mg : Str → Option Value) (fa : Addr) (h : Heap), (K w.params).In h → h.Ns mainGlobals mg → mg d.name = some (.ref fa) →
      ∃ fd : FuncData, (∀ (t : Shared) (u : Value), BindsTo t fd ⟨[u], []⟩ [("script", u)]) ∧ ∀ bs : Heap, (K w.params).In bs → bs.Ns mainGlobals mg → FnG l.prog w (K w.params) mg bs k fa fd ["script"] (spLaw (K w.params))) :
    PySem.W.WalkO q loose XP YP l.row.toRowW d [] (fun f vs => PySem.call f vs) :=
  walk_in (n := 63) (sp := fun w => spLaw (K w.params)) most (by decide) nodef room kin F fun w H a ns le sq _ => ⟨a, ns, rfl, sq, le, fun v H' e => e⟩
/-- a def stands, as the top has written it -/
theorem defAt {B : Base} {h : Heap} {x : Str} {st : Stmt} {ps : List Str} {f : Addr} {oc : Value} {od an : Option Addr} {osl : Array (Option Value)} {kV doc pm cdv ct : Value} (X : B.R.K.In h) (G : h.Ns mainGlobals B.mg) (a : PySem.W.nsIn B.R.K mainGlobals x = some (some (.ref f)))
    (l : B.R.K.lookup f = some ⟨oc, od, .func (PySem.W.fnOf x x (defArgs st) (defBody st) (defScope st) .none kV doc pm an cdv ct), osl⟩) (c : PySem.W.codeIn B.R.K cdv x = true) (k : PySem.W.keepIn B.R.K (.ref f) = true)
    (hb : ∀ (kV doc pm : Value) (an : Option Addr) (cdv ct : Value) (us : List Value), us.length = ps.length → bindArgs (PySem.W.fnOf x x (defArgs st) (defBody st) (defScope st) .none kV doc pm an cdv ct) ⟨us, []⟩ = pure (ps.zip us)) : DefAt B x st ps :=
  have F := fun_mk (st := st) l c k
  ⟨f, _, F, PySem.W.mg_of X G a, F.binds hb⟩
/-- an own class of errors stands -/
theorem excAt {B : Base} {h : Heap} {x : Str} {C : Addr} (X : B.R.K.In h) (G : h.Ns mainGlobals B.mg) (e : B.R.ct x = C) (a : PySem.W.nsIn B.R.K mainGlobals x = some (some (.ref C))) (q : PySem.W.excIn B.R.K C [.type "ValueError", .type "Exception", .type "BaseException", .type "object"] "ValueError.__new__" = true)
    (k : PySem.W.keepIn B.R.K (.ref C) = true) (s : PySem.W.subIn B.R.K (.ref C) (.type "BaseException") = some true) (t : PySem.W.typeIn B.R.K (.ref C) = some (.type "type")) : ExcAt B x := by
  subst e
  exact ⟨q, PySem.W.mg_of X G a, k, s, t⟩
end PL
set_option maxRecDepth 100000
set_option maxHeartbeats 4000000
/-! Own exceptions as values: made, asked for their class, their fields read. -/
namespace PL
open PySem L2 PyProof.Rows PySem.W PySem.Spec PySem.Calls

section
variable {prog : Program} {w : World} {A : Around} {E : Value → Shared → Prop} {s : Shared} {K : Frag} {x D : Addr} {ox : Obj} {od : Option Obj}
/-- what the class D must say, so that its instances are asked for their class -/
structure ExcAsk (K : Frag) (D : Addr) : Prop where
  ga : findIn K (.ref D) "__getattribute__" = some (some (.builtin "BaseException.__getattribute__"))
  gt : findIn K (.ref D) "__getattr__" = some none
  be : PySem.W.subIn K (.ref D) (.type "BaseException") = some true
  dc : hasDictIn K D = true
  cl : findIn K (.ref D) "__class__" = some (some (.builtin "object.__class__"))
  gs : specialIn K (.builtin "object.__class__") "__get__" = some (some (.builtin "getset_descriptor.__get__"))
  tk : takesIn K (.builtin "object.__class__") = some true
  ob : mroIn K D (.type "object") = some true
theorem ExcAsk.isC (T : ExcAsk K D) : (clsIn K D).isSome = true := by
  obtain ⟨cd, hc, _⟩ := any_some T.dc
  rw [hc]
  rfl
theorem ExcAsk.found (T : ExcAsk K D) (od : Option Obj) : findObj K D od "__class__" = some (.bind (.builtin "getset_descriptor.__get__") (.builtin "object.__class__")) := by
  cases od with
  | none => exact findObj_dataN T.isC T.cl T.gs T.tk
  | some o => exact findObj_data T.isC T.cl T.gs T.tk
theorem ExcAsk.got {Q : Option Value → Shared → Prop} (T : ExcAsk K D) (X : K.In s.heap) (I : InstAt s.heap x ox D od) (h : Q (some (.ref D)) { s with toks := s.toks + 1 }) : wpAny (model prog w) A (getAttr? (.ref x) "__class__") Q E s := by
  have hf := T.found od
  obtain ⟨hp, g, d, t, os⟩ := s
  have ty := I.type (M := model prog w)
  have l1 := looks_findIn (M := model prog w) X T.ga
  have l2 := looks_findIn (M := model prog w) X T.gt
  have l3 := looks_find (M := model prog w) X I hf
  have sub : Looks (model prog w) hp (isInstance (.ref x) (.type "BaseException")) true := ty.andThen (looks_subIn X T.be)
  have n2 : (Value.builtin "BaseException.__getattribute__" == Value.builtin "object.__getattribute__") = false := by decide +kernel
  have n1 : (onTheHeap (Value.ref D) && (Value.builtin "BaseException.__getattribute__" == Value.builtin "object.__getattribute__")) = false := by rw [n2]; rfl
  have n0 : (false && onTheHeap (Value.builtin "BaseException.__getattribute__")) = false := rfl
  unfold getAttr? getAttrBy? getAttrBy
  refine wpAny_bind (wpAny_mkText (wpAny_bind (wpAny_attempt (wpAny_holding (wpAny_bind (ty.at (wpAny_bind (l1.at ?_))))))))
  simp only
  rw [if_neg (by rw [n1]; exact Bool.false_ne_true)]
  unfold getAttrByItsOwn hookBefore
  refine wpAny_bind ?_
  have n3 : onTheHeap (Value.ref D) = true := rfl
  rw [if_pos n3]
  refine l2.at (wpAny_bind (wpAny_attempt (wpAny_holding ?_)))
  unfold callGetattribute
  rw [n0, if_neg Bool.false_ne_true]
  unfold boundAndCalled
  rw [PySem.F.excAttr_ValueError.ga.bind (.ref x)]
  refine wpAny_bind (wpAny_pure ?_)
  refine wpAny_call (codeAny_call_builtin PySem.F.excAttr_ValueError.ga.plain PySem.F.entry_bexc_ga ?_)
  refine @check_slot (model prog w) _ _ ⟨hp, g, d, t + 1, os⟩ "BaseException.__getattribute__" "BaseException" "__getattribute__" (.ref x) [.str "__class__" t] [] _ (by decide +kernel) (by decide +kernel) sub (PySem.F.args_bexc_ga (.ref x) (.str "__class__" t)) ?_
  unfold Builtin.«object.__getattribute__»
  refine wpAny_bind (wpAny_of_eq (a := ((Value.ref x : Value), [Value.str "__class__" t])) (by first | rfl | (simp only [slotArgs]; rfl)) ?_)
  refine wpAny_bind (wpAny_pure (wpAny_bind (ty.at (wpAny_bind (l3.at ?_)))))
  refine wpAny_bind (wpAny_holding (wpAny_call (class_get (s := ⟨hp, g, d, t + 1, os⟩) (ox := ox) (od := od) X I T.ob ?_)))
  refine wpAny_pure ?_
  show wpAny _ _ (handedOut (.ref D)) _ _ _
  rw [handedOut_of (v := .ref D) rfl]
  first
    | exact wpAny_pure (wpAny_pure h)
    | exact wpAny_pure h
    | exact wpAny_pure (wpAny_bind (wpAny_pure (wpAny_pure h)))
theorem ExcAsk.kit (T : ExcAsk K D) : KitX K (.ref x) (.ref D) (fun h => InstAt h x ox D od) where
  ty := fun _ _ _ I => I.type
  it := fun _ _ X _ => by
    obtain ⟨cd, hc, _⟩ := any_some T.dc
    unfold clsIn at hc
    split at hc
    · rename_i q
      intro A' Q' E' s' k z
      unfold isType loadHead
      exact wpAny_bind (wpAny_loadPart (k _ _ (X _ _ q)) (wpAny_pure z))
    · cases hc
  ne := fun h tp dd its n sl X e => by
    obtain ⟨cd, hc, _⟩ := any_some T.dc
    refine Bool.eq_false_iff.mpr fun q => ?_
    cases (show D = tp from Value.ref.inj (beq_iff_eq.mp q))
    unfold clsIn at hc
    split at hc
    · rename_i z
      cases (X _ _ z).symm.trans e
    · cases hc
  ca := fun X I k => T.got X I k
end

section
variable {X : Cx}
/-- at a: an exception of the class at D -/
def IsExc (H : Hp) (a D : Addr) : Prop := H a = some (ExO (.ref D) a) ∨ ∃ d fs, H a = some (exo a D (some d)) ∧ H d = some (exd d fs)
theorem IsExc.at {P : Program} {w : World} {H : Hp} {h : Heap} {a D : Addr} (k : HOk P w H h) (e : IsExc H a D) : ∃ ox od, InstAt h a ox D od := by
  rcases e with e | ⟨d, fs, e, e2⟩
  · obtain ⟨⟨oe, vs, ho, hz, hd, _⟩, _, _⟩ := k a _ e
    exact ⟨oe, none, ho, hz.1, by unfold notCls; rw [hd], by rw [hz.2]; trivial⟩
  · obtain ⟨t1, ho⟩ := exo_at k e
    obtain ⟨mA, hn, _⟩ := exd_at k e2
    obtain ⟨od, hod, _⟩ := lookIn_ns hn
    exact ⟨_, some od, ho, rfl, rfl, hod⟩
/-- isinstance of an own exception -/
def rIsX (K : Frag) : List V → Hp → VK → Prop := fun xs H Q => ∃ (a D : Addr) (c : V) (cv : Value) (b : Bool), xs = [.ref a, c] ∧ IsExc H a D ∧ ExcAsk K D ∧ ClsV c cv ∧ kitOne K (.ref D) cv = some b ∧ Q (.bl b) H
theorem call_isX : CallR X (.builtin "isinstance") (rIsX X.K) := by
  intro pins s σ H xs us Q I r h
  obtain ⟨a, D, c, cv, b, rfl, hx, T, k, e, q⟩ := h
  obtain ⟨u1, u2, rfl, r1, r2⟩ := vals2 r
  cases (show u1 = Value.ref a from r1)
  have e2 := k.eq r2
  subst e2
  obtain ⟨ox, od, J⟩ := hx.at I.hok
  exact kia_one T.kit I.kIn J e (fun z => nomatch z) fun tk => ⟨.bl b, H, I.tok tk, rfl, q⟩
/-- x.f, x an own exception with fields -/
def rXf (K : Frag) (f : Str) : V → Hp → VK → Prop := fun x H Q => ∃ (a C d : Addr) (fs : List (Str × V)) (v : V), x = .ref a ∧ XfC K C ∧ findIn K (.ref C) f = some none ∧ H a = some (exo a C (some d)) ∧ H d = some (exd d fs) ∧ fs.lookup f = some v ∧ Q v H
theorem pe_xff {e : Expr} {te : TE} {pos : Pos} {n : Str} (he : PE X e te) (hb : attributeBase e n X.env (eval e X.env) = eval e X.env := by rfl) : PE X (.Attribute e n pos) (tUn (rXf X.K n) te) := by
  refine ⟨fun pins s σ H Q I h => ?_⟩
  refine attr_of hb (thn (he.run pins s σ H _ I h) fun u s1 hh => ?_)
  obtain ⟨x, H1, I1, rx, a, C, d, fs, v, ex, T, no, ha, hd, l, q⟩ := hh
  subst ex
  obtain rfl : u = Value.ref a := rx
  obtain ⟨t1, ho⟩ := exo_at I1.hok ha
  obtain ⟨mA, hn, hr⟩ := exd_at I1.hok hd
  obtain ⟨od, hod, hl⟩ := lookIn_ns hn
  obtain ⟨u, hu, ru⟩ := RelO.some_of (v := v) (o := mA n) (by rw [← l]; exact hr n)
  have J : InstAt s1.heap a _ C (some od) := ⟨ho, rfl, rfl, hod⟩
  exact HandSPX.exc_get I1.kIn J T.ga T.gg T.exC (findObj_own T.hdC no rfl (by rw [hl, hu])) (handed_of ru) ⟨v, H1, I1.tok _, ru, q⟩
/-- T.__init__(self, e), T an own class that has it from ValueError -/
theorem pe_clsinit {x : Str} {C : Addr} {e : Expr} {es : List Expr} {ta : TA} {p1 p2 pos : Pos} {pl : Sem Bool} (hg : Gl X x) (hm : X.mg x = some (.ref C)) (sg : specialIn X.K (.ref C) "__getattribute__" = some (some (.builtin "type.__getattribute__")))
    (rd : readsIn X.K C (.type "type") = true) (fc : findCls X.K (.ref C) (.type "type") "__init__" = some (.val (.builtin "ValueError.__init__"))) (ha : PA X (e :: es) ta) (hdb : (x == ("__debug__" : Str)) = false := by decide)
    (hc : eval (.Call (.Attribute (.Name x p1) "__init__" p2) (e :: es) [] pos) X.env = (do
      let ov ← eval (.Name x p1) X.env
      standAt p2.atName
      let (f, first) ← holding [ov] (getMethod ov "__init__" pl)
      callWith pos f first (backTo pos (starEach (e :: es) X.env)) (backToKw pos (keywordEach [] X.env))) := by rfl)
    (he : starEach (e :: es) X.env = (false, eval e X.env) :: starEach es X.env := by rfl) (hpl : (backTo pos (starEach es X.env)).any (·.1) = false := by rfl) :
    PE X (.Call (.Attribute (.Name x p1) "__init__" p2) (e :: es) [] pos) (tVeI X.K ta) := by
  refine ⟨fun pins s σ H Q I h => methodCall_KW (ld_glob I hg hm ?_ hdb) hc⟩
  refine method_cls I.kIn sg (cls_value I.kIn rd fc (by decide +kernel) ?_)
  refine callWith_method1 (thn (ha.run pos pins _ σ H _ (I.tok _) h) fun us s1 ⟨vs, H1, I1, r1, a, C', ws, ev, hl, T, ea, q⟩ => ?_) he hpl
  subst ev
  cases r1 with
  | @cons _ u0 _ ur ra rw' =>
    obtain rfl : u0 = Value.ref a := ra
    exact oinit_ok T I1 ea (by rw [← Paired.length rw', sizeLine_eq]; omega) fun s' J => ⟨.non, H1, J, rfl, q⟩
/-- C(e, ..), an own exception with an __init__ of its own, as a value -/
def rMkX (C : Addr) (sp : Sp) : List V → Hp → VK → Prop := fun vs H1 Q => vs.length ≤ 1000 ∧ ∀ a, H1 a = none → sp (.ref a :: vs) (upd H1 a (exo a C none)) (fun v H2 => v = .non ∧ Q (.ref a) H2) (fun _ _ _ => False)
theorem pe_mkx {x : Str} {C fI : Addr} {k : Nat} {fd : FuncData} {ps : List Str} {sp : Sp} {e : Expr} {es : List Expr} {ta : TA} {p pos : Pos} (T : OexC X.K C) (iC : findIn X.K (.ref C) "__init__" = some (some (.ref fI))) (tI : typeIn X.K (.ref fI) = some (.type "function"))
    (F1 : FnG X.prog X.w X.K X.mg X.base k fI fd ps sp) (hr : Room (k + 1) X.A) (gd : X.A.guards = some []) (hb : Binds X.K fd ps []) (hg : Gl X x) (hm : X.mg x = some (.ref C)) (ha : PA X (e :: es) ta)
    (hdb : (x == ("__debug__" : Str)) = false := by decide) (he : starEach (e :: es) X.env = (false, eval e X.env) :: starEach es X.env := by rfl) (hpl : (backTo pos (starEach es X.env)).any (·.1) = false := by rfl) :
    PE X (.Call (.Name x p) (e :: es) [] pos) (fun σ H Q => ta σ H fun vs H1 => rMkX C sp vs H1 Q) := by
  refine ⟨fun pins s σ H Q I h => wpAny_Call_Name_kw (ld_glob I hg hm ?_ hdb)⟩
  obtain ⟨nm, q, N, bs, bm, sn, sub, ab, col, dd, k0, k1, k2, k3, k5, hC, hbm⟩ := T.cls
  refine callWith_K (h₀ := X.base) I.ok.mod.kin T.kC (thn (ha.run pos pins s σ H _ I h) fun us s1 ⟨vs, H1, I1, r1, hz, q1⟩ => ⟨I1.kIn, ?_⟩) he hpl
  obtain ⟨hp, g, dr, tk, os⟩ := s1
  have old : ∀ b o, hp.get? b = some o → ((hp.push (kdv_tup us)).push (HandSPX.excO C hp.objs.size)).get? b = some o := fun b o e => Heap.get?_push_of_some _ (Heap.get?_push_of_some _ e)
  have at_ : ((hp.push (kdv_tup us)).push (HandSPX.excO C hp.objs.size)).get? (hp.objs.size + 1) = some (HandSPX.excO C hp.objs.size) := by heap_get
  have big : hp.objs.size ≤ hp.objs.size + 1 := Nat.le_succ _
  have pre := q1 (hp.objs.size + 1) (I1.hok.fresh big)
  have J : Inv X pins σ (upd H1 (hp.objs.size + 1) (exo (hp.objs.size + 1) C none)) ⟨(hp.push (kdv_tup us)).push (HandSPX.excO C hp.objs.size), g, dr, tk, os⟩ := I1.laid (t' := tk) old big (exo_ok at_)
  have rel : Vals (V.ref (hp.objs.size + 1) :: vs) (Value.ref (hp.objs.size + 1) :: us) := .cons rfl r1
  have n1 : (Value.ref (hp.objs.size + 1) :: us).length = ps.length := by
    rw [← rel.length]
    exact F1.size _ _ _ _ pre
  have b1 := hb ⟨(hp.push (kdv_tup us)).push (HandSPX.excO C hp.objs.size), g, dr, tk, os⟩ (Value.ref (hp.objs.size + 1) :: us) J.kIn (by rw [List.append_nil]; exact n1)
  rw [List.append_nil] at b1
  show wpAny _ _ (call (.ref C) us) _ _ _
  refine wpAny_call (HandSPX.call_own F.excBase_ValueError (fun Y => HandSPX.refsVE_contains Y bm hbm) (I1.kIn _ _ hC) (looks_findIn I1.kIn iC) (fun self => bind_fn I1.kIn self tI) (by rw [← Paired.length r1, sizeLine_eq]; omega)
    (codeAny_mono (F1.runs _ X.stack _ _ ⟨Value.ref (hp.objs.size + 1) :: us, []⟩ (Value.ref (hp.objs.size + 1) :: us) _ _ (fun _ _ _ => False) (hr.make C us []) (by exact gd) (J.env0.make C us []) b1 rel pre) fun r s' z => ?_))
  match r, z with
  | .error u, z => obtain ⟨_, _, _, _, _, _, _, _, _, _, _, _, z⟩ := z; exact z.elim
  | .ok .next, z => exact z.elim
  | .ok .brk, z => exact z.elim
  | .ok .cont, z => exact z.elim
  | .ok (.ret u), z =>
    obtain ⟨v, H2, J2, rv, ev, q2⟩ := J.after z
    subst ev
    exact ⟨rv, .ref (hp.objs.size + 1), H2, J2, rfl, q2⟩
end
end PL
set_option maxRecDepth 100000
set_option maxHeartbeats 4000000
/-! An __init__ of an own exception: its promise. -/
namespace PL
open PySem L2 PyProof.Rows PySem.W

section
variable {P : Program} {w : World} {K : PySem.W.Frag} {mg : Str → Option Value} {bs : Heap}
/-- a def of a class by its body -/
theorem fun_gm {x q : Str} {st : Stmt} {f : Addr} {fd : FuncData} {N ps : List Str} {k : Nat} {sp : Sp} (D : Fun K x q st f fd) (S : FnScope N ps (defScope st)) (sz : ∀ vs H Q E, sp vs H Q E → vs.length = ps.length)
    (bd : ∀ (cv : Value) (A : Around) (out : List PySem.Env) (t : Shared) (H : Hp) (vs : List V) (Q : VK) (E : XK), Room k (A.deeper (envOfC q (defScope st) t.heap.objs.size f cv)) → A.guards = some [] → sp vs H Q E →
      ∃ u, PSs (cxOf (L2.CX P w) P w K mg bs N q (defScope st) f cv A out t H E) (defBody st) u ∧ u { nx := fun _ H' => Q .non H', rt := Q } (L2.start N vs) H) : FnG P w K mg bs (k + 1) f fd ps sp := by
  obtain ⟨oc, od, kV, doc, pm, an, cv, ct, osl, rfl, lk, cd⟩ := D.ex
  refine ⟨sz, fun A out t H args us vs Q E room gd en bi rel pre => ?_⟩
  have n1 := sz _ _ _ _ pre
  have kin : K.In t.heap := en.mod.kin.keeps fun b o e => (en.bs b o e).1
  have lim : t.heap.NoLimit := en.mod.nolimit.keeps fun b o e => (en.bs b o e).1
  refine codeAny_call_function room.depth (kin _ _ lk) rfl S.co S.gen rfl (PySem.W.codeRec_of kin cd) (bi _ _ _ _ ?_)
  refine wpAny_newFunctionEnv_cells S.kind (fun y m => ?_) fun env he t1 x1 => ?_
  · obtain ⟨n, v⟩ := y
    rcases S.par n (List.of_mem_zip m).1 with z | z
    · exact .inl z
    · exact .inr ⟨z, PySem.W.cellsFrom_some _ _ _ (.inl z)⟩
  · subst he
    refine ⟨lim.keeps x1.toInCall.keep, codeAny_func ?_⟩
    obtain ⟨u, hu, wish⟩ := bd cv A out t H vs Q E (room.deeper _) gd pre
    have I := inv_start (CX := L2.CX P w) (E := E) S room.hd en n1 rel x1
    refine wpAny_mono (hu.run [] t1 (L2.start N vs) H _ I wish) (fun fl t2 z => ?_) fun e t2 z => z
    cases fl with
    | brk => obtain ⟨_, _, _, z⟩ := z; exact z.elim
    | cont => obtain ⟨_, _, _, z⟩ := z; exact z.elim
    | next => obtain ⟨σ1, H1, J, z⟩ := z; exact ⟨V.non, H1, J.os, J.bare, J.base, J.hok, rfl, z⟩
    | ret v => obtain ⟨y, σ1, H1, J, rv, z⟩ := z; exact ⟨y, H1, J.os, J.bare, J.base, J.hok, rv, z⟩
end
/-- what an __init__ of the class C leaves: a dict with the fields xs at a new place -/
def Left (C : Addr) (xs : List (Str × V)) (a : Addr) (H H2 : Hp) : Prop := ∃ d, H d = none ∧ d ≠ a ∧ H2 a = some (exo a C (some d)) ∧ H2 d = some (exd d xs) ∧ ∀ b, b ≠ a → b ≠ d → H2 b = H b
/-- the ints that a message takes -/
def fewI (i : Int) : Prop := i.natAbs < 10 ^ 12
theorem fewI.log {i : Int} (h : fewI i) : i.natAbs.log2 < 1920 := by
  have h1 : i.natAbs.log2 ≤ i.natAbs.log2 := Nat.le_refl _
  rcases Nat.eq_zero_or_pos i.natAbs with z | z
  · rw [z]; decide
  · have := (Nat.log2_lt (by omega) (k := 1920) (n := i.natAbs)).mpr (Nat.lt_trans h (by decide +kernel))
    exact this
theorem fewI.len {i : Int} (h : fewI i) : ((toString i : String) : Str).length ≤ 13 := PyData.shown_int_le h
/-- C(i): one field -/
def sp1 (C : Addr) (f : Str) : Sp := fun vs H Q _ => ∃ (a : Addr) (i : Int), vs = [.ref a, .int i] ∧ fewI i ∧ H a = some (exo a C none) ∧ ∀ H2, Left C [(f, .int i)] a H H2 → Q .non H2
/-- C(i, j): two fields -/
def sp2 (C : Addr) (f g : Str) : Sp := fun vs H Q _ => ∃ (a : Addr) (i j : Int), vs = [.ref a, .int i, .int j] ∧ fewI i ∧ fewI j ∧ H a = some (exo a C none) ∧ ∀ H2, Left C [(g, .int j), (f, .int i)] a H H2 → Q .non H2
/-- what T.__init__ wants -/
structure SupAt (K : PySem.W.Frag) (mg : Str → Option Value) (x : Str) (T : Addr) : Prop where
  m : mg x = some (.ref T)
  sg : specialIn K (.ref T) "__getattribute__" = some (some (.builtin "type.__getattribute__"))
  rd : readsIn K T (.type "type") = true
  fc : findCls K (.ref T) (.type "type") "__init__" = some (.val (.builtin "ValueError.__init__"))
theorem left1 {C : Addr} {f : Str} {y : V} {a dx : Addr} {H : Hp} (n : H dx = none) (ne : dx ≠ a) : Left C [(f, y)] a H (upd (upd H dx (exd dx [(f, y)])) a (exo a C (some dx))) :=
  ⟨dx, n, ne, upd_same, by rw [upd_ne ne, upd_same], fun b h1 h2 => by rw [upd_ne h1, upd_ne h2]⟩
theorem left2 {C : Addr} {f g : Str} {y z : V} {a dx : Addr} {H : Hp} (n : H dx = none) (ne : dx ≠ a) : Left C [(g, z), (f, y)] a H (upd (upd (upd H dx (exd dx [(f, y)])) a (exo a C (some dx))) dx (exd dx [(g, z), (f, y)])) :=
  ⟨dx, n, ne, by rw [upd_ne (Ne.symm ne), upd_same], upd_same, fun b h1 h2 => by rw [upd_ne h2, upd_ne h1, upd_ne h2]⟩

theorem len2 {x y : Str} (h1 : x.length ≤ 200) (h2 : y.length ≤ 200) : (x ++ y).length ≤ 400 := by
  rw [Str.length_append]
  omega
theorem join_ok {x y : Str} {n m : Nat} (h1 : x.length ≤ n) (h2 : y.length ≤ m) : (x ++ y).length ≤ n + m := by
  rw [Str.length_append]
  omega
theorem fits {x : Str} {n : Nat} (h : x.length ≤ n) (hn : n ≤ 100000) : x.length ≤ sizeLine := by
  rw [sizeLine_eq]
  omega
abbrev tMsg1 (w : Str) : TE := fun σ H Q => tJs [tC (.str w), tFmt (tVar 1)] Str.empty σ H fun out H1 => Q (.str out) H1
abbrev tMsg2 (u v w : Str) : TE := fun σ H Q => tJs [tC (.str u), tFmt (tVar 1), tC (.str v), tFmt (tVar 2), tC (.str w)] Str.empty σ H fun out H1 => Q (.str out) H1
abbrev tIn1 (K : PySem.W.Frag) (f w : Str) : TS := tSeq (tDrop (tVeI K (tCons (tVar 0) (tCons (tMsg1 w) tNil)))) (tOst K f (tVar 0) (tVar 1))
abbrev tIn2 (K : PySem.W.Frag) (f g u v w : Str) : TS := tSeq (tDrop (tVeI K (tCons (tVar 0) (tCons (tMsg2 u v w) tNil)))) (tSeq (tOst K f (tVar 0) (tVar 1)) (tOst K g (tVar 0) (tVar 2)))
theorem rd1 {K : PySem.W.Frag} {C a : Addr} {f w : Str} {i : Int} {D : Ends} {σ : L2.St} {H : Hp} (hw : w.length ≤ 100) (T : OexC K C) (no : findIn K (.ref C) f = some none) (s0 : σ[0]? = some (some (.ref a))) (s1 : σ[1]? = some (some (.int i))) (hi : fewI i)
    (ha : H a = some (exo a C none)) (k : ∀ H2, Left C [(f, .int i)] a H H2 → D.nx σ H2) : tIn1 K f w D σ H := by
  have e0 : (Str.empty ++ w).length ≤ 100 := by have := join_ok (x := Str.empty) (n := 0) (Nat.le_refl _) hw; omega
  have e1 := join_ok e0 hi.len
  exact ⟨.ref a, s0, w, rfl, fits e0 (by omega), .int i, s1, .inr ⟨i, rfl, hi.log, _, rfl, fits e1 (by omega), a, C, _, rfl, by simp, T, ha, .int i, s1, .ref a, s0, a, C, rfl, T, no, .inl ⟨ha, fun dx n ne => k _ (left1 n ne)⟩⟩⟩
theorem rd2 {K : PySem.W.Frag} {C a : Addr} {f g u v w : Str} {i j : Int} {D : Ends} {σ : L2.St} {H : Hp} (hu : u.length ≤ 100) (hv : v.length ≤ 100) (hw : w.length ≤ 100) (T : OexC K C) (no : findIn K (.ref C) f = some none) (no2 : findIn K (.ref C) g = some none)
    (s0 : σ[0]? = some (some (.ref a))) (s1 : σ[1]? = some (some (.int i))) (s2 : σ[2]? = some (some (.int j))) (hi : fewI i) (hj : fewI j)
    (ha : H a = some (exo a C none)) (k : ∀ H2, Left C [(g, .int j), (f, .int i)] a H H2 → D.nx σ H2) : tIn2 K f g u v w D σ H := by
  have e0 : (Str.empty ++ u).length ≤ 100 := by have := join_ok (x := Str.empty) (n := 0) (Nat.le_refl _) hu; omega
  have e1 := join_ok e0 hi.len
  have e2 := join_ok e1 hv
  have e3 := join_ok e2 hj.len
  have e4 := join_ok e3 hw
  exact ⟨.ref a, s0, u, rfl, fits e0 (by omega), .int i, s1, .inr ⟨i, rfl, hi.log, _, rfl, fits e1 (by omega), v, rfl, fits e2 (by omega), .int j, s2, .inr ⟨j, rfl, hj.log, _, rfl, fits e3 (by omega), w, rfl, fits e4 (by omega), a, C, _, rfl, by simp, T, ha,
    .int i, s1, .ref a, s0, a, C, rfl, T, no, .inl ⟨ha, fun dx n ne => ⟨.int j, s2, .ref a, s0, a, C, rfl, T, no2, .inr ⟨dx, _, upd_same, by rw [upd_ne ne, upd_same], by simp, k _ (left2 n ne)⟩⟩⟩⟩⟩⟩
/-! ### in the pure layer -/
section
variable {X : Cx} {R : RE} {W : WX} {pos p : Pos} {e : Expr} {es : List Expr} {m : OM} {ms : AM}
theorem o_cls {x : Str} (hm : X.mg x = some (.ref (R.ct x))) (hg : Gl X x := by rfl) (hd : (x == ("__debug__" : Str)) = false := by decide) : OJ X R W (.Name x pos) (oC (.cls x)) :=
  ⟨_, pe_glob (v := .ref (R.ct x)) hg hm rfl hd, os_c fun _ => .cls x⟩
/-- the own exceptions: which is under which -/
structure XTab (R : RE) (N : List Str) (sub : Str → Str → Bool) : Prop where
  ask : ∀ c ∈ N, ExcAsk R.K (R.ct c)
  own : ∀ c ∈ N, ∀ d ∈ N, kitOne R.K (.ref (R.ct c)) (.ref (R.ct d)) = some (sub c d)
  ve : ∀ c ∈ N, kitOne R.K (.ref (R.ct c)) (.type "ValueError") = some true
def gIsX (N : List Str) (sub : Str → Str → Bool) : LV → LV → Option LV := fun x y => match x, y with
  | .dat (.exc c _), .dat (.cls d) => if N.contains c && N.contains d then some (.dat (.bl (sub c d))) else none
  | .dat (.exc c _), .dat (.cst (.ty t)) => if N.contains c && t == "ValueError" then some (.dat (.bl true)) else none
  | _, _ => none
theorem Rep.isExc {F H : Hp} {c : Str} {fs : List (Str × D)} {v : V} (l : Le F H) (r : Rep R F (.exc c fs) v) : ∃ a, v = .ref a ∧ IsExc H a (R.ct c) := by
  cases r with
  | exc h => exact ⟨_, rfl, .inl (l.ext h)⟩
  | exf h g k r => exact ⟨_, rfl, .inr ⟨_, _, l.ext h, l.ext g⟩⟩
theorem jIsX {N : List Str} {sub : Str → Str → Bool} (T : XTab R N sub) (hK : R.K = X.K) : CallJ X R (.builtin "isinstance") (f2 (gIsX N sub)) := .mk call_isX (rsc2 fun F H x y lx ly z Q l r1 r2 e k => by
  unfold gIsX at e
  split at e
  · rename_i c fs d
    split at e
    · rename_i hz
      cases e
      rw [Bool.and_eq_true, List.contains_iff_mem, List.contains_iff_mem] at hz
      cases r1 with
      | dat r1 =>
        cases r2 with
        | dat r2 =>
          cases r2
          obtain ⟨a, rfl, q⟩ := r1.isExc l
          exact ⟨a, _, _, _, _, rfl, q, by rw [← hK]; exact T.ask c hz.1, .own _, by rw [← hK]; exact T.own c hz.1 d hz.2, kdat l k rfl (.bl _)⟩
    · cases e
  · rename_i c fs t
    split at e
    · rename_i hz
      cases e
      rw [Bool.and_eq_true, List.contains_iff_mem, beq_iff_eq] at hz
      obtain ⟨hz, rfl⟩ := hz
      cases r1 with
      | dat r1 =>
        cases r2 with
        | dat r2 =>
          cases r2
          obtain ⟨a, rfl, q⟩ := r1.isExc l
          exact ⟨a, _, _, _, _, rfl, q, by rw [← hK]; exact T.ask c hz, .ty _, by rw [← hK]; exact T.ve c hz, kdat l k rfl (.bl _)⟩
    · cases e
  · cases e)
def fIsiX (N : List Str) (sub : Str → Str → Bool) := fOr (f2 (gIsX N sub)) fIsiA
theorem jIsiX {N : List Str} {sub : Str → Str → Bool} (T : XTab R N sub) (hK : R.K = X.K) : CallJ X R (.builtin "isinstance") (fIsiX N sub) := (jIsX T hK).or (jIsiA hK)
/-- c(e), an own exception without an __init__ of its own -/
def gExc (c : Str) : LV → Option LV := fun _ => some (.dat (.exc c []))
theorem oj_exc {B : Base} {x : Str} (h : ExcAt B x) (ha : OJ X B.R W e m) (e3 : X.K = B.R.K := by rfl) (e4 : X.mg = B.mg := by rfl) (hg : Gl X x := by rfl) (hs : starEach [e] X.env = (false, eval e X.env) :: starEach [] X.env := by rfl) (hdb : (x == ("__debug__" : Str)) = false := by decide) :
    OJ X B.R W (.Call (.Name x p) [e] [] pos) (o1 m (f1 (gExc x))) := by
  obtain ⟨t, a1, a2⟩ := ha
  refine ⟨tUn (fun _ H Q => ∀ a, H a = none → Q (.ref a) (upd H a (ExO (.ref (B.R.ct x)) a))) t, pe_exc1 PySem.F.excBase_ValueError (by rw [e3]; exact h.q) (by rw [e4]; exact h.g) (by rw [e3]; exact h.k) hg a1 hs hdb, os_op1 a2 (rs1 fun F H v lv z Q l r1 e k a hn => ?_)⟩
  cases e
  exact k (.ref a) (upd F a (ExO (.ref (B.R.ct x)) a)) _ (.newF l hn) (.dat (.exc upd_same)) fun _ o => by cases o.1
/-- C(i) | C(i, j), an own exception that keeps its arguments -/
def gMk1 (c f : Str) : List LV → Option LV
  | [.dat (.int i)] => if i.natAbs < 10 ^ 12 then some (.dat (.exc c [(f, .int i)])) else none
  | _ => none
def gMk2 (c f g : Str) : List LV → Option LV
  | [.dat (.int i), .dat (.int j)] => if i.natAbs < 10 ^ 12 ∧ j.natAbs < 10 ^ 12 then some (.dat (.exc c [(g, .int j), (f, .int i)])) else none
  | _ => none
theorem left_nw {F H H2 : Hp} {C a : Addr} {xs : List (Str × V)} (l : Le F H) (n : H a = none) (q : Left C xs a (upd H a (exo a C none)) H2) : ∃ d F', Nw F H F' H2 ∧ F' a = some (exo a C (some d)) ∧ F' d = some (exd d xs) := by
  obtain ⟨d, h1, h2, h3, h4, h5⟩ := q
  rw [upd_ne h2] at h1
  have f1 := l.nn n
  have f2 := l.nn h1
  have sm : ∀ b, b ≠ a → b ≠ d → H2 b = H b := fun b x y => by rw [h5 b x y, upd_ne x]
  refine ⟨d, upd (upd F d (exd d xs)) a (exo a C (some d)), ⟨fun b o e => ⟨o, ?_, .refl o⟩, fun b o e => ?_, fun b o e => ?_, fun b e => ?_⟩, upd_same, by rw [upd_ne h2, upd_same]⟩
  · rw [upd_ne (fun z => by rw [z, f1] at e; cases e), upd_ne (fun z => by rw [z, f2] at e; cases e)]
    exact e
  · by_cases x : b = a
    · subst x
      rw [upd_same] at e
      cases e
      exact ⟨_, h3, .refl _⟩
    · rw [upd_ne x] at e
      by_cases y : b = d
      · subst y
        rw [upd_same] at e
        cases e
        exact ⟨_, h4, .refl _⟩
      · rw [upd_ne y] at e
        rw [sm b x y]
        exact l b o e
  · rw [sm b (fun z => by rw [z, n] at e; cases e) (fun z => by rw [z, h1] at e; cases e)]
    exact e
  · by_cases x : b = a
    · exact .inr (by rw [x]; exact n)
    · rw [upd_ne x] at e
      by_cases y : b = d
      · exact .inr (by rw [y]; exact h1)
      · rw [upd_ne y] at e
        exact .inl e
theorem rs_mk1 {c f : Str} : RS R (rMkX (R.ct c) (sp1 (R.ct c) f)) (gMk1 c f) := by
  intro F H vs lvs z Q l rl e k
  unfold gMk1 at e
  split at e
  · rename_i i
    split at e
    · rename_i hi
      cases e
      cases rl with
      | cons r1 rl =>
        cases rl
        cases r1 with
        | dat r1 =>
          cases r1
          refine ⟨by simp, fun a hn => ⟨a, i, rfl, hi, upd_same, fun H2 q => ⟨rfl, ?_⟩⟩⟩
          obtain ⟨d, F', nw, g1, g2⟩ := left_nw l hn q
          exact k (.ref a) F' H2 nw (.dat (.exf g1 g2 rfl (.cons (.int i) .nil))) fun _ o => by cases o.1
    · cases e
  · cases e
theorem rs_mk2 {c f g : Str} : RS R (rMkX (R.ct c) (sp2 (R.ct c) f g)) (gMk2 c f g) := by
  intro F H vs lvs z Q l rl e k
  unfold gMk2 at e
  split at e
  · rename_i i j
    split at e
    · rename_i hi
      cases e
      cases rl with
      | cons r1 rl =>
        cases rl with
        | cons r2 rl =>
          cases rl
          cases r1 with
          | dat r1 =>
            cases r1
            cases r2 with
            | dat r2 =>
              cases r2
              refine ⟨by simp, fun a hn => ⟨a, i, j, rfl, hi.1, hi.2, upd_same, fun H2 q => ⟨rfl, ?_⟩⟩⟩
              obtain ⟨d, F', nw, g1, g2⟩ := left_nw l hn q
              exact k (.ref a) F' H2 nw (.dat (.exf g1 g2 rfl (.cons (.int j) (.cons (.int i) .nil)))) fun _ o => by cases o.1
    · cases e
  · cases e
/-- the class x is made by an __init__ that keeps sp -/
def MkJ (B : Base) (x : Str) (k : Nat) (ps : List Str) (sp : Sp) : Prop := ∃ (fI : Addr) (fd : FuncData), OexC B.R.K (B.R.ct x) ∧ findIn B.R.K (.ref (B.R.ct x)) "__init__" = some (some (.ref fI)) ∧ typeIn B.R.K (.ref fI) = some (.type "function") ∧
  FnG B.P B.w B.R.K B.mg B.base k fI fd ps sp ∧ Binds B.R.K fd ps [] ∧ B.mg x = some (.ref (B.R.ct x))
theorem oj_mk {B : Base} {x : Str} {j k : Nat} {ps : List Str} {sp : Sp} {f : List LV → Option LV} (h : MkJ B x j ps sp) (rs : RS B.R (rMkX (B.R.ct x) sp) f) (hr : Room k X.A) (gd : X.A.guards = some []) (ha : AJ X B.R W (e :: es) ms) (hj : j + 1 ≤ k := by omega)
    (e1 : X.prog = B.P := by rfl) (e2 : X.w = B.w := by rfl) (e3 : X.K = B.R.K := by rfl) (e4 : X.mg = B.mg := by rfl) (e5 : X.base = B.base := by rfl)
    (hg : Gl X x := by rfl) (hd : (x == ("__debug__" : Str)) = false := by decide)
    (he : starEach (e :: es) X.env = (false, eval e X.env) :: starEach es X.env := by rfl) (hpl : (backTo pos (starEach es X.env)).any (·.1) = false := by rfl) : OJ X B.R W (.Call (.Name x p) (e :: es) [] pos) (oOp ms f) := by
  obtain ⟨fI, fd, h1, h2, h3, h4, h5, h6⟩ := h
  rw [← e1, ← e2, ← e3, ← e4, ← e5] at h4
  rw [← e3] at h1 h2 h3 h5
  rw [← e4] at h6
  obtain ⟨t, a1, a2⟩ := ha
  exact ⟨_, pe_mkx h1 h2 h3 h4 (hr.mono hj) gd h5 hg h6 a1 hd he hpl, os_op a2 rs⟩
/-- x.f -/
structure XFld (R : RE) (L : List (Str × Str)) : Prop where
  ok : ∀ p ∈ L, XfC R.K (R.ct p.1) ∧ findIn R.K (.ref (R.ct p.1)) p.2 = some none
def gXf (L : List (Str × Str)) (f : Str) : LV → Option LV := fun x => match x with
  | .dat (.exc c fs) => if L.contains (c, f) then (fs.lookup f).map .dat else none
  | _ => none
theorem RepL.field {F : Hp} {f : Str} {d : D} : ∀ {fs : List (Str × D)} {xs : List (Str × V)}, fs.map (·.1) = xs.map (·.1) → RepL R F (fs.map (·.2)) (xs.map (·.2)) → fs.lookup f = some d → ∃ v, xs.lookup f = some v ∧ Rep R F d v
  | [], _, _, _, h => by simp at h
  | _ :: _, [], k, _, _ => by simp at k
  | (n, y) :: fs, (m, v) :: xs, k, .cons r rs, h => by
    simp only [List.map_cons, List.cons.injEq] at k
    obtain ⟨k1, k2⟩ := k
    subst k1
    simp only [List.lookup] at h ⊢
    split at h
    · cases h; exact ⟨v, rfl, r⟩
    · exact RepL.field k2 rs h
theorem oj_xf {L : List (Str × Str)} {f : Str} (T : XFld R L) (ha : OJ X R W e m) (hK : R.K = X.K := by rfl) (hb : attributeBase e f X.env (eval e X.env) = eval e X.env := by rfl) : OJ X R W (.Attribute e f pos) (o1 m (f1 (gXf L f))) := by
  obtain ⟨t, a1, a2⟩ := ha
  refine ⟨_, pe_xff a1 hb, os_op1 a2 (rs1 fun F H v lv z Q l r1 e k => ?_)⟩
  unfold gXf at e
  split at e
  · rename_i c fs
    split at e
    · rename_i hz
      rw [List.contains_iff_mem] at hz
      obtain ⟨t1, t2⟩ := T.ok _ hz
      rw [hK] at t1 t2
      cases e1 : fs.lookup f with
      | none => rw [e1] at e; cases e
      | some d =>
        rw [e1] at e
        cases e
        cases r1 with
        | dat r1 =>
          cases r1 with
          | exc h => cases e1
          | exf h g kk rs =>
            obtain ⟨v, q1, q2⟩ := RepL.field kk rs e1
            exact ⟨_, _, _, _, v, rfl, t1, t2, l.ext h, l.ext g, q1, kdat l k rfl q2⟩
    · cases e
  · cases e
end
end PL
set_option maxRecDepth 100000
set_option maxHeartbeats 4000000
namespace PL
open PySem L2 PyProof.Rows PySem.W
theorem fm {α : Type} {P : α → Prop} {a : α} {l : List α} (h : P a) (r : ∀ e ∈ l, P e) : ∀ e ∈ a :: l, P e := fun e m => by
  rcases List.mem_cons.mp m with rfl | m
  · exact h
  · exact r e m
theorem fm0 {α : Type} {P : α → Prop} : ∀ e ∈ ([] : List α), P e := fun _ m => by cases m
theorem kit_own {K : Frag} {C D : Addr} {cd : ClassData} {b : Bool} (hc : clsIn K C = some cd) (he : cd.mro.isEmpty = false) (hd : (clsIn K D).isSome = true) (ht : typeIn K (.ref D) = some (.type "type")) (hb : (C == D || cd.mro.contains (.ref D)) = b) : kitOne K (.ref C) (.ref D) = some b := by
  unfold kitOne
  by_cases e : C = D
  · subst e
    have : b = true := by rw [← hb]; simp
    subst this
    rw [if_pos (by simp)]
  · rw [if_neg (by simpa using e)]
    have q : ((clsIn K D).isSome && typeIn K (.ref D) == some (.type "type")) = true := by rw [hd, ht]; decide +kernel
    unfold kitCls
    simp only
    rw [if_pos q]
    show mroIn K C (.ref D) = some b
    unfold mroIn
    rw [hc, Option.bind_some, he, if_neg Bool.false_ne_true, ← hb]
    have : (C == D) = false := by simpa using e
    rw [this, Bool.false_or]
theorem kit_ve {K : Frag} {C : Addr} {cd : ClassData} (hc : clsIn K C = some cd) (he : cd.mro.isEmpty = false) (hb : cd.mro.contains (.type "ValueError") = true) : kitOne K (.ref C) (.type "ValueError") = some true := by
  unfold kitOne
  rw [if_neg (fun h => by cases (beq_iff_eq.mp h))]
  unfold kitCls
  simp only
  rw [if_pos (by decide +kernel)]
  show mroIn K C (.type "ValueError") = some true
  unfold mroIn
  rw [hc, Option.bind_some, he, if_neg Bool.false_ne_true, hb]
/-- which own exceptions are under which, checked over what the written part says of their classes -/
def xChk (sub : Str → Str → Bool) (L : List (Str × Addr × ClassData)) : Bool := L.all fun e => !e.2.2.mro.isEmpty && e.2.2.mro.contains (.type "ValueError") && L.all fun f => (e.2.1 == f.2.1 || e.2.2.mro.contains (.ref f.2.1)) == sub e.1 f.1
theorem xtab_of {R : RE} {L : List (Str × Addr × ClassData)} {N : List Str} {sub : Str → Str → Bool} (hN : N = L.map (·.1)) (h1 : ∀ e ∈ L, R.ct e.1 = e.2.1) (h2 : ∀ e ∈ L, ExcAsk R.K e.2.1) (h3 : ∀ e ∈ L, clsIn R.K e.2.1 = some e.2.2) (h4 : ∀ e ∈ L, typeIn R.K (.ref e.2.1) = some (.type "type")) (tab : xChk sub L = true) : XTab R N sub := by
  subst hN
  have q := List.all_eq_true.mp tab
  refine ⟨fun c hc => ?_, fun c hc d hd => ?_, fun c hc => ?_⟩
  · obtain ⟨e, m, rfl⟩ := List.mem_map.mp hc
    rw [h1 e m]
    exact h2 e m
  · obtain ⟨e, m, rfl⟩ := List.mem_map.mp hc
    obtain ⟨f, n, rfl⟩ := List.mem_map.mp hd
    have t := q e m
    simp only [Bool.and_eq_true, Bool.not_eq_true', List.all_eq_true, beq_iff_eq] at t
    rw [h1 e m, h1 f n]
    exact kit_own (h3 e m) t.1.1 (by rw [h3 f n]; rfl) (h4 f n) (t.2 f n)
  · obtain ⟨e, m, rfl⟩ := List.mem_map.mp hc
    have t := q e m
    simp only [Bool.and_eq_true, Bool.not_eq_true'] at t
    rw [h1 e m]
    exact kit_ve (h3 e m) t.1.1 t.1.2
theorem boot_ValueError' : bootBuiltins ("ValueError" : Str) = some (.type "ValueError") := by decide +kernel
end PL
set_option maxRecDepth 100000
set_option maxHeartbeats 4000000
namespace Lw
open PySem PL
/-- the own exceptions -/
def xN : List Str := ["TreeError", "SyntaxProblem", "TooMany", "NoSchema", "NoSheet", "NoTree", "NoForm", "NoSpace", "NoFilter", "NoModulus", "Mismatch", "NoKind", "NoNumber", "NoPath", "NoPrice", "NameTaken", "NoName", "NoMark", "InvalidCommand"]
def xSub : Str → Str → Bool := fun c d => c == d || d == "TreeError"
def xFl : List (Str × Str) := [("SyntaxProblem", "line"), ("SyntaxProblem", "column"), ("TooMany", "limit")]
/-! _law_base_right -/
def m__law_base_right : SM :=
  sRet (oAnd (oOp (aCons (oVar 0) (aCons (oC (.cls "TreeError")) (aNil))) (fIsiX xN xSub)) (oOp (aCons (oVar 0) (aCons (oC (.cst (.ty "ValueError"))) (aNil))) (fIsiX xN xSub)))
def g__law_base_right : FM := defM 1 [] m__law_base_right
/-! _law_kneaded -/
def m__law_kneaded : SM :=
  sSeq (sSet 2 (oC (.int 2305843009213693907))) (sSeq (sSet 3 (o2 (o2 (o2 (o2 (oVar 0) (oC (.int 2862933555777941757)) fMulA) (o2 (oVar 1) (oC (.int 3037000493)) fMulA) fAdd) (oC (.int 29)) fAdd) (oVar 2) fModI)) (sSeq (sFor (iRange1 (aCons (oC (.int 4)) (aNil))) (gmName 4) (sSet 3 (o2 (o2 (o2 (o2 (o2 (oVar 3) (oVar 3) fMulA) (o2 (oC (.int 11)) (oVar 3) fMulA) fAdd) (o2 (oC (.int 4099)) (oVar 4) fMulA) fAdd) (oVar 1) fAdd) (oVar 2) fModI))) (sRet (o2 (o2 (oVar 3) (oVar 2) fMulA) (o2 (o2 (o2 (oVar 3) (oC (.int 69621)) fMulA) (oVar 1) fAdd) (oVar 2) fModI) fAdd))))
def g__law_kneaded : FM := defM 5 [] m__law_kneaded
/-! _law_below -/
def m__law_below : SM :=
  sSeq (sIf (tOf (o2 (o2 (oVar 0) (oC (.int 3)) fIxA) (oVar 1) fLtI)) (sSeq (sPar2 2 3 (aCons (o2 (oVar 0) (oC (.int 0)) fIxA) (aCons (o2 (oVar 0) (oC (.int 1)) fIxA) (aNil)))) (sSeq (sSet 4 (oIf (tOf (o2 (oVar 2) (oOp (aNil) fLst) fNeA)) (o2 (oVar 2) (o2 (oVar 3) (oOp (aCons (oVar 2) (aNil)) fLenA) fModI) fIxA) (oC (.int 0)))) (sSeq (sIf (tmOr (tOf (o2 (oVar 3) (oOp (aCons (oVar 2) (aNil)) fLenA) fGeI)) (tOf (o2 (oVar 4) (o2 (oC (.int 10)) (oC (.int 16)) fPowI) fLtI))) (sSet 4 (oCall g__law_kneaded (aCons (oFrz (o2 (oOp (aCons (oVar 4) (aNil)) fInt) (oC (.int 982451629)) fModI)) (aCons (oFrz (oVar 3)) (aNil))))) (sNil)) (sSeq (sPut (o2 (oVar 3) (oC (.int 1)) fAdd) (oVar 0) (oC (.int 1)) stA) (sSeq (sPut (oVar 4) (oVar 0) (oC (.int 2)) stA) (sPut (oVar 4) (oVar 0) (oC (.int 3)) stA)))))) (sNil)) (sSeq (sSet 5 (o2 (oOp (aCons (o2 (oVar 0) (oC (.int 2)) fIxA) (aNil)) fInt) (oVar 1) fModI)) (sSeq (sPut (o2 (o2 (oVar 0) (oC (.int 2)) fIxA) (oVar 1) fDivI) (oVar 0) (oC (.int 2)) stA) (sSeq (sPut (o2 (o2 (oVar 0) (oC (.int 3)) fIxA) (oVar 1) fDivI) (oVar 0) (oC (.int 3)) stA) (sRet (oMove (oVar 5))))))
def g__law_below : FM := defM 6 [0] m__law_below
/-! _law_kinds_of -/
def m__law_kinds_of : SM :=
  sSeq (sSet 1 (oOp (aCons (oFrz (oOp (aCons (oVar 0) (aCons (oC (.cls "NoSchema")) (aNil))) (fIsiX xN xSub))) (aCons (oFrz (oOp (aCons (oVar 0) (aCons (oC (.cls "NoSheet")) (aNil))) (fIsiX xN xSub))) (aCons (oFrz (oOp (aCons (oVar 0) (aCons (oC (.cls "NoTree")) (aNil))) (fIsiX xN xSub))) (aNil)))) fLst)) (sSeq (sSet 1 (o2 (oVar 1) (oOp (aCons (oFrz (oOp (aCons (oVar 0) (aCons (oC (.cls "NoForm")) (aNil))) (fIsiX xN xSub))) (aCons (oFrz (oOp (aCons (oVar 0) (aCons (oC (.cls "NoSpace")) (aNil))) (fIsiX xN xSub))) (aCons (oFrz (oOp (aCons (oVar 0) (aCons (oC (.cls "NoFilter")) (aNil))) (fIsiX xN xSub))) (aNil)))) fLst) fAdd)) (sSeq (sSet 1 (o2 (oVar 1) (oOp (aCons (oFrz (oOp (aCons (oVar 0) (aCons (oC (.cls "NoModulus")) (aNil))) (fIsiX xN xSub))) (aCons (oFrz (oOp (aCons (oVar 0) (aCons (oC (.cls "Mismatch")) (aNil))) (fIsiX xN xSub))) (aCons (oFrz (oOp (aCons (oVar 0) (aCons (oC (.cls "NoKind")) (aNil))) (fIsiX xN xSub))) (aNil)))) fLst) fAdd)) (sSeq (sSet 1 (o2 (oVar 1) (oOp (aCons (oFrz (oOp (aCons (oVar 0) (aCons (oC (.cls "NoNumber")) (aNil))) (fIsiX xN xSub))) (aCons (oFrz (oOp (aCons (oVar 0) (aCons (oC (.cls "NoPath")) (aNil))) (fIsiX xN xSub))) (aCons (oFrz (oOp (aCons (oVar 0) (aCons (oC (.cls "NoPrice")) (aNil))) (fIsiX xN xSub))) (aNil)))) fLst) fAdd)) (sSeq (sSet 1 (o2 (oVar 1) (oOp (aCons (oFrz (oOp (aCons (oVar 0) (aCons (oC (.cls "NameTaken")) (aNil))) (fIsiX xN xSub))) (aCons (oFrz (oOp (aCons (oVar 0) (aCons (oC (.cls "NoName")) (aNil))) (fIsiX xN xSub))) (aCons (oFrz (oOp (aCons (oVar 0) (aCons (oC (.cls "NoMark")) (aNil))) (fIsiX xN xSub))) (aNil)))) fLst) fAdd)) (sSeq (sSet 1 (o2 (oVar 1) (oOp (aCons (oFrz (oOp (aCons (oVar 0) (aCons (oC (.cls "InvalidCommand")) (aNil))) (fIsiX xN xSub))) (aCons (oFrz (oOp (aCons (oVar 0) (aCons (oC (.cls "TooMany")) (aNil))) (fIsiX xN xSub))) (aCons (oFrz (oOp (aCons (oVar 0) (aCons (oC (.cls "SyntaxProblem")) (aNil))) (fIsiX xN xSub))) (aNil)))) fLst) fAdd)) (sRet (oLc (iRange1 (aCons (oC (.int 18)) (aNil))) (gmName 2) (tTru (o2 (oVar 1) (oVar 2) fIxA)) (oVar 2) [2])))))))
def g__law_kinds_of : FM := defM 3 [] m__law_kinds_of
/-! _law_made -/
def m__law_made : SM :=
  sSeq (sIf (tOf (o2 (oVar 0) (oC (.int 9)) fLtI)) (sSeq (sSet 2 (oOp (aCons (oFrz (o1 (oFrz (oVar 1)) (f1 (gExc "NoSchema")))) (aCons (oFrz (o1 (oFrz (oVar 1)) (f1 (gExc "NoSheet")))) (aCons (oFrz (o1 (oFrz (oVar 1)) (f1 (gExc "NoTree")))) (aCons (oFrz (o1 (oFrz (oVar 1)) (f1 (gExc "NoForm")))) (aCons (oFrz (o1 (oFrz (oVar 1)) (f1 (gExc "NoSpace")))) (aCons (oFrz (o1 (oFrz (oVar 1)) (f1 (gExc "NoFilter")))) (aNil))))))) fLst)) (sRet (o2 (o2 (oVar 2) (oOp (aCons (oFrz (o1 (oFrz (oVar 1)) (f1 (gExc "NoModulus")))) (aCons (oFrz (o1 (oFrz (oVar 1)) (f1 (gExc "Mismatch")))) (aCons (oFrz (o1 (oFrz (oVar 1)) (f1 (gExc "NoKind")))) (aNil)))) fLst) fAdd) (oVar 0) fIxA))) (sNil)) (sSeq (sSet 2 (oOp (aCons (oFrz (o1 (oFrz (oVar 1)) (f1 (gExc "NoNumber")))) (aCons (oFrz (o1 (oFrz (oVar 1)) (f1 (gExc "NoPath")))) (aCons (oFrz (o1 (oFrz (oVar 1)) (f1 (gExc "NoPrice")))) (aCons (oFrz (o1 (oFrz (oVar 1)) (f1 (gExc "NameTaken")))) (aCons (oFrz (o1 (oFrz (oVar 1)) (f1 (gExc "NoName")))) (aCons (oFrz (o1 (oFrz (oVar 1)) (f1 (gExc "NoMark")))) (aNil))))))) fLst)) (sRet (o2 (o2 (oVar 2) (oOp (aCons (oFrz (o1 (oFrz (oVar 1)) (f1 (gExc "InvalidCommand")))) (aNil)) fLst) fAdd) (o2 (oVar 0) (oC (.int 9)) fSubI) fIxA)))
def g__law_made : FM := defM 3 [] m__law_made
/-! _law_pick -/
def m__law_pick : SM :=
  sRet (o2 (oVar 1) (oCall g__law_below (aCons (oVar 0) (aCons (oFrz (oOp (aCons (oVar 1) (aNil)) fLenA)) (aNil)))) fIxA)
def g__law_pick : FM := defM 2 [0] m__law_pick
/-! _law_pot_of -/
def m__law_pot_of : SM :=
  sSeq (sSet 1 (oLc (iAnyK (oSl (oVar 0) (pNone) (pSome (oC (.int 17))) slA)) (gmName 3) (tYesM) (oOp (aCons (oVar 3) (aNil)) fAbs) [3])) (sSeq (sFor (iEnumA (oSl (oVar 0) (pSome (oC (.int 17))) (pSome (oC (.int 60))) slA)) (gmTup 2 (gmCons (gmName 2) (gmCons (gmName 3) (gmNil)))) (sPut (o2 (o2 (oVar 1) (o2 (oVar 2) (oC (.int 17)) fModI) fIxA) (oOp (aCons (oVar 3) (aNil)) fAbs) fAdd) (oVar 1) (o2 (oVar 2) (oC (.int 17)) fModI) stA)) (sRet (oOp (aCons (oFrz (oVar 1)) (aCons (oC (.int 0)) (aCons (oC (.int 0)) (aCons (oC (.int 0)) (aNil))))) fLst)))
def g__law_pot_of : FM := defM 4 [] m__law_pot_of
/-! law -/
def m_law : SM :=
  sSeq (sSet 1 (oCall g__law_pot_of (aCons (oFrz (oVar 0)) (aNil)))) (sSeq (sFor (iRange1 (aCons (oC (.int 16)) (aNil))) (gmName 2) (sSeq (sSet 3 (oCall g__law_made (aCons (oFrz (oVar 2)) (aCons (oFrz (oCall g__law_pick (aCons (oVar 1) (aCons (oFrz (oOp (aCons (oC (.str "")) (aCons (oC (.str "x")) (aCons (oC (.str "a kind")) (aCons (oC (.str "1, 2")) (aNil))))) fLst)) (aNil))))) (aNil))))) (sIf (tmOr (tOf (o2 (oCall g__law_kinds_of (aCons (oFrz (oVar 3)) (aNil))) (oOp (aCons (oFrz (oVar 2)) (aNil)) fLst) fNeA)) (tmNot (tTru (oCall g__law_base_right (aCons (oFrz (oVar 3)) (aNil)))))) (sRet (oC (.bl false))) (sNil)))) (sSeq (sFor (iRange1 (aCons (oC (.int 8)) (aNil))) (gmName 4) (sSeq (sSet 5 (oCall g__law_pick (aCons (oVar 1) (aCons (oFrz (oOp (aCons (oC (.int 0)) (aCons (oC (.int 5)) (aCons (oC (.int 40)) (aCons (oC (.int 200)) (aCons (oC (.int 4000)) (aCons (oFrz (oCall g__law_below (aCons (oVar 1) (aCons (oFrz (o2 (oC (.int 10)) (oC (.int 6)) fPowI)) (aNil))))) (aNil))))))) fLst)) (aNil))))) (sSeq (sPar2 6 7 (aCons (o2 (oC (.int 1)) (oCall g__law_below (aCons (oVar 1) (aCons (oC (.int 99)) (aNil)))) fAdd) (aCons (o2 (oC (.int 1)) (oCall g__law_below (aCons (oVar 1) (aCons (oFrz (o2 (oC (.int 10)) (oC (.int 4)) fPowI)) (aNil)))) fAdd) (aNil)))) (sSeq (sPar2 8 9 (aCons (oOp (aCons (oFrz (oVar 5)) (aNil)) (gMk1 "TooMany" "limit")) (aCons (oOp (aCons (oFrz (oVar 6)) (aCons (oFrz (oVar 7)) (aNil))) (gMk2 "SyntaxProblem" "line" "column")) (aNil)))) (sSeq (sIf (tmOr (tOf (o2 (oCall g__law_kinds_of (aCons (oFrz (oVar 8)) (aNil))) (oOp (aCons (oC (.int 16)) (aNil)) fLst) fNeA)) (tmOr (tOf (o2 (oCall g__law_kinds_of (aCons (oFrz (oVar 9)) (aNil))) (oOp (aCons (oC (.int 17)) (aNil)) fLst) fNeA)) (tOf (o2 (o1 (oVar 8) (f1 (gXf xFl "limit"))) (oVar 5) fNeA)))) (sRet (oC (.bl false))) (sNil)) (sIf (tmOr (tOf (o2 (oOp (aCons (oFrz (o1 (oVar 9) (f1 (gXf xFl "line")))) (aCons (oFrz (o1 (oVar 9) (f1 (gXf xFl "column")))) (aNil))) fTup) (oOp (aCons (oFrz (oVar 6)) (aCons (oFrz (oVar 7)) (aNil))) fTup) fNeA)) (tmOr (tmNot (tTru (oCall g__law_base_right (aCons (oFrz (oVar 8)) (aNil))))) (tmNot (tTru (oCall g__law_base_right (aCons (oFrz (oVar 9)) (aNil))))))) (sRet (oC (.bl false))) (sNil))))))) (sSeq (sSet 10 (o1 (oC (.str "x")) (f1 (gExc "TreeError")))) (sRet (oAnd (o2 (oCall g__law_kinds_of (aCons (oFrz (oVar 10)) (aNil))) (oOp (aNil) fLst) fEqA) (oOp (aCons (oVar 10) (aCons (oC (.cst (.ty "ValueError"))) (aNil))) (fIsiX xN xSub)))))))
def g_law : FM := defM 11 [] m_law
end Lw
set_option maxRecDepth 100000
set_option maxHeartbeats 1000000
namespace Lw
open PySem PL
abbrev li (i : Int) : LV := .dat (.int i)
theorem mul_ok {i j : Int} (h : cMulB i j = true) : fMulA [li i, li j] = some (li (i * j)) := by
  simp [fMulA, fOr, fMul, fMulI, f2, gI, h]
theorem mul_c {i j : Int} (h : -(2 ^ 64) < i ∧ i < 2 ^ 64 ∨ -(2 ^ 64) < j ∧ j < 2 ^ 64) : cMulB i j = true := by
  unfold cMulB
  simp only [Bool.or_eq_true, decide_eq_true_eq]
  exact .inl h
theorem fm0 (i : Int) {p : Int} (h : 0 < p) : 0 ≤ i.fmod p := by
  rw [Int.fmod_eq_emod_of_nonneg _ (Int.le_of_lt h)]
  exact Int.emod_nonneg _ (by omega)
theorem mod_ok {i j : Int} (h : j ≠ 0) : fModI [li i, li j] = some (li (i.fmod j)) := by simp [fModI, f2, gI, h]
theorem add_ok {i j : Int} : fAdd [li i, li j] = some (li (i + j)) := by simp [fAdd, fOr, fAddI, f2, gI, cT]
def KP : Int := 2305843009213693907
def knBody : SM := sSet 3 (o2 (o2 (o2 (o2 (o2 (oVar 3) (oVar 3) fMulA) (o2 (oC (.int 11)) (oVar 3) fMulA) fAdd) (o2 (oC (.int 4099)) (oVar 4) fMulA) fAdd) (oVar 1) fAdd) (oVar 2) fModI)
theorem kn_step (a b x k : Int) (h0 : 0 ≤ x) (h1 : x < KP) : ∃ x', knBody [li a, li b, li KP, li x, li k] = .nx [li a, li b, li KP, li x', li k] ∧ 0 ≤ x' ∧ x' < KP := by
  have m1 : fMulA [li x, li x] = some (li (x * x)) := mul_ok (mul_c (.inl (by unfold KP at h1; omega)))
  have m2 : fMulA [li 11, li x] = some (li (11 * x)) := mul_ok (mul_c (.inl (by omega)))
  have m3 : fMulA [li 4099, li k] = some (li (4099 * k)) := mul_ok (mul_c (.inl (by omega)))
  have m4 : ∀ i, fModI [li i, li KP] = some (li (i.fmod KP)) := fun i => mod_ok (by decide)
  refine ⟨(x * x + 11 * x + 4099 * k + b).fmod KP, ?_, fm0 _ (by decide), Int.fmod_lt_of_pos _ (by decide)⟩
  simp [knBody, sSet, o2, oOp, aCons, aNil, gets, Rf.get, oVar, oC, LV.ok, m1, m2, m3, m4, add_ok]
theorem kn_loop (a b : Int) : ∀ (ds : List Int) (x : Int) (t : LV), 0 ≤ x → x < KP → ∃ x' t', forD (gmName 4) knBody (ds.map .int) [li a, li b, li KP, li x, t] = .nx [li a, li b, li KP, li x', t'] ∧ 0 ≤ x' ∧ x' < KP
  | [], x, t, h0, h1 => ⟨x, t, rfl, h0, h1⟩
  | d :: ds, x, t, h0, h1 => by
    obtain ⟨x1, e1, h2, h3⟩ := kn_step a b x d h0 h1
    obtain ⟨x2, t2, e2, h4, h5⟩ := kn_loop a b ds x1 (li d) h2 h3
    refine ⟨x2, t2, ?_, h4, h5⟩
    simp only [List.map_cons, forD, gmName, List.set]
    rw [e1]
    exact e2
theorem kneaded (a b : Int) : ∃ r, g__law_kneaded [li a, li b] = .ret (li r) [li a, li b] ∧ 0 ≤ r := by
  obtain ⟨x', t', e, h0, h1⟩ := kn_loop a b [0, 1, 2, 3] ((a * 2862933555777941757 + b * 3037000493 + 29).fmod KP) .un (fm0 _ (by decide)) (Int.fmod_lt_of_pos _ (by decide))
  have m1 : ∀ x : Int, fMulA [li x, li 2862933555777941757] = some (li (x * 2862933555777941757)) := fun x => mul_ok (mul_c (.inr (by omega)))
  have m2 : ∀ x : Int, fMulA [li x, li 3037000493] = some (li (x * 3037000493)) := fun x => mul_ok (mul_c (.inr (by omega)))
  have m3 : ∀ x : Int, fMulA [li x, li KP] = some (li (x * KP)) := fun x => mul_ok (mul_c (.inr (by unfold KP; omega)))
  have m4 : ∀ i, fModI [li i, li KP] = some (li (i.fmod KP)) := fun i => mod_ok (by decide)
  have m5 : ∀ x : Int, fMulA [li x, li 69621] = some (li (x * 69621)) := fun x => mul_ok (mul_c (.inr (by omega)))
  refine ⟨x' * KP + (x' * 69621 + b).fmod KP, ?_, ?_⟩
  · have hb : m__law_kneaded = sSeq (sSet 2 (oC (.int KP))) (sSeq (sSet 3 (o2 (o2 (o2 (o2 (oVar 0) (oC (.int 2862933555777941757)) fMulA) (o2 (oVar 1) (oC (.int 3037000493)) fMulA) fAdd) (oC (.int 29)) fAdd) (oVar 2) fModI)) (sSeq (sFor (iRange1 (aCons (oC (.int 4)) aNil)) (gmName 4) knBody) (sRet (o2 (o2 (oVar 3) (oVar 2) fMulA) (o2 (o2 (o2 (oVar 3) (oC (.int 69621)) fMulA) (oVar 1) fAdd) (oVar 2) fModI) fAdd)))) := rfl
    have e' : forD (gmName 4) knBody [D.int 0, D.int 1, D.int 2, D.int 3] [li a, li b, li KP, li ((a * 2862933555777941757 + b * 3037000493 + 29).fmod KP), .un] = .nx [li a, li b, li KP, li x', t'] := e
    unfold g__law_kneaded
    rw [hb]
    simp [defM, okArgs, back, sSeq, sSet, sFor, iRange1, rangeD, List.range, List.range.loop, sRet, o2, oOp, aCons, aNil, gets, Rf.get, oVar, oC, LV.ok, LV.isOwn, m1, m2, m3, m4, m5, add_ok, e']
  · have := fm0 (x' * 69621 + b) (p := KP) (by decide)
    have : 0 ≤ x' * KP := Int.mul_nonneg h0 (by decide)
    omega
end Lw
set_option maxRecDepth 100000
set_option maxHeartbeats 2000000
namespace Lw
open PySem PL
/-! what is drawn -/
abbrev lst (cs : List Int) : D := .lst (cs.map .int)
def Pot (cs : List Int) (i a b : Int) : LV := .ml [lst cs, .int i, .int a, .int b]
structure PotOk (p : LV) : Prop where
  ex : ∃ cs i a b, p = Pot cs i a b ∧ (∀ c ∈ cs, (0 : Int) ≤ c) ∧ 0 ≤ i ∧ 0 ≤ a ∧ 0 ≤ b ∧ cs.length ≤ 17
theorem pys_ints : ∀ cs : List Int, D.pys (cs.map .int) = some (cs.map .int)
  | [] => rfl
  | c :: cs => by simp [D.pys, D.py, pys_ints cs]
theorem lay_ints : ∀ cs : List Int, PyData.canLayAll0 (cs.map .int) = true
  | [] => rfl
  | c :: cs => by simp [PyData.canLayAll0, PyData.canLay0, lay_ints cs]
theorem dep_ints : ∀ cs : List Int, PyData.depthAll (cs.map .int) = 0
  | [] => rfl
  | c :: cs => by simp [PyData.depthAll, PyData.depth, dep_ints cs]
theorem ne_nil_ints (cs : List Int) : fNeA [.dat (lst cs), .ml []] = some (.dat (.bl (decide (cs ≠ [])))) := by
  have h1 : SeqAt.shaped (.list (cs.map .int)) = true := by
    simp [SeqAt.shaped, PyData.canLay0, PyData.depth, lay_ints, dep_ints]
  have h2 : SeqAt.shaped (.list []) = true := by decide +kernel
  cases cs with
  | nil => simp [fNeA, fOr, fNeD, f2, gEqS, gEqD, LV.py, D.py, D.pys, h2, PyData.eqv, PyData.eqvAll]
  | cons c cs =>
    have h1' : SeqAt.shaped (.list (.int c :: cs.map .int)) = true := h1
    simp [fNeA, fOr, fNeD, f2, gEqS, gEqD, LV.py, D.py, D.pys, pys_ints, h1', h2, PyData.eqv, PyData.eqvAll]
theorem ix_ok {ds : List D} {k : Nat} {d : D} (h : ds[k]? = some d) : L2.atI ds (k : Int) = some d := by
  have hk : k < ds.length := (List.getElem?_eq_some_iff.mp h).1
  unfold L2.atI L2.ixN
  rw [if_pos (by omega), if_pos (by omega)]
  simpa using h
theorem ix_lst {ds : List D} {k : Nat} {d : D} (h : ds[k]? = some d) : fIxA [.dat (.lst ds), li (k : Int)] = some (.dat d) := by
  simp [fIxA, fOr, fIx, fIxL, f2, gIxL, LV.items, ix_ok h]
theorem ix_ml {ds : List D} {k : Nat} {d : D} (h : ds[k]? = some d) : fIxA [.ml ds, li (k : Int)] = some (.dat d) := by
  simp [fIxA, fOr, fIx, fIxL, f2, gIxL, LV.items, ix_ok h]
theorem ix_tup {ds : List D} {k : Nat} {d : D} (h : ds[k]? = some d) : fIxA [.dat (.tup ds), li (k : Int)] = some (.dat d) := by
  simp [fIxA, fOr, fIx, fIxL, fIxT, f2, gIxL, gIxT, LV.items, ix_ok h]
theorem put_ml {ds : List D} {k : Nat} {d : D} (h : k < ds.length) : stA (.ml ds) (li (k : Int)) d = some (.ml (ds.set k d)) := by
  have : ∀ hh : L2.ixN ds.length (k : Int) = some k, stA (.ml ds) (li (k : Int)) d = some (.ml (ds.set k d)) := fun hh => by simp [stA, stL, hh]
  apply this
  unfold L2.ixN
  rw [if_pos (by omega), if_pos (by omega)]
  simp
theorem ix_pot0 {cs : List Int} {i a b : Int} : fIxA [Pot cs i a b, li 0] = some (.dat (lst cs)) := ix_ml (k := 0) rfl
theorem ix_pot1 {cs : List Int} {i a b : Int} : fIxA [Pot cs i a b, li 1] = some (li i) := ix_ml (k := 1) rfl
theorem ix_pot2 {cs : List Int} {i a b : Int} : fIxA [Pot cs i a b, li 2] = some (li a) := ix_ml (k := 2) rfl
theorem ix_pot3 {cs : List Int} {i a b : Int} : fIxA [Pot cs i a b, li 3] = some (li b) := ix_ml (k := 3) rfl
theorem put_pot1 {cs : List Int} {i a b j : Int} : stA (Pot cs i a b) (li 1) (.int j) = some (Pot cs j a b) := put_ml (k := 1) (by simp)
theorem put_pot2 {cs : List Int} {i a b j : Int} : stA (Pot cs i a b) (li 2) (.int j) = some (Pot cs i j b) := put_ml (k := 2) (by simp)
theorem put_pot3 {cs : List Int} {i a b j : Int} : stA (Pot cs i a b) (li 3) (.int j) = some (Pot cs i a j) := put_ml (k := 3) (by simp)
theorem len_lst {ds : List D} : fLenA [.dat (.lst ds)] = some (li ds.length) := by simp [fLenA, fOr, fLen, f1, gLen]
theorem len_ml {ds : List D} : fLenA [.ml ds] = some (li ds.length) := by simp [fLenA, fOr, fLen, f1, gLen]
theorem len_tup {ds : List D} : fLenA [.dat (.tup ds)] = some (li ds.length) := by simp [fLenA, fOr, fLen, f1, gLen]
theorem lt_ok {i j : Int} : fLtI [li i, li j] = some (.dat (.bl (decide (i < j)))) := by simp [fLtI, f2, gI, cT]
theorem ge_ok {i j : Int} : fGeI [li i, li j] = some (.dat (.bl (decide (j ≤ i)))) := by simp [fGeI, f2, gI, cT]
theorem int_ok {i : Int} : fInt [li i] = some (li i) := by simp [fInt, f1, gInt]
theorem div_ok {i j : Int} (h : 0 < j ∧ j < 1073741824) : fDivI [li i, li j] = some (li (i.fdiv j)) := by
  have : (j ≠ 0 ∧ j.natAbs < 1073741824) := by omega
  simp [fDivI, f2, gI, this]
theorem p16 : fPowI [li 10, li 16] = some (li (10 ^ 16)) := by
  have h : (10 : Int).natAbs < 2 ^ 64 := by decide
  simp [fPowI, f2, gI]
theorem pot_ok {cs : List Int} {i a b : Int} : (Pot cs i a b).ok = true := rfl
theorem pot_own {cs : List Int} {i a b : Int} : (Pot cs i a b).isOwn = true := rfl
theorem pot_frz {cs : List Int} {i a b : Int} : (Pot cs i a b) ≠ .un := by unfold Pot; simp
end Lw
set_option maxRecDepth 100000
set_option maxHeartbeats 4000000
namespace Lw
open PySem PL
theorem dat_ok {d : D} : (LV.dat d).ok = true := rfl
theorem ml_ok {d : List D} : (LV.ml d).ok = true := rfl
theorem md_ok {d : List (L2.Key × D)} : (LV.md d).ok = true := rfl
theorem dat_own {d : D} : (LV.dat d).isOwn = false := rfl
theorem ml_own {d : List D} : (LV.ml d).isOwn = true := rfl
theorem md_own {d : List (L2.Key × D)} : (LV.md d).isOwn = true := rfl
theorem un_own : LV.un.isOwn = false := rfl
def Drawn (p : LV) : Prop := ∃ cs i a b, p = Pot cs i a b ∧ (∀ c ∈ cs, (0 : Int) ≤ c) ∧ 0 ≤ i ∧ 0 ≤ a ∧ 0 ≤ b
/-- the last part: a number below n -/
def blTail : SM := sSeq (sSet 5 (o2 (oOp (aCons (o2 (oVar 0) (oC (.int 2)) fIxA) (aNil)) fInt) (oVar 1) fModI)) (sSeq (sPut (o2 (o2 (oVar 0) (oC (.int 2)) fIxA) (oVar 1) fDivI) (oVar 0) (oC (.int 2)) stA) (sSeq (sPut (o2 (o2 (oVar 0) (oC (.int 3)) fIxA) (oVar 1) fDivI) (oVar 0) (oC (.int 3)) stA) (sRet (oMove (oVar 5)))))
theorem bl_tail (cs : List Int) (i a b n : Int) (u v w : LV) (f : LV) (h : 0 < n ∧ n < 1073741824) :
    blTail [Pot cs i a b, li n, u, v, w, f] = .rt (li (a.fmod n)) [Pot cs i (a.fdiv n) (b.fdiv n), li n, u, v, w, .un] := by
  have d1 : ∀ x, fDivI [li x, li n] = some (li (x.fdiv n)) := fun x => div_ok h
  have m1 : ∀ x, fModI [li x, li n] = some (li (x.fmod n)) := fun x => mod_ok (by omega)
  simp [blTail, sSeq, sSet, sPut, sRet, o2, oOp, aCons, aNil, gets, Rf.get, oVar, oC, dat_ok, ml_ok, dat_own, ml_own, oFrz, LV.frz, oMove, pot_ok, pot_own, ix_pot2, ix_pot3, put_pot2, put_pot3, int_ok, d1, m1]
def blNew : SM := (sSeq (sPar2 2 3 (aCons (o2 (oVar 0) (oC (.int 0)) fIxA) (aCons (o2 (oVar 0) (oC (.int 1)) fIxA) (aNil)))) (sSeq (sSet 4 (oIf (tOf (o2 (oVar 2) (oOp (aNil) fLst) fNeA)) (o2 (oVar 2) (o2 (oVar 3) (oOp (aCons (oVar 2) (aNil)) fLenA) fModI) fIxA) (oC (.int 0)))) (sSeq (sIf (tmOr (tOf (o2 (oVar 3) (oOp (aCons (oVar 2) (aNil)) fLenA) fGeI)) (tOf (o2 (oVar 4) (o2 (oC (.int 10)) (oC (.int 16)) fPowI) fLtI))) (sSet 4 (oCall g__law_kneaded (aCons (oFrz (o2 (oOp (aCons (oVar 4) (aNil)) fInt) (oC (.int 982451629)) fModI)) (aCons (oFrz (oVar 3)) (aNil))))) (sNil)) (sSeq (sPut (o2 (oVar 3) (oC (.int 1)) fAdd) (oVar 0) (oC (.int 1)) stA) (sSeq (sPut (oVar 4) (oVar 0) (oC (.int 2)) stA) (sPut (oVar 4) (oVar 0) (oC (.int 3)) stA))))))
theorem bl_new (cs : List Int) (i a b n : Int) (u v w f : LV) (hc : ∀ c ∈ cs, (0 : Int) ≤ c) (hi : 0 ≤ i) :
    ∃ x w', 0 ≤ x ∧ blNew [Pot cs i a b, li n, u, v, w, f] = .nx [Pot cs (i + 1) x x, li n, .dat (lst cs), li i, w', f] := by
  -- the amount first found
  have am : ∃ x : Int, 0 ≤ x ∧ (oIf (tOf (o2 (oVar 2) (oOp (aNil) fLst) fNeA)) (o2 (oVar 2) (o2 (oVar 3) (oOp (aCons (oVar 2) (aNil)) fLenA) fModI) fIxA) (oC (.int 0))) [Pot cs i a b, li n, .dat (lst cs), li i, w, f] = .val (.tmp (li x)) [Pot cs i a b, li n, .dat (lst cs), li i, w, f] := by
    by_cases e : cs = []
    · refine ⟨0, by omega, ?_⟩
      simp [oIf, tOf, o2, oOp, aCons, aNil, gets, Rf.get, oVar, oC, dat_ok, ml_ok, fLst, data, ne_nil_ints, e]
    · have hl : 0 < cs.length := List.length_pos_iff.mpr e
      have h0 := fm0 i (p := (cs.length : Int)) (by omega)
      have h1 := Int.fmod_lt_of_pos i (b := (cs.length : Int)) (by omega)
      obtain ⟨k, hk⟩ : ∃ k : Nat, i.fmod (cs.length : Int) = k := ⟨_, (Int.toNat_of_nonneg h0).symm⟩
      have hk' : k < cs.length := by omega
      have hx : (cs.map D.int)[k]? = some (.int cs[k]) := by rw [List.getElem?_map, List.getElem?_eq_getElem hk']; rfl
      refine ⟨cs[k], hc _ (List.getElem_mem hk'), ?_⟩
      have m1 : fModI [li i, li (cs.length : Int)] = some (li (i.fmod (cs.length : Int))) := mod_ok (by omega)
      have x1 := ix_lst hx
      simp [oIf, tOf, o2, oOp, aCons, aNil, gets, Rf.get, oVar, oC, dat_ok, ml_ok, fLst, data, ne_nil_ints, e, len_lst, m1, hk, x1]
  obtain ⟨x, hx0, ex⟩ := am
  -- perhaps kneaded
  have kn : ∃ x' : Int, 0 ≤ x' ∧ (sIf (tmOr (tOf (o2 (oVar 3) (oOp (aCons (oVar 2) (aNil)) fLenA) fGeI)) (tOf (o2 (oVar 4) (o2 (oC (.int 10)) (oC (.int 16)) fPowI) fLtI))) (sSet 4 (oCall g__law_kneaded (aCons (oFrz (o2 (oOp (aCons (oVar 4) (aNil)) fInt) (oC (.int 982451629)) fModI)) (aCons (oFrz (oVar 3)) (aNil))))) (sNil)) [Pot cs i a b, li n, .dat (lst cs), li i, li x, f] = .nx [Pot cs i a b, li n, .dat (lst cs), li i, li x', f] := by
    obtain ⟨r, er, r0⟩ := kneaded (x.fmod 982451629) i
    have m1 : fModI [li x, li 982451629] = some (li (x.fmod 982451629)) := mod_ok (by decide)
    have call : (sSet 4 (oCall g__law_kneaded (aCons (oFrz (o2 (oOp (aCons (oVar 4) (aNil)) fInt) (oC (.int 982451629)) fModI)) (aCons (oFrz (oVar 3)) (aNil))))) [Pot cs i a b, li n, .dat (lst cs), li i, li x, f] = .nx [Pot cs i a b, li n, .dat (lst cs), li i, li r, f] := by
      simp [sSet, oCall, o2, oOp, aCons, aNil, gets, Rf.get, oVar, oC, dat_ok, ml_ok, dat_own, ml_own, oFrz, LV.frz, int_ok, m1, er, ownVars, okBack, wb]
    by_cases c1 : (cs.length : Int) ≤ i
    · refine ⟨r, r0, ?_⟩
      simp only [sIf, tmOr]
      rw [← call]
      simp [tOf, o2, oOp, aCons, aNil, gets, Rf.get, oVar, oC, dat_ok, ml_ok, len_lst, ge_ok, c1]
    · by_cases c2 : x < 10000000000000000
      · refine ⟨r, r0, ?_⟩
        simp only [sIf, tmOr]
        rw [← call]
        simp [tOf, o2, oOp, aCons, aNil, gets, Rf.get, oVar, oC, dat_ok, ml_ok, len_lst, ge_ok, c1, p16, lt_ok, c2]
      · refine ⟨x, hx0, ?_⟩
        simp [sIf, tmOr, sNil, tOf, o2, oOp, aCons, aNil, gets, Rf.get, oVar, oC, dat_ok, ml_ok, len_lst, ge_ok, c1, p16, lt_ok, c2]
  obtain ⟨x', hx1, ex'⟩ := kn
  refine ⟨x', li x', hx1, ?_⟩
  unfold blNew
  have s1 : (sPar2 2 3 (aCons (o2 (oVar 0) (oC (.int 0)) fIxA) (aCons (o2 (oVar 0) (oC (.int 1)) fIxA) (aNil)))) [Pot cs i a b, li n, u, v, w, f] = .nx [Pot cs i a b, li n, .dat (lst cs), li i, w, f] := by
    simp [sPar2, o2, oOp, aCons, aNil, gets, Rf.get, oVar, oC, dat_ok, ml_ok, pot_ok, ix_pot0, ix_pot1]
  simp only [sSeq, s1, sSet, ex, List.set]
  rw [ex']
  simp [sPut, o2, oOp, aCons, aNil, gets, Rf.get, oVar, oC, dat_ok, ml_ok, dat_own, ml_own, oFrz, LV.frz, pot_ok, pot_own, put_pot1, put_pot2, put_pot3, add_ok]
theorem below (p : LV) (n : Int) (hp : Drawn p) (h : 0 < n ∧ n < 1073741824) : ∃ r p', g__law_below [p, li n] = .ret (li r) [p', li n] ∧ 0 ≤ r ∧ r < n ∧ Drawn p' := by
  obtain ⟨cs, i, a, b, rfl, hc, hi, ha, hb⟩ := hp
  have hm : m__law_below = sSeq (sIf (tOf (o2 (o2 (oVar 0) (oC (.int 3)) fIxA) (oVar 1) fLtI)) blNew sNil) blTail := rfl
  have fin : ∀ (i a b : Int) (u v w : LV), 0 ≤ i → 0 ≤ a → 0 ≤ b → (sIf (tOf (o2 (o2 (oVar 0) (oC (.int 3)) fIxA) (oVar 1) fLtI)) blNew sNil) ([Pot cs i a b, li n] ++ List.replicate 4 .un) = .nx [Pot cs i a b, li n, u, v, w, .un] → True := fun _ _ _ _ _ _ _ _ _ _ => trivial
  by_cases c : b < n
  · obtain ⟨x, w', hx, e⟩ := bl_new cs i a b n .un .un .un .un hc hi
    refine ⟨x.fmod n, Pot cs (i + 1) (x.fdiv n) (x.fdiv n), ?_, fm0 _ h.1, Int.fmod_lt_of_pos _ h.1, cs, i + 1, _, _, rfl, hc, by omega, Int.fdiv_nonneg hx (by omega), Int.fdiv_nonneg hx (by omega)⟩
    have s1 : (sIf (tOf (o2 (o2 (oVar 0) (oC (.int 3)) fIxA) (oVar 1) fLtI)) blNew sNil) [Pot cs i a b, li n, .un, .un, .un, .un] = blNew [Pot cs i a b, li n, .un, .un, .un, .un] := by
      simp [sIf, tOf, o2, oOp, aCons, aNil, gets, Rf.get, oVar, oC, dat_ok, ml_ok, pot_ok, ix_pot3, lt_ok, c]
    unfold g__law_below
    rw [hm]
    simp [defM, okArgs, back, dat_own, ml_own, un_own, pot_own, sSeq, s1, e, bl_tail _ _ _ _ _ _ _ _ _ h]
  · refine ⟨a.fmod n, Pot cs i (a.fdiv n) (b.fdiv n), ?_, fm0 _ h.1, Int.fmod_lt_of_pos _ h.1, cs, i, _, _, rfl, hc, hi, Int.fdiv_nonneg ha (by omega), Int.fdiv_nonneg hb (by omega)⟩
    have s1 : (sIf (tOf (o2 (o2 (oVar 0) (oC (.int 3)) fIxA) (oVar 1) fLtI)) blNew sNil) [Pot cs i a b, li n, .un, .un, .un, .un] = .nx [Pot cs i a b, li n, .un, .un, .un, .un] := by
      simp [sIf, sNil, tOf, o2, oOp, aCons, aNil, gets, Rf.get, oVar, oC, dat_ok, ml_ok, pot_ok, ix_pot3, lt_ok, c]
    unfold g__law_below
    rw [hm]
    simp [defM, okArgs, back, dat_own, ml_own, un_own, pot_own, sSeq, s1, bl_tail _ _ _ _ _ _ _ _ _ h]
end Lw
set_option maxRecDepth 100000
set_option maxHeartbeats 4000000
namespace Lw
open PySem PL
/-! loops and comprehensions by what they keep -/
theorem forD_keep {g : GM} {n : SM} (I : List D → LEnv → Prop) : ∀ (ds pre : List D) (env : LEnv), I pre env → (∀ pre d e, d ∈ ds → I pre e → ∃ e1 e2, g d e = some e1 ∧ (n e1 = .nx e2 ∨ n e1 = .ct e2) ∧ I (pre ++ [d]) e2) → ∃ env', forD g n ds env = .nx env' ∧ I (pre ++ ds) env'
  | [], pre, env, h, _ => ⟨env, rfl, by simpa using h⟩
  | d :: ds, pre, env, h, s => by
    obtain ⟨e1, e2, h1, h2, h3⟩ := s pre d env List.mem_cons_self h
    obtain ⟨env', h4, h5⟩ := forD_keep I ds (pre ++ [d]) e2 h3 fun pre d e m => s pre d e (List.mem_cons_of_mem _ m)
    refine ⟨env', ?_, by simpa using h5⟩
    unfold forD
    simp only [h1]
    rcases h2 with h2 | h2 <;> simp only [h2] <;> exact h4
theorem lcD_keep {g : GM} {t : TM} {m : OM} {vs : List Nat} (I : List D → List D → LEnv → Prop) : ∀ (ds pre acc : List D) (env : LEnv), I pre acc env → acc.length + ds.length ≤ sizeLine →
    (∀ pre acc d e, d ∈ ds → I pre acc e → ∃ e1 b e2, g d e = some e1 ∧ t e1 = .val b e2 ∧ (b = false → I (pre ++ [d]) acc (wipeE e2 vs)) ∧ (b = true → ∃ y e3, oFrz m e2 = .val (.tmp (.dat y)) e3 ∧ I (pre ++ [d]) (acc ++ [y]) (wipeE e3 vs))) →
    ∃ acc' env', lcD g t m vs ds acc env = .val acc' env' ∧ I (pre ++ ds) acc' env' ∧ acc'.length ≤ acc.length + ds.length
  | [], pre, acc, env, h, _, _ => ⟨acc, env, rfl, by simpa using h, by simp⟩
  | d :: ds, pre, acc, env, h, z, s => by
    obtain ⟨e1, b, e2, h1, h2, h3, h4⟩ := s pre acc d env List.mem_cons_self h
    have z' : acc.length + 1 + ds.length ≤ sizeLine := by rw [List.length_cons] at z; omega
    cases b with
    | false =>
      obtain ⟨a', env', q1, q2, q3⟩ := lcD_keep I ds (pre ++ [d]) acc _ (h3 rfl) (by omega) fun pre acc d e m => s pre acc d e (List.mem_cons_of_mem _ m)
      refine ⟨a', env', ?_, by simpa using q2, by rw [List.length_cons]; omega⟩
      unfold lcD
      simp only [h1, h2]
      exact q1
    | true =>
      obtain ⟨y, e3, p1, p2⟩ := h4 rfl
      obtain ⟨a', env', q1, q2, q3⟩ := lcD_keep I ds (pre ++ [d]) (acc ++ [y]) _ p2 (by rw [List.length_append, List.length_singleton]; omega) fun pre acc d e m => s pre acc d e (List.mem_cons_of_mem _ m)
      refine ⟨a', env', ?_, by simpa using q2, by rw [List.length_append, List.length_singleton] at q3; rw [List.length_cons]; omega⟩
      unfold lcD
      simp only [h1, h2, p1]
      rw [if_pos (by omega)]
      exact q1
/-- the same, nothing changing: a filter and a map -/
theorem lcD_map {g : GM} {t : TM} {m : OM} {vs : List Nat} {c : D → Bool} {f : D → D} {ds : List D} {env : LEnv} (z : ds.length ≤ sizeLine)
    (s : ∀ d ∈ ds, ∃ e, g d env = some e ∧ t e = .val (c d) e ∧ (c d = true → oFrz m e = .val (.tmp (.dat (f d))) e) ∧ wipeE e vs = env) : lcD g t m vs ds [] env = .val ((ds.filter c).map f) env := by
  obtain ⟨a, e, h1, ⟨h2, h3⟩, _⟩ := lcD_keep (g := g) (t := t) (m := m) (vs := vs) (fun pre acc e => acc = (pre.filter c).map f ∧ e = env) ds [] [] env ⟨rfl, rfl⟩ (by simpa using z) fun pre acc d e hd ⟨i1, i2⟩ => by
    subst i2
    obtain ⟨e1, q1, q2, q3, q4⟩ := s d hd
    refine ⟨e1, c d, e1, q1, q2, fun hc => ⟨?_, q4⟩, fun hc => ⟨f d, e1, q3 hc, ?_, q4⟩⟩
    · rw [List.filter_append, List.map_append, i1]; simp [hc]
    · rw [List.filter_append, List.map_append, i1]; simp [hc]
  subst h3
  rw [h1, h2]
  simp
/-! the calls that draw -/
theorem own_getD {env : LEnv} {i : Nat} {lv : LV} (h : env[i]? = some lv) : env.getD i .un = lv := by rw [List.getD_eq_getElem?_getD, h]; rfl
theorem var_of {env : LEnv} {i : Nat} {lv : LV} (h : env[i]? = some lv) (k : lv.ok = true) : oVar i env = .val (.var i) env := by simp [oVar, h, k]
theorem Drawn.ok {p : LV} (h : Drawn p) : p.ok = true := by obtain ⟨_, _, _, _, rfl, _⟩ := h; rfl
theorem Drawn.own {p : LV} (h : Drawn p) : p.isOwn = true := by obtain ⟨_, _, _, _, rfl, _⟩ := h; rfl
theorem call_below {env : LEnv} {i : Nat} {p : LV} {m : OM} {n : Int} (h : env[i]? = some p) (d : Drawn p) (hm : m env = .val (.tmp (li n)) env) (hn : 0 < n ∧ n < 1073741824) :
    ∃ r p', oCall g__law_below (aCons (oVar i) (aCons m aNil)) env = .val (.tmp (li r)) (env.set i p') ∧ 0 ≤ r ∧ r < n ∧ Drawn p' := by
  obtain ⟨r, p', e, h0, h1, d'⟩ := below p n d hn
  refine ⟨r, p', ?_, h0, h1, d'⟩
  simp [oCall, aCons, aNil, var_of h d.ok, hm, gets, Rf.get, h, d.ok, ownVars, own_getD h, d.own, e, okBack, dat_ok, dat_own, wb, d'.own]
theorem pick (p : LV) (ds : List D) (hp : Drawn p) (h : ds ≠ []) (hz : ds.length < 1073741824) : ∃ d p', g__law_pick [p, .dat (.lst ds)] = .ret (.dat d) [p', .dat (.lst ds)] ∧ d ∈ ds ∧ Drawn p' := by
  have hl : 0 < ds.length := List.length_pos_iff.mpr h
  obtain ⟨r, p', e, h0, h1, d'⟩ := call_below (env := [p, .dat (.lst ds)]) (i := 0) (m := oFrz (oOp (aCons (oVar 1) (aNil)) fLenA)) (n := ds.length) rfl hp (by simp [oFrz, oOp, aCons, aNil, gets, Rf.get, oVar, dat_ok, len_lst, LV.frz]) ⟨by omega, by omega⟩
  obtain ⟨k, hk⟩ : ∃ k : Nat, r = k := ⟨_, (Int.toNat_of_nonneg h0).symm⟩
  subst hk
  have hk' : k < ds.length := by omega
  have hx := List.getElem?_eq_getElem hk'
  refine ⟨ds[k], p', ?_, List.getElem_mem hk', d'⟩
  have x1 := ix_lst hx
  have e1 : oVar 1 [p, .dat (.lst ds)] = .val (.var 1) [p, .dat (.lst ds)] := rfl
  have e2 : oCall g__law_below (aCons (oVar 0) (aCons (oFrz (oOp (aCons (oVar 1) (aNil)) fLenA)) (aNil))) [p, .dat (.lst ds)] = .val (.tmp (li k)) [p', .dat (.lst ds)] := e
  have hm : m__law_pick = sRet (o2 (oVar 1) (oCall g__law_below (aCons (oVar 0) (aCons (oFrz (oOp (aCons (oVar 1) (aNil)) fLenA)) (aNil)))) fIxA) := rfl
  unfold g__law_pick
  rw [hm]
  simp [defM, okArgs, back, dat_own, sRet, o2, oOp, aCons, aNil] at e2 ⊢
  simp [e1, e2, gets, Rf.get, dat_ok, x1]
theorem call_pick {env : LEnv} {i : Nat} {p : LV} {m : OM} {ds : List D} (h : env[i]? = some p) (d : Drawn p) (hm : m env = .val (.tmp (.dat (.lst ds))) env) (hn : ds ≠ []) (hz : ds.length < 1073741824) :
    ∃ y p', oCall g__law_pick (aCons (oVar i) (aCons m aNil)) env = .val (.tmp (.dat y)) (env.set i p') ∧ y ∈ ds ∧ Drawn p' := by
  obtain ⟨y, p', e, h0, d'⟩ := pick p ds d hn hz
  refine ⟨y, p', ?_, h0, d'⟩
  simp [oCall, aCons, aNil, var_of h d.ok, hm, gets, Rf.get, h, d.ok, ownVars, own_getD h, d.own, e, okBack, dat_ok, dat_own, wb, d'.own]
end Lw
set_option maxRecDepth 100000
set_option maxHeartbeats 4000000
namespace Lw
open PySem PL
theorem abs_ok {i : Int} : fAbs [li i] = some (li (if i < 0 then -i else i)) := by simp [fAbs, f1, gAbs]
theorem sl_s {ds : List D} {lo hi : Option Int} : slA (.dat (.slst ds)) lo hi = some (.ml (cutD ds lo hi)) := by simp [slA, slL]
theorem cut17 (ds : List D) : cutD ds none (some 17) = ds.take 17 := by
  unfold cutD
  simp [HT.sIx]
theorem cut60 (ds : List D) : (∀ d ∈ cutD ds (some 17) (some 60), d ∈ ds) ∧ (cutD ds (some 17) (some 60) ≠ [] → 17 < ds.length) := by
  unfold cutD
  constructor
  · intro d hd
    exact List.mem_of_mem_drop (List.mem_of_mem_take hd)
  · intro h
    rcases Nat.lt_or_ge 17 ds.length with c | c
    · exact c
    · exfalso
      apply h
      have : HT.sIx ds.length 0 (some 17) = ds.length := by simp [HT.sIx]; omega
      rw [this]
      simp
theorem enum_mem : ∀ {ds : List D} {n : Nat} {d : D}, d ∈ enumD n ds → ∃ k x, d = .tup [.int (k : Nat), x] ∧ x ∈ ds
  | [], _, _, h => by simp [enumD] at h
  | x :: ds, n, d, h => by
    unfold enumD at h
    rcases List.mem_cons.mp h with rfl | h
    · exact ⟨n, x, rfl, List.mem_cons_self⟩
    · obtain ⟨k, y, e, m⟩ := enum_mem h
      exact ⟨k, y, e, List.mem_cons_of_mem _ m⟩
def absI (i : Int) : Int := if i < 0 then -i else i
theorem abs0 (i : Int) : 0 ≤ absI i := by unfold absI; split <;> omega
theorem pot_of (ns : List Int) (hns : ns.length ≤ 63) : ∃ p, g__law_pot_of [scr ns] = .ret p [scr ns] ∧ Drawn p := by
  have hm : m__law_pot_of = sSeq (sSet 1 (oLc (iAnyK (oSl (oVar 0) (pNone) (pSome (oC (.int 17))) slA)) (gmName 3) (tYesM) (oOp (aCons (oVar 3) (aNil)) fAbs) [3])) (sSeq (sFor (iEnumA (oSl (oVar 0) (pSome (oC (.int 17))) (pSome (oC (.int 60))) slA)) (gmTup 2 (gmCons (gmName 2) (gmCons (gmName 3) (gmNil)))) (sPut (o2 (o2 (oVar 1) (o2 (oVar 2) (oC (.int 17)) fModI) fIxA) (oOp (aCons (oVar 3) (aNil)) fAbs) fAdd) (oVar 1) (o2 (oVar 2) (oC (.int 17)) fModI) stA)) (sRet (oOp (aCons (oFrz (oVar 1)) (aCons (oC (.int 0)) (aCons (oC (.int 0)) (aCons (oC (.int 0)) (aNil))))) fLst))) := rfl
  -- the cells
  have c1 : lcD (gmName 3) tYesM (oOp (aCons (oVar 3) (aNil)) fAbs) [3] ((ns.map D.int).take 17) [] [scr ns, .un, .un, .un] = .val (((ns.take 17).map absI).map .int) [scr ns, .un, .un, .un] := by
    have q := lcD_map (g := gmName 3) (t := tYesM) (m := oOp (aCons (oVar 3) (aNil)) fAbs) (vs := [3]) (c := fun _ => true) (f := fun d => match d with | .int i => .int (absI i) | x => x) (ds := (ns.map D.int).take 17) (env := [scr ns, .un, .un, .un])
      (by rw [sizeLine_eq, List.length_take]; omega) (fun d hd => by
        obtain ⟨i, _, rfl⟩ := List.mem_map.mp (List.mem_of_mem_take hd)
        refine ⟨[scr ns, .un, .un, li i], rfl, rfl, fun _ => ?_, rfl⟩
        simp [oFrz, oOp, aCons, aNil, gets, Rf.get, oVar, dat_ok, abs_ok, LV.frz, absI])
    rw [q]
    congr 1
    rw [List.filter_eq_self.mpr (fun _ _ => rfl), ← List.map_take, List.map_map, List.map_map]
    rfl
  have s1 : (sSet 1 (oLc (iAnyK (oSl (oVar 0) (pNone) (pSome (oC (.int 17))) slA)) (gmName 3) (tYesM) (oOp (aCons (oVar 3) (aNil)) fAbs) [3])) [scr ns, .un, .un, .un] = .nx [scr ns, .ml (((ns.take 17).map absI).map .int), .un, .un] := by
    have i1 : (iAnyK (oSl (oVar 0) (pNone) (pSome (oC (.int 17))) slA)) [scr ns, .un, .un, .un] = .val ((ns.map D.int).take 17) [scr ns, .un, .un, .un] := by
      simp [iAnyK, iOr, iSeq, oSl, pNone, pSome, oVar, oC, Rf.get, scr, dat_ok, ml_ok, sl_s, cut17, oFrz, LV.frz]
    simp only [sSet, oLc, i1, wipeE, List.set, c1, restE, List.getElem?_cons_succ, List.getElem?_cons_zero]
  -- the rest is added
  have s2 : ∃ (cs : List Int) (x y : LV), (∀ c ∈ cs, (0 : Int) ≤ c) ∧ (sFor (iEnumA (oSl (oVar 0) (pSome (oC (.int 17))) (pSome (oC (.int 60))) slA)) (gmTup 2 (gmCons (gmName 2) (gmCons (gmName 3) (gmNil)))) (sPut (o2 (o2 (oVar 1) (o2 (oVar 2) (oC (.int 17)) fModI) fIxA) (oOp (aCons (oVar 3) (aNil)) fAbs) fAdd) (oVar 1) (o2 (oVar 2) (oC (.int 17)) fModI) stA)) [scr ns, .ml (((ns.take 17).map absI).map .int), .un, .un] = .nx [scr ns, .ml (cs.map .int), x, y] := by
    have i1 : (iEnumA (oSl (oVar 0) (pSome (oC (.int 17))) (pSome (oC (.int 60))) slA)) [scr ns, .ml (((ns.take 17).map absI).map .int), .un, .un] = .val (enumD 0 (cutD (ns.map D.int) (some 17) (some 60))) [scr ns, .ml (((ns.take 17).map absI).map .int), .un, .un] := by
      simp [iEnumA, iOr, iEnumM, oSl, pNone, pSome, oVar, oC, Rf.get, scr, dat_ok, ml_ok, sl_s, oFrz, LV.frz]
    obtain ⟨k1, k2⟩ := cut60 (ns.map D.int)
    obtain ⟨env', h1, cs, x, y, h2, h3, _⟩ := forD_keep (g := gmTup 2 (gmCons (gmName 2) (gmCons (gmName 3) (gmNil)))) (n := sPut (o2 (o2 (oVar 1) (o2 (oVar 2) (oC (.int 17)) fModI) fIxA) (oOp (aCons (oVar 3) (aNil)) fAbs) fAdd) (oVar 1) (o2 (oVar 2) (oC (.int 17)) fModI) stA)
      (fun _ env => ∃ (cs : List Int) (x y : LV), env = [scr ns, .ml (cs.map .int), x, y] ∧ (∀ c ∈ cs, (0 : Int) ≤ c) ∧ (17 < ns.length → cs.length = 17)) (enumD 0 (cutD (ns.map D.int) (some 17) (some 60))) [] [scr ns, .ml (((ns.take 17).map absI).map .int), .un, .un]
      ⟨(ns.take 17).map absI, .un, .un, rfl, fun c hc => by obtain ⟨i, _, rfl⟩ := List.mem_map.mp hc; exact abs0 i, fun h => by rw [List.length_map, List.length_take]; omega⟩ (fun pre d e hd ⟨cs, x, y, he, h0, hl⟩ => by
        subst he
        obtain ⟨k, z, rfl, hz⟩ := enum_mem hd
        obtain ⟨i, _, rfl⟩ := List.mem_map.mp (k1 _ hz)
        have h17 : cs.length = 17 := hl (by
          have := k2 (fun q => by rw [q] at hd; simp [enumD] at hd)
          simpa using this)
        have f0 := fm0 (k : Int) (p := 17) (by decide)
        have f1 := Int.fmod_lt_of_pos (k : Int) (b := 17) (by decide)
        obtain ⟨j, hj⟩ : ∃ j : Nat, (k : Int).fmod 17 = j := ⟨_, (Int.toNat_of_nonneg f0).symm⟩
        have hj' : j < cs.length := by omega
        have x1 : fIxA [.ml (cs.map .int), li (j : Int)] = some (.dat (.int cs[j])) := ix_ml (by rw [List.getElem?_map, List.getElem?_eq_getElem hj']; rfl)
        have m1 : fModI [li (k : Int), li 17] = some (li (j : Int)) := by rw [← hj]; exact mod_ok (by decide)
        have p1 : stA (.ml (cs.map .int)) (li (j : Int)) (.int (cs[j] + absI i)) = some (.ml ((cs.map .int).set j (.int (cs[j] + absI i)))) := put_ml (by simpa using hj')
        have a1 : fAbs [li i] = some (li (absI i)) := abs_ok
        refine ⟨[scr ns, .ml (cs.map .int), li k, li i], [scr ns, .ml ((cs.set j (cs[j] + absI i)).map .int), li k, li i], rfl, .inl ?_, cs.set j (cs[j] + absI i), li k, li i, rfl, fun c hc => ?_, fun h => by rw [List.length_set]; exact hl h⟩
        · rw [List.map_set]
          simp [sPut, o2, oOp, aCons, aNil, gets, Rf.get, oVar, oC, dat_ok, ml_ok, ml_own, oFrz, LV.frz, m1, x1, a1, add_ok, p1]
        · rcases List.mem_or_eq_of_mem_set hc with hc | rfl
          · exact h0 c hc
          · have := h0 _ (List.getElem_mem hj')
            have := abs0 i
            omega)
    exact ⟨cs, x, y, h3, by simp only [sFor, i1]; rw [h1, h2]⟩
  obtain ⟨cs, x, y, h0, s2⟩ := s2
  refine ⟨Pot cs 0 0 0, ?_, cs, 0, 0, 0, rfl, h0, by omega, by omega, by omega⟩
  unfold g__law_pot_of
  rw [hm]
  have e0 : [scr ns] ++ List.replicate (4 - [scr ns].length) LV.un = [scr ns, .un, .un, .un] := rfl
  have ok : okArgs [] [scr ns] = true := rfl
  unfold defM
  rw [if_pos ok, e0]
  simp only [sSeq, s1, s2]
  simp [sRet, oOp, aCons, aNil, gets, Rf.get, oVar, oC, dat_ok, ml_ok, oFrz, LV.frz, fLst, data, LV.datum, back, Pot, sizeLine_eq]
end Lw
set_option maxRecDepth 100000
set_option maxHeartbeats 4000000
namespace Lw
open PySem PL
theorem cut_to (ds : List D) (r : Nat) : cutD ds none (some (r : Int)) = ds.take r := by
  unfold cutD
  have e : HT.sIx ds.length ds.length (some (r : Int)) = min r ds.length := by
    unfold HT.sIx
    simp only
    rw [if_neg (by omega)]
    simp
  have e0 : HT.sIx ds.length 0 none = 0 := rfl
  rw [e, e0]
  simp
theorem cut_from (ds : List D) (r : Nat) : cutD ds (some (r : Int)) none = ds.drop r := by
  unfold cutD
  have e : HT.sIx ds.length 0 (some (r : Int)) = min r ds.length := by
    unfold HT.sIx
    simp only
    rw [if_neg (by omega)]
    simp
  have e0 : HT.sIx ds.length ds.length none = ds.length := rfl
  rw [e, e0]
  rcases Nat.le_total r ds.length with h | h
  · rw [Nat.min_eq_left h]
    exact List.take_of_length_le (by simp)
  · rw [Nat.min_eq_right h]
    rw [List.drop_eq_nil_of_le h]
    simp
theorem addL_ok {as bs : List D} (h : as.length + bs.length ≤ sizeLine) : fAdd [.ml as, .ml bs] = some (.ml (as ++ bs)) := by
  simp [fAdd, fOr, fAddI, f2, gI, fAddS, gAddS, fAddL, gAddL, LV.items, h]
theorem sl_ml {ds : List D} {lo hi : Option Int} : slA (.ml ds) lo hi = some (.ml (cutD ds lo hi)) := by simp [slA, slL]
theorem tuple_ml {ds : List D} : fTuple [.ml ds] = some (.dat (.tup ds)) := by simp [fTuple, f1, gTuple]
theorem mu_append {env env1 : LEnv} {i : Nat} {ms : AM} {ds : List D} {d : D} (h : env[i]? = some (.ml ds)) (hm : ms env = .val [.tmp (.dat d)] env1) (h1 : env1[i]? = some (.ml ds)) (hz : ds.length < sizeLine) : sExpr (oMu "list" (oVar i) ms mAppend) env = .nx (env1.set i (.ml (ds ++ [d]))) := by
  have v : oVar i env = .val (.var i) env := var_of h rfl
  have g0 : (Rf.var i).get env = some (.ml ds) := by simp [Rf.get, h, ml_ok]
  have g1 : (Rf.var i).get env1 = some (.ml ds) := by simp [Rf.get, h1, ml_ok]
  have g2 : gets [.tmp (.dat d)] env1 = some [.dat d] := by simp [gets, Rf.get, dat_ok]
  have ty : (LV.ml ds).ty = "list" := rfl
  have ap : mAppend (.ml ds) [.dat d] = some (.dat .non, .ml (ds ++ [d])) := by simp only [mAppend, hz, if_true]
  simp only [sExpr, oMu, v, g0, ty, if_true, hm, g1, g2, ap, dat_ok, ml_own, Bool.and_self]
theorem frz_tuple {m : OM} {e1 e2 : LEnv} {ds : List D} (h : m e1 = .val (.tmp (.ml ds)) e2) : (oFrz (oOp (aCons m aNil) fTuple)) e1 = .val (.tmp (.dat (.tup ds))) e2 := by
  simp only [oFrz, oOp, aCons, h, aNil, gets, Rf.get, ml_ok, dat_ok, if_true, tuple_ml, LV.frz]
theorem frz_dat {m : OM} {e1 e2 : LEnv} {d : D} (h : m e1 = .val (.tmp (.dat d)) e2) : oFrz m e1 = .val (.tmp (.dat d)) e2 := by
  simp only [oFrz, h, LV.frz]
theorem frz_tup2 {m1 m2 : OM} {x y : LV} {e1 e2 e3 : LEnv} (q1 : m1 e1 = .val (.tmp x) e2) (q2 : m2 e2 = .val (.tmp y) e3) (k1 : x.ok = true) (k2 : y.ok = true) {z : D} (q3 : fTup [x, y] = some (.dat z)) : (aCons (oFrz (oOp (aCons m1 (aCons m2 aNil)) fTup)) aNil) e1 = .val [.tmp (.dat z)] e3 := by
  simp only [aCons, oFrz, oOp, q1, q2, aNil, gets, Rf.get, k1, k2, if_true, q3, dat_ok, LV.frz]
theorem range_val {m : OM} {e1 e2 : LEnv} {k : Nat} (h : m e1 = .val (.tmp (li (k : Int))) e2) (hk : k < 1000000) : iRange1 (aCons m aNil) e1 = .val (rangeD 0 k) e2 := by
  have z : -(2 ^ 62) ≤ (k : Int) ∧ (k : Int) < 2 ^ 62 := by omega
  simp only [iRange1, aCons, h, aNil, gets, Rf.get, dat_ok, if_true]
  rw [if_pos z]
  simp
theorem par2_val {i j : Nat} {m1 m2 : OM} {x y : LV} {e1 e2 e3 : LEnv} (q1 : m1 e1 = .val (.tmp x) e2) (q2 : m2 e2 = .val (.tmp y) e3) : sPar2 i j (aCons m1 (aCons m2 aNil)) e1 = .nx ((e3.set i x).set j y) := by
  simp only [sPar2, aCons, q1, q2, aNil]
theorem set_val {i : Nat} {m : OM} {x : LV} {e1 e2 : LEnv} (q : m e1 = .val (.tmp x) e2) : sSet i m e1 = .nx (e2.set i x) := by simp only [sSet, q]
theorem seq_nx {n1 n2 : SM} {e1 e2 : LEnv} (h : n1 e1 = .nx e2) : sSeq n1 n2 e1 = n2 e2 := by simp only [sSeq, h]
theorem for_val {i : IM} {g : GM} {n : SM} {ds : List D} {e1 e2 : LEnv} (h : i e1 = .val ds e2) : sFor i g n e1 = forD g n ds e2 := by simp only [sFor, h]
theorem var_get {env : LEnv} {i : Nat} {lv : LV} (h : env[i]? = some lv) (k : lv.ok = true) : (Rf.var i).get env = some lv := by simp [Rf.get, h, k]
theorem tmp_get {env : LEnv} {lv : LV} (k : lv.ok = true) : (Rf.tmp lv).get env = some lv := by simp [Rf.get, k]
theorem len_val {i : Nat} {env : LEnv} {ds : List D} (h : env[i]? = some (.ml ds)) : oFrz (oOp (aCons (oVar i) aNil) fLenA) env = .val (.tmp (li (ds.length : Int))) env := by
  have v := var_of h rfl
  have g := var_get h rfl
  simp only [oFrz, oOp, aCons, v, aNil, gets, g, len_ml, dat_ok, if_true, LV.frz]
theorem inc_val {i : Nat} {env : LEnv} {n : Nat} (h : env[i]? = some (li (n : Int))) : o2 (oVar i) (oC (.int 1)) fAdd env = .val (.tmp (li ((n + 1 : Nat) : Int))) env := by
  have v := var_of h rfl
  have g := var_get h rfl
  have t : (Rf.tmp (li 1)).get env = some (li 1) := rfl
  have e : ((n : Int) + 1) = ((n + 1 : Nat) : Int) := by omega
  simp only [o2, oOp, aCons, v, oC, aNil, gets, g, t, add_ok, e, dat_ok, if_true]
theorem rot_val {i j : Nat} {env : LEnv} {ds : List D} {r : Nat} (h : env[i]? = some (.ml ds)) (h2 : env[j]? = some (li (r : Int))) (hz : ds.length + ds.length ≤ sizeLine) :
    oOp (aCons (o2 (oSl (oVar i) (pSome (oVar j)) pNone slA) (oSl (oVar i) pNone (pSome (oVar j)) slA) fAdd) aNil) fTuple env = .val (.tmp (.dat (.tup (ds.drop r ++ ds.take r)))) env := by
  have v := var_of h rfl
  have g := var_get h rfl
  have v2 := var_of h2 rfl
  have g2 := var_get h2 rfl
  have p : pSome (oVar j) env = .val (some (r : Int)) env := by simp only [pSome, v2, g2]
  have a1 : oSl (oVar i) (pSome (oVar j)) pNone slA env = .val (.tmp (.ml (ds.drop r))) env := by simp only [oSl, v, p, pNone, g, sl_ml, cut_from, ml_ok, if_true]
  have a2 : oSl (oVar i) pNone (pSome (oVar j)) slA env = .val (.tmp (.ml (ds.take r))) env := by simp only [oSl, v, p, pNone, g, sl_ml, cut_to, ml_ok, if_true]
  have ad : fAdd [.ml (ds.drop r), .ml (ds.take r)] = some (.ml (ds.drop r ++ ds.take r)) := addL_ok (by simp only [List.length_drop, List.length_take]; omega)
  simp only [oOp, aCons, o2, a1, a2, aNil, gets, tmp_get ml_ok, ad, ml_ok, if_true, tuple_ml, dat_ok]
theorem put_dict {i j : Nat} {m : OM} {env env1 : LEnv} {kvs : List (L2.Key × D)} {x : Str} {d : D} (hm : m env = .val (.tmp (.dat d)) env1) (h : env1[i]? = some (.md kvs)) (h2 : env1[j]? = some (.dat (.str x))) (hn : ∀ kv ∈ kvs, kv.1 ≠ .inr x) (hz : kvs.length < sizeLine) :
    sPut m (oVar i) (oVar j) stA env = .nx (env1.set i (.md (kvs ++ [(.inr x, d)]))) := by
  have v := var_of h rfl
  have g := var_get h rfl
  have v2 := var_of h2 rfl
  have g2 := var_get h2 rfl
  have f := frz_dat hm
  have pu : putD kvs (.inr x) d = kvs ++ [(.inr x, d)] := by
    unfold putD
    rw [if_neg]
    intro q
    obtain ⟨kv, h1, h2⟩ := List.any_eq_true.mp q
    exact hn kv h1 (of_decide_eq_true h2)
  have st : stA (.md kvs) (.dat (.str x)) d = some (.md (kvs ++ [(.inr x, d)])) := by simp only [stA, stL, stD, keyD, hz, if_true, pu]
  simp only [sPut, aCons, f, v, v2, aNil, tmp_get dat_ok, g, g2, st, md_own, Bool.and_self, if_true]
theorem forD_pre {g : GM} {n : SM} (I : List D → LEnv → Prop) (ds0 : List D) (s : ∀ pre d suf e, pre ++ d :: suf = ds0 → I pre e → ∃ e1 e2, g d e = some e1 ∧ (n e1 = .nx e2 ∨ n e1 = .ct e2) ∧ I (pre ++ [d]) e2) : ∀ (ds pre : List D) (env : LEnv), I pre env → pre ++ ds = ds0 → ∃ env', forD g n ds env = .nx env' ∧ I ds0 env'
  | [], pre, env, h, e => ⟨env, rfl, by rw [List.append_nil] at e; rw [← e]; exact h⟩
  | d :: ds, pre, env, h, e => by
    obtain ⟨e1, e2, h1, h2, h3⟩ := s pre d ds env e h
    obtain ⟨env', h4, h5⟩ := forD_pre I ds0 s ds (pre ++ [d]) e2 h3 (by simpa using e)
    refine ⟨env', ?_, h5⟩
    unfold forD
    simp only [h1]
    rcases h2 with h2 | h2 <;> simp only [h2] <;> exact h4
theorem rangeD_len (lo : Int) (n : Nat) : (rangeD lo n).length = n := by simp [rangeD]
theorem lst1_val {m : AM} {e1 e2 : LEnv} {d : D} (h : m e1 = .val [.tmp (.dat d)] e2) : oOp m fLst e1 = .val (.tmp (.ml [d])) e2 := by
  have f : fLst [.dat d] = some (.ml [d]) := by simp [fLst, data, LV.datum, sizeLine_eq]
  simp only [oOp, h, gets, tmp_get dat_ok, f, ml_ok, if_true]
theorem tup0 (e : LEnv) : oFrz (oOp aNil fTup) e = .val (.tmp (.dat (.tup []))) e := by
  have f : fTup [] = some (.dat (.tup [])) := by simp [fTup, data]
  simp only [oFrz, oOp, aNil, gets, f, dat_ok, if_true, LV.frz]
theorem par3_val {i j k : Nat} {m1 m2 m3 : OM} {x y z : LV} {e1 e2 e3 e4 : LEnv} (q1 : m1 e1 = .val (.tmp x) e2) (q2 : m2 e2 = .val (.tmp y) e3) (q3 : m3 e3 = .val (.tmp z) e4) : sPar3 i j k (aCons m1 (aCons m2 (aCons m3 aNil))) e1 = .nx (((e4.set i x).set j y).set k z) := by
  simp only [sPar3, aCons, q1, q2, q3, aNil]
theorem disp_str3 (a b c : Str) (env : LEnv) : oOp (aCons (oC (.str a)) (aCons (oC (.str b)) (aCons (oC (.str c)) aNil))) fLst env = .val (.tmp (.ml [.str a, .str b, .str c])) env := by
  have f : fLst [.dat (.str a), .dat (.str b), .dat (.str c)] = some (.ml [.str a, .str b, .str c]) := by simp [fLst, data, LV.datum, sizeLine_eq]
  simp only [oOp, aCons, oC, aNil, gets, tmp_get dat_ok, f, ml_ok, if_true]
theorem walk_own {i : Nat} {env : LEnv} {ds : List D} (h : env[i]? = some (.ml ds)) : iAnyK (oVar i) env = .val ds (env.set i (.dat (.lst ds))) := by
  have v := var_of h rfl
  have f : oFrz (oVar i) env = .val (.tmp (.dat (.lst ds))) (env.set i (.dat (.lst ds))) := by simp only [oFrz, v, h, LV.frz]
  simp only [iAnyK, iOr, iSeq, f]
theorem forD_find {g : GM} {n : SM} (I : LEnv → Prop) (c : D → Bool) (r : D → LV) : ∀ (ds : List D) (env : LEnv), I env → (∀ d e, d ∈ ds → I e → ∃ e1, g d e = some e1 ∧ ((c d = false ∧ ∃ e2, n e1 = .nx e2 ∧ I e2) ∨ (c d = true ∧ ∃ e2, n e1 = .rt (r d) e2 ∧ I e2))) →
    ∃ e2, forD g n ds env = (match ds.find? c with | some d => .rt (r d) e2 | none => .nx e2) ∧ I e2
  | [], env, h, _ => ⟨env, rfl, h⟩
  | d :: ds, env, h, s => by
    obtain ⟨e1, h1, q⟩ := s d env List.mem_cons_self h
    rcases q with ⟨hc, e2, h2, h3⟩ | ⟨hc, e2, h2, h3⟩
    · obtain ⟨e3, h4, h5⟩ := forD_find I c r ds e2 h3 fun d e m => s d e (List.mem_cons_of_mem _ m)
      refine ⟨e3, ?_, h5⟩
      unfold forD
      simp only [h1, h2, List.find?_cons, hc]
      exact h4
    · refine ⟨e2, ?_, h3⟩
      unfold forD
      simp only [h1, h2, List.find?_cons, hc]
theorem frz_var {env : LEnv} {i : Nat} {d : D} (h : env[i]? = some (.dat d)) : oFrz (oVar i) env = .val (.tmp (.dat d)) env := by
  have v := var_of h rfl
  have w : env.set i (.dat d) = env := by
    apply List.ext_getElem?
    intro j
    by_cases e : j = i
    · subst e; rw [h, List.getElem?_set_self (List.getElem?_eq_some_iff.mp h).1]
    · rw [List.getElem?_set_ne (Ne.symm e)]
  simp only [oFrz, v, h, LV.frz, w]
theorem items_val {env : LEnv} {i : Nat} {kvs : List (L2.Key × D)} {f : List (L2.Key × D) → List D} (h : env[i]? = some (.dat (.dic kvs))) : iDic f (oVar i) env = .val (f kvs) env := by simp only [iDic, frz_var h]
theorem walk_tup {m : OM} {e1 e2 : LEnv} {ds : List D} (h : oFrz m e1 = .val (.tmp (.dat (.tup ds))) e2) (h' : e2 = e1) : iAnyK m e1 = .val ds e1 := by
  subst h'
  simp only [iAnyK, iOr, iSeq, iTp, h]
theorem ix_tup0 {ds : List D} {d : D} : fIxA [.dat (.tup (d :: ds)), li 0] = some (.dat d) := ix_tup (k := 0) rfl
theorem ix_tup1 {ds : List D} {d d' : D} : fIxA [.dat (.tup (d :: d' :: ds)), li 1] = some (.dat d') := ix_tup (k := 1) rfl
theorem ix_val {i : Nat} {env : LEnv} {lv : LV} {k : Int} {d : D} (h : env[i]? = some lv) (ok : lv.ok = true) (x : fIxA [lv, li k] = some (.dat d)) : o2 (oVar i) (oC (.int k)) fIxA env = .val (.tmp (.dat d)) env := by
  have v := var_of h ok
  have g := var_get h ok
  simp only [o2, oOp, aCons, v, oC, aNil, gets, g, tmp_get dat_ok, x, dat_ok, if_true]
theorem pys_strs : ∀ l : List Str, D.pys (l.map .str) = some (l.map .str)
  | [] => rfl
  | c :: cs => by simp [D.pys, D.py, pys_strs cs]
theorem lay_strs : ∀ l : List Str, (∀ x ∈ l, PyData.strOk x = true) → PyData.canLayAll0 (l.map .str) = true
  | [], _ => rfl
  | c :: cs, h => by simp [PyData.canLayAll0, PyData.canLay0, h c List.mem_cons_self, lay_strs cs fun x m => h x (List.mem_cons_of_mem _ m)]
theorem dep_strs : ∀ l : List Str, PyData.depthAll (l.map .str) = 0
  | [] => rfl
  | c :: cs => by simp [PyData.depthAll, PyData.depth, dep_strs cs]
theorem eq_str {a b : Str} : fEqA [.dat (.str a), .dat (.str b)] = some (.dat (.bl (decide (a = b)))) := by simp [fEqA, fOr, f2, gEqS]
theorem tOf2 {i j : Nat} {env : LEnv} {x y : LV} {b : Bool} {f : List LV → Option LV} (h : env[i]? = some x) (kx : x.ok = true) (h2 : env[j]? = some y) (ky : y.ok = true) (hf : f [x, y] = some (.dat (.bl b))) : tOf (o2 (oVar i) (oVar j) f) env = .val b env := by
  have v := var_of h kx
  have g := var_get h kx
  have v2 := var_of h2 ky
  have g2 := var_get h2 ky
  simp only [tOf, o2, oOp, aCons, v, v2, aNil, gets, g, g2, hf, dat_ok, if_true, tmp_get dat_ok]
theorem pys_len : ∀ {ds : List D} {ps : List PyData}, D.pys ds = some ps → ps.length = ds.length
  | [], ps, h => by simp [D.pys] at h; subst h; rfl
  | d :: ds, ps, h => by
    unfold D.pys at h
    cases e1 : D.py d with
    | none => simp [e1] at h
    | some p =>
      cases e2 : D.pys ds with
      | none => simp [e1, e2] at h
      | some ps' =>
        simp only [e1, e2, Option.some.injEq] at h
        subst h
        simp [pys_len e2]
theorem eq_unit (ds : List D) : fEqA [.dat (.tup ds), .dat (.tup [])] = some (.dat (.bl ds.isEmpty)) := by
  have t : gTe (.dat (.tup ds)) (.dat (.tup [])) = some (.dat (.bl ds.isEmpty)) := by
    cases ds <;> simp [gTe]
  have k : gDe false (.dat (.tup ds)) (.dat (.tup [])) = none := by simp [gDe, LV.dicK]
  have q : fEqD [.dat (.tup ds), .dat (.tup [])] = none ∨ fEqD [.dat (.tup ds), .dat (.tup [])] = some (.dat (.bl ds.isEmpty)) := by
    show gEqD false (.dat (.tup ds)) (.dat (.tup [])) = none ∨ gEqD false (.dat (.tup ds)) (.dat (.tup [])) = some (.dat (.bl ds.isEmpty))
    unfold gEqD
    simp only [LV.py, D.py, D.pys]
    cases e : D.pys ds with
    | none => left; rfl
    | some ps =>
      have l := pys_len e
      simp only
      split
      · right
        cases ds with
        | nil => cases ps with
          | nil => rfl
          | cons _ _ => simp at l
        | cons _ _ => cases ps with
          | nil => simp at l
          | cons _ _ => rfl
      · left; rfl
  have s : f2 (gEqS false) [.dat (.tup ds), .dat (.tup [])] = none := rfl
  rw [fEqA, fOr, s]
  rcases q with q | q <;> simp only [fOr, q, f2, k, t]
theorem tru_val {i : Nat} {env : LEnv} {x : LV} {c : D} {f : List LV → Option LV} {b : Bool} (h : env[i]? = some x) (kx : x.ok = true) (hf : f [x, .dat c] = some (.dat (.bl b))) : tTru (oOp (aCons (oVar i) (aCons (oC c) aNil)) f) env = .val b env := by
  have v := var_of h kx
  have g := var_get h kx
  simp only [tTru, oOp, aCons, v, oC, aNil, gets, g, tmp_get dat_ok, hf, dat_ok, if_true, LV.truth]
theorem call2 {g : FM} {m1 m2 : OM} {d1 d2 r : D} {e : LEnv} (q1 : m1 e = .val (.tmp (.dat d1)) e) (q2 : m2 e = .val (.tmp (.dat d2)) e) (hg : g [.dat d1, .dat d2] = .ret (.dat r) [.dat d1, .dat d2]) : oCall g (aCons m1 (aCons m2 aNil)) e = .val (.tmp (.dat r)) e := by
  simp only [oCall, aCons, q1, q2, aNil, gets, tmp_get dat_ok, hg]
  rfl
theorem call3 {g : FM} {m1 m2 m3 : OM} {d1 d2 d3 r : D} {e : LEnv} (q1 : m1 e = .val (.tmp (.dat d1)) e) (q2 : m2 e = .val (.tmp (.dat d2)) e) (q3 : m3 e = .val (.tmp (.dat d3)) e) (hg : g [.dat d1, .dat d2, .dat d3] = .ret (.dat r) [.dat d1, .dat d2, .dat d3]) : oCall g (aCons m1 (aCons m2 (aCons m3 aNil))) e = .val (.tmp (.dat r)) e := by
  simp only [oCall, aCons, q1, q2, q3, aNil, gets, tmp_get dat_ok, hg]
  rfl
theorem ne_int (a b : Int) : fNeA [li a, li b] = some (.dat (.bl (!decide (a = b)))) := by
  have s : ∀ i : Int, SeqAt.shaped (.int i) = true := fun i => by simp [SeqAt.shaped, PyData.canLay0, PyData.depth]
  have e : PyData.eqv (.int a) (.int b) = decide (a = b) := by
    rw [Bool.eq_iff_iff]
    simp [PyData.eqv]
  simp [fNeA, fOr, f2, gEqS, fNeD, gEqD, LV.py, D.py, s, e]
theorem ne_str (a b : Str) : fNeA [.dat (.str a), .dat (.str b)] = some (.dat (.bl (!decide (a = b)))) := by simp [fNeA, fOr, f2, gEqS]
theorem ne_non (b : Str) : fNeA [.dat .non, .dat (.str b)] = some (.dat (.bl true)) := by simp [fNeA, fOr, f2, gEqS]
theorem sl_tup {ds : List D} {lo hi : Option Int} : slA (.dat (.tup ds)) lo hi = some (.dat (.tup (cutD ds lo hi))) := by simp [slA, slL, slT]
theorem tail_val {i : Nat} {env : LEnv} {x : D} {ds : List D} (h : env[i]? = some (.dat (.tup (x :: ds)))) : oSl (oVar i) (pSome (oC (.int 1))) pNone slA env = .val (.tmp (.dat (.tup ds))) env := by
  have v := var_of h rfl
  have g := var_get h rfl
  have p : pSome (oC (.int 1)) env = .val (some 1) env := by simp only [pSome, oC, tmp_get dat_ok]
  have c : cutD (x :: ds) (some 1) none = ds := cut_from (x :: ds) 1
  simp only [oSl, v, p, pNone, g, sl_tup, c, dat_ok, if_true]
theorem zip_val {m1 m2 : OM} {xs ys : List D} {e : LEnv} (q1 : m1 e = .val (.tmp (.dat (.tup xs))) e) (q2 : m2 e = .val (.tmp (.dat (.tup ys))) e) : iZipM (aCons m1 (aCons m2 aNil)) e = .val (zipD xs ys) e := by
  simp only [iZipM, aCons, q1, q2, aNil, gets, tmp_get dat_ok]
theorem zipD_mem : ∀ {xs ys : List D} {d : D}, d ∈ zipD xs ys → ∃ x y, d = .tup [x, y] ∧ x ∈ xs ∧ y ∈ ys
  | [], _, _, h => by simp [zipD] at h
  | _ :: _, [], _, h => by simp [zipD] at h
  | x :: xs, y :: ys, d, h => by
    unfold zipD at h
    rcases List.mem_cons.mp h with rfl | h
    · exact ⟨x, y, rfl, List.mem_cons_self, List.mem_cons_self⟩
    · obtain ⟨a, b, e, h1, h2⟩ := zipD_mem h
      exact ⟨a, b, e, List.mem_cons_of_mem _ h1, List.mem_cons_of_mem _ h2⟩
theorem zipD_short {xs ys : List D} : (zipD xs ys).length ≤ xs.length := by rw [zipD_length]; omega
theorem bools_map : ∀ l : List Bool, bools (l.map .bl) = some l
  | [] => rfl
  | b :: l => by simp [bools, bools_map l]
theorem all_ml (l : List Bool) : fAll [.ml (l.map .bl)] = some (.dat (.bl (l.all id))) := by
  simp [fAll, f1, gAll, LV.items, bools_map]
theorem back_nil (lvs : List LV) (env : LEnv) : back [] lvs env = lvs := by
  unfold back
  simp
theorem def_rt {N : Nat} {body : SM} {lvs : List LV} {lv : LV} {e0 e2 : LEnv} (ok : okArgs [] lvs = true) (he : lvs ++ List.replicate (N - lvs.length) LV.un = e0) (h : body e0 = .rt lv e2) : defM N [] body lvs = .ret lv lvs := by
  unfold defM
  rw [if_pos ok, he, h]
  simp only [back_nil]
theorem if_t {t : TM} {n1 n2 : SM} {e e1 : LEnv} (h : t e = .val true e1) : sIf t n1 n2 e = n1 e1 := by simp only [sIf, h]
theorem if_f {t : TM} {n1 n2 : SM} {e e1 : LEnv} (h : t e = .val false e1) : sIf t n1 n2 e = n2 e1 := by simp only [sIf, h]
theorem if_n {t : TM} {n1 : SM} {e e1 : LEnv} (h : t e = .val false e1) : sIf t n1 sNil e = .nx e1 := by simp only [sIf, h]; rfl
theorem seq_rt {n1 n2 : SM} {e1 e2 : LEnv} {lv : LV} (h : n1 e1 = .rt lv e2) : sSeq n1 n2 e1 = .rt lv e2 := by simp only [sSeq, h]
theorem ret_c (d : D) (e : LEnv) : sRet (oC d) e = .rt (.dat d) e := rfl
theorem len_tupv {i : Nat} {env : LEnv} {ds : List D} (h : env[i]? = some (.dat (.tup ds))) : oOp (aCons (oVar i) aNil) fLenA env = .val (.tmp (li (ds.length : Int))) env := by
  have v := var_of h rfl
  have g := var_get h rfl
  have l : fLenA [.dat (.tup ds)] = some (li (ds.length : Int)) := by simp [fLenA, fOr, fLen, f1, gLen]
  simp only [oOp, aCons, v, aNil, gets, g, l, dat_ok, if_true]
theorem op_val {m1 m2 : OM} {x y : LV} {z : D} {f : List LV → Option LV} {e : LEnv} (q1 : m1 e = .val (.tmp x) e) (q2 : m2 e = .val (.tmp y) e) (k1 : x.ok = true) (k2 : y.ok = true) (h : f [x, y] = some (.dat z)) : o2 m1 m2 f e = .val (.tmp (.dat z)) e := by
  simp only [o2, oOp, aCons, q1, q2, aNil, gets, tmp_get k1, tmp_get k2, h, dat_ok, if_true]
theorem of_val {m : OM} {b : Bool} {e : LEnv} (h : m e = .val (.tmp (.dat (.bl b))) e) : tOf m e = .val b e := by simp only [tOf, h, tmp_get dat_ok]
theorem op_val2 {m1 : OM} {j : Nat} {x y : LV} {z : D} {f : List LV → Option LV} {e : LEnv} (q1 : m1 e = .val (.tmp x) e) (h2 : e[j]? = some y) (k1 : x.ok = true) (k2 : y.ok = true) (h : f [x, y] = some (.dat z)) : o2 m1 (oVar j) f e = .val (.tmp (.dat z)) e := by
  simp only [o2, oOp, aCons, q1, var_of h2 k2, aNil, gets, tmp_get k1, var_get h2 k2, h, dat_ok, if_true]
theorem frz_tmp {m : OM} {d : D} {e : LEnv} (h : m e = .val (.tmp (.dat d)) e) : oFrz m e = .val (.tmp (.dat d)) e := frz_dat h
theorem add1 (n : Nat) : fAdd [li (n : Int), li 1] = some (li ((n + 1 : Nat) : Int)) := by
  have e : ((n : Int) + 1) = ((n + 1 : Nat) : Int) := by omega
  rw [add_ok, e]
theorem map_one {α β : Type} (f : α → β) : ∀ l : List α, (l.map f).Nodup → ∀ a ∈ l, ∀ b ∈ l, f a = f b → a = b
  | [], _, a, ha, _, _, _ => by simp at ha
  | x :: l, h, a, ha, b, hb, e => by
    rw [List.map_cons, List.nodup_cons] at h
    rcases List.mem_cons.mp ha with rfl | ha
    · rcases List.mem_cons.mp hb with rfl | hb
      · rfl
      · exact absurd (List.mem_map.mpr ⟨b, hb, e.symm⟩) h.1
    · rcases List.mem_cons.mp hb with q | hb
      · exact absurd (List.mem_map.mpr ⟨a, ha, e.trans (congrArg f q)⟩) h.1
      · exact map_one f l h.2 a ha b hb e
theorem eq_int (a b : Int) : fEqA [li a, li b] = some (.dat (.bl (decide (a = b)))) := by
  have s : ∀ i : Int, SeqAt.shaped (.int i) = true := fun i => by simp [SeqAt.shaped, PyData.canLay0, PyData.depth]
  have e : PyData.eqv (.int a) (.int b) = decide (a = b) := by
    rw [Bool.eq_iff_iff]
    simp [PyData.eqv]
  simp [fEqA, fOr, f2, gEqS, fEqD, gEqD, LV.py, D.py, s, e]
theorem pys_bl : ∀ l : List Bool, D.pys (l.map .bl) = some (l.map .bool)
  | [] => rfl
  | b :: l => by simp [D.pys, D.py, pys_bl l]
theorem lay_bl : ∀ l : List Bool, PyData.canLayAll0 (l.map .bool) = true
  | [] => rfl
  | b :: l => by simp [PyData.canLayAll0, PyData.canLay0, lay_bl l]
theorem dep_bl : ∀ l : List Bool, PyData.depthAll (l.map .bool) = 0
  | [] => rfl
  | b :: l => by simp [PyData.depthAll, PyData.depth, dep_bl l]
theorem ni_false (l : List Bool) : fNiA [.dat (.bl false), .ml (l.map .bl)] = some (.dat (.bl (l.all id))) := by
  have s1 : SeqAt.shaped (.bool false) = true := by simp [SeqAt.shaped, PyData.canLay0, PyData.depth]
  have s2 : SeqAt.shaped (.list (l.map .bool)) = true := by simp [SeqAt.shaped, PyData.canLay0, PyData.depth, lay_bl l, dep_bl]
  have e : (!(l.map PyData.bool).any (fun z => PyData.eqv z (.bool false))) = l.all id := by
    induction l with
    | nil => rfl
    | cons b l ih =>
      simp only [List.map_cons, List.any_cons, List.all_cons, Bool.not_or, id]
      rw [ih (by simp [SeqAt.shaped, PyData.canLay0, PyData.depth, lay_bl l, dep_bl])]
      cases b <;> rfl
  simp only [fNiA, fOr, fNi, fNiD, f2, gInD, LV.py, D.py, pys_bl, s1, s2, Bool.and_self, if_true, e]
theorem call1 {g : FM} {m1 : OM} {d1 r : D} {e : LEnv} (q1 : m1 e = .val (.tmp (.dat d1)) e) (hg : g [.dat d1] = .ret (.dat r) [.dat d1]) : oCall g (aCons m1 aNil) e = .val (.tmp (.dat r)) e := by
  simp only [oCall, aCons, q1, aNil, gets, tmp_get dat_ok, hg]
  rfl
theorem sum_ml (l : List Int) : f1 gSum [.ml (l.map .int)] = some (li l.sum) := by
  have : ∀ l : List Int, intsD (l.map .int) = some l := fun l => by
    induction l with
    | nil => rfl
    | cons a l ih => simp [intsD, ih]
  simp [f1, gSum, this]
theorem def_rtP {N : Nat} {P : List Nat} {body : SM} {lvs lvs' : List LV} {lv : LV} {e0 e2 : LEnv} (ok : okArgs P lvs = true) (he : lvs ++ List.replicate (N - lvs.length) LV.un = e0) (h : body e0 = .rt lv e2) (hb : back P lvs e2 = lvs') : defM N P body lvs = .ret lv lvs' := by
  unfold defM
  rw [if_pos ok, he, h]
  simp only [hb]
theorem call_pick' {env env1 : LEnv} {i : Nat} {p : LV} {m : OM} {ds : List D} (h : env[i]? = some p) (h1 : env1[i]? = some p) (d : Drawn p) (hm : m env = .val (.tmp (.dat (.lst ds))) env1) (hn : ds ≠ []) (hz : ds.length < 1000) :
    ∃ y p', oCall g__law_pick (aCons (oVar i) (aCons m aNil)) env = .val (.tmp (.dat y)) (env1.set i p') ∧ y ∈ ds ∧ Drawn p' := by
  obtain ⟨y, p', e, h0, d'⟩ := pick p ds d hn (by omega)
  refine ⟨y, p', ?_, h0, d'⟩
  simp [oCall, aCons, aNil, var_of h d.ok, hm, gets, Rf.get, h1, d.ok, ownVars, own_getD h1, d.own, e, okBack, dat_ok, dat_own, wb, d'.own]
theorem frz_own {i : Nat} {env : LEnv} {ds : List D} (h : env[i]? = some (.ml ds)) : oFrz (oVar i) env = .val (.tmp (.dat (.lst ds))) (env.set i (.dat (.lst ds))) := by
  have v := var_of h rfl
  simp only [oFrz, v, h, LV.frz]
theorem sub1 (n : Nat) : fSubI [li ((n + 1 : Nat) : Int), li 1] = some (li (n : Int)) := by
  have e : ((n + 1 : Nat) : Int) - 1 = (n : Int) := by omega
  simp only [fSubI, f2, gI, cT, if_true, e]
theorem op_val3 {m1 m2 : OM} {x y : LV} {z : D} {f : List LV → Option LV} {e1 e2 e3 : LEnv} (q1 : m1 e1 = .val (.tmp x) e2) (q2 : m2 e2 = .val (.tmp y) e3) (k1 : x.ok = true) (k2 : y.ok = true) (h : f [x, y] = some (.dat z)) : o2 m1 m2 f e1 = .val (.tmp (.dat z)) e3 := by
  simp only [o2, oOp, aCons, q1, q2, aNil, gets, tmp_get k1, tmp_get k2, h, dat_ok, if_true]
theorem tuple_val {m : OM} {ds : List D} {e1 e2 : LEnv} (q : m e1 = .val (.tmp (.ml ds)) e2) : oOp (aCons m aNil) fTuple e1 = .val (.tmp (.dat (.tup ds))) e2 := by
  simp only [oOp, aCons, q, aNil, gets, tmp_get ml_ok, tuple_ml, dat_ok, if_true]
theorem ret_val {m : OM} {x : LV} {e1 e2 : LEnv} (q : m e1 = .val (.tmp x) e2) : sRet m e1 = .rt x e2 := by simp only [sRet, q]
theorem call1m {g : FM} {m1 : OM} {d1 : D} {ds : List D} {e : LEnv} (q1 : m1 e = .val (.tmp (.dat d1)) e) (hg : g [.dat d1] = .ret (.ml ds) [.dat d1]) : oCall g (aCons m1 aNil) e = .val (.tmp (.ml ds)) e := by
  simp only [oCall, aCons, q1, aNil, gets, tmp_get dat_ok, hg]
  rfl
theorem frz_ml {m : OM} {ds : List D} {e : LEnv} (h : m e = .val (.tmp (.ml ds)) e) : oFrz m e = .val (.tmp (.dat (.lst ds))) e := by simp only [oFrz, h, LV.frz]
theorem walk_ml {m : OM} {e1 : LEnv} {ds : List D} (h : m e1 = .val (.tmp (.ml ds)) e1) : iAnyK m e1 = .val ds e1 := by
  simp only [iAnyK, iOr, iSeq, frz_ml h]
theorem mu_ext {env env1 : LEnv} {i : Nat} {ms : AM} {ds ds' : List D} {d : D} (h : env[i]? = some (.ml ds)) (hm : ms env = .val [.tmp (.dat d)] env1) (h1 : env1[i]? = some (.ml ds)) (ex : mExtend (.ml ds) [.dat d] = some (.dat .non, .ml ds')) : sExpr (oMu "list" (oVar i) ms mExtend) env = .nx (env1.set i (.ml ds')) := by
  have v := var_of h rfl
  have g := var_get h rfl
  have g1 := var_get h1 rfl
  have ty : (LV.ml ds).ty = "list" := rfl
  have ow : ∀ l, (LV.ml l).isOwn = true := fun _ => rfl
  simp only [sExpr, oMu, v, g, ty, if_true, hm, g1, gets, tmp_get dat_ok, ex, dat_ok, ow, Bool.and_self]
theorem op_vc {i : Nat} {env : LEnv} {x : LV} {c z : D} {f : List LV → Option LV} (h : env[i]? = some x) (k : x.ok = true) (hf : f [x, .dat c] = some (.dat z)) : o2 (oVar i) (oC c) f env = .val (.tmp (.dat z)) env := by
  simp only [o2, oOp, aCons, var_of h k, oC, aNil, gets, var_get h k, tmp_get dat_ok, hf, dat_ok, if_true]
theorem put_val {mv : OM} {i j at_ : Nat} {env env1 : LEnv} {x : D} {ds : List D} (hm : oFrz mv env = .val (.tmp (.dat x)) env1) (hj : env1[j]? = some (.ml ds)) (hi : env1[i]? = some (li (at_ : Int))) (hl : at_ < ds.length) : sPut mv (oVar j) (oVar i) stA env = .nx (env1.set j (.ml (ds.set at_ x))) := by
  have vj := var_of hj rfl
  have gj := var_get hj rfl
  have vi := var_of hi rfl
  have gi := var_get hi rfl
  have ow : ∀ l, (LV.ml l).isOwn = true := fun _ => rfl
  simp only [sPut, aCons, hm, vj, vi, aNil, tmp_get dat_ok, gj, gi, put_ml hl, ow, Bool.and_self, if_true]
theorem seq_at {at_ n : Nat} (hl : at_ < n) : seqIndex? (at_ : Int) n = some at_ := by
  have h1 : ¬ ((at_ : Int) < 0) := by omega
  have h2 : decide (0 ≤ (at_ : Int)) = true := decide_eq_true (by omega)
  have h3 : decide ((at_ : Int) < (n : Int)) = true := decide_eq_true (by omega)
  unfold seqIndex?
  simp only [if_neg h1, h2, h3, Bool.and_self, if_true, Int.toNat_natCast]
theorem mpop_at {ds : List D} {at_ : Nat} (hl : at_ < ds.length) (hz : ds.length < 1000000) : mPop (.ml ds) [li (at_ : Int)] = some (.dat ds[at_], .ml (ds.eraseIdx at_)) := by
  have h2 : -(2 ^ 63) ≤ (at_ : Int) ∧ (at_ : Int) < 2 ^ 63 := ⟨by omega, by omega⟩
  have g := List.getElem?_eq_getElem hl
  simp only [mPop, h2, and_self, if_true, seq_at hl, g]
theorem mu_any {f : MtF} {env env1 : LEnv} {i : Nat} {ms : AM} {ds ds' : List D} {d z : D} (h : env[i]? = some (.ml ds)) (hm : ms env = .val [.tmp (.dat d)] env1) (h1 : env1[i]? = some (.ml ds)) (ex : f (.ml ds) [.dat d] = some (.dat z, .ml ds')) : sExpr (oMu "list" (oVar i) ms f) env = .nx (env1.set i (.ml ds')) := by
  have v := var_of h rfl
  have g := var_get h rfl
  have g1 := var_get h1 rfl
  have ty : (LV.ml ds).ty = "list" := rfl
  have ow : ∀ l, (LV.ml l).isOwn = true := fun _ => rfl
  simp only [sExpr, oMu, v, g, ty, if_true, hm, g1, gets, tmp_get dat_ok, ex, dat_ok, ow, Bool.and_self]
theorem args1 {m : OM} {x : LV} {e e1 : LEnv} (h : m e = .val (.tmp x) e1) : (aCons m aNil) e = .val [.tmp x] e1 := by simp only [aCons, h, aNil]
theorem pop_val {i j at_ : Nat} {env : LEnv} {ds : List D} (hj : env[j]? = some (.ml ds)) (hi : env[i]? = some (li (at_ : Int))) (hl : at_ < ds.length) (hz : ds.length < 1000000) : sExpr (oMu "list" (oVar j) (aCons (oFrz (oVar i)) aNil) mPop) env = .nx (env.set j (.ml (ds.eraseIdx at_))) :=
  mu_any hj (args1 (frz_var hi)) hj (mpop_at hl hz)
theorem and_f {t1 t2 : TM} {e e1 : LEnv} (h : t1 e = .val false e1) : tmAnd t1 t2 e = .val false e1 := by simp only [tmAnd, h]
theorem and_t {t1 t2 : TM} {e e1 : LEnv} (h : t1 e = .val true e1) : tmAnd t1 t2 e = t2 e1 := by simp only [tmAnd, h]
theorem not_v {t1 : TM} {b : Bool} {e e1 : LEnv} (h : t1 e = .val b e1) : tmNot t1 e = .val (!b) e1 := by simp only [tmNot, h]
theorem t_of_below {i : Nat} {env : LEnv} {p : LV} {n : Int} {f : List LV → Option LV} {b : Int → Bool} (h : env[i]? = some p) (d : Drawn p) (hn : 0 < n ∧ n < 1073741824) (hf : ∀ r, f [li r, li 0] = some (.dat (.bl (b r)))) :
    ∃ c p', tOf (o2 (oCall g__law_below (aCons (oVar i) (aCons (oC (.int n)) aNil))) (oC (.int 0)) f) env = .val c (env.set i p') ∧ Drawn p' := by
  obtain ⟨r, p', e, _, _, d'⟩ := call_below (m := oC (.int n)) h d rfl hn
  refine ⟨b r, p', ?_, d'⟩
  simp only [tOf, o2, oOp, aCons, e, oC, aNil, gets, tmp_get dat_ok, hf, dat_ok, if_true]
theorem gt_ok (r s : Int) : fGtI [li r, li s] = some (.dat (.bl (decide (s < r)))) := by simp [fGtI, f2, gI, cT]
theorem or_t {t1 t2 : TM} {e e1 : LEnv} (h : t1 e = .val true e1) : tmOr t1 t2 e = .val true e1 := by simp only [tmOr, h]
theorem or_f {t1 t2 : TM} {e e1 : LEnv} (h : t1 e = .val false e1) : tmOr t1 t2 e = t2 e1 := by simp only [tmOr, h]
theorem tru_of {m : OM} {b : Bool} {e : LEnv} (h : m e = .val (.tmp (.dat (.bl b))) e) : tTru m e = .val b e := by simp only [tTru, h, tmp_get dat_ok, LV.truth]
theorem def_exc {N : Nat} {body : SM} {lvs : List LV} {x : Xc} {e0 e2 : LEnv} (ok : okArgs [] lvs = true) (he : lvs ++ List.replicate (N - lvs.length) LV.un = e0) (h : body e0 = .exc x e2) : defM N [] body lvs = .exc x lvs := by
  unfold defM
  rw [if_pos ok, he, h]
  simp only [back_nil]
theorem tEmpty {i : Nat} {env : LEnv} {q : List D} (h : env[i]? = some (.dat (.tup q))) : tOf (o2 (oVar i) (oOp (aNil) fTup) fEqA) env = .val q.isEmpty env := by
  have v := var_of h rfl
  have g := var_get h rfl
  have f : fTup [] = some (.dat (.tup [])) := by simp [fTup, data]
  have e := eq_unit q
  simp only [tOf, o2, oOp, aCons, v, aNil, gets, f, dat_ok, if_true, g, tmp_get dat_ok, e]
theorem set_cut (ds : List D) (k : Nat) (x : D) (h : k < ds.length) : ds.take k ++ [x] ++ ds.drop (k + 1) = ds.set k x := by
  rw [List.set_eq_take_append_cons_drop, if_pos h]
  simp
theorem addT_ok {as bs : List D} (h : as.length + bs.length ≤ sizeLine) : fAdd [.dat (.tup as), .dat (.tup bs)] = some (.dat (.tup (as ++ bs))) := by
  simp [fAdd, fOr, fAddI, fAddS, fAddL, fAddT, f2, gI, gAddS, gAddL, gAddT, LV.items, h]
theorem expr_val {m : OM} {x : LV} {e e1 : LEnv} (h : m e = .val (.tmp x) e1) : sExpr m e = .nx e1 := by simp only [sExpr, h]
theorem expr_exc {m : OM} {x : Xc} {e e1 : LEnv} (h : m e = .exc x e1) : sExpr m e = .exc x e1 := by simp only [sExpr, h]
theorem call2_exc {g : FM} {m1 m2 : OM} {d1 d2 : D} {x : Xc} {e : LEnv} (q1 : m1 e = .val (.tmp (.dat d1)) e) (q2 : m2 e = .val (.tmp (.dat d2)) e) (hg : g [.dat d1, .dat d2] = .exc x [.dat d1, .dat d2]) : oCall g (aCons m1 (aCons m2 aNil)) e = .exc x e := by
  simp only [oCall, aCons, q1, q2, aNil, gets, tmp_get dat_ok, hg]
  rfl
theorem call3_exc {g : FM} {m1 m2 m3 : OM} {d1 d2 d3 : D} {x : Xc} {e : LEnv} (q1 : m1 e = .val (.tmp (.dat d1)) e) (q2 : m2 e = .val (.tmp (.dat d2)) e) (q3 : m3 e = .val (.tmp (.dat d3)) e) (hg : g [.dat d1, .dat d2, .dat d3] = .exc x [.dat d1, .dat d2, .dat d3]) : oCall g (aCons m1 (aCons m2 (aCons m3 aNil))) e = .exc x e := by
  simp only [oCall, aCons, q1, q2, q3, aNil, gets, tmp_get dat_ok, hg]
  rfl
theorem try_got {isC : Str → Option Bool} {i : Nat} {nb nh : SM} {env env1 e2 : LEnv} {x : Xc} (h : nb env = .exc x env1) (hc : isC x.cls = some true) (hn : nh (env1.set i (.dat .opq)) = .nx e2) : sTry isC i nb nh env = .nx (e2.set i .un) := by simp only [sTry, h, hc, hn]
structure Cmp (n : Nat) (d : D) (p : PyData) : Prop where
  py : D.py d = some p
  lay : p.canLay0 = true
  dep : p.depth ≤ n
theorem cmp_all : ∀ {ds : List D} {n : Nat}, (∀ d ∈ ds, ∃ p, Cmp n d p) → ∃ ps, D.pys ds = some ps ∧ PyData.canLayAll0 ps = true ∧ PyData.depthAll ps ≤ n
  | [], _, _ => ⟨[], rfl, rfl, Nat.zero_le _⟩
  | d :: ds, n, h => by
    obtain ⟨p, a, b, c⟩ := h d List.mem_cons_self
    obtain ⟨ps, a', b', c'⟩ := cmp_all (ds := ds) fun e m => h e (List.mem_cons_of_mem _ m)
    refine ⟨p :: ps, by simp only [D.pys, a, a'], by simp only [PyData.canLayAll0, b, b', Bool.and_self], ?_⟩
    simp only [PyData.depthAll]
    exact Nat.max_le.mpr ⟨c, c'⟩
theorem cmp_tup {ds : List D} {n : Nat} (h : ∀ d ∈ ds, ∃ p, Cmp n d p) : ∃ p, Cmp (n + 1) (.tup ds) p := by
  obtain ⟨ps, a, b, c⟩ := cmp_all h
  exact ⟨.tuple ps, by simp only [D.py, a], by simpa only [PyData.canLay0] using b, by simp only [PyData.depth]; omega⟩
theorem cmp_lst {ds : List D} {n : Nat} (h : ∀ d ∈ ds, ∃ p, Cmp n d p) : ∃ p, Cmp (n + 1) (.lst ds) p := by
  obtain ⟨ps, a, b, c⟩ := cmp_all h
  exact ⟨.list ps, by simp only [D.py, a], by simpa only [PyData.canLay0] using b, by simp only [PyData.depth]; omega⟩
theorem Cmp.shaped {n : Nat} {d : D} {p : PyData} (h : Cmp n d p) (hn : n ≤ 64) : SeqAt.shaped p = true := by
  have := h.dep
  simp only [SeqAt.shaped, h.lay, Bool.true_and, decide_eq_true_eq]
  omega
theorem ne_same {n : Nat} {d : D} {p : PyData} (h : Cmp n d p) (hn : n ≤ 64) : fNeA [.dat d, .dat d] = some (.dat (.bl false)) := by
  have s := h.shaped hn
  have e := SeqAt.eqv_refl p h.lay
  have t : f2 (gEqS true) [.dat d, .dat d] = none ∨ f2 (gEqS true) [.dat d, .dat d] = some (.dat (.bl false)) := by
    cases d <;> simp [f2, gEqS]
  have g : fNeD [.dat d, .dat d] = some (.dat (.bl false)) := by
    simp only [fNeD, f2, gEqD, LV.py, h.py, s, e, Bool.and_self, if_true, Bool.not_true]
  rcases t with a | a
  · rw [fNeA, fOr, a]
    simp only [fOr, g]
  · rw [fNeA, fOr, a]
theorem ne_sameL {n : Nat} {ds : List D} {p : PyData} (h : Cmp n (.lst ds) p) (hn : n ≤ 64) : fNeA [.ml ds, .ml ds] = some (.dat (.bl false)) := by
  obtain ⟨ps, a⟩ : ∃ ps, D.pys ds = some ps := by
    have := h.py
    simp only [D.py] at this
    cases e : D.pys ds with
    | none => rw [e] at this; cases this
    | some ps => exact ⟨ps, rfl⟩
  have q : p = .list ps := by
    have := h.py
    simp only [D.py, a, Option.some.injEq] at this
    exact this.symm
  subst q
  have s := h.shaped hn
  have e := SeqAt.eqv_refl _ h.lay
  have g : fNeD [.ml ds, .ml ds] = some (.dat (.bl false)) := by
    simp only [fNeD, f2, gEqD, LV.py, a, s, e, Bool.and_self, if_true, Bool.not_true]
  have t : f2 (gEqS true) [.ml ds, .ml ds] = none := rfl
  rw [fNeA, fOr, t]
  simp only [fOr, g]
theorem ne_nil (ds : List D) : fNeA [.ml ds, .ml []] = some (.dat (.bl (!ds.isEmpty))) := by
  have t : f2 (gEqS true) [.ml ds, .ml []] = none := rfl
  have g : f2 (gLe true) [.ml ds, .ml []] = some (.dat (.bl (!ds.isEmpty))) := by
    cases ds <;> simp [f2, gLe, LV.items]
  have k : f2 (gDe true) [.ml ds, .ml []] = none := rfl
  have e : fNeD [.ml ds, .ml []] = none ∨ fNeD [.ml ds, .ml []] = some (.dat (.bl (!ds.isEmpty))) := by
    cases a : D.pys ds with
    | none => left; simp only [fNeD, f2, gEqD, LV.py, a]
    | some ps =>
      have z : D.pys [] = some [] := rfl
      have l := pys_len a
      cases b : SeqAt.shaped (.list ps) && SeqAt.shaped (.list []) with
      | false => left; simp only [fNeD, f2, gEqD, LV.py, a, z, b]; rfl
      | true =>
        right
        simp only [fNeD, f2, gEqD, LV.py, a, z, b, if_true]
        cases ps with
        | nil => cases ds with
          | nil => rfl
          | cons _ _ => simp at l
        | cons p ps => cases ds with
          | nil => simp at l
          | cons _ _ => rfl
  rw [fNeA, fOr, t]
  rcases e with e | e
  · simp only [fOr, e, k, g]
  · simp only [fOr, e]
theorem op_v1 {m2 : OM} {i : Nat} {x y : LV} {z : D} {f : List LV → Option LV} {e : LEnv} (h : e[i]? = some x) (q2 : m2 e = .val (.tmp y) e) (k1 : x.ok = true) (k2 : y.ok = true) (hf : f [x, y] = some (.dat z)) : o2 (oVar i) m2 f e = .val (.tmp (.dat z)) e := by
  have v := var_of h k1
  have g := var_get h k1
  simp only [o2, oOp, aCons, v, q2, aNil, gets, g, tmp_get k2, hf, dat_ok, if_true]
theorem lst0 (e : LEnv) : oOp aNil fLst e = .val (.tmp (.ml [])) e := by
  have f : fLst [] = some (.ml []) := by simp [fLst, data]
  simp only [oOp, aNil, gets, f, ml_ok, if_true]
theorem eq_bl (a b : Bool) : fEqA [.dat (.bl a), .dat (.bl b)] = some (.dat (.bl (a == b))) := by
  have s : ∀ c : Bool, SeqAt.shaped (.bool c) = true := fun c => by simp [SeqAt.shaped, PyData.canLay0, PyData.depth]
  have t : f2 (gEqS false) [.dat (.bl a), .dat (.bl b)] = none := rfl
  have g : fEqD [.dat (.bl a), .dat (.bl b)] = some (.dat (.bl (a == b))) := by
    simp only [fEqD, f2, gEqD, LV.py, D.py, s, Bool.and_self, if_true, PyData.eqv]
    rfl
  rw [fEqA, fOr, t]
  simp only [fOr, g]
theorem set_same {env : LEnv} {i : Nat} {lv : LV} (h : env[i]? = some lv) : env.set i lv = env := by
  apply List.ext_getElem?
  intro j
  have hl := (List.getElem?_eq_some_iff.mp h).1
  by_cases e : j = i
  · subst e; rw [h, List.getElem?_set_self hl]
  · rw [List.getElem?_set_ne (Ne.symm e)]
theorem rangeD_mem {d : D} {k : Nat} (h : d ∈ rangeD 0 k) : ∃ i : Int, d = .int i := by
  simp only [rangeD, List.mem_map] at h
  obtain ⟨i, _, rfl⟩ := h
  exact ⟨_, rfl⟩
def aOk (ms : AM) (e : LEnv) (ds : List D) : Prop := ms e = .val (ds.map fun d => .tmp (.dat d)) e
theorem aOk.nil {e : LEnv} : aOk aNil e [] := rfl
theorem aOk.cons {m : OM} {ms : AM} {e : LEnv} {d : D} {ds : List D} (h : m e = .val (.tmp (.dat d)) e) (hs : aOk ms e ds) : aOk (aCons m ms) e (d :: ds) := by
  unfold aOk at hs ⊢
  simp only [aCons, h, hs, List.map_cons]
theorem gets_dats (e : LEnv) : ∀ ds : List D, gets (ds.map fun d => .tmp (.dat d)) e = some (ds.map .dat)
  | [] => rfl
  | d :: ds => by simp only [List.map_cons, gets, tmp_get dat_ok, gets_dats e ds]
theorem data_dats : ∀ ds : List D, data (ds.map .dat) = some ds
  | [] => rfl
  | d :: ds => by simp only [List.map_cons, data, LV.datum, data_dats ds]
theorem aOk.lst {ms : AM} {e : LEnv} {ds : List D} (h : aOk ms e ds) (hz : ds.length < 1000) : oOp ms fLst e = .val (.tmp (.ml ds)) e := by
  have z : ds.length ≤ sizeLine := by rw [sizeLine_eq]; omega
  have f : fLst (ds.map .dat) = some (.ml ds) := by simp only [fLst, data_dats, z, if_true]
  unfold aOk at h
  simp only [oOp, h, gets_dats, f, ml_ok, if_true]
theorem aOk.tup {ms : AM} {e : LEnv} {ds : List D} (h : aOk ms e ds) (hz : ds.length < 1000) : oOp ms fTup e = .val (.tmp (.dat (.tup ds))) e := by
  have z : ds.length ≤ sizeLine := by rw [sizeLine_eq]; omega
  have f : fTup (ds.map .dat) = some (.dat (.tup ds)) := by simp only [fTup, data_dats, z, if_true]
  unfold aOk at h
  simp only [oOp, h, gets_dats, f, dat_ok, if_true]
theorem aOk.op {m : OM} {e : LEnv} {d z : D} {f : List LV → Option LV} (h : m e = .val (.tmp (.dat d)) e) (hf : f [.dat d] = some (.dat z)) : oOp (aCons m aNil) f e = .val (.tmp (.dat z)) e := by
  simp only [oOp, aCons, h, aNil, gets, tmp_get dat_ok, hf, dat_ok, if_true]
structure Shw (n w : Nat) (d : D) (p : PyData) : Prop where
  py : D.pyR d = some p
  sh : p.showable = true
  lf : p.leavesShort 13 = true
  dp : p.depth ≤ n
  wt : p.weight ≤ w
theorem Shw.up {n w n' w' : Nat} {d : D} {p : PyData} (h : Shw n w d p) (hn : n ≤ n') (hw : w ≤ w') : Shw n' w' d p := ⟨h.py, h.sh, h.lf, Nat.le_trans h.dp hn, Nat.le_trans h.wt hw⟩
theorem shw_all : ∀ {ds : List D} {n w : Nat}, (∀ d ∈ ds, ∃ p, Shw n w d p) → ∃ ps, D.pyRs ds = some ps ∧ PyData.showableAll ps = true ∧ PyData.leavesShortAll 13 ps = true ∧ PyData.depthAll ps ≤ n ∧ PyData.weightAll ps ≤ ds.length * (w + 1)
  | [], _, _, _ => ⟨[], rfl, rfl, rfl, Nat.zero_le _, Nat.zero_le _⟩
  | d :: ds, n, w, h => by
    obtain ⟨p, a⟩ := h d List.mem_cons_self
    obtain ⟨ps, b1, b2, b3, b4, b5⟩ := shw_all (ds := ds) fun e m => h e (List.mem_cons_of_mem _ m)
    refine ⟨p :: ps, by simp only [D.pyRs, a.py, b1], by simp only [PyData.showableAll, a.sh, b2, Bool.and_self], by simp only [PyData.leavesShortAll, a.lf, b3, Bool.and_self], ?_, ?_⟩
    · simp only [PyData.depthAll]
      exact Nat.max_le.mpr ⟨a.dp, b4⟩
    · have := a.wt
      simp only [PyData.weightAll, List.length_cons, Nat.succ_mul]
      omega
theorem shw_tup {ds : List D} {n w k : Nat} (h : ∀ d ∈ ds, ∃ p, Shw n w d p) (hk : ds.length ≤ k) : ∃ p, Shw (n + 1) (k * (w + 1)) (.tup ds) p := by
  obtain ⟨ps, b1, b2, b3, b4, b5⟩ := shw_all h
  refine ⟨.tuple ps, by simp only [D.pyR, b1], by simpa only [PyData.showable] using b2, by simpa only [PyData.leavesShort] using b3, by simp only [PyData.depth]; omega, ?_⟩
  have := Nat.mul_le_mul_right (w + 1) hk
  simp only [PyData.weight]
  omega
theorem shw_lst {ds : List D} {n w k : Nat} (h : ∀ d ∈ ds, ∃ p, Shw n w d p) (hk : ds.length ≤ k) : ∃ p, Shw (n + 1) (k * (w + 1)) (.lst ds) p := by
  obtain ⟨ps, b1, b2, b3, b4, b5⟩ := shw_all h
  refine ⟨.list ps, by simp only [D.pyR, b1], by simpa only [PyData.showable] using b2, by simpa only [PyData.leavesShort] using b3, by simp only [PyData.depth]; omega, ?_⟩
  have := Nat.mul_le_mul_right (w + 1) hk
  simp only [PyData.weight]
  omega
theorem shw_str {x : Str} (h : PyData.strOk x = true) (hl : x.length ≤ 20) : ∃ p, Shw 0 20 (.str x) p := by
  refine ⟨.str x, rfl, rfl, PyData.leavesShort_of_canLay0 13 (.str x) h rfl, Nat.le_refl _, ?_⟩
  simp only [PyData.weight]
  exact hl
theorem repr_of {n w : Nat} {d : D} {p : PyData} (h : Shw n w d p) (hn : n ≤ 100) (hw : w ≤ 2 ^ 20) : f1 gRepr [.dat d] = some (.dat (.str p.shown)) := by
  have z : p.showable = true ∧ p.shown.length ≤ sizeLine ∧ p.depth ≤ 100 := ⟨h.sh, PyData.shown_fits (by decide) (by decide) h.lf (Nat.le_trans h.wt hw), Nat.le_trans h.dp hn⟩
  simp only [f1, gRepr, h.py, z, and_self, if_true]
theorem repr_bl (b : Bool) : ∃ z, f1 gRepr [.dat (.bl b)] = some (.dat (.str z)) := by
  have h : Shw 0 0 (.bl b) (.bool b) := ⟨rfl, rfl, rfl, Nat.le_refl _, Nat.le_refl _⟩
  exact ⟨_, repr_of h (by decide) (by decide)⟩
theorem call_own {g : FM} {i : Nat} {env : LEnv} {p p' lv : LV} (h : env[i]? = some p) (d : Drawn p) (d' : Drawn p') (hg : g [p] = .ret lv [p']) (ok : lv.ok = true) : oCall g (aCons (oVar i) aNil) env = .val (.tmp lv) (env.set i p') := by
  simp [oCall, aCons, aNil, var_of h d.ok, gets, Rf.get, h, d.ok, ownVars, own_getD h, d.own, hg, okBack, ok, wb, d'.own]
theorem call_drawS {g : FM} {i : Nat} {env env1 : LEnv} {p p' : LV} {m1 m2 m3 : OM} {a b c r : D} (h : env[i]? = some p) (h1 : env1[i]? = some p) (d : Drawn p) (d' : Drawn p') (q1 : m1 env = .val (.tmp (.dat a)) env1) (q2 : m2 env1 = .val (.tmp (.dat b)) env1) (q3 : m3 env1 = .val (.tmp (.dat c)) env1) (hg : g [p, .dat a, .dat b, .dat c] = .ret (.dat r) [p', .dat a, .dat b, .dat c]) :
    oCall g (aCons (oVar i) (aCons m1 (aCons m2 (aCons m3 aNil)))) env = .val (.tmp (.dat r)) (env1.set i p') := by
  simp [oCall, aCons, aNil, var_of h d.ok, q1, q2, q3, gets, Rf.get, h1, d.ok, ownVars, own_getD h1, d.own, hg, okBack, dat_ok, dat_own, wb, d'.own]
theorem frz_md {i : Nat} {env : LEnv} {kvs : List (L2.Key × D)} (h : env[i]? = some (.md kvs)) : oFrz (oVar i) env = .val (.tmp (.dat (.dic kvs))) (env.set i (.dat (.dic kvs))) := by
  have v := var_of h rfl
  simp only [oFrz, v, h, LV.frz]
theorem ix_last {ds : List D} {x : D} : fIxA [.ml (ds ++ [x]), li (-1)] = some (.dat x) := by
  have a : L2.atI (ds ++ [x]) (-1) = some x := by
    have e : L2.ixN (ds ++ [x]).length (-1) = some ds.length := by
      unfold L2.ixN
      rw [if_neg (by decide), if_pos (by simp only [List.length_append, List.length_singleton]; omega)]
      congr 1
      simp only [List.length_append, List.length_singleton]
      omega
    unfold L2.atI
    rw [e]
    simp
  simp [fIxA, fOr, fIx, fIxL, f2, gIxL, LV.items, a]
theorem neg_val (k : Int) (e : LEnv) : o1 (oC (.int k)) fNegI e = .val (.tmp (li (-k))) e := by
  have f : fNegI [li k] = some (li (-k)) := rfl
  simp only [o1, oOp, aCons, oC, aNil, gets, tmp_get dat_ok, f, dat_ok, if_true]
theorem walk_dic {i : Nat} {env : LEnv} {kvs : List (L2.Key × D)} (h : env[i]? = some (.dat (.dic kvs))) : iAnyK (oVar i) env = .val (keysL kvs) env := by
  simp only [iAnyK, iOr, iSeq, iTp, frz_var h, iDic]
theorem cut_mem {ds : List D} {lo hi : Option Int} {d : D} (h : d ∈ cutD ds lo hi) : d ∈ ds := by
  unfold cutD at h
  exact List.mem_of_mem_drop (List.mem_of_mem_take h)
theorem cut_len (ds : List D) (lo hi : Option Int) : (cutD ds lo hi).length ≤ ds.length := by
  unfold cutD
  rw [List.length_take, List.length_drop]
  omega
theorem op_ml3 {m1 m2 : OM} {x y : LV} {ds : List D} {f : List LV → Option LV} {e1 e2 e3 : LEnv} (q1 : m1 e1 = .val (.tmp x) e2) (q2 : m2 e2 = .val (.tmp y) e3) (k1 : x.ok = true) (k2 : y.ok = true) (h : f [x, y] = some (.ml ds)) : o2 m1 m2 f e1 = .val (.tmp (.ml ds)) e3 := by
  simp only [o2, oOp, aCons, q1, q2, aNil, gets, tmp_get k1, tmp_get k2, h, ml_ok, if_true]
theorem op_mlv {i : Nat} {m2 : OM} {x y : LV} {ds : List D} {f : List LV → Option LV} {e1 e3 : LEnv} (h1 : e1[i]? = some x) (h3 : e3[i]? = some x) (q2 : m2 e1 = .val (.tmp y) e3) (k1 : x.ok = true) (k2 : y.ok = true) (h : f [x, y] = some (.ml ds)) : o2 (oVar i) m2 f e1 = .val (.tmp (.ml ds)) e3 := by
  have v := var_of h1 k1
  have g := var_get h3 k1
  simp only [o2, oOp, aCons, v, q2, aNil, gets, g, tmp_get k2, h, ml_ok, if_true]
theorem walk_ml' {m : OM} {e1 e2 : LEnv} {ds : List D} (h : m e1 = .val (.tmp (.ml ds)) e2) : iAnyK m e1 = .val ds e2 := by
  have f : oFrz m e1 = .val (.tmp (.dat (.lst ds))) e2 := by simp only [oFrz, h, LV.frz]
  simp only [iAnyK, iOr, iSeq, f]
theorem cut_val {i : Nat} {env : LEnv} {ds : List D} {lo hi : PM} {l h : Option Int} (v : env[i]? = some (.ml ds)) (hl : lo env = .val l env) (hh : hi env = .val h env) : oSl (oVar i) lo hi slA env = .val (.tmp (.ml (cutD ds l h))) env := by
  have v1 := var_of v rfl
  have g := var_get v rfl
  simp only [oSl, v1, hl, hh, g, sl_ml, ml_ok, if_true]
theorem frz_any {i : Nat} {env : LEnv} {lv : LV} {d : D} (h : env[i]? = some lv) (ok : lv.ok = true) (hf : lv.frz = some d) : oFrz (oVar i) env = .val (.tmp (.dat d)) (env.set i (.dat d)) := by
  have v := var_of h ok
  simp only [oFrz, v, h, hf]
end Lw
set_option maxRecDepth 100000
set_option maxHeartbeats 4000000
namespace Lw
open PySem PL
/-! the law's defs at the errors -/
def nmX (i : Nat) : Str := xN.getD (i + 3) ""
theorem upto16 {P : Nat → Prop} (h : P 0 ∧ P 1 ∧ P 2 ∧ P 3 ∧ P 4 ∧ P 5 ∧ P 6 ∧ P 7 ∧ P 8 ∧ P 9 ∧ P 10 ∧ P 11 ∧ P 12 ∧ P 13 ∧ P 14 ∧ P 15) : ∀ i < 16, P i := by
  intro i hi
  obtain ⟨h0, h1, h2, h3, h4, h5, h6, h7, h8, h9, h10, h11, h12, h13, h14, h15⟩ := h
  match i, hi with
  | 0, _ => exact h0
  | 1, _ => exact h1
  | 2, _ => exact h2
  | 3, _ => exact h3
  | 4, _ => exact h4
  | 5, _ => exact h5
  | 6, _ => exact h6
  | 7, _ => exact h7
  | 8, _ => exact h8
  | 9, _ => exact h9
  | 10, _ => exact h10
  | 11, _ => exact h11
  | 12, _ => exact h12
  | 13, _ => exact h13
  | 14, _ => exact h14
  | 15, _ => exact h15
  | n + 16, h => exact absurd h (by omega)
theorem made_spec (w : D) : ∀ i < 16, g__law_made [li (i : Nat), .dat w] = .ret (.dat (.exc (nmX i) [])) [li (i : Nat), .dat w] :=
  upto16 ⟨by kernel_rfl, by kernel_rfl, by kernel_rfl, by kernel_rfl, by kernel_rfl, by kernel_rfl, by kernel_rfl, by kernel_rfl, by kernel_rfl, by kernel_rfl, by kernel_rfl, by kernel_rfl, by kernel_rfl, by kernel_rfl, by kernel_rfl, by kernel_rfl⟩
theorem kinds_spec : ∀ i < 16, g__law_kinds_of [.dat (.exc (nmX i) [])] = .ret (.ml [.int (i : Nat)]) [.dat (.exc (nmX i) [])] :=
  upto16 ⟨by kernel_rfl, by kernel_rfl, by kernel_rfl, by kernel_rfl, by kernel_rfl, by kernel_rfl, by kernel_rfl, by kernel_rfl, by kernel_rfl, by kernel_rfl, by kernel_rfl, by kernel_rfl, by kernel_rfl, by kernel_rfl, by kernel_rfl, by kernel_rfl⟩
theorem base_spec : ∀ i < 16, g__law_base_right [.dat (.exc (nmX i) [])] = .ret (.dat (.bl true)) [.dat (.exc (nmX i) [])] :=
  upto16 ⟨by kernel_rfl, by kernel_rfl, by kernel_rfl, by kernel_rfl, by kernel_rfl, by kernel_rfl, by kernel_rfl, by kernel_rfl, by kernel_rfl, by kernel_rfl, by kernel_rfl, by kernel_rfl, by kernel_rfl, by kernel_rfl, by kernel_rfl, by kernel_rfl⟩
theorem kinds_many (fs : List (Str × D)) : g__law_kinds_of [.dat (.exc "TooMany" fs)] = .ret (.ml [.int 16]) [.dat (.exc "TooMany" fs)] := by kernel_rfl
theorem kinds_text (fs : List (Str × D)) : g__law_kinds_of [.dat (.exc "SyntaxProblem" fs)] = .ret (.ml [.int 17]) [.dat (.exc "SyntaxProblem" fs)] := by kernel_rfl
theorem kinds_base : g__law_kinds_of [.dat (.exc "TreeError" [])] = .ret (.ml []) [.dat (.exc "TreeError" [])] := by kernel_rfl
theorem base_many (fs : List (Str × D)) : g__law_base_right [.dat (.exc "TooMany" fs)] = .ret (.dat (.bl true)) [.dat (.exc "TooMany" fs)] := by kernel_rfl
theorem base_text (fs : List (Str × D)) : g__law_base_right [.dat (.exc "SyntaxProblem" fs)] = .ret (.dat (.bl true)) [.dat (.exc "SyntaxProblem" fs)] := by kernel_rfl
end Lw
set_option maxRecDepth 100000
set_option maxHeartbeats 4000000
namespace Lw
open PySem PL
/-! the law's pieces -/
abbrev rA : SM := sSeq (sSet 3 (oCall g__law_made (aCons (oFrz (oVar 2)) (aCons (oFrz (oCall g__law_pick (aCons (oVar 1) (aCons (oFrz (oOp (aCons (oC (.str "")) (aCons (oC (.str "x")) (aCons (oC (.str "a kind")) (aCons (oC (.str "1, 2")) (aNil))))) fLst)) (aNil))))) (aNil))))) (sIf (tmOr (tOf (o2 (oCall g__law_kinds_of (aCons (oFrz (oVar 3)) (aNil))) (oOp (aCons (oFrz (oVar 2)) (aNil)) fLst) fNeA)) (tmNot (tTru (oCall g__law_base_right (aCons (oFrz (oVar 3)) (aNil)))))) (sRet (oC (.bl false))) (sNil))
abbrev rB0 : SM := sSet 5 (oCall g__law_pick (aCons (oVar 1) (aCons (oFrz (oOp (aCons (oC (.int 0)) (aCons (oC (.int 5)) (aCons (oC (.int 40)) (aCons (oC (.int 200)) (aCons (oC (.int 4000)) (aCons (oFrz (oCall g__law_below (aCons (oVar 1) (aCons (oFrz (o2 (oC (.int 10)) (oC (.int 6)) fPowI)) (aNil))))) (aNil))))))) fLst)) (aNil))))
abbrev rB1 : SM := sPar2 6 7 (aCons (o2 (oC (.int 1)) (oCall g__law_below (aCons (oVar 1) (aCons (oC (.int 99)) (aNil)))) fAdd) (aCons (o2 (oC (.int 1)) (oCall g__law_below (aCons (oVar 1) (aCons (oFrz (o2 (oC (.int 10)) (oC (.int 4)) fPowI)) (aNil)))) fAdd) (aNil)))
abbrev rB2 : SM := sPar2 8 9 (aCons (oOp (aCons (oFrz (oVar 5)) (aNil)) (gMk1 "TooMany" "limit")) (aCons (oOp (aCons (oFrz (oVar 6)) (aCons (oFrz (oVar 7)) (aNil))) (gMk2 "SyntaxProblem" "line" "column")) (aNil)))
abbrev rB3 : SM := sIf (tmOr (tOf (o2 (oCall g__law_kinds_of (aCons (oFrz (oVar 8)) (aNil))) (oOp (aCons (oC (.int 16)) (aNil)) fLst) fNeA)) (tmOr (tOf (o2 (oCall g__law_kinds_of (aCons (oFrz (oVar 9)) (aNil))) (oOp (aCons (oC (.int 17)) (aNil)) fLst) fNeA)) (tOf (o2 (o1 (oVar 8) (f1 (gXf xFl "limit"))) (oVar 5) fNeA)))) (sRet (oC (.bl false))) (sNil)
abbrev rB4 : SM := sIf (tmOr (tOf (o2 (oOp (aCons (oFrz (o1 (oVar 9) (f1 (gXf xFl "line")))) (aCons (oFrz (o1 (oVar 9) (f1 (gXf xFl "column")))) (aNil))) fTup) (oOp (aCons (oFrz (oVar 6)) (aCons (oFrz (oVar 7)) (aNil))) fTup) fNeA)) (tmOr (tmNot (tTru (oCall g__law_base_right (aCons (oFrz (oVar 8)) (aNil))))) (tmNot (tTru (oCall g__law_base_right (aCons (oFrz (oVar 9)) (aNil))))))) (sRet (oC (.bl false))) (sNil)
abbrev rB : SM := sSeq rB0 (sSeq rB1 (sSeq rB2 (sSeq rB3 (rB4))))
theorem m_law_eq : m_law = sSeq (sSet 1 (oCall g__law_pot_of (aCons (oFrz (oVar 0)) (aNil)))) (sSeq (sFor (iRange1 (aCons (oC (.int 16)) (aNil))) (gmName 2) rA) (sSeq (sFor (iRange1 (aCons (oC (.int 8)) (aNil))) (gmName 4) rB) (sSeq (sSet 10 (o1 (oC (.str "x")) (f1 (gExc "TreeError")))) (sRet (oAnd (o2 (oCall g__law_kinds_of (aCons (oFrz (oVar 10)) (aNil))) (oOp (aNil) fLst) fEqA) (oOp (aCons (oVar 10) (aCons (oC (.cst (.ty "ValueError"))) (aNil))) (fIsiX xN xSub))))))) := rfl

theorem call2' {g : FM} {m1 m2 : OM} {d1 d2 r : D} {e e1 : LEnv} (q1 : m1 e = .val (.tmp (.dat d1)) e) (q2 : m2 e = .val (.tmp (.dat d2)) e1) (hg : g [.dat d1, .dat d2] = .ret (.dat r) [.dat d1, .dat d2]) : oCall g (aCons m1 (aCons m2 aNil)) e = .val (.tmp (.dat r)) e1 := by
  simp only [oCall, aCons, q1, q2, aNil, gets, tmp_get dat_ok, hg]
  rfl
theorem call_pickS {env env1 : LEnv} {i : Nat} {p0 p : LV} {m : OM} {ds : List D} (h : env[i]? = some p0) (d0 : Drawn p0) (h1 : env1[i]? = some p) (d : Drawn p) (hm : m env = .val (.tmp (.dat (.lst ds))) env1) (hn : ds ≠ []) (hz : ds.length < 1000) :
    ∃ y p', oCall g__law_pick (aCons (oVar i) (aCons m aNil)) env = .val (.tmp (.dat y)) (env1.set i p') ∧ y ∈ ds ∧ Drawn p' := by
  obtain ⟨y, p', e, h0, d'⟩ := pick p ds d hn (by omega)
  refine ⟨y, p', ?_, h0, d'⟩
  simp [oCall, aCons, aNil, var_of h d0.ok, hm, gets, Rf.get, h1, d.ok, ownVars, own_getD h1, d.own, e, okBack, dat_ok, dat_own, wb, d'.own]
def aTo (ms : AM) (e e1 : LEnv) (ds : List D) : Prop := ms e = .val (ds.map fun d => .tmp (.dat d)) e1
theorem aTo.nil {e : LEnv} : aTo aNil e e [] := rfl
theorem aTo.cons {m : OM} {ms : AM} {e e1 e2 : LEnv} {d : D} {ds : List D} (h : m e = .val (.tmp (.dat d)) e1) (hs : aTo ms e1 e2 ds) : aTo (aCons m ms) e e2 (d :: ds) := by
  unfold aTo at hs ⊢
  simp only [aCons, h, hs, List.map_cons]
theorem aTo.lst {ms : AM} {e e1 : LEnv} {ds : List D} (h : aTo ms e e1 ds) (hz : ds.length < 1000) : oOp ms fLst e = .val (.tmp (.ml ds)) e1 := by
  have z : ds.length ≤ sizeLine := by rw [sizeLine_eq]; omega
  have f : fLst (ds.map .dat) = some (.ml ds) := by simp only [fLst, data_dats, z, if_true]
  unfold aTo at h
  simp only [oOp, h, gets_dats, f, ml_ok, if_true]
theorem frz_mlE {m : OM} {ds : List D} {e e1 : LEnv} (h : m e = .val (.tmp (.ml ds)) e1) : oFrz m e = .val (.tmp (.dat (.lst ds))) e1 := by simp only [oFrz, h, LV.frz]
theorem op_1v {i : Nat} {x : LV} {z : D} {f : List LV → Option LV} {e : LEnv} (h : e[i]? = some x) (k : x.ok = true) (hf : f [x] = some (.dat z)) : oOp (aCons (oVar i) aNil) f e = .val (.tmp (.dat z)) e := by
  have v := var_of h k
  have g := var_get h k
  simp only [oOp, aCons, v, aNil, gets, g, hf, dat_ok, if_true]
theorem pow_ok (k : Nat) (hk : k ≤ 100) (e : LEnv) : oFrz (o2 (oC (.int 10)) (oC (.int (k : Nat))) fPowI) e = .val (.tmp (li ((10 : Int) ^ k))) e := by
  have f : fPowI [li 10, li (k : Nat)] = some (li ((10 : Int) ^ k)) := by
    have h : (0 : Int) ≤ (k : Nat) ∧ ((k : Nat) : Int) ≤ 1000000 := by omega
    simp [fPowI, f2, gI, h]
  exact frz_tmp (op_val (m1 := oC (.int 10)) (m2 := oC (.int (k : Nat))) rfl rfl rfl rfl f)
theorem one_cmp (i : Int) : ∃ p, Cmp 1 (.lst [.int i]) p := cmp_lst fun d hd => by
  have : d = .int i := by simpa using hd
  subst this
  exact ⟨.int i, rfl, rfl, Nat.le_refl _⟩
theorem two_cmp (i j : Int) : ∃ p, Cmp 1 (.tup [.int i, .int j]) p := cmp_tup fun d hd => by
  have : d = .int i ∨ d = .int j := by simpa using hd
  rcases this with rfl | rfl
  · exact ⟨.int i, rfl, rfl, Nat.le_refl _⟩
  · exact ⟨.int j, rfl, rfl, Nat.le_refl _⟩
theorem ne_one {m1 m2 : OM} {i : Int} {e : LEnv} (h1 : m1 e = .val (.tmp (.ml [.int i])) e) (h2 : m2 e = .val (.tmp (.ml [.int i])) e) : tOf (o2 m1 m2 fNeA) e = .val false e := by
  obtain ⟨p, c⟩ := one_cmp i
  exact of_val (op_val h1 h2 rfl rfl (ne_sameL c (by omega)))
theorem stA (s p a3 a4 a5 a6 a7 a8 a9 a10 : LV) (i : Nat) (hi : i < 16) (hp : Drawn p) : ∃ p' a3', rA [s, p, li (i : Nat), a3, a4, a5, a6, a7, a8, a9, a10] = .nx [s, p', li (i : Nat), a3', a4, a5, a6, a7, a8, a9, a10] ∧ Drawn p' := by
  have dsp := frz_ml ((aOk.cons (m := oC (.str "")) rfl (aOk.cons (m := oC (.str "x")) rfl (aOk.cons (m := oC (.str "a kind")) rfl (aOk.cons (m := oC (.str "1, 2")) rfl aOk.nil)))).lst (e := [s, p, li (i : Nat), a3, a4, a5, a6, a7, a8, a9, a10]) (by simp))
  obtain ⟨y, p1, e1, _, d1⟩ := call_pick' (i := 1) rfl rfl hp dsp (by simp) (by simp)
  have v2 := frz_var (i := 2) (env := [s, p, li (i : Nat), a3, a4, a5, a6, a7, a8, a9, a10]) (d := .int (i : Nat)) rfl
  have c := call2' v2 (frz_dat e1) (made_spec y i hi)
  have s1 : sSet 3 (oCall g__law_made (aCons (oFrz (oVar 2)) (aCons (oFrz (oCall g__law_pick (aCons (oVar 1) (aCons (oFrz (oOp (aCons (oC (.str "")) (aCons (oC (.str "x")) (aCons (oC (.str "a kind")) (aCons (oC (.str "1, 2")) (aNil))))) fLst)) (aNil))))) (aNil)))) [s, p, li (i : Nat), a3, a4, a5, a6, a7, a8, a9, a10] = .nx [s, p1, li (i : Nat), .dat (.exc (nmX i) []), a4, a5, a6, a7, a8, a9, a10] := set_val (i := 3) c
  refine ⟨p1, .dat (.exc (nmX i) []), ?_, d1⟩
  unfold rA
  rw [seq_nx s1]
  have v3 := frz_var (i := 3) (env := [s, p1, li (i : Nat), .dat (.exc (nmX i) []), a4, a5, a6, a7, a8, a9, a10]) (d := .exc (nmX i) []) rfl
  have v2' := frz_var (i := 2) (env := [s, p1, li (i : Nat), .dat (.exc (nmX i) []), a4, a5, a6, a7, a8, a9, a10]) (d := .int (i : Nat)) rfl
  exact if_n ((or_f (ne_one (call1m v3 (kinds_spec i hi)) ((aOk.cons v2' aOk.nil).lst (by simp)))).trans (not_v (tru_of (call1 v3 (base_spec i hi)))))
abbrev fs1 (v : Int) : List (Str × D) := [("limit", .int v)]
abbrev fs2 (l c : Int) : List (Str × D) := [("column", .int c), ("line", .int l)]
theorem stB (s p a2 a3 a4 a5 a6 a7 a8 a9 a10 : LV) (hp : Drawn p) : ∃ p' b5 b6 b7 b8 b9, rB [s, p, a2, a3, a4, a5, a6, a7, a8, a9, a10] = .nx [s, p', a2, a3, a4, b5, b6, b7, b8, b9, a10] ∧ Drawn p' := by
  have p46 : ((10 : Int) ^ 6) = 1000000 := by decide
  have p44 : ((10 : Int) ^ 4) = 10000 := by decide
  -- the limit
  obtain ⟨r, p1, e1, r0, r1, d1⟩ := call_below (env := [s, p, a2, a3, a4, a5, a6, a7, a8, a9, a10]) (i := 1) rfl hp (pow_ok 6 (by omega) _) (by decide)
  have dsp := frz_mlE ((aTo.cons (m := oC (.int 0)) rfl (aTo.cons (m := oC (.int 5)) rfl (aTo.cons (m := oC (.int 40)) rfl (aTo.cons (m := oC (.int 200)) rfl (aTo.cons (m := oC (.int 4000)) rfl (aTo.cons (frz_dat e1) aTo.nil)))))).lst (e := [s, p, a2, a3, a4, a5, a6, a7, a8, a9, a10]) (by simp))
  obtain ⟨y, p2, e2, hy, d2⟩ := call_pickS (i := 1) (env := [s, p, a2, a3, a4, a5, a6, a7, a8, a9, a10]) (env1 := [s, p1, a2, a3, a4, a5, a6, a7, a8, a9, a10]) rfl hp rfl d1 dsp (by simp) (by simp)
  obtain ⟨v, rfl, hv⟩ : ∃ v : Int, y = .int v ∧ v.natAbs < 10 ^ 12 := by
    simp only [List.mem_cons, List.not_mem_nil, or_false] at hy
    rcases hy with rfl | rfl | rfl | rfl | rfl | rfl
    · exact ⟨0, rfl, by decide⟩
    · exact ⟨5, rfl, by decide⟩
    · exact ⟨40, rfl, by decide⟩
    · exact ⟨200, rfl, by decide⟩
    · exact ⟨4000, rfl, by decide⟩
    · exact ⟨r, rfl, by omega⟩
  have s0 : rB0 [s, p, a2, a3, a4, a5, a6, a7, a8, a9, a10] = .nx [s, p2, a2, a3, a4, li v, a6, a7, a8, a9, a10] := set_val (i := 5) e2
  -- line and column
  obtain ⟨l, p3, e3, l0, l1, d3⟩ := call_below (env := [s, p2, a2, a3, a4, li v, a6, a7, a8, a9, a10]) (i := 1) (m := oC (.int 99)) (n := 99) rfl d2 rfl (by decide)
  obtain ⟨c, p4, e4, c0, c1, d4⟩ := call_below (env := [s, p3, a2, a3, a4, li v, a6, a7, a8, a9, a10]) (i := 1) rfl d3 (pow_ok 4 (by omega) _) (by decide)
  have o1 := op_val3 (m1 := oC (.int 1)) (x := li 1) (e1 := [s, p2, a2, a3, a4, li v, a6, a7, a8, a9, a10]) rfl e3 rfl rfl (add_ok (i := 1) (j := l))
  have o2 := op_val3 (m1 := oC (.int 1)) (x := li 1) (e1 := [s, p3, a2, a3, a4, li v, a6, a7, a8, a9, a10]) rfl e4 rfl rfl (add_ok (i := 1) (j := c))
  have s1 : rB1 [s, p2, a2, a3, a4, li v, a6, a7, a8, a9, a10] = .nx [s, p4, a2, a3, a4, li v, li (1 + l), li (1 + c), a8, a9, a10] := par2_val (i := 6) (j := 7) o1 o2
  -- the errors
  have hl : (1 + l).natAbs < 10 ^ 12 := by omega
  have hc : (1 + c).natAbs < 10 ^ 12 := by omega
  have g1 : gMk1 "TooMany" "limit" [.dat (.int v)] = some (.dat (.exc "TooMany" (fs1 v))) := by simp only [gMk1, hv, if_true]
  have g2 : gMk2 "SyntaxProblem" "line" "column" [.dat (.int (1 + l)), .dat (.int (1 + c))] = some (.dat (.exc "SyntaxProblem" (fs2 (1 + l) (1 + c)))) := by simp only [gMk2, hl, hc, and_self, if_true]
  have f5 := frz_var (i := 5) (env := [s, p4, a2, a3, a4, li v, li (1 + l), li (1 + c), a8, a9, a10]) (d := .int v) rfl
  have f6 := frz_var (i := 6) (env := [s, p4, a2, a3, a4, li v, li (1 + l), li (1 + c), a8, a9, a10]) (d := .int (1 + l)) rfl
  have f7 := frz_var (i := 7) (env := [s, p4, a2, a3, a4, li v, li (1 + l), li (1 + c), a8, a9, a10]) (d := .int (1 + c)) rfl
  have s2 : rB2 [s, p4, a2, a3, a4, li v, li (1 + l), li (1 + c), a8, a9, a10] = .nx [s, p4, a2, a3, a4, li v, li (1 + l), li (1 + c), .dat (.exc "TooMany" (fs1 v)), .dat (.exc "SyntaxProblem" (fs2 (1 + l) (1 + c))), a10] :=
    par2_val (i := 8) (j := 9) (aOk.op f5 g1) (op_val f6 f7 rfl rfl g2)
  have h8 := frz_var (i := 8) (env := [s, p4, a2, a3, a4, li v, li (1 + l), li (1 + c), .dat (.exc "TooMany" (fs1 v)), .dat (.exc "SyntaxProblem" (fs2 (1 + l) (1 + c))), a10]) (d := .exc "TooMany" (fs1 v)) rfl
  have h9 := frz_var (i := 9) (env := [s, p4, a2, a3, a4, li v, li (1 + l), li (1 + c), .dat (.exc "TooMany" (fs1 v)), .dat (.exc "SyntaxProblem" (fs2 (1 + l) (1 + c))), a10]) (d := .exc "SyntaxProblem" (fs2 (1 + l) (1 + c))) rfl
  have h6 := frz_var (i := 6) (env := [s, p4, a2, a3, a4, li v, li (1 + l), li (1 + c), .dat (.exc "TooMany" (fs1 v)), .dat (.exc "SyntaxProblem" (fs2 (1 + l) (1 + c))), a10]) (d := .int (1 + l)) rfl
  have h7 := frz_var (i := 7) (env := [s, p4, a2, a3, a4, li v, li (1 + l), li (1 + c), .dat (.exc "TooMany" (fs1 v)), .dat (.exc "SyntaxProblem" (fs2 (1 + l) (1 + c))), a10]) (d := .int (1 + c)) rfl
  have x1 := op_1v (i := 8) (e := [s, p4, a2, a3, a4, li v, li (1 + l), li (1 + c), .dat (.exc "TooMany" (fs1 v)), .dat (.exc "SyntaxProblem" (fs2 (1 + l) (1 + c))), a10]) (f := f1 (gXf xFl "limit")) (z := .int v) rfl rfl (by kernel_rfl)
  have x2 := op_1v (i := 9) (e := [s, p4, a2, a3, a4, li v, li (1 + l), li (1 + c), .dat (.exc "TooMany" (fs1 v)), .dat (.exc "SyntaxProblem" (fs2 (1 + l) (1 + c))), a10]) (f := f1 (gXf xFl "line")) (z := .int (1 + l)) rfl rfl (by kernel_rfl)
  have x3 := op_1v (i := 9) (e := [s, p4, a2, a3, a4, li v, li (1 + l), li (1 + c), .dat (.exc "TooMany" (fs1 v)), .dat (.exc "SyntaxProblem" (fs2 (1 + l) (1 + c))), a10]) (f := f1 (gXf xFl "column")) (z := .int (1 + c)) rfl rfl (by kernel_rfl)
  have t3 := op_val2 (j := 5) x1 rfl rfl rfl (ne_int v v)
  have ez : (!decide (v = v)) = false := by simp
  rw [ez] at t3
  have s3 : rB3 [s, p4, a2, a3, a4, li v, li (1 + l), li (1 + c), .dat (.exc "TooMany" (fs1 v)), .dat (.exc "SyntaxProblem" (fs2 (1 + l) (1 + c))), a10] = .nx [s, p4, a2, a3, a4, li v, li (1 + l), li (1 + c), .dat (.exc "TooMany" (fs1 v)), .dat (.exc "SyntaxProblem" (fs2 (1 + l) (1 + c))), a10] :=
    if_n ((or_f (ne_one (call1m h8 (kinds_many (fs1 v))) ((aOk.cons (m := oC (.int 16)) rfl aOk.nil).lst (by simp)))).trans ((or_f (ne_one (call1m h9 (kinds_text _)) ((aOk.cons (m := oC (.int 17)) rfl aOk.nil).lst (by simp)))).trans (of_val t3)))
  obtain ⟨pp, cp⟩ := two_cmp (1 + l) (1 + c)
  have t4 := of_val (op_val ((aOk.cons (frz_tmp x2) (aOk.cons (frz_tmp x3) aOk.nil)).tup (by simp)) ((aOk.cons h6 (aOk.cons h7 aOk.nil)).tup (by simp)) rfl rfl (ne_same cp (by omega)))
  have s4 : rB4 [s, p4, a2, a3, a4, li v, li (1 + l), li (1 + c), .dat (.exc "TooMany" (fs1 v)), .dat (.exc "SyntaxProblem" (fs2 (1 + l) (1 + c))), a10] = .nx [s, p4, a2, a3, a4, li v, li (1 + l), li (1 + c), .dat (.exc "TooMany" (fs1 v)), .dat (.exc "SyntaxProblem" (fs2 (1 + l) (1 + c))), a10] :=
    if_n ((or_f t4).trans ((or_f (not_v (tru_of (call1 h8 (base_many (fs1 v)))))).trans (not_v (tru_of (call1 h9 (base_text _))))))
  refine ⟨p4, li v, li (1 + l), li (1 + c), .dat (.exc "TooMany" (fs1 v)), .dat (.exc "SyntaxProblem" (fs2 (1 + l) (1 + c))), ?_, d4⟩
  unfold rB
  rw [seq_nx s0, seq_nx s1, seq_nx s2, seq_nx s3, s4]
theorem law_true (ns : List Int) (hns : ns.length ≤ 63) : ∃ lvs, g_law [scr ns] = .ret (.dat (.bl true)) lvs := by
  obtain ⟨p, e, d⟩ := pot_of ns hns
  have rr1 := range_val (m := oC (.int 16)) (k := 16) (e1 := [scr ns, p, .un, .un, .un, .un, .un, .un, .un, .un, .un]) rfl (by decide)
  obtain ⟨env', h1, p1, b2, b3, he, d1⟩ := forD_pre (g := gmName 2) (n := rA) (fun _ env => ∃ p a2 a3, env = [scr ns, p, a2, a3, .un, .un, .un, .un, .un, .un, .un] ∧ Drawn p) (rangeD 0 16)
    (fun pre x suf e0 hx ⟨p, a2, a3, he, d⟩ => by
      subst he
      obtain ⟨i, hi, rfl⟩ : ∃ i : Nat, i < 16 ∧ x = .int (i : Nat) := by
        have : x ∈ rangeD 0 16 := by rw [← hx]; simp
        simp only [rangeD, List.mem_map, List.mem_range] at this
        obtain ⟨i, hi, rfl⟩ := this
        exact ⟨i, hi, by simp⟩
      obtain ⟨p', a3', e1, d'⟩ := stA (scr ns) p a3 .un .un .un .un .un .un .un i hi d
      exact ⟨[scr ns, p, li (i : Nat), a3, .un, .un, .un, .un, .un, .un, .un], _, rfl, .inl e1, p', _, _, rfl, d'⟩) (rangeD 0 16) [] [scr ns, p, .un, .un, .un, .un, .un, .un, .un, .un, .un] ⟨p, _, _, rfl, d⟩ rfl
  subst he
  have rr2 := range_val (m := oC (.int 8)) (k := 8) (e1 := [scr ns, p1, b2, b3, .un, .un, .un, .un, .un, .un, .un]) rfl (by decide)
  obtain ⟨env'', h2, p2, c4, c5, c6, c7, c8, c9, he, d2⟩ := forD_keep (g := gmName 4) (n := rB) (fun _ env => ∃ p a4 a5 a6 a7 a8 a9, env = [scr ns, p, b2, b3, a4, a5, a6, a7, a8, a9, .un] ∧ Drawn p) (rangeD 0 8) [] [scr ns, p1, b2, b3, .un, .un, .un, .un, .un, .un, .un] ⟨p1, _, _, _, _, _, _, rfl, d1⟩
    (fun _ y e0 hy ⟨p, a4, a5, a6, a7, a8, a9, he, d⟩ => by
      subst he
      obtain ⟨p', x5, x6, x7, x8, x9, e1, d'⟩ := stB (scr ns) p b2 b3 (.dat y) a5 a6 a7 a8 a9 .un d
      exact ⟨[scr ns, p, b2, b3, .dat y, a5, a6, a7, a8, a9, .un], _, rfl, .inl e1, p', _, _, _, _, _, _, rfl, d'⟩)
  subst he
  refine ⟨[scr ns], def_rt rfl rfl (e2 := [scr ns, p2, b2, b3, c4, c5, c6, c7, c8, c9, .dat (.exc "TreeError" [])]) ?_⟩
  rw [m_law_eq]
  have s1 : sSet 1 (oCall g__law_pot_of (aCons (oFrz (oVar 0)) (aNil))) [scr ns, .un, .un, .un, .un, .un, .un, .un, .un, .un, .un] = .nx [scr ns, p, .un, .un, .un, .un, .un, .un, .un, .un, .un] := by
    have f := frz_var (i := 0) (env := [scr ns, .un, .un, .un, .un, .un, .un, .un, .un, .un, .un]) (d := .slst (ns.map .int)) rfl
    refine set_val (i := 1) (x := p) (e2 := [scr ns, .un, .un, .un, .un, .un, .un, .un, .un, .un, .un]) ?_
    have e' : g__law_pot_of [.dat (.slst (ns.map .int))] = .ret p [.dat (.slst (ns.map .int))] := e
    simp only [oCall, aCons, f, aNil, gets, tmp_get dat_ok, e', d.ok]
    rfl
  show sSeq _ _ [scr ns, .un, .un, .un, .un, .un, .un, .un, .un, .un, .un] = _
  rw [seq_nx s1, seq_nx ((for_val rr1).trans h1), seq_nx ((for_val rr2).trans h2)]
  have s10 : sSet 10 (o1 (oC (.str "x")) (f1 (gExc "TreeError"))) [scr ns, p2, b2, b3, c4, c5, c6, c7, c8, c9, .un] = .nx [scr ns, p2, b2, b3, c4, c5, c6, c7, c8, c9, .dat (.exc "TreeError" [])] :=
    set_val (i := 10) (aOk.op (d := .str "x") (f := f1 (gExc "TreeError")) (z := .exc "TreeError" []) rfl rfl)
  rw [seq_nx s10]
  have v := frz_var (i := 10) (env := [scr ns, p2, b2, b3, c4, c5, c6, c7, c8, c9, .dat (.exc "TreeError" [])]) (d := .exc "TreeError" []) rfl
  have q1 := of_val (op_val (call1m v kinds_base) (lst0 _) rfl rfl (z := .bl true) (f := fEqA) (by kernel_rfl))
  have q2 : oOp (aCons (oVar 10) (aCons (oC (.cst (.ty "ValueError"))) (aNil))) (fIsiX xN xSub) [scr ns, p2, b2, b3, c4, c5, c6, c7, c8, c9, .dat (.exc "TreeError" [])] = .val (.tmp (.dat (.bl true))) [scr ns, p2, b2, b3, c4, c5, c6, c7, c8, c9, .dat (.exc "TreeError" [])] :=
    op_vc (i := 10) rfl rfl (by kernel_rfl)
  refine ret_val ?_
  simp only [oAnd, q1, q2]
end Lw
set_option maxRecDepth 100000
set_option maxHeartbeats 4000000
namespace Lw
open PySem L2 PyProof.Rows PySem.W PL
def top (i : Nat) : Stmt := PySem.Challenge.pw_treelaws_k06_errors.main.body.getD i (.Pass ⟨0, 0, 0, 0⟩)
/-- what the module has and has not -/
structure Glo (B : Base) : Prop where
  ValueError_ : B.mg "ValueError" = none
  abs_ : B.mg "abs" = none
  enumerate_ : B.mg "enumerate" = none
  int_ : B.mg "int" = none
  isinstance_ : B.mg "isinstance" = none
  len_ : B.mg "len" = none
  range_ : B.mg "range" = none
  k_TreeError : B.mg "TreeError" = some (.ref (B.R.ct "TreeError"))
  x_TreeError : ExcAt B "TreeError"
  k_SyntaxProblem : B.mg "SyntaxProblem" = some (.ref (B.R.ct "SyntaxProblem"))
  k_TooMany : B.mg "TooMany" = some (.ref (B.R.ct "TooMany"))
  k_NoSchema : B.mg "NoSchema" = some (.ref (B.R.ct "NoSchema"))
  x_NoSchema : ExcAt B "NoSchema"
  k_NoSheet : B.mg "NoSheet" = some (.ref (B.R.ct "NoSheet"))
  x_NoSheet : ExcAt B "NoSheet"
  k_NoTree : B.mg "NoTree" = some (.ref (B.R.ct "NoTree"))
  x_NoTree : ExcAt B "NoTree"
  k_NoForm : B.mg "NoForm" = some (.ref (B.R.ct "NoForm"))
  x_NoForm : ExcAt B "NoForm"
  k_NoSpace : B.mg "NoSpace" = some (.ref (B.R.ct "NoSpace"))
  x_NoSpace : ExcAt B "NoSpace"
  k_NoFilter : B.mg "NoFilter" = some (.ref (B.R.ct "NoFilter"))
  x_NoFilter : ExcAt B "NoFilter"
  k_NoModulus : B.mg "NoModulus" = some (.ref (B.R.ct "NoModulus"))
  x_NoModulus : ExcAt B "NoModulus"
  k_Mismatch : B.mg "Mismatch" = some (.ref (B.R.ct "Mismatch"))
  x_Mismatch : ExcAt B "Mismatch"
  k_NoKind : B.mg "NoKind" = some (.ref (B.R.ct "NoKind"))
  x_NoKind : ExcAt B "NoKind"
  k_NoNumber : B.mg "NoNumber" = some (.ref (B.R.ct "NoNumber"))
  x_NoNumber : ExcAt B "NoNumber"
  k_NoPath : B.mg "NoPath" = some (.ref (B.R.ct "NoPath"))
  x_NoPath : ExcAt B "NoPath"
  k_NoPrice : B.mg "NoPrice" = some (.ref (B.R.ct "NoPrice"))
  x_NoPrice : ExcAt B "NoPrice"
  k_NameTaken : B.mg "NameTaken" = some (.ref (B.R.ct "NameTaken"))
  x_NameTaken : ExcAt B "NameTaken"
  k_NoName : B.mg "NoName" = some (.ref (B.R.ct "NoName"))
  x_NoName : ExcAt B "NoName"
  k_NoMark : B.mg "NoMark" = some (.ref (B.R.ct "NoMark"))
  x_NoMark : ExcAt B "NoMark"
  k_InvalidCommand : B.mg "InvalidCommand" = some (.ref (B.R.ct "InvalidCommand"))
  x_InvalidCommand : ExcAt B "InvalidCommand"
  xtab : XTab B.R xN xSub
  xfld : XFld B.R xFl
/-- a def of a class -/
def meth (i j : Nat) : Stmt := match top i with
  | .ClassDef _ _ _ body _ _ _ _ _ _ _ => body.getD j (.Pass ⟨0, 0, 0, 0⟩)
  | s => s
theorem sc_SyntaxProblem : FnScope ["self", "line", "column"] ["self", "line", "column"] (defScope (meth 2 0)) := ⟨rfl, rfl, rfl, by decide +kernel, rfl, by decide +kernel, by decide +kernel⟩
theorem mk_SyntaxProblem {B : Base} {fI : Addr} {fd : FuncData} {T : Addr} (D : Fun B.R.K "__init__" "SyntaxProblem.__init__" (meth 2 0) fI fd) (hb : Binds B.R.K fd ["self", "line", "column"] []) (O : OexC B.R.K (B.R.ct "SyntaxProblem")) (iC : PySem.W.findIn B.R.K (.ref (B.R.ct "SyntaxProblem")) "__init__" = some (some (.ref fI))) (tI : PySem.W.typeIn B.R.K (.ref fI) = some (.type "function")) (hm : B.mg "SyntaxProblem" = some (.ref (B.R.ct "SyntaxProblem"))) (S : SupAt B.R.K B.mg "TreeError" T) (no0 : PySem.W.findIn B.R.K (.ref (B.R.ct "SyntaxProblem")) "line" = some none) (no1 : PySem.W.findIn B.R.K (.ref (B.R.ct "SyntaxProblem")) "column" = some none) :
    MkJ B "SyntaxProblem" 1 ["self", "line", "column"] (sp2 (B.R.ct "SyntaxProblem") "line" "column") :=
  ⟨fI, fd, O, iC, tI, fun_gm (k := 0) D sc_SyntaxProblem (fun vs H Q E ⟨a, i, j, e, _⟩ => by rw [e]; rfl) (fun cv A out t H vs Q E room gd ⟨a, i, j, e, hi, hj, ha, k⟩ => ⟨tIn2 B.R.K "line" "column" "line " ", column " " is not valid", pss_cons (ps_expr (pe_clsinit rfl S.m S.sg S.rd S.fc (pa_cons (pv 0) (pa_cons (pe_joined (.cons pe_str (.cons (pe_fmt (pv 1)) (.cons pe_str (.cons (pe_fmt (pv 2)) (.cons pe_str .nil)))))) pa_nil)))) (pss_cons (ps_ost (pv 0) (pv 1)) (pss_one (ps_ost (pv 0) (pv 2)))), by subst e; exact rd2 (by decide) (by decide) (by decide) O no0 no1 rfl rfl rfl hi hj ha k⟩), hb, hm⟩
theorem sc_TooMany : FnScope ["self", "limit"] ["self", "limit"] (defScope (meth 3 0)) := ⟨rfl, rfl, rfl, by decide +kernel, rfl, by decide +kernel, by decide +kernel⟩
theorem mk_TooMany {B : Base} {fI : Addr} {fd : FuncData} {T : Addr} (D : Fun B.R.K "__init__" "TooMany.__init__" (meth 3 0) fI fd) (hb : Binds B.R.K fd ["self", "limit"] []) (O : OexC B.R.K (B.R.ct "TooMany")) (iC : PySem.W.findIn B.R.K (.ref (B.R.ct "TooMany")) "__init__" = some (some (.ref fI))) (tI : PySem.W.typeIn B.R.K (.ref fI) = some (.type "function")) (hm : B.mg "TooMany" = some (.ref (B.R.ct "TooMany"))) (S : SupAt B.R.K B.mg "TreeError" T) (no0 : PySem.W.findIn B.R.K (.ref (B.R.ct "TooMany")) "limit" = some none) :
    MkJ B "TooMany" 1 ["self", "limit"] (sp1 (B.R.ct "TooMany") "limit") :=
  ⟨fI, fd, O, iC, tI, fun_gm (k := 0) D sc_TooMany (fun vs H Q E ⟨a, i, e, _⟩ => by rw [e]; rfl) (fun cv A out t H vs Q E room gd ⟨a, i, e, hi, ha, k⟩ => ⟨tIn1 B.R.K "limit" "more than ", pss_cons (ps_expr (pe_clsinit rfl S.m S.sg S.rd S.fc (pa_cons (pv 0) (pa_cons (pe_joined (.cons pe_str (.cons (pe_fmt (pv 1)) .nil))) pa_nil)))) (pss_one (ps_ost (pv 0) (pv 1))), by subst e; exact rd1 (by decide) O no0 rfl rfl hi ha k⟩), hb, hm⟩
/-- the defs that _law_base_right calls -/
structure Has__law_base_right (B : Base) : Prop where
/-! _law_base_right -/
theorem sc__law_base_right : FnScope ["error"] ["error"] (defScope (top 28)) := ⟨rfl, rfl, rfl, by decide +kernel, rfl, by decide +kernel, by decide +kernel⟩
theorem d__law_base_right {B : Base} (D : DefAt B "_law_base_right" (top 28) ["error"]) (G : Glo B) (H : Has__law_base_right B) : DJ B "_law_base_right" 1 ["error"] g__law_base_right :=
  have S := sc__law_base_right; dj_mk (P := []) D S fun f cdv A outer s Hp E hr gd tk po =>
    (bj_one (sj_ret (oj_and (oj_callBn (jIsiX G.xtab rfl) G.isinstance_ boot_isinstance' (aj_cons (ov 0) (aj_cons (o_cls G.k_TreeError) aj_nil))) (oj_one (oj_callBn (jIsiX G.xtab rfl) G.isinstance_ boot_isinstance' (aj_cons (ov 0) (aj_cons (o_ty G.ValueError_ boot_ValueError') aj_nil)))))))
/-- the defs that _law_kneaded calls -/
structure Has__law_kneaded (B : Base) : Prop where
/-! _law_kneaded -/
theorem sc__law_kneaded : FnScope ["seed", "lap", "prime", "amount", "again"] ["seed", "lap"] (defScope (top 21)) := ⟨rfl, rfl, rfl, by decide +kernel, rfl, by decide +kernel, by decide +kernel⟩
theorem d__law_kneaded {B : Base} (D : DefAt B "_law_kneaded" (top 21) ["seed", "lap"]) (G : Glo B) (H : Has__law_kneaded B) : DJ B "_law_kneaded" 1 ["seed", "lap"] g__law_kneaded :=
  have S := sc__law_kneaded; dj_mk (P := []) D S fun f cdv A outer s Hp E hr gd tk po =>
    (bj_cons (sj_set S.nd rfl (.inl rfl) (by decide) oj_int)
    (bj_cons (sj_set S.nd rfl (.inl rfl) (by decide) (oj_bin jModI (oj_bin (jAdd rfl) (oj_bin (jAdd rfl) (oj_bin jMulA (ov 0) oj_int) (oj_bin jMulA (ov 1) oj_int)) oj_int) (ov 2)))
    (bj_cons (sj_for po rfl (ij_range1 rfl G.range_ (aj_cons oj_int aj_nil)) (gj_name S.nd rfl (.inl rfl) (nmem rfl))
    (bj_one (sj_set S.nd rfl (.inl rfl) (by decide) (oj_bin jModI (oj_bin (jAdd rfl) (oj_bin (jAdd rfl) (oj_bin (jAdd rfl) (oj_bin jMulA (ov 3) (ov 3)) (oj_bin jMulA oj_int (ov 3))) (oj_bin jMulA oj_int (ov 4))) (ov 1)) (ov 2)))))
    (bj_one (sj_ret (oj_bin (jAdd rfl) (oj_bin jMulA (ov 3) (ov 2)) (oj_bin jModI (oj_bin (jAdd rfl) (oj_bin jMulA (ov 3) oj_int) (ov 1)) (ov 2))))))))
/-- the defs that _law_below calls -/
structure Has__law_below (B : Base) : Prop where
  d__law_kneaded : DJ B "_law_kneaded" 1 ["seed", "lap"] g__law_kneaded
/-! _law_below -/
theorem sc__law_below : FnScope ["pot", "bound", "cells", "place", "amount", "found"] ["pot", "bound"] (defScope (top 23)) := ⟨rfl, rfl, rfl, by decide +kernel, rfl, by decide +kernel, by decide +kernel⟩
theorem d__law_below {B : Base} (D : DefAt B "_law_below" (top 23) ["pot", "bound"]) (G : Glo B) (H : Has__law_below B) : DJ B "_law_below" 2 ["pot", "bound"] g__law_below :=
  have S := sc__law_below; dj_mk (P := [0]) D S fun f cdv A outer s Hp E hr gd tk po =>
    (bj_cons (sj_if (tj_cmp jLtI (oj_ix (jIxA rfl (hu1 hr)) (ov 0) oj_int (fun _ _ => rfl)) (ov 1) rfl) (bj_cons (sj_par2 rfl S.nd (aj_cons (oj_ix (jIxA rfl (hu1 hr)) (ov 0) oj_int (fun _ _ => rfl)) (aj_cons (oj_ix (jIxA rfl (hu1 hr)) (ov 0) oj_int (fun _ _ => rfl)) aj_nil)))
    (bj_cons (sj_set S.nd rfl (.inl rfl) (by decide) (oj_if (tj_cmp (jNeA rfl (hu64 hr)) (ov 2) (oj_lst aj_nil) rfl) (oj_ix (jIxA rfl (hu1 hr)) (ov 2) (oj_bin jModI (ov 3) (oj_callBn jLenA G.len_ boot_len' (aj_cons (ov 2) aj_nil))) (fun _ _ => rfl)) oj_int))
    (bj_cons (sj_if (tj_w (wj_or (tj_cmp jGeI (ov 3) (oj_callBn jLenA G.len_ boot_len' (aj_cons (ov 2) aj_nil)) rfl) (wj_or1 (tj_cmp jLtI (ov 4) (oj_bin jPowI oj_int oj_int) rfl)))) (bj_one (sj_set S.nd rfl (.inl rfl) (by decide) (o_def H.d__law_kneaded hr gd tk (aj_cons (oj_frz (oj_bin jModI (oj_callTn jInt G.int_ boot_int' (aj_cons (ov 4) aj_nil)) oj_int)) (aj_cons (oj_frz (ov 3)) aj_nil)) (lenC (lenC lenN))))) bj_nil)
    (bj_cons (sj_put (jStA (hu1 hr)) (oj_bin (jAdd rfl) (ov 3) oj_int) (ov 0) oj_int)
    (bj_cons (sj_put (jStA (hu1 hr)) (ov 4) (ov 0) oj_int)
    (bj_one (sj_put (jStA (hu1 hr)) (ov 4) (ov 0) oj_int))))))) bj_nil)
    (bj_cons (sj_set S.nd rfl (.inl rfl) (by decide) (oj_bin jModI (oj_callTn jInt G.int_ boot_int' (aj_cons (oj_ix (jIxA rfl (hu1 hr)) (ov 0) oj_int (fun _ _ => rfl)) aj_nil)) (ov 1)))
    (bj_cons (sj_put (jStA (hu1 hr)) (oj_bin jDivI (oj_ix (jIxA rfl (hu1 hr)) (ov 0) oj_int (fun _ _ => rfl)) (ov 1)) (ov 0) oj_int)
    (bj_cons (sj_put (jStA (hu1 hr)) (oj_bin jDivI (oj_ix (jIxA rfl (hu1 hr)) (ov 0) oj_int (fun _ _ => rfl)) (ov 1)) (ov 0) oj_int)
    (bj_one (sj_ret (oj_move (ov 5))))))))
/-- the defs that _law_kinds_of calls -/
structure Has__law_kinds_of (B : Base) : Prop where
/-! _law_kinds_of -/
theorem sc__law_kinds_of : FnScope ["error", "found", "place"] ["error"] (defScope (top 27)) := ⟨rfl, rfl, rfl, by decide +kernel, rfl, by decide +kernel, by decide +kernel⟩
theorem d__law_kinds_of {B : Base} (D : DefAt B "_law_kinds_of" (top 27) ["error"]) (G : Glo B) (H : Has__law_kinds_of B) : DJ B "_law_kinds_of" 1 ["error"] g__law_kinds_of :=
  have S := sc__law_kinds_of; dj_mk (P := []) D S fun f cdv A outer s Hp E hr gd tk po =>
    (bj_cons (sj_set S.nd rfl (.inr rfl) (by decide) (oj_lst (aj_cons (oj_frz (oj_callBn (jIsiX G.xtab rfl) G.isinstance_ boot_isinstance' (aj_cons (ov 0) (aj_cons (o_cls G.k_NoSchema) aj_nil)))) (aj_cons (oj_frz (oj_callBn (jIsiX G.xtab rfl) G.isinstance_ boot_isinstance' (aj_cons (ov 0) (aj_cons (o_cls G.k_NoSheet) aj_nil)))) (aj_cons (oj_frz (oj_callBn (jIsiX G.xtab rfl) G.isinstance_ boot_isinstance' (aj_cons (ov 0) (aj_cons (o_cls G.k_NoTree) aj_nil)))) aj_nil)))))
    (bj_cons (sj_set S.nd rfl (.inr rfl) (by decide) (oj_bin (jAdd rfl) (ov 1) (oj_lst (aj_cons (oj_frz (oj_callBn (jIsiX G.xtab rfl) G.isinstance_ boot_isinstance' (aj_cons (ov 0) (aj_cons (o_cls G.k_NoForm) aj_nil)))) (aj_cons (oj_frz (oj_callBn (jIsiX G.xtab rfl) G.isinstance_ boot_isinstance' (aj_cons (ov 0) (aj_cons (o_cls G.k_NoSpace) aj_nil)))) (aj_cons (oj_frz (oj_callBn (jIsiX G.xtab rfl) G.isinstance_ boot_isinstance' (aj_cons (ov 0) (aj_cons (o_cls G.k_NoFilter) aj_nil)))) aj_nil))))))
    (bj_cons (sj_set S.nd rfl (.inr rfl) (by decide) (oj_bin (jAdd rfl) (ov 1) (oj_lst (aj_cons (oj_frz (oj_callBn (jIsiX G.xtab rfl) G.isinstance_ boot_isinstance' (aj_cons (ov 0) (aj_cons (o_cls G.k_NoModulus) aj_nil)))) (aj_cons (oj_frz (oj_callBn (jIsiX G.xtab rfl) G.isinstance_ boot_isinstance' (aj_cons (ov 0) (aj_cons (o_cls G.k_Mismatch) aj_nil)))) (aj_cons (oj_frz (oj_callBn (jIsiX G.xtab rfl) G.isinstance_ boot_isinstance' (aj_cons (ov 0) (aj_cons (o_cls G.k_NoKind) aj_nil)))) aj_nil))))))
    (bj_cons (sj_set S.nd rfl (.inr rfl) (by decide) (oj_bin (jAdd rfl) (ov 1) (oj_lst (aj_cons (oj_frz (oj_callBn (jIsiX G.xtab rfl) G.isinstance_ boot_isinstance' (aj_cons (ov 0) (aj_cons (o_cls G.k_NoNumber) aj_nil)))) (aj_cons (oj_frz (oj_callBn (jIsiX G.xtab rfl) G.isinstance_ boot_isinstance' (aj_cons (ov 0) (aj_cons (o_cls G.k_NoPath) aj_nil)))) (aj_cons (oj_frz (oj_callBn (jIsiX G.xtab rfl) G.isinstance_ boot_isinstance' (aj_cons (ov 0) (aj_cons (o_cls G.k_NoPrice) aj_nil)))) aj_nil))))))
    (bj_cons (sj_set S.nd rfl (.inr rfl) (by decide) (oj_bin (jAdd rfl) (ov 1) (oj_lst (aj_cons (oj_frz (oj_callBn (jIsiX G.xtab rfl) G.isinstance_ boot_isinstance' (aj_cons (ov 0) (aj_cons (o_cls G.k_NameTaken) aj_nil)))) (aj_cons (oj_frz (oj_callBn (jIsiX G.xtab rfl) G.isinstance_ boot_isinstance' (aj_cons (ov 0) (aj_cons (o_cls G.k_NoName) aj_nil)))) (aj_cons (oj_frz (oj_callBn (jIsiX G.xtab rfl) G.isinstance_ boot_isinstance' (aj_cons (ov 0) (aj_cons (o_cls G.k_NoMark) aj_nil)))) aj_nil))))))
    (bj_cons (sj_set S.nd rfl (.inr rfl) (by decide) (oj_bin (jAdd rfl) (ov 1) (oj_lst (aj_cons (oj_frz (oj_callBn (jIsiX G.xtab rfl) G.isinstance_ boot_isinstance' (aj_cons (ov 0) (aj_cons (o_cls G.k_InvalidCommand) aj_nil)))) (aj_cons (oj_frz (oj_callBn (jIsiX G.xtab rfl) G.isinstance_ boot_isinstance' (aj_cons (ov 0) (aj_cons (o_cls G.k_TooMany) aj_nil)))) (aj_cons (oj_frz (oj_callBn (jIsiX G.xtab rfl) G.isinstance_ boot_isinstance' (aj_cons (ov 0) (aj_cons (o_cls G.k_SyntaxProblem) aj_nil)))) aj_nil))))))
    (bj_one (sj_ret (oj_lc (own := [("place", 2)]) rfl S.nd (by kernel_rfl) (ij_range1 rfl G.range_ (aj_cons oj_int aj_nil)) glen_name (fun s Hq C cl fp => (gj_name S.nd rfl (.inl rfl) (nmem rfl))) (fun s Hq C cl fp => (tsj_one (tj_truth rfl (oj_ix (jIxA rfl (hu1 hr)) (ov 1) (ov 2) (fun _ _ => rfl)) (fun _ => rfl)))) (fun s Hq C cl fp => (ov 2)))))))))))
/-- the defs that _law_made calls -/
structure Has__law_made (B : Base) : Prop where
/-! _law_made -/
theorem sc__law_made : FnScope ["place", "words", "some"] ["place", "words"] (defScope (top 26)) := ⟨rfl, rfl, rfl, by decide +kernel, rfl, by decide +kernel, by decide +kernel⟩
theorem d__law_made {B : Base} (D : DefAt B "_law_made" (top 26) ["place", "words"]) (G : Glo B) (H : Has__law_made B) : DJ B "_law_made" 1 ["place", "words"] g__law_made :=
  have S := sc__law_made; dj_mk (P := []) D S fun f cdv A outer s Hp E hr gd tk po =>
    (bj_cons (sj_if (tj_cmp jLtI (ov 0) oj_int rfl) (bj_cons (sj_set S.nd rfl (.inl rfl) (by decide) (oj_lst (aj_cons (oj_frz (oj_exc G.x_NoSchema (oj_frz (ov 1)))) (aj_cons (oj_frz (oj_exc G.x_NoSheet (oj_frz (ov 1)))) (aj_cons (oj_frz (oj_exc G.x_NoTree (oj_frz (ov 1)))) (aj_cons (oj_frz (oj_exc G.x_NoForm (oj_frz (ov 1)))) (aj_cons (oj_frz (oj_exc G.x_NoSpace (oj_frz (ov 1)))) (aj_cons (oj_frz (oj_exc G.x_NoFilter (oj_frz (ov 1)))) aj_nil))))))))
    (bj_one (sj_ret (oj_ix (jIxA rfl (hu1 hr)) (oj_bin (jAdd rfl) (ov 2) (oj_lst (aj_cons (oj_frz (oj_exc G.x_NoModulus (oj_frz (ov 1)))) (aj_cons (oj_frz (oj_exc G.x_Mismatch (oj_frz (ov 1)))) (aj_cons (oj_frz (oj_exc G.x_NoKind (oj_frz (ov 1)))) aj_nil))))) (ov 0) (fun _ _ => rfl))))) bj_nil)
    (bj_cons (sj_set S.nd rfl (.inl rfl) (by decide) (oj_lst (aj_cons (oj_frz (oj_exc G.x_NoNumber (oj_frz (ov 1)))) (aj_cons (oj_frz (oj_exc G.x_NoPath (oj_frz (ov 1)))) (aj_cons (oj_frz (oj_exc G.x_NoPrice (oj_frz (ov 1)))) (aj_cons (oj_frz (oj_exc G.x_NameTaken (oj_frz (ov 1)))) (aj_cons (oj_frz (oj_exc G.x_NoName (oj_frz (ov 1)))) (aj_cons (oj_frz (oj_exc G.x_NoMark (oj_frz (ov 1)))) aj_nil))))))))
    (bj_one (sj_ret (oj_ix (jIxA rfl (hu1 hr)) (oj_bin (jAdd rfl) (ov 2) (oj_lst (aj_cons (oj_frz (oj_exc G.x_InvalidCommand (oj_frz (ov 1)))) aj_nil))) (oj_bin jSubI (ov 0) oj_int) (fun _ _ => rfl))))))
/-- the defs that _law_pick calls -/
structure Has__law_pick (B : Base) : Prop where
  d__law_below : DJ B "_law_below" 2 ["pot", "bound"] g__law_below
/-! _law_pick -/
theorem sc__law_pick : FnScope ["pot", "items"] ["pot", "items"] (defScope (top 24)) := ⟨rfl, rfl, rfl, by decide +kernel, rfl, by decide +kernel, by decide +kernel⟩
theorem d__law_pick {B : Base} (D : DefAt B "_law_pick" (top 24) ["pot", "items"]) (G : Glo B) (H : Has__law_pick B) : DJ B "_law_pick" 3 ["pot", "items"] g__law_pick :=
  have S := sc__law_pick; dj_mk (P := [0]) D S fun f cdv A outer s Hp E hr gd tk po =>
    (bj_one (sj_ret (oj_ix (jIxA rfl (hu1 hr)) (ov 1) (o_def H.d__law_below hr gd tk (aj_cons (ov 0) (aj_cons (oj_frz (oj_callBn jLenA G.len_ boot_len' (aj_cons (ov 1) aj_nil))) aj_nil)) (lenC (lenC lenN))) (fun _ _ => rfl))))
/-- the defs that _law_pot_of calls -/
structure Has__law_pot_of (B : Base) : Prop where
/-! _law_pot_of -/
theorem sc__law_pot_of : FnScope ["script", "cells", "place", "cell"] ["script"] (defScope (top 22)) := ⟨rfl, rfl, rfl, by decide +kernel, rfl, by decide +kernel, by decide +kernel⟩
theorem d__law_pot_of {B : Base} (D : DefAt B "_law_pot_of" (top 22) ["script"]) (G : Glo B) (H : Has__law_pot_of B) : DJ B "_law_pot_of" 1 ["script"] g__law_pot_of :=
  have S := sc__law_pot_of; dj_mk (P := []) D S fun f cdv A outer s Hp E hr gd tk po =>
    (bj_cons (sj_setLc (own := [("cell", 3)]) rfl S.nd rfl rfl (by decide) rfl (by kernel_rfl) (ij_anyK (oj_sl (jSl rfl) (ov 0) po_j_none (po_j_some oj_int))) glen_name (fun s Hq C cl fp => (gj_name S.nd rfl (.inl rfl) (nmem rfl))) (fun s Hq C cl fp => tsj_nil) (fun s Hq C cl fp => (oj_callBn jAbs G.abs_ boot_abs' (aj_cons (ov 3) aj_nil))))
    (bj_cons (sj_for po rfl (ij_enumA G.enumerate_ (oj_sl (jSl rfl) (ov 0) (po_j_some oj_int) (po_j_some oj_int))) (gj_tup rfl rfl (gjs_cons (gj_name S.nd rfl (.inl rfl) (nmem rfl)) (gjs_cons (gj_name S.nd rfl (.inl rfl) (nmem rfl)) gjs_nil)))
    (bj_one (sj_put (jStA (hu1 hr)) (oj_bin (jAdd rfl) (oj_ix (jIxA rfl (hu1 hr)) (ov 1) (oj_bin jModI (ov 2) oj_int) (fun _ _ => rfl)) (oj_callBn jAbs G.abs_ boot_abs' (aj_cons (ov 3) aj_nil))) (ov 1) (oj_bin jModI (ov 2) oj_int))))
    (bj_one (sj_ret (oj_lst (aj_cons (oj_frz (ov 1)) (aj_cons oj_int (aj_cons oj_int (aj_cons oj_int aj_nil)))))))))
/-- the defs that law calls -/
structure Has_law (B : Base) : Prop where
  d__law_base_right : DJ B "_law_base_right" 1 ["error"] g__law_base_right
  d__law_below : DJ B "_law_below" 2 ["pot", "bound"] g__law_below
  d__law_kinds_of : DJ B "_law_kinds_of" 1 ["error"] g__law_kinds_of
  d__law_made : DJ B "_law_made" 1 ["place", "words"] g__law_made
  d__law_pick : DJ B "_law_pick" 3 ["pot", "items"] g__law_pick
  d__law_pot_of : DJ B "_law_pot_of" 1 ["script"] g__law_pot_of
  d_SyntaxProblem : MkJ B "SyntaxProblem" 1 ["self", "line", "column"] (sp2 (B.R.ct "SyntaxProblem") "line" "column")
  d_TooMany : MkJ B "TooMany" 1 ["self", "limit"] (sp1 (B.R.ct "TooMany") "limit")
/-! law -/
theorem sc_law : FnScope ["script", "pot", "place", "error", "turn", "limit", "line", "column", "many", "text", "base"] ["script"] (defScope (top 29)) := ⟨rfl, rfl, rfl, by decide +kernel, rfl, by decide +kernel, by decide +kernel⟩
theorem d_law {B : Base} (D : DefAt B "law" (top 29) ["script"]) (G : Glo B) (H : Has_law B) : DJ B "law" 4 ["script"] g_law :=
  have S := sc_law; dj_mk (P := []) D S fun f cdv A outer s Hp E hr gd tk po =>
    (bj_cons (sj_set S.nd rfl (.inl rfl) (by decide) (o_def H.d__law_pot_of hr gd tk (aj_cons (oj_frz (ov 0)) aj_nil) (lenC lenN)))
    (bj_cons (sj_for po rfl (ij_range1 rfl G.range_ (aj_cons oj_int aj_nil)) (gj_name S.nd rfl (.inl rfl) (nmem rfl))
    (bj_cons (sj_set S.nd rfl (.inl rfl) (by decide) (o_def H.d__law_made hr gd tk (aj_cons (oj_frz (ov 2)) (aj_cons (oj_frz (o_def H.d__law_pick hr gd tk (aj_cons (ov 1) (aj_cons (oj_frz (oj_lst (aj_cons oj_str (aj_cons oj_str (aj_cons oj_str (aj_cons oj_str aj_nil)))))) aj_nil)) (lenC (lenC lenN)))) aj_nil)) (lenC (lenC lenN))))
    (bj_one (sj_if (tj_w (wj_or (tj_cmp (jNeA rfl (hu64 hr)) (o_def H.d__law_kinds_of hr gd tk (aj_cons (oj_frz (ov 3)) aj_nil) (lenC lenN)) (oj_lst (aj_cons (oj_frz (ov 2)) aj_nil)) rfl) (wj_or1 (tj_not (tj_truth rfl (o_def H.d__law_base_right hr gd tk (aj_cons (oj_frz (ov 3)) aj_nil) (lenC lenN)) (fun _ => rfl)))))) (bj_one (sj_ret oj_bl)) bj_nil))))
    (bj_cons (sj_for po rfl (ij_range1 rfl G.range_ (aj_cons oj_int aj_nil)) (gj_name S.nd rfl (.inl rfl) (nmem rfl))
    (bj_cons (sj_set S.nd rfl (.inl rfl) (by decide) (o_def H.d__law_pick hr gd tk (aj_cons (ov 1) (aj_cons (oj_frz (oj_lst (aj_cons oj_int (aj_cons oj_int (aj_cons oj_int (aj_cons oj_int (aj_cons oj_int (aj_cons (oj_frz (o_def H.d__law_below hr gd tk (aj_cons (ov 1) (aj_cons (oj_frz (oj_bin jPowI oj_int oj_int)) aj_nil)) (lenC (lenC lenN)))) aj_nil)))))))) aj_nil)) (lenC (lenC lenN))))
    (bj_cons (sj_par2 rfl S.nd (aj_cons (oj_bin (jAdd rfl) oj_int (o_def H.d__law_below hr gd tk (aj_cons (ov 1) (aj_cons oj_int aj_nil)) (lenC (lenC lenN)))) (aj_cons (oj_bin (jAdd rfl) oj_int (o_def H.d__law_below hr gd tk (aj_cons (ov 1) (aj_cons (oj_frz (oj_bin jPowI oj_int oj_int)) aj_nil)) (lenC (lenC lenN)))) aj_nil)))
    (bj_cons (sj_par2 rfl S.nd (aj_cons (oj_mk H.d_TooMany rs_mk1 hr gd (aj_cons (oj_frz (ov 5)) aj_nil)) (aj_cons (oj_mk H.d_SyntaxProblem rs_mk2 hr gd (aj_cons (oj_frz (ov 6)) (aj_cons (oj_frz (ov 7)) aj_nil))) aj_nil)))
    (bj_cons (sj_if (tj_w (wj_or (tj_cmp (jNeA rfl (hu64 hr)) (o_def H.d__law_kinds_of hr gd tk (aj_cons (oj_frz (ov 8)) aj_nil) (lenC lenN)) (oj_lst (aj_cons oj_int aj_nil)) rfl) (wj_or (tj_cmp (jNeA rfl (hu64 hr)) (o_def H.d__law_kinds_of hr gd tk (aj_cons (oj_frz (ov 9)) aj_nil) (lenC lenN)) (oj_lst (aj_cons oj_int aj_nil)) rfl) (wj_or1 (tj_cmp (jNeA rfl (hu64 hr)) (oj_xf G.xfld (ov 8)) (ov 5) rfl))))) (bj_one (sj_ret oj_bl)) bj_nil)
    (bj_one (sj_if (tj_w (wj_or (tj_cmp (jNeA rfl (hu64 hr)) (oj_tup (aj_cons (oj_frz (oj_xf G.xfld (ov 9))) (aj_cons (oj_frz (oj_xf G.xfld (ov 9))) aj_nil))) (oj_tup (aj_cons (oj_frz (ov 6)) (aj_cons (oj_frz (ov 7)) aj_nil))) rfl) (wj_or (tj_not (tj_truth rfl (o_def H.d__law_base_right hr gd tk (aj_cons (oj_frz (ov 8)) aj_nil) (lenC lenN)) (fun _ => rfl))) (wj_or1 (tj_not (tj_truth rfl (o_def H.d__law_base_right hr gd tk (aj_cons (oj_frz (ov 9)) aj_nil) (lenC lenN)) (fun _ => rfl))))))) (bj_one (sj_ret oj_bl)) bj_nil)))))))
    (bj_cons (sj_set S.nd rfl (.inl rfl) (by decide) (oj_exc G.x_TreeError oj_str))
    (bj_one (sj_ret (oj_and (oj_cmp (jEqA rfl (hu64 hr)) (o_def H.d__law_kinds_of hr gd tk (aj_cons (oj_frz (ov 10)) aj_nil) (lenC lenN)) (oj_lst aj_nil) rfl) (oj_one (oj_callBn (jIsiX G.xtab rfl) G.isinstance_ boot_isinstance' (aj_cons (ov 10) (aj_cons (o_ty G.ValueError_ boot_ValueError') aj_nil)))))))))))
/-! the end -/
theorem all_in {l : PySem.W.OpenLaw} {w : World} {K : PySem.W.Frag} {h : Heap} {mg : Str → Option Value} {fa : Addr}
    {f0 : Addr} {od0 an0 : Option Addr} {sl0 : Array (Option Value)} {oc0 kV0 dc0 pm0 cd0 ct0 : Value}
    {f1 : Addr} {od1 an1 : Option Addr} {sl1 : Array (Option Value)} {oc1 kV1 dc1 pm1 cd1 ct1 : Value}
    {f2 : Addr} {od2 an2 : Option Addr} {sl2 : Array (Option Value)} {oc2 kV2 dc2 pm2 cd2 ct2 : Value}
    {f3 : Addr} {od3 an3 : Option Addr} {sl3 : Array (Option Value)} {oc3 kV3 dc3 pm3 cd3 ct3 : Value}
    {f4 : Addr} {od4 an4 : Option Addr} {sl4 : Array (Option Value)} {oc4 kV4 dc4 pm4 cd4 ct4 : Value}
    {f5 : Addr} {od5 an5 : Option Addr} {sl5 : Array (Option Value)} {oc5 kV5 dc5 pm5 cd5 ct5 : Value}
    {f6 : Addr} {od6 an6 : Option Addr} {sl6 : Array (Option Value)} {oc6 kV6 dc6 pm6 cd6 ct6 : Value}
    {f7 : Addr} {od7 an7 : Option Addr} {sl7 : Array (Option Value)} {oc7 kV7 dc7 pm7 cd7 ct7 : Value}
    {C_TreeError : Addr} {cd_TreeError : ClassData}
    {C_SyntaxProblem : Addr} {cd_SyntaxProblem : ClassData}
    {F_SyntaxProblem : Addr} {fod_SyntaxProblem fan_SyntaxProblem : Option Addr} {fsl_SyntaxProblem : Array (Option Value)} {foc_SyntaxProblem fkV_SyntaxProblem fdc_SyntaxProblem fpm_SyntaxProblem fcd_SyntaxProblem fct_SyntaxProblem : Value} {nm_SyntaxProblem q_SyntaxProblem : Str} {N_SyntaxProblem : Addr} {bs_SyntaxProblem bm_SyntaxProblem : List Value} {sn_SyntaxProblem : List Str} {sub_SyntaxProblem : List Value} {ab_SyntaxProblem : Bool} {col_SyntaxProblem : Option Bool} {dd_SyntaxProblem : Option PySem.Addr} {k0_SyntaxProblem k1_SyntaxProblem k2_SyntaxProblem k3_SyntaxProblem k5_SyntaxProblem : Option Value}
    {C_TooMany : Addr} {cd_TooMany : ClassData}
    {F_TooMany : Addr} {fod_TooMany fan_TooMany : Option Addr} {fsl_TooMany : Array (Option Value)} {foc_TooMany fkV_TooMany fdc_TooMany fpm_TooMany fcd_TooMany fct_TooMany : Value} {nm_TooMany q_TooMany : Str} {N_TooMany : Addr} {bs_TooMany bm_TooMany : List Value} {sn_TooMany : List Str} {sub_TooMany : List Value} {ab_TooMany : Bool} {col_TooMany : Option Bool} {dd_TooMany : Option PySem.Addr} {k0_TooMany k1_TooMany k2_TooMany k3_TooMany k5_TooMany : Option Value}
    {C_NoSchema : Addr} {cd_NoSchema : ClassData}
    {C_NoSheet : Addr} {cd_NoSheet : ClassData}
    {C_NoTree : Addr} {cd_NoTree : ClassData}
    {C_NoForm : Addr} {cd_NoForm : ClassData}
    {C_NoSpace : Addr} {cd_NoSpace : ClassData}
    {C_NoFilter : Addr} {cd_NoFilter : ClassData}
    {C_NoModulus : Addr} {cd_NoModulus : ClassData}
    {C_Mismatch : Addr} {cd_Mismatch : ClassData}
    {C_NoKind : Addr} {cd_NoKind : ClassData}
    {C_NoNumber : Addr} {cd_NoNumber : ClassData}
    {C_NoPath : Addr} {cd_NoPath : ClassData}
    {C_NoPrice : Addr} {cd_NoPrice : ClassData}
    {C_NameTaken : Addr} {cd_NameTaken : ClassData}
    {C_NoName : Addr} {cd_NoName : ClassData}
    {C_NoMark : Addr} {cd_NoMark : ClassData}
    {C_InvalidCommand : Addr} {cd_InvalidCommand : ClassData}
    (X : K.In h) (G : h.Ns mainGlobals mg) (hfa : mg "law" = some (.ref fa))
    (a0 : PySem.W.nsIn K mainGlobals "_law_base_right" = some (some (.ref f0))) (l0 : K.lookup f0 = some ⟨oc0, od0, .func (PySem.W.fnOf "_law_base_right" "_law_base_right" (defArgs (top 28)) (defBody (top 28)) (defScope (top 28)) .none kV0 dc0 pm0 an0 cd0 ct0), sl0⟩) (c0 : PySem.W.codeIn K cd0 "_law_base_right" = true) (k0 : PySem.W.keepIn K (.ref f0) = true)
    (a1 : PySem.W.nsIn K mainGlobals "_law_kneaded" = some (some (.ref f1))) (l1 : K.lookup f1 = some ⟨oc1, od1, .func (PySem.W.fnOf "_law_kneaded" "_law_kneaded" (defArgs (top 21)) (defBody (top 21)) (defScope (top 21)) .none kV1 dc1 pm1 an1 cd1 ct1), sl1⟩) (c1 : PySem.W.codeIn K cd1 "_law_kneaded" = true) (k1 : PySem.W.keepIn K (.ref f1) = true)
    (a2 : PySem.W.nsIn K mainGlobals "_law_below" = some (some (.ref f2))) (l2 : K.lookup f2 = some ⟨oc2, od2, .func (PySem.W.fnOf "_law_below" "_law_below" (defArgs (top 23)) (defBody (top 23)) (defScope (top 23)) .none kV2 dc2 pm2 an2 cd2 ct2), sl2⟩) (c2 : PySem.W.codeIn K cd2 "_law_below" = true) (k2 : PySem.W.keepIn K (.ref f2) = true)
    (a3 : PySem.W.nsIn K mainGlobals "_law_kinds_of" = some (some (.ref f3))) (l3 : K.lookup f3 = some ⟨oc3, od3, .func (PySem.W.fnOf "_law_kinds_of" "_law_kinds_of" (defArgs (top 27)) (defBody (top 27)) (defScope (top 27)) .none kV3 dc3 pm3 an3 cd3 ct3), sl3⟩) (c3 : PySem.W.codeIn K cd3 "_law_kinds_of" = true) (k3 : PySem.W.keepIn K (.ref f3) = true)
    (a4 : PySem.W.nsIn K mainGlobals "_law_made" = some (some (.ref f4))) (l4 : K.lookup f4 = some ⟨oc4, od4, .func (PySem.W.fnOf "_law_made" "_law_made" (defArgs (top 26)) (defBody (top 26)) (defScope (top 26)) .none kV4 dc4 pm4 an4 cd4 ct4), sl4⟩) (c4 : PySem.W.codeIn K cd4 "_law_made" = true) (k4 : PySem.W.keepIn K (.ref f4) = true)
    (a5 : PySem.W.nsIn K mainGlobals "_law_pick" = some (some (.ref f5))) (l5 : K.lookup f5 = some ⟨oc5, od5, .func (PySem.W.fnOf "_law_pick" "_law_pick" (defArgs (top 24)) (defBody (top 24)) (defScope (top 24)) .none kV5 dc5 pm5 an5 cd5 ct5), sl5⟩) (c5 : PySem.W.codeIn K cd5 "_law_pick" = true) (k5 : PySem.W.keepIn K (.ref f5) = true)
    (a6 : PySem.W.nsIn K mainGlobals "_law_pot_of" = some (some (.ref f6))) (l6 : K.lookup f6 = some ⟨oc6, od6, .func (PySem.W.fnOf "_law_pot_of" "_law_pot_of" (defArgs (top 22)) (defBody (top 22)) (defScope (top 22)) .none kV6 dc6 pm6 an6 cd6 ct6), sl6⟩) (c6 : PySem.W.codeIn K cd6 "_law_pot_of" = true) (k6 : PySem.W.keepIn K (.ref f6) = true)
    (a7 : PySem.W.nsIn K mainGlobals "law" = some (some (.ref f7))) (l7 : K.lookup f7 = some ⟨oc7, od7, .func (PySem.W.fnOf "law" "law" (defArgs (top 29)) (defBody (top 29)) (defScope (top 29)) .none kV7 dc7 pm7 an7 cd7 ct7), sl7⟩) (c7 : PySem.W.codeIn K cd7 "law" = true) (k7 : PySem.W.keepIn K (.ref f7) = true)
    (b_ValueError : PySem.W.nsIn K mainGlobals "ValueError" = some none)
    (b_abs : PySem.W.nsIn K mainGlobals "abs" = some none)
    (b_enumerate : PySem.W.nsIn K mainGlobals "enumerate" = some none)
    (b_int : PySem.W.nsIn K mainGlobals "int" = some none)
    (b_isinstance : PySem.W.nsIn K mainGlobals "isinstance" = some none)
    (b_len : PySem.W.nsIn K mainGlobals "len" = some none)
    (b_range : PySem.W.nsIn K mainGlobals "range" = some none)
    (gs : PySem.W.specialIn K (.builtin "object.__class__") "__get__" = some (some (.builtin "getset_descriptor.__get__"))) (tk : PySem.W.takesIn K (.builtin "object.__class__") = some true)
    (xa_TreeError : PySem.W.nsIn K mainGlobals "TreeError" = some (some (.ref C_TreeError))) (xk_TreeError : PySem.W.keepIn K (.ref C_TreeError) = true) (xs_TreeError : PySem.W.subIn K (.ref C_TreeError) (.type "BaseException") = some true) (xt_TreeError : PySem.W.typeIn K (.ref C_TreeError) = some (.type "type")) (xd_TreeError : PySem.W.hasDictIn K C_TreeError = true)
    (ga_TreeError : PySem.W.findIn K (.ref C_TreeError) "__getattribute__" = some (some (.builtin "BaseException.__getattribute__"))) (gt_TreeError : PySem.W.findIn K (.ref C_TreeError) "__getattr__" = some none) (cl_TreeError : PySem.W.findIn K (.ref C_TreeError) "__class__" = some (some (.builtin "object.__class__"))) (ob_TreeError : PySem.W.mroIn K C_TreeError (.type "object") = some true) (xc_TreeError : PySem.W.clsIn K C_TreeError = some cd_TreeError)
    (xq_TreeError : PySem.W.excIn K C_TreeError [.type "ValueError", .type "Exception", .type "BaseException", .type "object"] "ValueError.__new__" = true)
    (xa_SyntaxProblem : PySem.W.nsIn K mainGlobals "SyntaxProblem" = some (some (.ref C_SyntaxProblem))) (xk_SyntaxProblem : PySem.W.keepIn K (.ref C_SyntaxProblem) = true) (xs_SyntaxProblem : PySem.W.subIn K (.ref C_SyntaxProblem) (.type "BaseException") = some true) (xt_SyntaxProblem : PySem.W.typeIn K (.ref C_SyntaxProblem) = some (.type "type")) (xd_SyntaxProblem : PySem.W.hasDictIn K C_SyntaxProblem = true)
    (ga_SyntaxProblem : PySem.W.findIn K (.ref C_SyntaxProblem) "__getattribute__" = some (some (.builtin "BaseException.__getattribute__"))) (gt_SyntaxProblem : PySem.W.findIn K (.ref C_SyntaxProblem) "__getattr__" = some none) (cl_SyntaxProblem : PySem.W.findIn K (.ref C_SyntaxProblem) "__class__" = some (some (.builtin "object.__class__"))) (ob_SyntaxProblem : PySem.W.mroIn K C_SyntaxProblem (.type "object") = some true) (xc_SyntaxProblem : PySem.W.clsIn K C_SyntaxProblem = some cd_SyntaxProblem)
    (fi_SyntaxProblem : PySem.W.findIn K (.ref C_SyntaxProblem) "__init__" = some (some (.ref F_SyntaxProblem))) (fl_SyntaxProblem : K.lookup F_SyntaxProblem = some ⟨foc_SyntaxProblem, fod_SyntaxProblem, .func (PySem.W.fnOf "__init__" "SyntaxProblem.__init__" (defArgs (meth 2 0)) (defBody (meth 2 0)) (defScope (meth 2 0)) .none fkV_SyntaxProblem fdc_SyntaxProblem fpm_SyntaxProblem fan_SyntaxProblem fcd_SyntaxProblem fct_SyntaxProblem), fsl_SyntaxProblem⟩) (fc_SyntaxProblem : PySem.W.codeIn K fcd_SyntaxProblem "SyntaxProblem.__init__" = true) (fk_SyntaxProblem : PySem.W.keepIn K (.ref F_SyntaxProblem) = true) (ft_SyntaxProblem : PySem.W.typeIn K (.ref F_SyntaxProblem) = some (.type "function"))
    (co_SyntaxProblem : K.lookup C_SyntaxProblem = some (excClassObj nm_SyntaxProblem q_SyntaxProblem C_SyntaxProblem N_SyntaxProblem bs_SyntaxProblem bm_SyntaxProblem true sn_SyntaxProblem sub_SyntaxProblem ab_SyntaxProblem col_SyntaxProblem dd_SyntaxProblem k0_SyntaxProblem k1_SyntaxProblem k2_SyntaxProblem k3_SyntaxProblem k5_SyntaxProblem "ValueError.__new__")) (rv_SyntaxProblem : PySem.HandSPX.refsVE bm_SyntaxProblem = true) (sa_SyntaxProblem : PySem.W.findIn K (.ref C_SyntaxProblem) "__setattr__" = some (some (.builtin "object.__setattr__")))
    (no_SyntaxProblem_line : PySem.W.findIn K (.ref C_SyntaxProblem) "line" = some none)
    (no_SyntaxProblem_column : PySem.W.findIn K (.ref C_SyntaxProblem) "column" = some none)
    (xa_TooMany : PySem.W.nsIn K mainGlobals "TooMany" = some (some (.ref C_TooMany))) (xk_TooMany : PySem.W.keepIn K (.ref C_TooMany) = true) (xs_TooMany : PySem.W.subIn K (.ref C_TooMany) (.type "BaseException") = some true) (xt_TooMany : PySem.W.typeIn K (.ref C_TooMany) = some (.type "type")) (xd_TooMany : PySem.W.hasDictIn K C_TooMany = true)
    (ga_TooMany : PySem.W.findIn K (.ref C_TooMany) "__getattribute__" = some (some (.builtin "BaseException.__getattribute__"))) (gt_TooMany : PySem.W.findIn K (.ref C_TooMany) "__getattr__" = some none) (cl_TooMany : PySem.W.findIn K (.ref C_TooMany) "__class__" = some (some (.builtin "object.__class__"))) (ob_TooMany : PySem.W.mroIn K C_TooMany (.type "object") = some true) (xc_TooMany : PySem.W.clsIn K C_TooMany = some cd_TooMany)
    (fi_TooMany : PySem.W.findIn K (.ref C_TooMany) "__init__" = some (some (.ref F_TooMany))) (fl_TooMany : K.lookup F_TooMany = some ⟨foc_TooMany, fod_TooMany, .func (PySem.W.fnOf "__init__" "TooMany.__init__" (defArgs (meth 3 0)) (defBody (meth 3 0)) (defScope (meth 3 0)) .none fkV_TooMany fdc_TooMany fpm_TooMany fan_TooMany fcd_TooMany fct_TooMany), fsl_TooMany⟩) (fc_TooMany : PySem.W.codeIn K fcd_TooMany "TooMany.__init__" = true) (fk_TooMany : PySem.W.keepIn K (.ref F_TooMany) = true) (ft_TooMany : PySem.W.typeIn K (.ref F_TooMany) = some (.type "function"))
    (co_TooMany : K.lookup C_TooMany = some (excClassObj nm_TooMany q_TooMany C_TooMany N_TooMany bs_TooMany bm_TooMany true sn_TooMany sub_TooMany ab_TooMany col_TooMany dd_TooMany k0_TooMany k1_TooMany k2_TooMany k3_TooMany k5_TooMany "ValueError.__new__")) (rv_TooMany : PySem.HandSPX.refsVE bm_TooMany = true) (sa_TooMany : PySem.W.findIn K (.ref C_TooMany) "__setattr__" = some (some (.builtin "object.__setattr__")))
    (no_TooMany_limit : PySem.W.findIn K (.ref C_TooMany) "limit" = some none)
    (xa_NoSchema : PySem.W.nsIn K mainGlobals "NoSchema" = some (some (.ref C_NoSchema))) (xk_NoSchema : PySem.W.keepIn K (.ref C_NoSchema) = true) (xs_NoSchema : PySem.W.subIn K (.ref C_NoSchema) (.type "BaseException") = some true) (xt_NoSchema : PySem.W.typeIn K (.ref C_NoSchema) = some (.type "type")) (xd_NoSchema : PySem.W.hasDictIn K C_NoSchema = true)
    (ga_NoSchema : PySem.W.findIn K (.ref C_NoSchema) "__getattribute__" = some (some (.builtin "BaseException.__getattribute__"))) (gt_NoSchema : PySem.W.findIn K (.ref C_NoSchema) "__getattr__" = some none) (cl_NoSchema : PySem.W.findIn K (.ref C_NoSchema) "__class__" = some (some (.builtin "object.__class__"))) (ob_NoSchema : PySem.W.mroIn K C_NoSchema (.type "object") = some true) (xc_NoSchema : PySem.W.clsIn K C_NoSchema = some cd_NoSchema)
    (xq_NoSchema : PySem.W.excIn K C_NoSchema [.type "ValueError", .type "Exception", .type "BaseException", .type "object"] "ValueError.__new__" = true)
    (xa_NoSheet : PySem.W.nsIn K mainGlobals "NoSheet" = some (some (.ref C_NoSheet))) (xk_NoSheet : PySem.W.keepIn K (.ref C_NoSheet) = true) (xs_NoSheet : PySem.W.subIn K (.ref C_NoSheet) (.type "BaseException") = some true) (xt_NoSheet : PySem.W.typeIn K (.ref C_NoSheet) = some (.type "type")) (xd_NoSheet : PySem.W.hasDictIn K C_NoSheet = true)
    (ga_NoSheet : PySem.W.findIn K (.ref C_NoSheet) "__getattribute__" = some (some (.builtin "BaseException.__getattribute__"))) (gt_NoSheet : PySem.W.findIn K (.ref C_NoSheet) "__getattr__" = some none) (cl_NoSheet : PySem.W.findIn K (.ref C_NoSheet) "__class__" = some (some (.builtin "object.__class__"))) (ob_NoSheet : PySem.W.mroIn K C_NoSheet (.type "object") = some true) (xc_NoSheet : PySem.W.clsIn K C_NoSheet = some cd_NoSheet)
    (xq_NoSheet : PySem.W.excIn K C_NoSheet [.type "ValueError", .type "Exception", .type "BaseException", .type "object"] "ValueError.__new__" = true)
    (xa_NoTree : PySem.W.nsIn K mainGlobals "NoTree" = some (some (.ref C_NoTree))) (xk_NoTree : PySem.W.keepIn K (.ref C_NoTree) = true) (xs_NoTree : PySem.W.subIn K (.ref C_NoTree) (.type "BaseException") = some true) (xt_NoTree : PySem.W.typeIn K (.ref C_NoTree) = some (.type "type")) (xd_NoTree : PySem.W.hasDictIn K C_NoTree = true)
    (ga_NoTree : PySem.W.findIn K (.ref C_NoTree) "__getattribute__" = some (some (.builtin "BaseException.__getattribute__"))) (gt_NoTree : PySem.W.findIn K (.ref C_NoTree) "__getattr__" = some none) (cl_NoTree : PySem.W.findIn K (.ref C_NoTree) "__class__" = some (some (.builtin "object.__class__"))) (ob_NoTree : PySem.W.mroIn K C_NoTree (.type "object") = some true) (xc_NoTree : PySem.W.clsIn K C_NoTree = some cd_NoTree)
    (xq_NoTree : PySem.W.excIn K C_NoTree [.type "ValueError", .type "Exception", .type "BaseException", .type "object"] "ValueError.__new__" = true)
    (xa_NoForm : PySem.W.nsIn K mainGlobals "NoForm" = some (some (.ref C_NoForm))) (xk_NoForm : PySem.W.keepIn K (.ref C_NoForm) = true) (xs_NoForm : PySem.W.subIn K (.ref C_NoForm) (.type "BaseException") = some true) (xt_NoForm : PySem.W.typeIn K (.ref C_NoForm) = some (.type "type")) (xd_NoForm : PySem.W.hasDictIn K C_NoForm = true)
    (ga_NoForm : PySem.W.findIn K (.ref C_NoForm) "__getattribute__" = some (some (.builtin "BaseException.__getattribute__"))) (gt_NoForm : PySem.W.findIn K (.ref C_NoForm) "__getattr__" = some none) (cl_NoForm : PySem.W.findIn K (.ref C_NoForm) "__class__" = some (some (.builtin "object.__class__"))) (ob_NoForm : PySem.W.mroIn K C_NoForm (.type "object") = some true) (xc_NoForm : PySem.W.clsIn K C_NoForm = some cd_NoForm)
    (xq_NoForm : PySem.W.excIn K C_NoForm [.type "ValueError", .type "Exception", .type "BaseException", .type "object"] "ValueError.__new__" = true)
    (xa_NoSpace : PySem.W.nsIn K mainGlobals "NoSpace" = some (some (.ref C_NoSpace))) (xk_NoSpace : PySem.W.keepIn K (.ref C_NoSpace) = true) (xs_NoSpace : PySem.W.subIn K (.ref C_NoSpace) (.type "BaseException") = some true) (xt_NoSpace : PySem.W.typeIn K (.ref C_NoSpace) = some (.type "type")) (xd_NoSpace : PySem.W.hasDictIn K C_NoSpace = true)
    (ga_NoSpace : PySem.W.findIn K (.ref C_NoSpace) "__getattribute__" = some (some (.builtin "BaseException.__getattribute__"))) (gt_NoSpace : PySem.W.findIn K (.ref C_NoSpace) "__getattr__" = some none) (cl_NoSpace : PySem.W.findIn K (.ref C_NoSpace) "__class__" = some (some (.builtin "object.__class__"))) (ob_NoSpace : PySem.W.mroIn K C_NoSpace (.type "object") = some true) (xc_NoSpace : PySem.W.clsIn K C_NoSpace = some cd_NoSpace)
    (xq_NoSpace : PySem.W.excIn K C_NoSpace [.type "ValueError", .type "Exception", .type "BaseException", .type "object"] "ValueError.__new__" = true)
    (xa_NoFilter : PySem.W.nsIn K mainGlobals "NoFilter" = some (some (.ref C_NoFilter))) (xk_NoFilter : PySem.W.keepIn K (.ref C_NoFilter) = true) (xs_NoFilter : PySem.W.subIn K (.ref C_NoFilter) (.type "BaseException") = some true) (xt_NoFilter : PySem.W.typeIn K (.ref C_NoFilter) = some (.type "type")) (xd_NoFilter : PySem.W.hasDictIn K C_NoFilter = true)
    (ga_NoFilter : PySem.W.findIn K (.ref C_NoFilter) "__getattribute__" = some (some (.builtin "BaseException.__getattribute__"))) (gt_NoFilter : PySem.W.findIn K (.ref C_NoFilter) "__getattr__" = some none) (cl_NoFilter : PySem.W.findIn K (.ref C_NoFilter) "__class__" = some (some (.builtin "object.__class__"))) (ob_NoFilter : PySem.W.mroIn K C_NoFilter (.type "object") = some true) (xc_NoFilter : PySem.W.clsIn K C_NoFilter = some cd_NoFilter)
    (xq_NoFilter : PySem.W.excIn K C_NoFilter [.type "ValueError", .type "Exception", .type "BaseException", .type "object"] "ValueError.__new__" = true)
    (xa_NoModulus : PySem.W.nsIn K mainGlobals "NoModulus" = some (some (.ref C_NoModulus))) (xk_NoModulus : PySem.W.keepIn K (.ref C_NoModulus) = true) (xs_NoModulus : PySem.W.subIn K (.ref C_NoModulus) (.type "BaseException") = some true) (xt_NoModulus : PySem.W.typeIn K (.ref C_NoModulus) = some (.type "type")) (xd_NoModulus : PySem.W.hasDictIn K C_NoModulus = true)
    (ga_NoModulus : PySem.W.findIn K (.ref C_NoModulus) "__getattribute__" = some (some (.builtin "BaseException.__getattribute__"))) (gt_NoModulus : PySem.W.findIn K (.ref C_NoModulus) "__getattr__" = some none) (cl_NoModulus : PySem.W.findIn K (.ref C_NoModulus) "__class__" = some (some (.builtin "object.__class__"))) (ob_NoModulus : PySem.W.mroIn K C_NoModulus (.type "object") = some true) (xc_NoModulus : PySem.W.clsIn K C_NoModulus = some cd_NoModulus)
    (xq_NoModulus : PySem.W.excIn K C_NoModulus [.type "ValueError", .type "Exception", .type "BaseException", .type "object"] "ValueError.__new__" = true)
    (xa_Mismatch : PySem.W.nsIn K mainGlobals "Mismatch" = some (some (.ref C_Mismatch))) (xk_Mismatch : PySem.W.keepIn K (.ref C_Mismatch) = true) (xs_Mismatch : PySem.W.subIn K (.ref C_Mismatch) (.type "BaseException") = some true) (xt_Mismatch : PySem.W.typeIn K (.ref C_Mismatch) = some (.type "type")) (xd_Mismatch : PySem.W.hasDictIn K C_Mismatch = true)
    (ga_Mismatch : PySem.W.findIn K (.ref C_Mismatch) "__getattribute__" = some (some (.builtin "BaseException.__getattribute__"))) (gt_Mismatch : PySem.W.findIn K (.ref C_Mismatch) "__getattr__" = some none) (cl_Mismatch : PySem.W.findIn K (.ref C_Mismatch) "__class__" = some (some (.builtin "object.__class__"))) (ob_Mismatch : PySem.W.mroIn K C_Mismatch (.type "object") = some true) (xc_Mismatch : PySem.W.clsIn K C_Mismatch = some cd_Mismatch)
    (xq_Mismatch : PySem.W.excIn K C_Mismatch [.type "ValueError", .type "Exception", .type "BaseException", .type "object"] "ValueError.__new__" = true)
    (xa_NoKind : PySem.W.nsIn K mainGlobals "NoKind" = some (some (.ref C_NoKind))) (xk_NoKind : PySem.W.keepIn K (.ref C_NoKind) = true) (xs_NoKind : PySem.W.subIn K (.ref C_NoKind) (.type "BaseException") = some true) (xt_NoKind : PySem.W.typeIn K (.ref C_NoKind) = some (.type "type")) (xd_NoKind : PySem.W.hasDictIn K C_NoKind = true)
    (ga_NoKind : PySem.W.findIn K (.ref C_NoKind) "__getattribute__" = some (some (.builtin "BaseException.__getattribute__"))) (gt_NoKind : PySem.W.findIn K (.ref C_NoKind) "__getattr__" = some none) (cl_NoKind : PySem.W.findIn K (.ref C_NoKind) "__class__" = some (some (.builtin "object.__class__"))) (ob_NoKind : PySem.W.mroIn K C_NoKind (.type "object") = some true) (xc_NoKind : PySem.W.clsIn K C_NoKind = some cd_NoKind)
    (xq_NoKind : PySem.W.excIn K C_NoKind [.type "ValueError", .type "Exception", .type "BaseException", .type "object"] "ValueError.__new__" = true)
    (xa_NoNumber : PySem.W.nsIn K mainGlobals "NoNumber" = some (some (.ref C_NoNumber))) (xk_NoNumber : PySem.W.keepIn K (.ref C_NoNumber) = true) (xs_NoNumber : PySem.W.subIn K (.ref C_NoNumber) (.type "BaseException") = some true) (xt_NoNumber : PySem.W.typeIn K (.ref C_NoNumber) = some (.type "type")) (xd_NoNumber : PySem.W.hasDictIn K C_NoNumber = true)
    (ga_NoNumber : PySem.W.findIn K (.ref C_NoNumber) "__getattribute__" = some (some (.builtin "BaseException.__getattribute__"))) (gt_NoNumber : PySem.W.findIn K (.ref C_NoNumber) "__getattr__" = some none) (cl_NoNumber : PySem.W.findIn K (.ref C_NoNumber) "__class__" = some (some (.builtin "object.__class__"))) (ob_NoNumber : PySem.W.mroIn K C_NoNumber (.type "object") = some true) (xc_NoNumber : PySem.W.clsIn K C_NoNumber = some cd_NoNumber)
    (xq_NoNumber : PySem.W.excIn K C_NoNumber [.type "ValueError", .type "Exception", .type "BaseException", .type "object"] "ValueError.__new__" = true)
    (xa_NoPath : PySem.W.nsIn K mainGlobals "NoPath" = some (some (.ref C_NoPath))) (xk_NoPath : PySem.W.keepIn K (.ref C_NoPath) = true) (xs_NoPath : PySem.W.subIn K (.ref C_NoPath) (.type "BaseException") = some true) (xt_NoPath : PySem.W.typeIn K (.ref C_NoPath) = some (.type "type")) (xd_NoPath : PySem.W.hasDictIn K C_NoPath = true)
    (ga_NoPath : PySem.W.findIn K (.ref C_NoPath) "__getattribute__" = some (some (.builtin "BaseException.__getattribute__"))) (gt_NoPath : PySem.W.findIn K (.ref C_NoPath) "__getattr__" = some none) (cl_NoPath : PySem.W.findIn K (.ref C_NoPath) "__class__" = some (some (.builtin "object.__class__"))) (ob_NoPath : PySem.W.mroIn K C_NoPath (.type "object") = some true) (xc_NoPath : PySem.W.clsIn K C_NoPath = some cd_NoPath)
    (xq_NoPath : PySem.W.excIn K C_NoPath [.type "ValueError", .type "Exception", .type "BaseException", .type "object"] "ValueError.__new__" = true)
    (xa_NoPrice : PySem.W.nsIn K mainGlobals "NoPrice" = some (some (.ref C_NoPrice))) (xk_NoPrice : PySem.W.keepIn K (.ref C_NoPrice) = true) (xs_NoPrice : PySem.W.subIn K (.ref C_NoPrice) (.type "BaseException") = some true) (xt_NoPrice : PySem.W.typeIn K (.ref C_NoPrice) = some (.type "type")) (xd_NoPrice : PySem.W.hasDictIn K C_NoPrice = true)
    (ga_NoPrice : PySem.W.findIn K (.ref C_NoPrice) "__getattribute__" = some (some (.builtin "BaseException.__getattribute__"))) (gt_NoPrice : PySem.W.findIn K (.ref C_NoPrice) "__getattr__" = some none) (cl_NoPrice : PySem.W.findIn K (.ref C_NoPrice) "__class__" = some (some (.builtin "object.__class__"))) (ob_NoPrice : PySem.W.mroIn K C_NoPrice (.type "object") = some true) (xc_NoPrice : PySem.W.clsIn K C_NoPrice = some cd_NoPrice)
    (xq_NoPrice : PySem.W.excIn K C_NoPrice [.type "ValueError", .type "Exception", .type "BaseException", .type "object"] "ValueError.__new__" = true)
    (xa_NameTaken : PySem.W.nsIn K mainGlobals "NameTaken" = some (some (.ref C_NameTaken))) (xk_NameTaken : PySem.W.keepIn K (.ref C_NameTaken) = true) (xs_NameTaken : PySem.W.subIn K (.ref C_NameTaken) (.type "BaseException") = some true) (xt_NameTaken : PySem.W.typeIn K (.ref C_NameTaken) = some (.type "type")) (xd_NameTaken : PySem.W.hasDictIn K C_NameTaken = true)
    (ga_NameTaken : PySem.W.findIn K (.ref C_NameTaken) "__getattribute__" = some (some (.builtin "BaseException.__getattribute__"))) (gt_NameTaken : PySem.W.findIn K (.ref C_NameTaken) "__getattr__" = some none) (cl_NameTaken : PySem.W.findIn K (.ref C_NameTaken) "__class__" = some (some (.builtin "object.__class__"))) (ob_NameTaken : PySem.W.mroIn K C_NameTaken (.type "object") = some true) (xc_NameTaken : PySem.W.clsIn K C_NameTaken = some cd_NameTaken)
    (xq_NameTaken : PySem.W.excIn K C_NameTaken [.type "ValueError", .type "Exception", .type "BaseException", .type "object"] "ValueError.__new__" = true)
    (xa_NoName : PySem.W.nsIn K mainGlobals "NoName" = some (some (.ref C_NoName))) (xk_NoName : PySem.W.keepIn K (.ref C_NoName) = true) (xs_NoName : PySem.W.subIn K (.ref C_NoName) (.type "BaseException") = some true) (xt_NoName : PySem.W.typeIn K (.ref C_NoName) = some (.type "type")) (xd_NoName : PySem.W.hasDictIn K C_NoName = true)
    (ga_NoName : PySem.W.findIn K (.ref C_NoName) "__getattribute__" = some (some (.builtin "BaseException.__getattribute__"))) (gt_NoName : PySem.W.findIn K (.ref C_NoName) "__getattr__" = some none) (cl_NoName : PySem.W.findIn K (.ref C_NoName) "__class__" = some (some (.builtin "object.__class__"))) (ob_NoName : PySem.W.mroIn K C_NoName (.type "object") = some true) (xc_NoName : PySem.W.clsIn K C_NoName = some cd_NoName)
    (xq_NoName : PySem.W.excIn K C_NoName [.type "ValueError", .type "Exception", .type "BaseException", .type "object"] "ValueError.__new__" = true)
    (xa_NoMark : PySem.W.nsIn K mainGlobals "NoMark" = some (some (.ref C_NoMark))) (xk_NoMark : PySem.W.keepIn K (.ref C_NoMark) = true) (xs_NoMark : PySem.W.subIn K (.ref C_NoMark) (.type "BaseException") = some true) (xt_NoMark : PySem.W.typeIn K (.ref C_NoMark) = some (.type "type")) (xd_NoMark : PySem.W.hasDictIn K C_NoMark = true)
    (ga_NoMark : PySem.W.findIn K (.ref C_NoMark) "__getattribute__" = some (some (.builtin "BaseException.__getattribute__"))) (gt_NoMark : PySem.W.findIn K (.ref C_NoMark) "__getattr__" = some none) (cl_NoMark : PySem.W.findIn K (.ref C_NoMark) "__class__" = some (some (.builtin "object.__class__"))) (ob_NoMark : PySem.W.mroIn K C_NoMark (.type "object") = some true) (xc_NoMark : PySem.W.clsIn K C_NoMark = some cd_NoMark)
    (xq_NoMark : PySem.W.excIn K C_NoMark [.type "ValueError", .type "Exception", .type "BaseException", .type "object"] "ValueError.__new__" = true)
    (xa_InvalidCommand : PySem.W.nsIn K mainGlobals "InvalidCommand" = some (some (.ref C_InvalidCommand))) (xk_InvalidCommand : PySem.W.keepIn K (.ref C_InvalidCommand) = true) (xs_InvalidCommand : PySem.W.subIn K (.ref C_InvalidCommand) (.type "BaseException") = some true) (xt_InvalidCommand : PySem.W.typeIn K (.ref C_InvalidCommand) = some (.type "type")) (xd_InvalidCommand : PySem.W.hasDictIn K C_InvalidCommand = true)
    (ga_InvalidCommand : PySem.W.findIn K (.ref C_InvalidCommand) "__getattribute__" = some (some (.builtin "BaseException.__getattribute__"))) (gt_InvalidCommand : PySem.W.findIn K (.ref C_InvalidCommand) "__getattr__" = some none) (cl_InvalidCommand : PySem.W.findIn K (.ref C_InvalidCommand) "__class__" = some (some (.builtin "object.__class__"))) (ob_InvalidCommand : PySem.W.mroIn K C_InvalidCommand (.type "object") = some true) (xc_InvalidCommand : PySem.W.clsIn K C_InvalidCommand = some cd_InvalidCommand)
    (xq_InvalidCommand : PySem.W.excIn K C_InvalidCommand [.type "ValueError", .type "Exception", .type "BaseException", .type "object"] "ValueError.__new__" = true)
    (bsg : PySem.W.specialIn K (.ref C_TreeError) "__getattribute__" = some (some (.builtin "type.__getattribute__"))) (brd : PySem.W.readsIn K C_TreeError (.type "type") = true) (bfc : PySem.W.findCls K (.ref C_TreeError) (.type "type") "__init__" = some (.val (.builtin "ValueError.__init__")))
    (tab : xChk xSub [("TreeError", C_TreeError, cd_TreeError), ("SyntaxProblem", C_SyntaxProblem, cd_SyntaxProblem), ("TooMany", C_TooMany, cd_TooMany), ("NoSchema", C_NoSchema, cd_NoSchema), ("NoSheet", C_NoSheet, cd_NoSheet), ("NoTree", C_NoTree, cd_NoTree), ("NoForm", C_NoForm, cd_NoForm), ("NoSpace", C_NoSpace, cd_NoSpace), ("NoFilter", C_NoFilter, cd_NoFilter), ("NoModulus", C_NoModulus, cd_NoModulus), ("Mismatch", C_Mismatch, cd_Mismatch), ("NoKind", C_NoKind, cd_NoKind), ("NoNumber", C_NoNumber, cd_NoNumber), ("NoPath", C_NoPath, cd_NoPath), ("NoPrice", C_NoPrice, cd_NoPrice), ("NameTaken", C_NameTaken, cd_NameTaken), ("NoName", C_NoName, cd_NoName), ("NoMark", C_NoMark, cd_NoMark), ("InvalidCommand", C_InvalidCommand, cd_InvalidCommand)] = true)
    (t : ∀ ns : List Int, ns.length ≤ 63 → ∃ lvs, g_law [scr ns] = .ret (.dat (.bl true)) lvs) :
    ∃ fd : FuncData, (∀ (s : Shared) (v : Value), BindsTo s fd ⟨[v], []⟩ [("script", v)]) ∧ ∀ bs : Heap, K.In bs → bs.Ns mainGlobals mg → FnG l.prog w K mg bs 4 fa fd ["script"] (spLaw K) := by
  refine ⟨PySem.W.fnOf "law" "law" (defArgs (top 29)) (defBody (top 29)) (defScope (top 29)) .none kV7 dc7 pm7 an7 cd7 ct7, fun s v => .of_eq rfl, fun bs _ _ => ?_⟩
  let R : RE := ⟨K, fun x => ((List.lookup x ([("TreeError", C_TreeError), ("SyntaxProblem", C_SyntaxProblem), ("TooMany", C_TooMany), ("NoSchema", C_NoSchema), ("NoSheet", C_NoSheet), ("NoTree", C_NoTree), ("NoForm", C_NoForm), ("NoSpace", C_NoSpace), ("NoFilter", C_NoFilter), ("NoModulus", C_NoModulus), ("Mismatch", C_Mismatch), ("NoKind", C_NoKind), ("NoNumber", C_NoNumber), ("NoPath", C_NoPath), ("NoPrice", C_NoPrice), ("NameTaken", C_NameTaken), ("NoName", C_NoName), ("NoMark", C_NoMark), ("InvalidCommand", C_InvalidCommand)] : List (Str × Addr))).getD 0)⟩
  let B : Base := ⟨l.prog, w, R, mg, bs⟩
  have ct_TreeError : B.R.ct "TreeError" = C_TreeError := by kernel_rfl
  have ct_SyntaxProblem : B.R.ct "SyntaxProblem" = C_SyntaxProblem := by kernel_rfl
  have ct_TooMany : B.R.ct "TooMany" = C_TooMany := by kernel_rfl
  have ct_NoSchema : B.R.ct "NoSchema" = C_NoSchema := by kernel_rfl
  have ct_NoSheet : B.R.ct "NoSheet" = C_NoSheet := by kernel_rfl
  have ct_NoTree : B.R.ct "NoTree" = C_NoTree := by kernel_rfl
  have ct_NoForm : B.R.ct "NoForm" = C_NoForm := by kernel_rfl
  have ct_NoSpace : B.R.ct "NoSpace" = C_NoSpace := by kernel_rfl
  have ct_NoFilter : B.R.ct "NoFilter" = C_NoFilter := by kernel_rfl
  have ct_NoModulus : B.R.ct "NoModulus" = C_NoModulus := by kernel_rfl
  have ct_Mismatch : B.R.ct "Mismatch" = C_Mismatch := by kernel_rfl
  have ct_NoKind : B.R.ct "NoKind" = C_NoKind := by kernel_rfl
  have ct_NoNumber : B.R.ct "NoNumber" = C_NoNumber := by kernel_rfl
  have ct_NoPath : B.R.ct "NoPath" = C_NoPath := by kernel_rfl
  have ct_NoPrice : B.R.ct "NoPrice" = C_NoPrice := by kernel_rfl
  have ct_NameTaken : B.R.ct "NameTaken" = C_NameTaken := by kernel_rfl
  have ct_NoName : B.R.ct "NoName" = C_NoName := by kernel_rfl
  have ct_NoMark : B.R.ct "NoMark" = C_NoMark := by kernel_rfl
  have ct_InvalidCommand : B.R.ct "InvalidCommand" = C_InvalidCommand := by kernel_rfl
  have xt0 : XTab R xN xSub := xtab_of (L := [("TreeError", C_TreeError, cd_TreeError), ("SyntaxProblem", C_SyntaxProblem, cd_SyntaxProblem), ("TooMany", C_TooMany, cd_TooMany), ("NoSchema", C_NoSchema, cd_NoSchema), ("NoSheet", C_NoSheet, cd_NoSheet), ("NoTree", C_NoTree, cd_NoTree), ("NoForm", C_NoForm, cd_NoForm), ("NoSpace", C_NoSpace, cd_NoSpace), ("NoFilter", C_NoFilter, cd_NoFilter), ("NoModulus", C_NoModulus, cd_NoModulus), ("Mismatch", C_Mismatch, cd_Mismatch), ("NoKind", C_NoKind, cd_NoKind), ("NoNumber", C_NoNumber, cd_NoNumber), ("NoPath", C_NoPath, cd_NoPath), ("NoPrice", C_NoPrice, cd_NoPrice), ("NameTaken", C_NameTaken, cd_NameTaken), ("NoName", C_NoName, cd_NoName), ("NoMark", C_NoMark, cd_NoMark), ("InvalidCommand", C_InvalidCommand, cd_InvalidCommand)]) rfl (PL.fm ct_TreeError (PL.fm ct_SyntaxProblem (PL.fm ct_TooMany (PL.fm ct_NoSchema (PL.fm ct_NoSheet (PL.fm ct_NoTree (PL.fm ct_NoForm (PL.fm ct_NoSpace (PL.fm ct_NoFilter (PL.fm ct_NoModulus (PL.fm ct_Mismatch (PL.fm ct_NoKind (PL.fm ct_NoNumber (PL.fm ct_NoPath (PL.fm ct_NoPrice (PL.fm ct_NameTaken (PL.fm ct_NoName (PL.fm ct_NoMark (PL.fm ct_InvalidCommand PL.fm0))))))))))))))))))) (PL.fm ⟨ga_TreeError, gt_TreeError, xs_TreeError, xd_TreeError, cl_TreeError, gs, tk, ob_TreeError⟩ (PL.fm ⟨ga_SyntaxProblem, gt_SyntaxProblem, xs_SyntaxProblem, xd_SyntaxProblem, cl_SyntaxProblem, gs, tk, ob_SyntaxProblem⟩ (PL.fm ⟨ga_TooMany, gt_TooMany, xs_TooMany, xd_TooMany, cl_TooMany, gs, tk, ob_TooMany⟩ (PL.fm ⟨ga_NoSchema, gt_NoSchema, xs_NoSchema, xd_NoSchema, cl_NoSchema, gs, tk, ob_NoSchema⟩ (PL.fm ⟨ga_NoSheet, gt_NoSheet, xs_NoSheet, xd_NoSheet, cl_NoSheet, gs, tk, ob_NoSheet⟩ (PL.fm ⟨ga_NoTree, gt_NoTree, xs_NoTree, xd_NoTree, cl_NoTree, gs, tk, ob_NoTree⟩ (PL.fm ⟨ga_NoForm, gt_NoForm, xs_NoForm, xd_NoForm, cl_NoForm, gs, tk, ob_NoForm⟩ (PL.fm ⟨ga_NoSpace, gt_NoSpace, xs_NoSpace, xd_NoSpace, cl_NoSpace, gs, tk, ob_NoSpace⟩ (PL.fm ⟨ga_NoFilter, gt_NoFilter, xs_NoFilter, xd_NoFilter, cl_NoFilter, gs, tk, ob_NoFilter⟩ (PL.fm ⟨ga_NoModulus, gt_NoModulus, xs_NoModulus, xd_NoModulus, cl_NoModulus, gs, tk, ob_NoModulus⟩ (PL.fm ⟨ga_Mismatch, gt_Mismatch, xs_Mismatch, xd_Mismatch, cl_Mismatch, gs, tk, ob_Mismatch⟩ (PL.fm ⟨ga_NoKind, gt_NoKind, xs_NoKind, xd_NoKind, cl_NoKind, gs, tk, ob_NoKind⟩ (PL.fm ⟨ga_NoNumber, gt_NoNumber, xs_NoNumber, xd_NoNumber, cl_NoNumber, gs, tk, ob_NoNumber⟩ (PL.fm ⟨ga_NoPath, gt_NoPath, xs_NoPath, xd_NoPath, cl_NoPath, gs, tk, ob_NoPath⟩ (PL.fm ⟨ga_NoPrice, gt_NoPrice, xs_NoPrice, xd_NoPrice, cl_NoPrice, gs, tk, ob_NoPrice⟩ (PL.fm ⟨ga_NameTaken, gt_NameTaken, xs_NameTaken, xd_NameTaken, cl_NameTaken, gs, tk, ob_NameTaken⟩ (PL.fm ⟨ga_NoName, gt_NoName, xs_NoName, xd_NoName, cl_NoName, gs, tk, ob_NoName⟩ (PL.fm ⟨ga_NoMark, gt_NoMark, xs_NoMark, xd_NoMark, cl_NoMark, gs, tk, ob_NoMark⟩ (PL.fm ⟨ga_InvalidCommand, gt_InvalidCommand, xs_InvalidCommand, xd_InvalidCommand, cl_InvalidCommand, gs, tk, ob_InvalidCommand⟩ PL.fm0))))))))))))))))))) (PL.fm xc_TreeError (PL.fm xc_SyntaxProblem (PL.fm xc_TooMany (PL.fm xc_NoSchema (PL.fm xc_NoSheet (PL.fm xc_NoTree (PL.fm xc_NoForm (PL.fm xc_NoSpace (PL.fm xc_NoFilter (PL.fm xc_NoModulus (PL.fm xc_Mismatch (PL.fm xc_NoKind (PL.fm xc_NoNumber (PL.fm xc_NoPath (PL.fm xc_NoPrice (PL.fm xc_NameTaken (PL.fm xc_NoName (PL.fm xc_NoMark (PL.fm xc_InvalidCommand PL.fm0))))))))))))))))))) (PL.fm xt_TreeError (PL.fm xt_SyntaxProblem (PL.fm xt_TooMany (PL.fm xt_NoSchema (PL.fm xt_NoSheet (PL.fm xt_NoTree (PL.fm xt_NoForm (PL.fm xt_NoSpace (PL.fm xt_NoFilter (PL.fm xt_NoModulus (PL.fm xt_Mismatch (PL.fm xt_NoKind (PL.fm xt_NoNumber (PL.fm xt_NoPath (PL.fm xt_NoPrice (PL.fm xt_NameTaken (PL.fm xt_NoName (PL.fm xt_NoMark (PL.fm xt_InvalidCommand PL.fm0))))))))))))))))))) tab
  have xf0 : XFld R xFl := ⟨(PL.fm (by rw [ct_SyntaxProblem]; exact ⟨⟨ga_SyntaxProblem, gt_SyntaxProblem, xs_SyntaxProblem, xd_SyntaxProblem⟩, no_SyntaxProblem_line⟩) (PL.fm (by rw [ct_SyntaxProblem]; exact ⟨⟨ga_SyntaxProblem, gt_SyntaxProblem, xs_SyntaxProblem, xd_SyntaxProblem⟩, no_SyntaxProblem_column⟩) (PL.fm (by rw [ct_TooMany]; exact ⟨⟨ga_TooMany, gt_TooMany, xs_TooMany, xd_TooMany⟩, no_TooMany_limit⟩) PL.fm0)))⟩
  have G0 : Glo B := ⟨PySem.W.mg_none_of X G b_ValueError, PySem.W.mg_none_of X G b_abs, PySem.W.mg_none_of X G b_enumerate, PySem.W.mg_none_of X G b_int, PySem.W.mg_none_of X G b_isinstance, PySem.W.mg_none_of X G b_len, PySem.W.mg_none_of X G b_range, (by rw [ct_TreeError]; exact PySem.W.mg_of X G xa_TreeError), excAt (B := B) X G ct_TreeError xa_TreeError xq_TreeError xk_TreeError xs_TreeError xt_TreeError, (by rw [ct_SyntaxProblem]; exact PySem.W.mg_of X G xa_SyntaxProblem), (by rw [ct_TooMany]; exact PySem.W.mg_of X G xa_TooMany), (by rw [ct_NoSchema]; exact PySem.W.mg_of X G xa_NoSchema), excAt (B := B) X G ct_NoSchema xa_NoSchema xq_NoSchema xk_NoSchema xs_NoSchema xt_NoSchema, (by rw [ct_NoSheet]; exact PySem.W.mg_of X G xa_NoSheet), excAt (B := B) X G ct_NoSheet xa_NoSheet xq_NoSheet xk_NoSheet xs_NoSheet xt_NoSheet, (by rw [ct_NoTree]; exact PySem.W.mg_of X G xa_NoTree), excAt (B := B) X G ct_NoTree xa_NoTree xq_NoTree xk_NoTree xs_NoTree xt_NoTree, (by rw [ct_NoForm]; exact PySem.W.mg_of X G xa_NoForm), excAt (B := B) X G ct_NoForm xa_NoForm xq_NoForm xk_NoForm xs_NoForm xt_NoForm, (by rw [ct_NoSpace]; exact PySem.W.mg_of X G xa_NoSpace), excAt (B := B) X G ct_NoSpace xa_NoSpace xq_NoSpace xk_NoSpace xs_NoSpace xt_NoSpace, (by rw [ct_NoFilter]; exact PySem.W.mg_of X G xa_NoFilter), excAt (B := B) X G ct_NoFilter xa_NoFilter xq_NoFilter xk_NoFilter xs_NoFilter xt_NoFilter, (by rw [ct_NoModulus]; exact PySem.W.mg_of X G xa_NoModulus), excAt (B := B) X G ct_NoModulus xa_NoModulus xq_NoModulus xk_NoModulus xs_NoModulus xt_NoModulus, (by rw [ct_Mismatch]; exact PySem.W.mg_of X G xa_Mismatch), excAt (B := B) X G ct_Mismatch xa_Mismatch xq_Mismatch xk_Mismatch xs_Mismatch xt_Mismatch, (by rw [ct_NoKind]; exact PySem.W.mg_of X G xa_NoKind), excAt (B := B) X G ct_NoKind xa_NoKind xq_NoKind xk_NoKind xs_NoKind xt_NoKind, (by rw [ct_NoNumber]; exact PySem.W.mg_of X G xa_NoNumber), excAt (B := B) X G ct_NoNumber xa_NoNumber xq_NoNumber xk_NoNumber xs_NoNumber xt_NoNumber, (by rw [ct_NoPath]; exact PySem.W.mg_of X G xa_NoPath), excAt (B := B) X G ct_NoPath xa_NoPath xq_NoPath xk_NoPath xs_NoPath xt_NoPath, (by rw [ct_NoPrice]; exact PySem.W.mg_of X G xa_NoPrice), excAt (B := B) X G ct_NoPrice xa_NoPrice xq_NoPrice xk_NoPrice xs_NoPrice xt_NoPrice, (by rw [ct_NameTaken]; exact PySem.W.mg_of X G xa_NameTaken), excAt (B := B) X G ct_NameTaken xa_NameTaken xq_NameTaken xk_NameTaken xs_NameTaken xt_NameTaken, (by rw [ct_NoName]; exact PySem.W.mg_of X G xa_NoName), excAt (B := B) X G ct_NoName xa_NoName xq_NoName xk_NoName xs_NoName xt_NoName, (by rw [ct_NoMark]; exact PySem.W.mg_of X G xa_NoMark), excAt (B := B) X G ct_NoMark xa_NoMark xq_NoMark xk_NoMark xs_NoMark xt_NoMark, (by rw [ct_InvalidCommand]; exact PySem.W.mg_of X G xa_InvalidCommand), excAt (B := B) X G ct_InvalidCommand xa_InvalidCommand xq_InvalidCommand xk_InvalidCommand xs_InvalidCommand xt_InvalidCommand, xt0, xf0⟩
  have d_SyntaxProblem_ := mk_SyntaxProblem (B := B) (fun_mk (st := meth 2 0) fl_SyntaxProblem fc_SyntaxProblem fk_SyntaxProblem) ((fun_mk (st := meth 2 0) fl_SyntaxProblem fc_SyntaxProblem fk_SyntaxProblem).binds fun _ _ _ _ _ _ us hl => match us, hl with | [_, _, _], _ => rfl) (by rw [ct_SyntaxProblem]; exact ⟨⟨_, _, _, _, _, _, _, _, _, _, _, _, _, _, _, co_SyntaxProblem, rv_SyntaxProblem⟩, sa_SyntaxProblem, xs_SyntaxProblem, xt_SyntaxProblem, xk_SyntaxProblem⟩) (by rw [ct_SyntaxProblem]; exact fi_SyntaxProblem) ft_SyntaxProblem (by rw [ct_SyntaxProblem]; exact PySem.W.mg_of X G xa_SyntaxProblem) ⟨PySem.W.mg_of X G xa_TreeError, bsg, brd, bfc⟩ (by rw [ct_SyntaxProblem]; exact no_SyntaxProblem_line) (by rw [ct_SyntaxProblem]; exact no_SyntaxProblem_column)
  have d_TooMany_ := mk_TooMany (B := B) (fun_mk (st := meth 3 0) fl_TooMany fc_TooMany fk_TooMany) ((fun_mk (st := meth 3 0) fl_TooMany fc_TooMany fk_TooMany).binds fun _ _ _ _ _ _ us hl => match us, hl with | [_, _], _ => rfl) (by rw [ct_TooMany]; exact ⟨⟨_, _, _, _, _, _, _, _, _, _, _, _, _, _, _, co_TooMany, rv_TooMany⟩, sa_TooMany, xs_TooMany, xt_TooMany, xk_TooMany⟩) (by rw [ct_TooMany]; exact fi_TooMany) ft_TooMany (by rw [ct_TooMany]; exact PySem.W.mg_of X G xa_TooMany) ⟨PySem.W.mg_of X G xa_TreeError, bsg, brd, bfc⟩ (by rw [ct_TooMany]; exact no_TooMany_limit)
  have d__law_base_right_ := d__law_base_right (B := B) (defAt (B := B) X G a0 l0 c0 k0 fun _ _ _ _ _ _ us hl => match us, hl with | [_], _ => rfl) G0 ⟨⟩
  have d__law_kneaded_ := d__law_kneaded (B := B) (defAt (B := B) X G a1 l1 c1 k1 fun _ _ _ _ _ _ us hl => match us, hl with | [_, _], _ => rfl) G0 ⟨⟩
  have d__law_below_ := d__law_below (B := B) (defAt (B := B) X G a2 l2 c2 k2 fun _ _ _ _ _ _ us hl => match us, hl with | [_, _], _ => rfl) G0 ⟨d__law_kneaded_⟩
  have d__law_kinds_of_ := d__law_kinds_of (B := B) (defAt (B := B) X G a3 l3 c3 k3 fun _ _ _ _ _ _ us hl => match us, hl with | [_], _ => rfl) G0 ⟨⟩
  have d__law_made_ := d__law_made (B := B) (defAt (B := B) X G a4 l4 c4 k4 fun _ _ _ _ _ _ us hl => match us, hl with | [_, _], _ => rfl) G0 ⟨⟩
  have d__law_pick_ := d__law_pick (B := B) (defAt (B := B) X G a5 l5 c5 k5 fun _ _ _ _ _ _ us hl => match us, hl with | [_, _], _ => rfl) G0 ⟨d__law_below_⟩
  have d__law_pot_of_ := d__law_pot_of (B := B) (defAt (B := B) X G a6 l6 c6 k6 fun _ _ _ _ _ _ us hl => match us, hl with | [_], _ => rfl) G0 ⟨⟩
  have d_law_ := d_law (B := B) (defAt (B := B) X G a7 l7 c7 k7 fun _ _ _ _ _ _ us hl => match us, hl with | [_], _ => rfl) G0 ⟨d__law_base_right_, d__law_below_, d__law_kinds_of_, d__law_made_, d__law_pick_, d__law_pot_of_, d_SyntaxProblem_, d_TooMany_⟩
  exact law_fn d_law_ hfa (by have e := hfa.symm.trans (PySem.W.mg_of X G a7); cases e; exact l7) t
end Lw
open PySem PySem.W PyProof.Rows
set_option maxRecDepth 100000 in
set_option maxHeartbeats 0 in
theorem PySem.Challenge.cw_treelaws_k06_errors_holds : PySem.Challenge.rw_treelaws_k06_errors.Holds := by
  w_on; o_law; k_head; (case hw => w_witness2)
  k_fill
  refine PL.walk_end (l := PySem.Challenge.rw_treelaws_k06_errors) (k := 4) rfl rfl ⟨rfl, by decide, by decide⟩ (fun w h Y => PySem.W.kIn_of Y) ?F
  case F =>
    intro w mg fa h KX G hmg
    refine' Lw.all_in KX G hmg ?a0 ?l0 ?c0 ?k0 ?a1 ?l1 ?c1 ?k1 ?a2 ?l2 ?c2 ?k2 ?a3 ?l3 ?c3 ?k3 ?a4 ?l4 ?c4 ?k4 ?a5 ?l5 ?c5 ?k5 ?a6 ?l6 ?c6 ?k6 ?a7 ?l7 ?c7 ?k7 ?b_ValueError ?b_abs ?b_enumerate ?b_int ?b_isinstance ?b_len ?b_range ?gs ?tk ?xa_TreeError ?xk_TreeError ?xs_TreeError ?xt_TreeError ?xd_TreeError ?ga_TreeError ?gt_TreeError ?cl_TreeError ?ob_TreeError ?xc_TreeError ?xq_TreeError ?xa_SyntaxProblem ?xk_SyntaxProblem ?xs_SyntaxProblem ?xt_SyntaxProblem ?xd_SyntaxProblem ?ga_SyntaxProblem ?gt_SyntaxProblem ?cl_SyntaxProblem ?ob_SyntaxProblem ?xc_SyntaxProblem ?fi_SyntaxProblem ?fl_SyntaxProblem ?fc_SyntaxProblem ?fk_SyntaxProblem ?ft_SyntaxProblem ?co_SyntaxProblem ?rv_SyntaxProblem ?sa_SyntaxProblem ?no_SyntaxProblem_line ?no_SyntaxProblem_column ?xa_TooMany ?xk_TooMany ?xs_TooMany ?xt_TooMany ?xd_TooMany ?ga_TooMany ?gt_TooMany ?cl_TooMany ?ob_TooMany ?xc_TooMany ?fi_TooMany ?fl_TooMany ?fc_TooMany ?fk_TooMany ?ft_TooMany ?co_TooMany ?rv_TooMany ?sa_TooMany ?no_TooMany_limit ?xa_NoSchema ?xk_NoSchema ?xs_NoSchema ?xt_NoSchema ?xd_NoSchema ?ga_NoSchema ?gt_NoSchema ?cl_NoSchema ?ob_NoSchema ?xc_NoSchema ?xq_NoSchema ?xa_NoSheet ?xk_NoSheet ?xs_NoSheet ?xt_NoSheet ?xd_NoSheet ?ga_NoSheet ?gt_NoSheet ?cl_NoSheet ?ob_NoSheet ?xc_NoSheet ?xq_NoSheet ?xa_NoTree ?xk_NoTree ?xs_NoTree ?xt_NoTree ?xd_NoTree ?ga_NoTree ?gt_NoTree ?cl_NoTree ?ob_NoTree ?xc_NoTree ?xq_NoTree ?xa_NoForm ?xk_NoForm ?xs_NoForm ?xt_NoForm ?xd_NoForm ?ga_NoForm ?gt_NoForm ?cl_NoForm ?ob_NoForm ?xc_NoForm ?xq_NoForm ?xa_NoSpace ?xk_NoSpace ?xs_NoSpace ?xt_NoSpace ?xd_NoSpace ?ga_NoSpace ?gt_NoSpace ?cl_NoSpace ?ob_NoSpace ?xc_NoSpace ?xq_NoSpace ?xa_NoFilter ?xk_NoFilter ?xs_NoFilter ?xt_NoFilter ?xd_NoFilter ?ga_NoFilter ?gt_NoFilter ?cl_NoFilter ?ob_NoFilter ?xc_NoFilter ?xq_NoFilter ?xa_NoModulus ?xk_NoModulus ?xs_NoModulus ?xt_NoModulus ?xd_NoModulus ?ga_NoModulus ?gt_NoModulus ?cl_NoModulus ?ob_NoModulus ?xc_NoModulus ?xq_NoModulus ?xa_Mismatch ?xk_Mismatch ?xs_Mismatch ?xt_Mismatch ?xd_Mismatch ?ga_Mismatch ?gt_Mismatch ?cl_Mismatch ?ob_Mismatch ?xc_Mismatch ?xq_Mismatch ?xa_NoKind ?xk_NoKind ?xs_NoKind ?xt_NoKind ?xd_NoKind ?ga_NoKind ?gt_NoKind ?cl_NoKind ?ob_NoKind ?xc_NoKind ?xq_NoKind ?xa_NoNumber ?xk_NoNumber ?xs_NoNumber ?xt_NoNumber ?xd_NoNumber ?ga_NoNumber ?gt_NoNumber ?cl_NoNumber ?ob_NoNumber ?xc_NoNumber ?xq_NoNumber ?xa_NoPath ?xk_NoPath ?xs_NoPath ?xt_NoPath ?xd_NoPath ?ga_NoPath ?gt_NoPath ?cl_NoPath ?ob_NoPath ?xc_NoPath ?xq_NoPath ?xa_NoPrice ?xk_NoPrice ?xs_NoPrice ?xt_NoPrice ?xd_NoPrice ?ga_NoPrice ?gt_NoPrice ?cl_NoPrice ?ob_NoPrice ?xc_NoPrice ?xq_NoPrice ?xa_NameTaken ?xk_NameTaken ?xs_NameTaken ?xt_NameTaken ?xd_NameTaken ?ga_NameTaken ?gt_NameTaken ?cl_NameTaken ?ob_NameTaken ?xc_NameTaken ?xq_NameTaken ?xa_NoName ?xk_NoName ?xs_NoName ?xt_NoName ?xd_NoName ?ga_NoName ?gt_NoName ?cl_NoName ?ob_NoName ?xc_NoName ?xq_NoName ?xa_NoMark ?xk_NoMark ?xs_NoMark ?xt_NoMark ?xd_NoMark ?ga_NoMark ?gt_NoMark ?cl_NoMark ?ob_NoMark ?xc_NoMark ?xq_NoMark ?xa_InvalidCommand ?xk_InvalidCommand ?xs_InvalidCommand ?xt_InvalidCommand ?xd_InvalidCommand ?ga_InvalidCommand ?gt_InvalidCommand ?cl_InvalidCommand ?ob_InvalidCommand ?xc_InvalidCommand ?xq_InvalidCommand ?bsg ?brd ?bfc ?tab Lw.law_true
    (case a0 => k_is); (case l0 => k_is); (case c0 => k_is); (case k0 => k_is); (case a1 => k_is); (case l1 => k_is)
    (case c1 => k_is); (case k1 => k_is); (case a2 => k_is); (case l2 => k_is); (case c2 => k_is); (case k2 => k_is)
    (case a3 => k_is); (case l3 => k_is); (case c3 => k_is); (case k3 => k_is); (case a4 => k_is); (case l4 => k_is)
    (case c4 => k_is); (case k4 => k_is); (case a5 => k_is); (case l5 => k_is); (case c5 => k_is); (case k5 => k_is)
    (case a6 => k_is); (case l6 => k_is); (case c6 => k_is); (case k6 => k_is); (case a7 => k_is); (case l7 => k_is)
    (case c7 => k_is); (case k7 => k_is); (case b_ValueError => k_is); (case b_abs => k_is); (case b_enumerate => k_is); (case b_int => k_is)
    (case b_isinstance => k_is); (case b_len => k_is); (case b_range => k_is); (case gs => k_is); (case tk => k_is); (case xa_TreeError => k_is)
    (case xk_TreeError => k_is); (case xs_TreeError => k_is); (case xt_TreeError => k_is); (case xd_TreeError => k_is); (case ga_TreeError => k_is); (case gt_TreeError => k_is)
    (case cl_TreeError => k_is); (case ob_TreeError => k_is); (case xc_TreeError => k_is); (case xq_TreeError => k_exc); (case xa_SyntaxProblem => k_is); (case xk_SyntaxProblem => k_is)
    (case xs_SyntaxProblem => k_is); (case xt_SyntaxProblem => k_is); (case xd_SyntaxProblem => k_is); (case ga_SyntaxProblem => k_is); (case gt_SyntaxProblem => k_is); (case cl_SyntaxProblem => k_is)
    (case ob_SyntaxProblem => k_is); (case xc_SyntaxProblem => k_is); (case fi_SyntaxProblem => k_is); (case fl_SyntaxProblem => k_is); (case fc_SyntaxProblem => k_is); (case fk_SyntaxProblem => k_is)
    (case ft_SyntaxProblem => k_is); (case co_SyntaxProblem => k_is); (case rv_SyntaxProblem => rfl); (case sa_SyntaxProblem => k_is); (case no_SyntaxProblem_line => k_is); (case no_SyntaxProblem_column => k_is)
    (case xa_TooMany => k_is); (case xk_TooMany => k_is); (case xs_TooMany => k_is); (case xt_TooMany => k_is); (case xd_TooMany => k_is); (case ga_TooMany => k_is)
    (case gt_TooMany => k_is); (case cl_TooMany => k_is); (case ob_TooMany => k_is); (case xc_TooMany => k_is); (case fi_TooMany => k_is); (case fl_TooMany => k_is)
    (case fc_TooMany => k_is); (case fk_TooMany => k_is); (case ft_TooMany => k_is); (case co_TooMany => k_is); (case rv_TooMany => rfl); (case sa_TooMany => k_is)
    (case no_TooMany_limit => k_is); (case xa_NoSchema => k_is); (case xk_NoSchema => k_is); (case xs_NoSchema => k_is); (case xt_NoSchema => k_is); (case xd_NoSchema => k_is)
    (case ga_NoSchema => k_is); (case gt_NoSchema => k_is); (case cl_NoSchema => k_is); (case ob_NoSchema => k_is); (case xc_NoSchema => k_is); (case xq_NoSchema => k_exc)
    (case xa_NoSheet => k_is); (case xk_NoSheet => k_is); (case xs_NoSheet => k_is); (case xt_NoSheet => k_is); (case xd_NoSheet => k_is); (case ga_NoSheet => k_is)
    (case gt_NoSheet => k_is); (case cl_NoSheet => k_is); (case ob_NoSheet => k_is); (case xc_NoSheet => k_is); (case xq_NoSheet => k_exc); (case xa_NoTree => k_is)
    (case xk_NoTree => k_is); (case xs_NoTree => k_is); (case xt_NoTree => k_is); (case xd_NoTree => k_is); (case ga_NoTree => k_is); (case gt_NoTree => k_is)
    (case cl_NoTree => k_is); (case ob_NoTree => k_is); (case xc_NoTree => k_is); (case xq_NoTree => k_exc); (case xa_NoForm => k_is); (case xk_NoForm => k_is)
    (case xs_NoForm => k_is); (case xt_NoForm => k_is); (case xd_NoForm => k_is); (case ga_NoForm => k_is); (case gt_NoForm => k_is); (case cl_NoForm => k_is)
    (case ob_NoForm => k_is); (case xc_NoForm => k_is); (case xq_NoForm => k_exc); (case xa_NoSpace => k_is); (case xk_NoSpace => k_is); (case xs_NoSpace => k_is)
    (case xt_NoSpace => k_is); (case xd_NoSpace => k_is); (case ga_NoSpace => k_is); (case gt_NoSpace => k_is); (case cl_NoSpace => k_is); (case ob_NoSpace => k_is)
    (case xc_NoSpace => k_is); (case xq_NoSpace => k_exc); (case xa_NoFilter => k_is); (case xk_NoFilter => k_is); (case xs_NoFilter => k_is); (case xt_NoFilter => k_is)
    (case xd_NoFilter => k_is); (case ga_NoFilter => k_is); (case gt_NoFilter => k_is); (case cl_NoFilter => k_is); (case ob_NoFilter => k_is); (case xc_NoFilter => k_is)
    (case xq_NoFilter => k_exc); (case xa_NoModulus => k_is); (case xk_NoModulus => k_is); (case xs_NoModulus => k_is); (case xt_NoModulus => k_is); (case xd_NoModulus => k_is)
    (case ga_NoModulus => k_is); (case gt_NoModulus => k_is); (case cl_NoModulus => k_is); (case ob_NoModulus => k_is); (case xc_NoModulus => k_is); (case xq_NoModulus => k_exc)
    (case xa_Mismatch => k_is); (case xk_Mismatch => k_is); (case xs_Mismatch => k_is); (case xt_Mismatch => k_is); (case xd_Mismatch => k_is); (case ga_Mismatch => k_is)
    (case gt_Mismatch => k_is); (case cl_Mismatch => k_is); (case ob_Mismatch => k_is); (case xc_Mismatch => k_is); (case xq_Mismatch => k_exc); (case xa_NoKind => k_is)
    (case xk_NoKind => k_is); (case xs_NoKind => k_is); (case xt_NoKind => k_is); (case xd_NoKind => k_is); (case ga_NoKind => k_is); (case gt_NoKind => k_is)
    (case cl_NoKind => k_is); (case ob_NoKind => k_is); (case xc_NoKind => k_is); (case xq_NoKind => k_exc); (case xa_NoNumber => k_is); (case xk_NoNumber => k_is)
    (case xs_NoNumber => k_is); (case xt_NoNumber => k_is); (case xd_NoNumber => k_is); (case ga_NoNumber => k_is); (case gt_NoNumber => k_is); (case cl_NoNumber => k_is)
    (case ob_NoNumber => k_is); (case xc_NoNumber => k_is); (case xq_NoNumber => k_exc); (case xa_NoPath => k_is); (case xk_NoPath => k_is); (case xs_NoPath => k_is)
    (case xt_NoPath => k_is); (case xd_NoPath => k_is); (case ga_NoPath => k_is); (case gt_NoPath => k_is); (case cl_NoPath => k_is); (case ob_NoPath => k_is)
    (case xc_NoPath => k_is); (case xq_NoPath => k_exc); (case xa_NoPrice => k_is); (case xk_NoPrice => k_is); (case xs_NoPrice => k_is); (case xt_NoPrice => k_is)
    (case xd_NoPrice => k_is); (case ga_NoPrice => k_is); (case gt_NoPrice => k_is); (case cl_NoPrice => k_is); (case ob_NoPrice => k_is); (case xc_NoPrice => k_is)
    (case xq_NoPrice => k_exc); (case xa_NameTaken => k_is); (case xk_NameTaken => k_is); (case xs_NameTaken => k_is); (case xt_NameTaken => k_is); (case xd_NameTaken => k_is)
    (case ga_NameTaken => k_is); (case gt_NameTaken => k_is); (case cl_NameTaken => k_is); (case ob_NameTaken => k_is); (case xc_NameTaken => k_is); (case xq_NameTaken => k_exc)
    (case xa_NoName => k_is); (case xk_NoName => k_is); (case xs_NoName => k_is); (case xt_NoName => k_is); (case xd_NoName => k_is); (case ga_NoName => k_is)
    (case gt_NoName => k_is); (case cl_NoName => k_is); (case ob_NoName => k_is); (case xc_NoName => k_is); (case xq_NoName => k_exc); (case xa_NoMark => k_is)
    (case xk_NoMark => k_is); (case xs_NoMark => k_is); (case xt_NoMark => k_is); (case xd_NoMark => k_is); (case ga_NoMark => k_is); (case gt_NoMark => k_is)
    (case cl_NoMark => k_is); (case ob_NoMark => k_is); (case xc_NoMark => k_is); (case xq_NoMark => k_exc); (case xa_InvalidCommand => k_is); (case xk_InvalidCommand => k_is)
    (case xs_InvalidCommand => k_is); (case xt_InvalidCommand => k_is); (case xd_InvalidCommand => k_is); (case ga_InvalidCommand => k_is); (case gt_InvalidCommand => k_is); (case cl_InvalidCommand => k_is)
    (case ob_InvalidCommand => k_is); (case xc_InvalidCommand => k_is); (case xq_InvalidCommand => k_exc); (case bsg => k_is); (case brd => k_is); (case bfc => k_is)
    (case tab => decide +kernel)
