import PyProof.Rows.All
import Wide.All
import OpenK.AllK
import Wide.FinOn
import HandS.ForMost
import HandS.ForExc
import HandS.Wide
import HandS.Gcd
import HandS.IsInst
import HandS.ExcInit
import HandS.ExcField
import HandS.Defaults
import HandS.Zip
import HandS.Walk
import HandS.TupAny
import HandS.Deep
import HandS.TupLe
import HandS.Codes
import HandS.Style
import PySem.Challenge.RW_cutsure_k06_pieces
import HandS.More
import HandS.ExcIs
section
set_option Elab.async false
set_option linter.all false
set_option maxRecDepth 100000
set_option maxHeartbeats 4000000
/-! The D layer, part a: data, frames, the store of labelled objects; how they stand in a tracked heap. -/
namespace DL
open PySem PySem.Spec PyProof.Rows L2

/-- data: what a value is worth, lists and tuples by their items; obj n: the n-th labelled object (it can be changed) -/
inductive D where
  | non | bl (b : Bool) | int (i : Int) | str (s : Str) | tup (ds : List D) | lst (ds : List D) | obj (n : Nat) | scr (ns : List Int)
/-- a labelled object -/
inductive Ob where
  | lst (ds : List D) | dic (kvs : List (Key × D)) | fdic (kvs : List (Key × D))
/-- a name's place: nothing known, a value, a list of its own that nothing else knows -/
inductive Slot where
  | none | val (d : D) | own (ds : List D)
abbrev Fr := List Slot
abbrev SS := List Ob
inductive Out (α : Type) where
  | ok (a : α) (fr : Fr) (st : SS)
  | exn (c : Nat) (d : D) (fr : Fr) (st : SS)
abbrev M (α : Type) := Fr → SS → Option (Out α)

mutual
def Rep (K : PySem.W.Frag) (G : Hp) (lab : List Addr) : D → V → Prop
  | .non, v => v = .non
  | .bl b, v => v = .bl b
  | .int i, v => v = .int i
  | .str s, v => v = .str s
  | .tup ds, v => ∃ a xs, v = .ref a ∧ SqT K G a xs ∧ Reps K G lab ds xs
  | .lst ds, v => ∃ a xs, v = .ref a ∧ G a = some (.lst xs) ∧ Reps K G lab ds xs
  | .obj n, v => ∃ a, v = .ref a ∧ lab[n]? = some a
  | .scr ns, v => ∃ a, v = .ref a ∧ SqL K G a (ns.map V.int)
def Reps (K : PySem.W.Frag) (G : Hp) (lab : List Addr) : List D → List V → Prop
  | [], xs => xs = []
  | d :: ds, xs => ∃ v vs, xs = v :: vs ∧ Rep K G lab d v ∧ Reps K G lab ds vs
end

section
variable {K : PySem.W.Frag} {G G' : Hp} {lab lab' : List Addr}
theorem sqT_sub (h : ∀ a o, G a = some o → G' a = some o) {a : Addr} {xs : List V} (q : SqT K G a xs) : SqT K G' a xs := by
  rcases q with (q | ⟨o, q⟩) | q
  · exact .inl (.inl (h _ _ q))
  · exact .inl (.inr ⟨o, h _ _ q⟩)
  · exact .inr q
theorem sqL_sub (h : ∀ a o, G a = some o → G' a = some o) {a : Addr} {xs : List V} (q : SqL K G a xs) : SqL K G' a xs := by
  rcases q with (q | ⟨o, q⟩) | q
  · exact .inl (.inl (h _ _ q))
  · exact .inl (.inr ⟨o, h _ _ q⟩)
  · exact .inr q
mutual
theorem Rep.mono (h : ∀ a o, G a = some o → G' a = some o) (hl : ∀ (n : Nat) a, lab[n]? = some a → lab'[n]? = some a) : ∀ (d : D) (v : V), Rep K G lab d v → Rep K G' lab' d v
  | .non, _, r => by unfold Rep at r ⊢; exact r
  | .bl _, _, r => by unfold Rep at r ⊢; exact r
  | .int _, _, r => by unfold Rep at r ⊢; exact r
  | .str _, _, r => by unfold Rep at r ⊢; exact r
  | .tup ds, _, r => by
    unfold Rep at r ⊢
    obtain ⟨a, xs, e, q, rs⟩ := r
    exact ⟨a, xs, e, sqT_sub h q, Reps.mono h hl ds xs rs⟩
  | .lst ds, _, r => by
    unfold Rep at r ⊢
    obtain ⟨a, xs, e, q, rs⟩ := r
    exact ⟨a, xs, e, h _ _ q, Reps.mono h hl ds xs rs⟩
  | .obj n, _, r => by
    unfold Rep at r ⊢
    obtain ⟨a, e, q⟩ := r
    exact ⟨a, e, hl n a q⟩
  | .scr ns, _, r => by
    unfold Rep at r ⊢
    obtain ⟨a, e, q⟩ := r
    exact ⟨a, e, sqL_sub h q⟩
theorem Reps.mono (h : ∀ a o, G a = some o → G' a = some o) (hl : ∀ (n : Nat) a, lab[n]? = some a → lab'[n]? = some a) : ∀ (ds : List D) (xs : List V), Reps K G lab ds xs → Reps K G' lab' ds xs
  | [], _, r => by unfold Reps at r ⊢; exact r
  | d :: ds, _, r => by
    unfold Reps at r ⊢
    obtain ⟨v, vs, e, r1, r2⟩ := r
    exact ⟨v, vs, e, Rep.mono h hl d v r1, Reps.mono h hl ds vs r2⟩
end
theorem reps_nil : Reps K G lab [] [] := by unfold Reps; rfl
theorem reps_cons {d : D} {ds : List D} {v : V} {vs : List V} (h : Rep K G lab d v) (hs : Reps K G lab ds vs) : Reps K G lab (d :: ds) (v :: vs) := by
  unfold Reps; exact ⟨v, vs, rfl, h, hs⟩
theorem reps_nil_inv {xs : List V} (h : Reps K G lab [] xs) : xs = [] := by unfold Reps at h; exact h
theorem reps_cons_inv {d : D} {ds : List D} {xs : List V} (h : Reps K G lab (d :: ds) xs) : ∃ v vs, xs = v :: vs ∧ Rep K G lab d v ∧ Reps K G lab ds vs := by
  unfold Reps at h; exact h
theorem reps_len : ∀ {ds : List D} {xs : List V}, Reps K G lab ds xs → xs.length = ds.length
  | [], _, h => by rw [reps_nil_inv h]; rfl
  | d :: ds, _, h => by
    obtain ⟨v, vs, rfl, _, h2⟩ := reps_cons_inv h
    simp [reps_len h2]
theorem reps_get : ∀ {ds : List D} {xs : List V} {i : Nat} {d : D}, Reps K G lab ds xs → ds[i]? = some d → ∃ v, xs[i]? = some v ∧ Rep K G lab d v
  | [], _, i, d, _, e => by simp at e
  | d' :: ds, _, 0, d, h, e => by
    obtain ⟨v, vs, rfl, h1, h2⟩ := reps_cons_inv h
    simp at e
    subst e
    exact ⟨v, rfl, h1⟩
  | d' :: ds, _, i + 1, d, h, e => by
    obtain ⟨v, vs, rfl, h1, h2⟩ := reps_cons_inv h
    obtain ⟨u, q1, q2⟩ := reps_get (i := i) h2 (by simpa using e)
    exact ⟨u, by simpa using q1, q2⟩
theorem reps_getV : ∀ {ds : List D} {xs : List V} {i : Nat} {v : V}, Reps K G lab ds xs → xs[i]? = some v → ∃ d, ds[i]? = some d ∧ Rep K G lab d v
  | [], _, i, d, h, e => by rw [reps_nil_inv h] at e; simp at e
  | d' :: ds, _, 0, d, h, e => by
    obtain ⟨v, vs, rfl, h1, h2⟩ := reps_cons_inv h
    simp at e
    subst e
    exact ⟨d', rfl, h1⟩
  | d' :: ds, _, i + 1, d, h, e => by
    obtain ⟨v, vs, rfl, h1, h2⟩ := reps_cons_inv h
    obtain ⟨u, q1, q2⟩ := reps_getV (i := i) h2 (by simpa using e)
    exact ⟨u, by simpa using q1, q2⟩
theorem reps_append : ∀ {ds es : List D} {xs ys : List V}, Reps K G lab ds xs → Reps K G lab es ys → Reps K G lab (ds ++ es) (xs ++ ys)
  | [], es, _, ys, h, h' => by rw [reps_nil_inv h]; exact h'
  | d :: ds, es, _, ys, h, h' => by
    obtain ⟨v, vs, rfl, h1, h2⟩ := reps_cons_inv h
    exact reps_cons h1 (reps_append h2 h')
theorem reps_take : ∀ {ds : List D} {xs : List V} (n : Nat), Reps K G lab ds xs → Reps K G lab (ds.take n) (xs.take n)
  | _, _, 0, _ => by simpa using reps_nil
  | [], _, n + 1, h => by rw [reps_nil_inv h]; simpa using reps_nil
  | d :: ds, _, n + 1, h => by
    obtain ⟨v, vs, rfl, h1, h2⟩ := reps_cons_inv h
    exact reps_cons h1 (reps_take n h2)
theorem reps_drop : ∀ {ds : List D} {xs : List V} (n : Nat), Reps K G lab ds xs → Reps K G lab (ds.drop n) (xs.drop n)
  | _, _, 0, h => h
  | [], _, n + 1, h => by rw [reps_nil_inv h]; simpa using reps_nil
  | d :: ds, _, n + 1, h => by
    obtain ⟨v, vs, rfl, h1, h2⟩ := reps_cons_inv h
    exact reps_drop n h2
theorem reps_set : ∀ {ds : List D} {xs : List V} (n : Nat) {d : D} {v : V}, Reps K G lab ds xs → Rep K G lab d v → Reps K G lab (ds.set n d) (xs.set n v)
  | [], _, n, d, v, h, _ => by rw [reps_nil_inv h]; simpa using reps_nil
  | d' :: ds, _, 0, d, v, h, r => by
    obtain ⟨v', vs, rfl, h1, h2⟩ := reps_cons_inv h
    exact reps_cons r h2
  | d' :: ds, _, n + 1, d, v, h, r => by
    obtain ⟨v', vs, rfl, h1, h2⟩ := reps_cons_inv h
    exact reps_cons h1 (reps_set n h2 r)
theorem reps_eraseIdx : ∀ {ds : List D} {xs : List V} (n : Nat), Reps K G lab ds xs → Reps K G lab (ds.eraseIdx n) (xs.eraseIdx n)
  | [], _, n, h => by rw [reps_nil_inv h]; simpa using reps_nil
  | d' :: ds, _, 0, h => by
    obtain ⟨v', vs, rfl, h1, h2⟩ := reps_cons_inv h
    exact h2
  | d' :: ds, _, n + 1, h => by
    obtain ⟨v', vs, rfl, h1, h2⟩ := reps_cons_inv h
    exact reps_cons h1 (reps_eraseIdx n h2)
theorem reps_reverse : ∀ {ds : List D} {xs : List V}, Reps K G lab ds xs → Reps K G lab ds.reverse xs.reverse
  | [], _, h => by rw [reps_nil_inv h]; simpa using reps_nil
  | d' :: ds, _, h => by
    obtain ⟨v', vs, rfl, h1, h2⟩ := reps_cons_inv h
    rw [List.reverse_cons, List.reverse_cons]
    exact reps_append (reps_reverse h2) (reps_cons h1 reps_nil)
end

/-- how labelled objects' dicts stand -/
def RepK (K : PySem.W.Frag) (G : Hp) (lab : List Addr) : List (Key × D) → List (Key × V) → Prop
  | [], xs => xs = []
  | p :: ds, xs => ∃ v vs, xs = (p.1, v) :: vs ∧ Rep K G lab p.2 v ∧ RepK K G lab ds vs
def ObAt (K : PySem.W.Frag) (G : Hp) (lab : List Addr) (H : Hp) (a : Addr) : Ob → Prop
  | .lst ds => ∃ xs, H a = some (.lst xs) ∧ Reps K G lab ds xs
  | .dic kvs => ∃ ps, H a = some (.dK ps) ∧ RepK K G lab kvs ps
  | .fdic kvs => ∃ o ps, H a = some (.frz o (.dK ps)) ∧ RepK K G lab kvs ps
section
variable {K : PySem.W.Frag} {G G' : Hp} {lab lab' : List Addr} {H H' : Hp} {a : Addr}
theorem RepK.mono (h : ∀ a o, G a = some o → G' a = some o) (hl : ∀ (n : Nat) a, lab[n]? = some a → lab'[n]? = some a) : ∀ {ds : List (Key × D)} {xs : List (Key × V)}, RepK K G lab ds xs → RepK K G' lab' ds xs
  | [], _, r => r
  | p :: ds, _, ⟨v, vs, e, r1, r2⟩ => ⟨v, vs, e, Rep.mono h hl _ _ r1, RepK.mono h hl r2⟩
theorem ObAt.mono (h : ∀ a o, G a = some o → G' a = some o) (hl : ∀ (n : Nat) a, lab[n]? = some a → lab'[n]? = some a) (hH : ∀ o, H a = some o → H' a = some o) : ∀ {ob : Ob}, ObAt K G lab H a ob → ObAt K G' lab' H' a ob
  | .lst ds, ⟨xs, e, r⟩ => ⟨xs, hH _ e, Reps.mono h hl _ _ r⟩
  | .dic kvs, ⟨ps, e, r⟩ => ⟨ps, hH _ e, RepK.mono h hl r⟩
  | .fdic kvs, ⟨o, ps, e, r⟩ => ⟨o, ps, hH _ e, RepK.mono h hl r⟩
theorem ObAt.some : ∀ {ob : Ob}, ObAt K G lab H a ob → ∃ o, H a = some o
  | .lst ds, ⟨xs, e, r⟩ => ⟨_, e⟩
  | .dic kvs, ⟨ps, e, r⟩ => ⟨_, e⟩
  | .fdic kvs, ⟨o, ps, e, r⟩ => ⟨_, e⟩
end

/-- what stood at a def's entry: its heap, its labels -/
structure Bs where
  H0 : Hp
  G0 : Hp
  lab0 : List Addr
  Hs : Hp
/-- a view: the part that does not change any more, the labels, the names' own lists -/
structure Vw where
  G : Hp
  lab : List Addr
  ow : Nat → Option Addr

/-- locked -/
def Fz (u : HO) : Prop := ∃ od w, u = .frz od w
structure Wd (K : PySem.W.Frag) (B : Bs) (Y : Vw) (H : Hp) (st : SS) : Prop where
  sub : ∀ a o, Y.G a = some o → H a = some o
  base : ∀ a o, B.H0 a = some o → (a ∉ B.lab0 ∨ Fz o) → H a = some o
  gn : ∀ a o, Y.G a = some o → B.G0 a = some o ∨ B.H0 a = none
  pre : ∃ l, Y.lab = B.lab0 ++ l ∧ ∀ a ∈ l, B.Hs a = none
  hs : ∀ a, B.H0 a = none → B.Hs a = none
  hz : ∀ a o, B.H0 a = some o → B.Hs a = none → Fz o
  len : Y.lab.length = st.length
  nd : Y.lab.Nodup
  fl : ∀ a ∈ Y.lab, Y.G a = none
  ob : ∀ (n : Nat) a ob, Y.lab[n]? = some a → st[n]? = some ob → ObAt K Y.G Y.lab H a ob
  own : ∀ i l, Y.ow i = some l → Y.G l = none ∧ l ∉ Y.lab ∧ B.H0 l = none ∧ ∃ o, H l = some o
  inj : ∀ i j l, Y.ow i = some l → Y.ow j = some l → i = j

def SlotOk (K : PySem.W.Frag) (Y : Vw) (H : Hp) (i : Nat) (x : Option (Option V)) : Slot → Prop
  | .none => True
  | .val d => ∃ v, x = some (some v) ∧ Rep K Y.G Y.lab d v
  | .own ds => ∃ l xs, Y.ow i = some l ∧ x = some (some (.ref l)) ∧ H l = some (.lst xs) ∧ Reps K Y.G Y.lab ds xs

structure Rl (K : PySem.W.Frag) (B : Bs) (Y : Vw) (σ : L2.St) (H : Hp) (fr : Fr) (st : SS) : Prop extends Wd K B Y H st where
  ln : σ.length = fr.length
  sl : ∀ (i : Nat) s, fr[i]? = some s → SlotOk K Y H i σ[i]? s

/-- what an evaluation may do to a state: the fixed part and the labels grow; what is tracked beside them and the names' own lists stays -/
structure Ext (Y : Vw) (H : Hp) (Y' : Vw) (H' : Hp) : Prop where
  g : ∀ a o, Y.G a = some o → Y'.G a = some o
  l : ∃ l, Y'.lab = Y.lab ++ l
  k : ∀ a o, H a = some o → Y.G a = none → a ∉ Y.lab → (∀ i, Y.ow i ≠ some a) → H' a = some o ∧ Y'.G a = none ∧ a ∉ Y'.lab ∧ ∀ i, Y'.ow i ≠ some a
  t : ∀ a, H' a = none → H a = none
theorem upd_tr {H : Hp} {p a : Addr} {o : HO} (h : upd H p o a = none) : H a = none := by
  by_cases e : a = p
  · rw [e, upd_same] at h; cases h
  · rw [upd_ne e] at h; exact h
section
variable {Y Y' Y'' : Vw} {H H' H'' : Hp}
theorem Ext.refl (Y : Vw) (H : Hp) : Ext Y H Y H := ⟨fun _ _ h => h, ⟨[], by simp⟩, fun _ _ h1 h2 h3 h4 => ⟨h1, h2, h3, h4⟩, fun _ h => h⟩
theorem Ext.trans (a : Ext Y H Y' H') (b : Ext Y' H' Y'' H'') : Ext Y H Y'' H'' := by
  obtain ⟨l, e⟩ := a.l
  obtain ⟨l', e'⟩ := b.l
  refine ⟨fun x o h => b.g x o (a.g x o h), ⟨l ++ l', by rw [e', e, List.append_assoc]⟩, fun x o h1 h2 h3 h4 => ?_, fun x h => a.t x (b.t x h)⟩
  obtain ⟨k1, k2, k3, k4⟩ := a.k x o h1 h2 h3 h4
  exact b.k x o k1 k2 k3 k4
theorem Ext.lab (a : Ext Y H Y' H') (n : Nat) (x : Addr) (h : Y.lab[n]? = some x) : Y'.lab[n]? = some x := by
  obtain ⟨l, e⟩ := a.l
  rw [e, List.getElem?_append_left (List.getElem?_eq_some_iff.mp h).1]
  exact h
theorem Ext.rep {K : PySem.W.Frag} (a : Ext Y H Y' H') {d : D} {v : V} (r : Rep K Y.G Y.lab d v) : Rep K Y'.G Y'.lab d v := Rep.mono a.g a.lab d v r
theorem Ext.reps {K : PySem.W.Frag} (a : Ext Y H Y' H') {d : List D} {v : List V} (r : Reps K Y.G Y.lab d v) : Reps K Y'.G Y'.lab d v := Reps.mono a.g a.lab d v r
/-- what a view keeps -/
structure Gro (Y Y' : Vw) : Prop where
  g : ∀ a o, Y.G a = some o → Y'.G a = some o
  l : ∃ l, Y'.lab = Y.lab ++ l
theorem Ext.gro (a : Ext Y H Y' H') : Gro Y Y' := ⟨a.g, a.l⟩
theorem Gro.refl (Y : Vw) : Gro Y Y := ⟨fun _ _ h => h, ⟨[], by simp⟩⟩
theorem Gro.trans (a : Gro Y Y') (b : Gro Y' Y'') : Gro Y Y'' := by
  obtain ⟨l, e⟩ := a.l
  obtain ⟨l', e'⟩ := b.l
  exact ⟨fun x o h => b.g x o (a.g x o h), ⟨l ++ l', by rw [e', e, List.append_assoc]⟩⟩
theorem Gro.lab (a : Gro Y Y') (n : Nat) (x : Addr) (h : Y.lab[n]? = some x) : Y'.lab[n]? = some x := by
  obtain ⟨l, e⟩ := a.l
  rw [e, List.getElem?_append_left (List.getElem?_eq_some_iff.mp h).1]
  exact h
theorem Gro.rep {K : PySem.W.Frag} (a : Gro Y Y') {d : D} {v : V} (r : Rep K Y.G Y.lab d v) : Rep K Y'.G Y'.lab d v := Rep.mono a.g a.lab d v r
theorem Gro.reps {K : PySem.W.Frag} (a : Gro Y Y') {d : List D} {v : List V} (r : Reps K Y.G Y.lab d v) : Reps K Y'.G Y'.lab d v := Reps.mono a.g a.lab d v r
/-- something that was not there before is changed -/
theorem Ext.upd {p : Addr} {o : HO} (a : Ext Y H Y' H') (hp : H p = none) : Ext Y H Y' (L2.upd H' p o) :=
  ⟨a.g, a.l, fun x u h1 h2 h3 h4 => by
    obtain ⟨k1, k2⟩ := a.k x u h1 h2 h3 h4
    exact ⟨by rw [upd_ne (show x ≠ p from fun z => by rw [z, hp] at h1; cases h1)]; exact k1, k2⟩, fun x h => a.t x (upd_tr h)⟩
end

/-! ### moves of the state -/
section
variable {K : PySem.W.Frag} {B : Bs} {Y : Vw} {σ : L2.St} {H : Hp} {fr : Fr} {st : SS}
theorem Wd.hnone (R : Wd K B Y H st) {a : Addr} (h : H a = none) : B.H0 a = none := by
  cases e : B.H0 a with
  | none => rfl
  | some o =>
    by_cases m : a ∈ B.lab0
    · obtain ⟨l, el, _⟩ := R.pre
      have m2 : a ∈ Y.lab := by rw [el]; exact List.mem_append_left _ m
      obtain ⟨n, hn, en⟩ := List.getElem_of_mem m2
      have hs : n < st.length := by rw [← R.len]; exact hn
      obtain ⟨o', ho'⟩ := (R.ob n a st[n] (by rw [List.getElem?_eq_getElem hn, en]) (List.getElem?_eq_getElem hs)).some
      rw [h] at ho'; cases ho'
    · have := R.base a o e (.inl m)
      rw [h] at this; cases this
theorem Wd.gnone (R : Wd K B Y H st) {a : Addr} (h : H a = none) : Y.G a = none := by
  cases e : Y.G a with
  | none => rfl
  | some o =>
    have := R.sub a o e
    rw [h] at this; cases this
theorem Wd.labH (R : Wd K B Y H st) {a : Addr} (m : a ∈ Y.lab) : ∃ o, H a = some o := by
  obtain ⟨n, hn, en⟩ := List.getElem_of_mem m
  have hs : n < st.length := by rw [← R.len]; exact hn
  exact (R.ob n a st[n] (by rw [List.getElem?_eq_getElem hn, en]) (List.getElem?_eq_getElem hs)).some
theorem Wd.labnone (R : Wd K B Y H st) {a : Addr} (h : H a = none) : a ∉ Y.lab := fun m => by
  obtain ⟨o, e⟩ := R.labH m
  rw [h] at e; cases e
theorem Wd.lab0 (R : Wd K B Y H st) {a : Addr} (m : a ∈ B.lab0) : a ∈ Y.lab := by
  obtain ⟨l, el, _⟩ := R.pre
  rw [el]; exact List.mem_append_left _ m
theorem upd_sub {a p : Addr} {o u : HO} (h : H a = some o) (hp : H p = none) : upd H p u a = some o := by
  rw [upd_ne (ne_of_none h hp)]; exact h
theorem ow_not {i j : Nat} {a : Addr} {o : Option Addr} (h : o ≠ some a) : (if j = i then none else o) ≠ some a := fun e => by
  split at e
  · cases e
  · exact h e
/-- a slot's meaning moves with the heap -/
theorem SlotOk.mono {Y' : Vw} {H' : Hp} {i : Nat} {x : Option (Option V)} (hg : ∀ a o, Y.G a = some o → Y'.G a = some o) (hl : ∀ (n : Nat) a, Y.lab[n]? = some a → Y'.lab[n]? = some a)
    (how : ∀ l, Y.ow i = some l → Y'.ow i = some l ∧ ∀ o, H l = some o → H' l = some o) : ∀ {s : Slot}, SlotOk K Y H i x s → SlotOk K Y' H' i x s
  | .none, _ => trivial
  | .val d, ⟨v, e, r⟩ => ⟨v, e, Rep.mono hg hl _ _ r⟩
  | .own ds, ⟨l, xs, e1, e2, e3, r⟩ => ⟨l, xs, (how l e1).1, e2, (how l e1).2 _ e3, Reps.mono hg hl _ _ r⟩

/-- an object is laid that will not change: it goes into the fixed part -/
theorem Rl.newG (R : Rl K B Y σ H fr st) {p : Addr} (hp : H p = none) (o : HO) : Rl K B ⟨upd Y.G p o, Y.lab, Y.ow⟩ σ (upd H p o) fr st ∧ Ext Y H ⟨upd Y.G p o, Y.lab, Y.ow⟩ (upd H p o) := by
  have gp := R.gnone hp
  have hg : ∀ a u, Y.G a = some u → upd Y.G p o a = some u := fun a u e => upd_sub e gp
  have hH : ∀ a u, H a = some u → upd H p o a = some u := fun a u e => upd_sub e hp
  refine ⟨⟨⟨fun a u e => ?_, fun a u e m => hH a u (R.base a u e m), fun a u e => ?_, R.pre, R.hs, R.hz, R.len, R.nd, fun a m => ?_, fun n a ob e1 e2 => ?_, fun i l e => ?_, R.inj⟩, R.ln, fun i s e => ?_⟩, hg, ⟨[], by simp⟩, fun a u h1 h2 h3 h4 => ⟨hH a u h1, (upd_ne (ne_of_none h1 hp)).trans h2, h3, h4⟩, fun _ h => upd_tr h⟩
  · have e' : upd Y.G p o a = some u := e
    by_cases h : a = p
    · subst h
      rw [upd_same] at e' ⊢
      exact e'
    · rw [upd_ne h] at e' ⊢
      exact R.sub a u e'
  · have e' : upd Y.G p o a = some u := e
    by_cases h : a = p
    · subst h
      exact .inr (R.hnone hp)
    · rw [upd_ne h] at e'
      exact R.gn a u e'
  · show upd Y.G p o a = none
    rw [upd_ne (show a ≠ p from fun z => R.labnone hp (by rw [← z]; exact m))]
    exact R.fl a m
  · exact (R.ob n a ob e1 e2).mono hg (fun _ _ z => z) fun u z => hH a u z
  · obtain ⟨h1, h2, h3, u, h4⟩ := R.own i l e
    exact ⟨by show upd Y.G p o l = none; rw [upd_ne (ne_of_none h4 hp)]; exact h1, h2, h3, u, hH l u h4⟩
  · exact SlotOk.mono (Y := Y) (Y' := ⟨upd Y.G p o, Y.lab, Y.ow⟩) hg (fun _ _ z => z) (fun l z => ⟨z, hH l⟩) (R.sl i s e)
/-- an object is laid beside (an error's dict) -/
theorem Rl.newX (R : Rl K B Y σ H fr st) {p : Addr} (hp : H p = none) (o : HO) : Rl K B Y σ (upd H p o) fr st ∧ Ext Y H Y (upd H p o) := by
  have hH : ∀ a u, H a = some u → upd H p o a = some u := fun a u e => upd_sub e hp
  refine ⟨⟨⟨fun a u e => hH a u (R.sub a u e), fun a u e m => hH a u (R.base a u e m), R.gn, R.pre, R.hs, R.hz, R.len, R.nd, R.fl, fun n a ob e1 e2 => ?_, fun i l e => ?_, R.inj⟩, R.ln, fun i s e => ?_⟩, fun _ _ h => h, ⟨[], by simp⟩, fun a u h1 h2 h3 h4 => ⟨hH a u h1, h2, h3, h4⟩, fun _ h => upd_tr h⟩
  · exact (R.ob n a ob e1 e2).mono (fun _ _ z => z) (fun _ _ z => z) fun u z => hH a u z
  · obtain ⟨h1, h2, h3, u, h4⟩ := R.own i l e
    exact ⟨h1, h2, h3, u, hH l u h4⟩
  · exact (R.sl i s e).mono (fun _ _ z => z) (fun _ _ z => z) fun l z => ⟨z, hH l⟩
/-- a new labelled object -/
theorem Rl.newOb (R : Rl K B Y σ H fr st) {p : Addr} (hp : H p = none) {o : HO} {ob : Ob} (hob : ∀ H', H' p = some o → ObAt K Y.G (Y.lab ++ [p]) H' p ob) :
    Rl K B ⟨Y.G, Y.lab ++ [p], Y.ow⟩ σ (upd H p o) fr (st ++ [ob]) ∧ Ext Y H ⟨Y.G, Y.lab ++ [p], Y.ow⟩ (upd H p o) := by
  have hH : ∀ a u, H a = some u → upd H p o a = some u := fun a u e => upd_sub e hp
  have ex : Ext Y H ⟨Y.G, Y.lab ++ [p], Y.ow⟩ (upd H p o) := ⟨fun _ _ h => h, ⟨[p], rfl⟩, fun a u h1 h2 h3 h4 => ⟨hH a u h1, h2, fun m => by
    rcases List.mem_append.mp m with m | m
    · exact h3 m
    · (rw [List.mem_singleton.mp m, hp] at h1; cases h1), h4⟩, fun _ h => upd_tr h⟩
  refine ⟨⟨⟨fun a u e => hH a u (R.sub a u e), fun a u e m => hH a u (R.base a u e m), R.gn, ?_, R.hs, R.hz, ?_, ?_, fun a m => ?_, fun n a b e1 e2 => ?_, fun i l e => ?_, R.inj⟩, R.ln, fun i s e => ?_⟩, ex⟩
  · obtain ⟨l, el, hl⟩ := R.pre
    refine ⟨l ++ [p], by show Y.lab ++ [p] = _; rw [el, List.append_assoc], fun a m => ?_⟩
    rcases List.mem_append.mp m with m | m
    · exact hl a m
    · rw [List.mem_singleton.mp m]; exact R.hs _ (R.hnone hp)
  · show (Y.lab ++ [p]).length = (st ++ [ob]).length
    simp [R.len]
  · show (Y.lab ++ [p]).Nodup
    rw [List.nodup_append]
    refine ⟨R.nd, by simp, fun a m b m2 z => ?_⟩
    rw [List.mem_singleton.mp m2] at z
    exact R.labnone hp (z ▸ m)
  · rcases List.mem_append.mp m with m | m
    · exact R.fl a m
    · rw [List.mem_singleton.mp m]; exact R.gnone hp
  · have e1' : (Y.lab ++ [p])[n]? = some a := e1
    by_cases hn : n < Y.lab.length
    · rw [List.getElem?_append_left hn] at e1'
      rw [List.getElem?_append_left (by rw [← R.len]; exact hn)] at e2
      exact (R.ob n a b e1' e2).mono (fun _ _ z => z) ex.lab fun u z => hH a u z
    · rw [List.getElem?_append_right (Nat.le_of_not_lt hn)] at e1'
      rw [List.getElem?_append_right (by rw [← R.len]; exact Nat.le_of_not_lt hn)] at e2
      rw [R.len] at e1'
      cases k : n - st.length with
      | zero =>
        rw [k] at e1' e2
        simp at e1' e2
        subst e1' e2
        exact hob _ upd_same
      | succ m =>
        rw [k] at e1'
        simp at e1'
  · obtain ⟨h1, h2, h3, u, h4⟩ := R.own i l e
    refine ⟨h1, fun m => ?_, h3, u, hH l u h4⟩
    rcases List.mem_append.mp m with m | m
    · exact h2 m
    · rw [List.mem_singleton.mp m, hp] at h4; cases h4
  · exact SlotOk.mono (Y := Y) (Y' := ⟨Y.G, Y.lab ++ [p], Y.ow⟩) (fun _ _ z => z) ex.lab (fun l z => ⟨z, hH l⟩) (R.sl i s e)
/-- a labelled object is changed -/
theorem Rl.setOb (R : Rl K B Y σ H fr st) {n : Nat} {p : Addr} (hp : Y.lab[n]? = some p) (hz : ∀ u, H p = some u → ¬ Fz u) {o : HO} {ob : Ob} (hob : ∀ H', H' p = some o → ObAt K Y.G Y.lab H' p ob) :
    Rl K B Y σ (upd H p o) fr (st.set n ob) ∧ Ext Y H Y (upd H p o) := by
  have mp : p ∈ Y.lab := List.mem_of_getElem? hp
  have ne : ∀ a u, Y.G a = some u → a ≠ p := fun a u e z => by
    rw [z, R.fl p mp] at e; cases e
  refine ⟨⟨⟨fun a u e => ?_, fun a u e m => ?_, R.gn, R.pre, R.hs, R.hz, by simp [R.len], R.nd, R.fl, fun k a b e1 e2 => ?_, fun i l e => ?_, R.inj⟩, R.ln, fun i s e => ?_⟩, fun _ _ h => h, ⟨[], by simp⟩, fun a u h1 h2 h3 h4 => ⟨by rw [upd_ne (show a ≠ p from fun z => h3 (by rw [z]; exact mp))]; exact h1, h2, h3, h4⟩, fun _ h => upd_tr h⟩
  · rw [upd_ne (ne a u e)]; exact R.sub a u e
  · have hap : a ≠ p := by
      rintro rfl
      rcases m with m | m
      · obtain ⟨l, el, hl⟩ := R.pre
        rw [el] at mp
        rcases List.mem_append.mp mp with z | z
        · exact m z
        · exact hz u (R.base a u e (.inr (R.hz a u e (hl a z)))) (R.hz a u e (hl a z))
      · exact hz u (R.base a u e (.inr m)) m
    rw [upd_ne hap]; exact R.base a u e m
  · by_cases hk : k = n
    · subst hk
      rw [hp] at e1; cases e1
      have hl : k < st.length := by rw [← R.len]; exact (List.getElem?_eq_some_iff.mp hp).1
      rw [List.getElem?_set_self hl] at e2
      cases e2
      exact hob _ upd_same
    · rw [List.getElem?_set_ne (Ne.symm hk)] at e2
      have hap : a ≠ p := by
        rintro rfl
        obtain ⟨h1, z1⟩ := List.getElem?_eq_some_iff.mp e1
        obtain ⟨h2, z2⟩ := List.getElem?_eq_some_iff.mp hp
        exact hk ((List.getElem_inj R.nd).mp (z1.trans z2.symm))
      exact (R.ob k a b e1 e2).mono (fun _ _ z => z) (fun _ _ z => z) fun u z => by rw [upd_ne hap]; exact z
  · obtain ⟨h1, h2, h3, u, h4⟩ := R.own i l e
    exact ⟨h1, h2, h3, u, by rw [upd_ne (show l ≠ p from fun z => h2 (by rw [z]; exact mp))]; exact h4⟩
  · refine (R.sl i s e).mono (fun _ _ z => z) (fun _ _ z => z) fun l z => ⟨z, fun u hu => ?_⟩
    obtain ⟨_, h2, _⟩ := R.own i l z
    rw [upd_ne (show l ≠ p from fun q => h2 (by rw [q]; exact mp))]; exact hu
/-- a name's own list is changed -/
theorem Rl.setOwn (R : Rl K B Y σ H fr st) {i : Nat} {l : Addr} {ds : List D} {xs : List V} (hi : fr[i]? = some (.own ds)) (hl : Y.ow i = some l) {es : List D} {ys : List V} (r : Reps K Y.G Y.lab es ys) :
    Rl K B Y σ (upd H l (.lst ys)) (fr.set i (.own es)) st ∧ Ext Y H Y (upd H l (.lst ys)) := by
  obtain ⟨g1, g2, g3, u, g4⟩ := R.own i l hl
  have ne : ∀ a u, Y.G a = some u → a ≠ l := fun a u e z => by
    rw [z, g1] at e; cases e
  have slx := R.sl i _ hi
  obtain ⟨l', xs', k1, k2, k3, k4⟩ := slx
  rw [hl] at k1; cases k1
  refine ⟨⟨⟨fun a u e => ?_, fun a u e m => ?_, R.gn, R.pre, R.hs, R.hz, R.len, R.nd, R.fl, fun k a b e1 e2 => ?_, fun j q e => ?_, R.inj⟩, by rw [List.length_set]; exact R.ln, fun j s e => ?_⟩, fun _ _ h => h, ⟨[], by simp⟩, fun a u h1 h2 h3 h4 => ⟨by rw [upd_ne (show a ≠ l from fun z => h4 i (by rw [z]; exact hl))]; exact h1, h2, h3, h4⟩, fun _ h => upd_tr h⟩
  · rw [upd_ne (ne a u e)]; exact R.sub a u e
  · rw [upd_ne (show a ≠ l from fun z => by rw [z, g3] at e; cases e)]
    exact R.base a u e m
  · exact (R.ob k a b e1 e2).mono (fun _ _ z => z) (fun _ _ z => z) fun u z => by
      rw [upd_ne (show a ≠ l from fun q => g2 (by rw [← q]; exact List.mem_of_getElem? e1))]; exact z
  · obtain ⟨h1, h2, h3, u, h4⟩ := R.own j q e
    refine ⟨h1, h2, h3, ?_⟩
    by_cases z : q = l
    · exact ⟨_, by rw [z]; exact upd_same⟩
    · exact ⟨u, by rw [upd_ne z]; exact h4⟩
  · by_cases hj : j = i
    · subst hj
      rw [List.getElem?_set_self (List.getElem?_eq_some_iff.mp hi).1] at e
      cases e
      exact ⟨l, ys, hl, k2, upd_same, r⟩
    · rw [List.getElem?_set_ne (Ne.symm hj)] at e
      refine (R.sl j s e).mono (fun _ _ z => z) (fun _ _ z => z) fun q z => ⟨z, fun u hu => ?_⟩
      rw [upd_ne (show q ≠ l from fun w => hj (R.inj j i l (by rw [← w]; exact z) hl))]
      exact hu
/-- a name's own list is handed on: from now on it does not change -/
theorem Rl.freeze (R : Rl K B Y σ H fr st) {i : Nat} {ds : List D} (hi : fr[i]? = some (.own ds)) :
    ∃ (l : Addr) (xs : List V), σ[i]? = some (some (.ref l)) ∧ H l = some (.lst xs) ∧ Rl K B ⟨upd Y.G l (.lst xs), Y.lab, fun j => if j = i then none else Y.ow j⟩ σ H (fr.set i (.val (.lst ds))) st ∧
      Ext Y H ⟨upd Y.G l (.lst xs), Y.lab, fun j => if j = i then none else Y.ow j⟩ H ∧ Rep K (upd Y.G l (.lst xs)) Y.lab (.lst ds) (.ref l) := by
  obtain ⟨l, xs, k1, k2, k3, k4⟩ := R.sl i _ hi
  obtain ⟨g1, g2, g3, u, g4⟩ := R.own i l k1
  have hg : ∀ a u, Y.G a = some u → upd Y.G l (.lst xs) a = some u := fun a u e => upd_sub e g1
  have rep : Rep K (upd Y.G l (.lst xs)) Y.lab (.lst ds) (.ref l) := by
    unfold Rep
    exact ⟨l, xs, rfl, upd_same, Reps.mono hg (fun _ _ z => z) _ _ k4⟩
  refine ⟨l, xs, k2, k3, ⟨⟨fun a u e => ?_, R.base, fun a u e => ?_, R.pre, R.hs, R.hz, R.len, R.nd, fun a m => ?_, fun k a b e1 e2 => ?_, fun j q e => ?_, fun j k q e1 e2 => ?_⟩, by rw [List.length_set]; exact R.ln, fun j s e => ?_⟩, ⟨hg, ⟨[], by simp⟩, fun a u h1 h2 h3 h4 => ⟨h1, (upd_ne (show a ≠ l from fun z => h4 i (by rw [z]; exact k1))).trans h2, h3, fun j => ow_not (h4 j)⟩, fun _ h => h⟩, rep⟩
  · have e' : upd Y.G l (.lst xs) a = some u := e
    by_cases h : a = l
    · subst h
      rw [upd_same] at e'
      rw [← e']; exact k3
    · rw [upd_ne h] at e'
      exact R.sub a u e'
  · have e' : upd Y.G l (.lst xs) a = some u := e
    by_cases h : a = l
    · subst h
      exact .inr g3
    · rw [upd_ne h] at e'
      exact R.gn a u e'
  · show upd Y.G l (.lst xs) a = none
    rw [upd_ne (show a ≠ l from fun z => g2 (by rw [← z]; exact m))]
    exact R.fl a m
  · exact (R.ob k a b e1 e2).mono hg (fun _ _ z => z) fun u z => z
  · have e' : (if j = i then none else Y.ow j) = some q := e
    by_cases hj : j = i
    · rw [if_pos hj] at e'; cases e'
    · rw [if_neg hj] at e'
      obtain ⟨h1, h2, h3, u, h4⟩ := R.own j q e'
      refine ⟨?_, h2, h3, u, h4⟩
      show upd Y.G l (.lst xs) q = none
      rw [upd_ne (show q ≠ l from fun w => hj (R.inj j i l (by rw [← w]; exact e') k1))]
      exact h1
  · have e1' : (if j = i then none else Y.ow j) = some q := e1
    have e2' : (if k = i then none else Y.ow k) = some q := e2
    by_cases hj : j = i
    · rw [if_pos hj] at e1'; cases e1'
    · by_cases hk : k = i
      · rw [if_pos hk] at e2'; cases e2'
      · rw [if_neg hj] at e1'
        rw [if_neg hk] at e2'
        exact R.inj j k q e1' e2'
  · by_cases hj : j = i
    · subst hj
      rw [List.getElem?_set_self (List.getElem?_eq_some_iff.mp hi).1] at e
      cases e
      exact ⟨_, k2, rep⟩
    · rw [List.getElem?_set_ne (Ne.symm hj)] at e
      refine SlotOk.mono (Y := Y) (Y' := ⟨upd Y.G l (.lst xs), Y.lab, fun j => if j = i then none else Y.ow j⟩) hg (fun _ _ z => z) (fun q z => ⟨?_, fun u hu => hu⟩) (R.sl j s e)
      show (if j = i then none else Y.ow j) = some q
      rw [if_neg hj]; exact z
/-- a name takes a value -/
theorem Rl.setVal (R : Rl K B Y σ H fr st) {i : Nat} {d : D} {v : V} (r : Rep K Y.G Y.lab d v) (hi : i < fr.length) :
    Rl K B ⟨Y.G, Y.lab, fun j => if j = i then none else Y.ow j⟩ (σ.set i (some v)) H (fr.set i (.val d)) st ∧ Ext Y H ⟨Y.G, Y.lab, fun j => if j = i then none else Y.ow j⟩ H := by
  refine ⟨⟨⟨R.sub, R.base, R.gn, R.pre, R.hs, R.hz, R.len, R.nd, R.fl, R.ob, fun j q e => ?_, fun j k q e1 e2 => ?_⟩, by rw [List.length_set, List.length_set]; exact R.ln, fun j s e => ?_⟩, fun _ _ h => h, ⟨[], by simp⟩, fun a u h1 h2 h3 h4 => ⟨h1, h2, h3, fun j => ow_not (h4 j)⟩, fun _ h => h⟩
  · have e' : (if j = i then none else Y.ow j) = some q := e
    by_cases hj : j = i
    · rw [if_pos hj] at e'; cases e'
    · rw [if_neg hj] at e'
      exact R.own j q e'
  · have e1' : (if j = i then none else Y.ow j) = some q := e1
    have e2' : (if k = i then none else Y.ow k) = some q := e2
    by_cases hj : j = i
    · rw [if_pos hj] at e1'; cases e1'
    · by_cases hk : k = i
      · rw [if_pos hk] at e2'; cases e2'
      · rw [if_neg hj] at e1'
        rw [if_neg hk] at e2'
        exact R.inj j k q e1' e2'
  · by_cases hj : j = i
    · subst hj
      rw [List.getElem?_set_self hi] at e
      cases e
      exact ⟨v, List.getElem?_set_self (by rw [R.ln]; exact hi), r⟩
    · rw [List.getElem?_set_ne (Ne.symm hj)] at e
      rw [List.getElem?_set_ne (Ne.symm hj)]
      refine SlotOk.mono (Y := Y) (Y' := ⟨Y.G, Y.lab, fun j => if j = i then none else Y.ow j⟩) (fun _ _ z => z) (fun _ _ z => z) (fun q z => ⟨?_, fun u hu => hu⟩) (R.sl j s e)
      show (if j = i then none else Y.ow j) = some q
      rw [if_neg hj]; exact z
/-- what a new list of one's own is -/
structure Fresh (K : PySem.W.Frag) (B : Bs) (Y : Vw) (H : Hp) (ds : List D) (v : V) (l : Addr) (xs : List V) : Prop where
  e : v = .ref l
  h : H l = some (.lst xs)
  g : Y.G l = none
  lab : l ∉ Y.lab
  ow : ∀ i, Y.ow i ≠ some l
  h0 : B.H0 l = none
  r : Reps K Y.G Y.lab ds xs
/-- a name takes a new list as its own -/
theorem Rl.setNew {Ys : Vw} {Hs : Hp} (R : Rl K B Y σ H fr st) {i : Nat} {ds : List D} {v : V} {l : Addr} {xs : List V} (F : Fresh K B Y H ds v l xs) (xe : Ext Ys Hs Y H) (hn : Hs l = none) (hi : i < fr.length) :
    Rl K B ⟨Y.G, Y.lab, fun j => if j = i then some l else Y.ow j⟩ (σ.set i (some v)) H (fr.set i (.own ds)) st ∧ Ext Ys Hs ⟨Y.G, Y.lab, fun j => if j = i then some l else Y.ow j⟩ H := by
  refine ⟨⟨⟨R.sub, R.base, R.gn, R.pre, R.hs, R.hz, R.len, R.nd, R.fl, R.ob, fun j q e => ?_, fun j k q e1 e2 => ?_⟩, by rw [List.length_set, List.length_set]; exact R.ln, fun j s e => ?_⟩, xe.g, xe.l, fun a u h1 h2 h3 h4 => ?_, xe.t⟩
  rotate_left 3
  · obtain ⟨k1, k2, k3, k4⟩ := xe.k a u h1 h2 h3 h4
    refine ⟨k1, k2, k3, fun j e => ?_⟩
    have e' : (if j = i then some l else Y.ow j) = some a := e
    split at e'
    · cases e'
      rw [hn] at h1; cases h1
    · exact k4 j e'
  · have e' : (if j = i then some l else Y.ow j) = some q := e
    by_cases hj : j = i
    · rw [if_pos hj] at e'; cases e'
      exact ⟨F.g, F.lab, F.h0, _, F.h⟩
    · rw [if_neg hj] at e'
      exact R.own j q e'
  · have e1' : (if j = i then some l else Y.ow j) = some q := e1
    have e2' : (if k = i then some l else Y.ow k) = some q := e2
    by_cases hj : j = i
    · by_cases hk : k = i
      · rw [hj, hk]
      · rw [if_pos hj] at e1'
        rw [if_neg hk] at e2'
        cases e1'
        exact absurd e2' (F.ow k)
    · by_cases hk : k = i
      · rw [if_neg hj] at e1'
        rw [if_pos hk] at e2'
        cases e2'
        exact absurd e1' (F.ow j)
      · rw [if_neg hj] at e1'
        rw [if_neg hk] at e2'
        exact R.inj j k q e1' e2'
  · by_cases hj : j = i
    · subst hj
      rw [List.getElem?_set_self hi] at e
      cases e
      refine ⟨l, xs, ?_, ?_, F.h, F.r⟩
      · show (if j = j then some l else Y.ow j) = some l
        rw [if_pos rfl]
      · rw [List.getElem?_set_self (by rw [R.ln]; exact hi), F.e]
    · rw [List.getElem?_set_ne (Ne.symm hj)] at e
      rw [List.getElem?_set_ne (Ne.symm hj)]
      refine SlotOk.mono (Y := Y) (Y' := ⟨Y.G, Y.lab, fun j => if j = i then some l else Y.ow j⟩) (fun _ _ z => z) (fun _ _ z => z) (fun q z => ⟨?_, fun u hu => hu⟩) (R.sl j s e)
      show (if j = i then some l else Y.ow j) = some q
      rw [if_neg hj]; exact z
/-- a new list that is handed on at once -/
theorem Rl.freezeNew {Ys : Vw} {Hs : Hp} (R : Rl K B Y σ H fr st) {ds : List D} {v : V} {l : Addr} {xs : List V} (F : Fresh K B Y H ds v l xs) (xe : Ext Ys Hs Y H) (hn : Hs l = none) :
    Rl K B ⟨upd Y.G l (.lst xs), Y.lab, Y.ow⟩ σ H fr st ∧ Ext Ys Hs ⟨upd Y.G l (.lst xs), Y.lab, Y.ow⟩ H ∧ Rep K (upd Y.G l (.lst xs)) Y.lab (.lst ds) v := by
  have hg : ∀ a u, Y.G a = some u → upd Y.G l (.lst xs) a = some u := fun a u e => upd_sub e F.g
  refine ⟨⟨⟨fun a u e => ?_, R.base, fun a u e => ?_, R.pre, R.hs, R.hz, R.len, R.nd, fun a m => ?_, fun k a b e1 e2 => ?_, fun j q e => ?_, R.inj⟩, R.ln, fun j s e => ?_⟩, ⟨fun a u e => hg a u (xe.g a u e), xe.l, fun a u h1 h2 h3 h4 => ?_, xe.t⟩, ?_⟩
  rotate_left 6
  · obtain ⟨k1, k2, k3, k4⟩ := xe.k a u h1 h2 h3 h4
    exact ⟨k1, (upd_ne (show a ≠ l from fun z => by rw [z, hn] at h1; cases h1)).trans k2, k3, k4⟩
  rotate_left 1
  · have e' : upd Y.G l (.lst xs) a = some u := e
    by_cases h : a = l
    · subst h
      rw [upd_same] at e'
      rw [← e']; exact F.h
    · rw [upd_ne h] at e'
      exact R.sub a u e'
  · have e' : upd Y.G l (.lst xs) a = some u := e
    by_cases h : a = l
    · subst h
      exact .inr F.h0
    · rw [upd_ne h] at e'
      exact R.gn a u e'
  · show upd Y.G l (.lst xs) a = none
    rw [upd_ne (show a ≠ l from fun z => F.lab (by rw [← z]; exact m))]
    exact R.fl a m
  · exact (R.ob k a b e1 e2).mono hg (fun _ _ z => z) fun u z => z
  · obtain ⟨h1, h2, h3, u, h4⟩ := R.own j q e
    refine ⟨?_, h2, h3, u, h4⟩
    show upd Y.G l (.lst xs) q = none
    rw [upd_ne (show q ≠ l from fun w => F.ow j (by rw [← w]; exact e))]
    exact h1
  · exact SlotOk.mono (Y := Y) (Y' := ⟨upd Y.G l (.lst xs), Y.lab, Y.ow⟩) hg (fun _ _ z => z) (fun q z => ⟨z, fun u hu => hu⟩) (R.sl j s e)
  · unfold Rep
    exact ⟨l, xs, F.e, upd_same, Reps.mono hg (fun _ _ z => z) _ _ F.r⟩
/-- a new list laid is fresh -/
theorem Rl.newL (R : Rl K B Y σ H fr st) {p : Addr} (hp : H p = none) {ds : List D} {xs : List V} (r : Reps K Y.G Y.lab ds xs) : Rl K B Y σ (upd H p (.lst xs)) fr st ∧ Fresh K B Y (upd H p (.lst xs)) ds (.ref p) p xs ∧ Ext Y H Y (upd H p (.lst xs)) :=
  ⟨(R.newX hp _).1, ⟨rfl, upd_same, R.gnone hp, R.labnone hp, (fun i e => by
    obtain ⟨_, _, _, u, h4⟩ := R.own i p e
    rw [hp] at h4
    cases h4), R.hnone hp, r⟩, (R.newX hp _).2⟩
end
end DL
end

section
set_option Elab.async false
set_option linter.all false
set_option maxRecDepth 100000
set_option maxHeartbeats 4000000
/-! The D layer, part b: programs over data (M), what it means that Python text does one; names, constants, operators. -/
namespace DL
open PySem PySem.Spec PyProof.Rows L2

/-! ### the monad -/
def ret {α : Type} (a : α) : M α := fun fr st => some (.ok a fr st)
def stuck {α : Type} : M α := fun _ _ => none
def bnd {α β : Type} (m : M α) (f : α → M β) : M β := fun fr st =>
  match m fr st with
  | none => none
  | some (.ok a fr st) => f a fr st
  | some (.exn c d fr st) => some (.exn c d fr st)
def opt {α : Type} (o : Option α) : M α := fun fr st => o.map fun a => .ok a fr st

/-- a def's fixed things: its entry, the error classes' addresses, what is wished of an error -/
structure Cc where
  B : Bs
  cl : Nat → Addr
  W : WX

/-- an error's dict stands beside, and is new -/
structure XdOk (B : Bs) (Y : Vw) (dx : Addr) : Prop where
  g : Y.G dx = none
  lab : dx ∉ Y.lab
  ow : ∀ i, Y.ow i ≠ some dx
  h0 : B.H0 dx = none
/-- what an error leaves -/
def FX (K : PySem.W.Frag) (C : Cc) (σ : L2.St) (Y : Vw) (H0 : Hp) (c : Nat) (d : D) (fr : Fr) (st : SS) : Prop :=
  ∀ dx fs v H Y', Rl K C.B Y' σ H fr st → Ext Y H0 Y' H → H dx = some (.xd fs) → fs.lookup ("given" : Str) = some v → Rep K Y'.G Y'.lab d v → XdOk C.B Y' dx → C.W (.ref (C.cl c)) (some dx) σ H
def FO {α β : Type} (K : PySem.W.Frag) (C : Cc) (rel : Vw → Hp → α → β → Prop) (σ : L2.St) (Y : Vw) (H0 : Hp) (Q : β → Hp → Prop) : Option (Out α) → Prop
  | none => False
  | some (.ok a fr st) => ∀ b H Y', Rl K C.B Y' σ H fr st → Ext Y H0 Y' H → rel Y' H a b → Q b H
  | some (.exn c d fr st) => FX K C σ Y H0 c d fr st
def tM {α β : Type} (K : PySem.W.Frag) (C : Cc) (rel : Vw → Hp → α → β → Prop) (m : M α) : L2.St → Hp → (β → Hp → Prop) → Prop := fun σ H Q =>
  ∃ Y fr st, Rl K C.B Y σ H fr st ∧ FO K C rel σ Y H Q (m fr st)
def rE (K : PySem.W.Frag) : Vw → Hp → D → V → Prop := fun Y _ d v => Rep K Y.G Y.lab d v
def rT : Vw → Hp → Bool → Bool → Prop := fun _ _ a b => b = a
def rA (K : PySem.W.Frag) : Vw → Hp → List D → List V → Prop := fun Y _ ds vs => Reps K Y.G Y.lab ds vs
def rN (K : PySem.W.Frag) (C : Cc) (Hs : Hp) : Vw → Hp → List D → V → Prop := fun Y H ds v => ∃ l xs, Fresh K C.B Y H ds v l xs ∧ Hs l = none
def tN (K : PySem.W.Frag) (C : Cc) (m : M (List D)) : TE := fun σ H Q => ∃ Y fr st, Rl K C.B Y σ H fr st ∧ FO K C (rN K C H) σ Y H Q (m fr st)
/-- the text e does m: an expression, a test, arguments; an expression that makes a new list -/
abbrev DE (C : Cc) (X : Cx) (e : Expr) (m : M D) : Prop := PE X e (tM X.K C (rE X.K) m)
abbrev DT (C : Cc) (X : Cx) (e : Expr) (m : M Bool) : Prop := PT X e (tM X.K C rT m)
abbrev DA (C : Cc) (X : Cx) (es : List Expr) (m : M (List D)) : Prop := PA X es (tM X.K C (rA X.K) m)
abbrev DN (C : Cc) (X : Cx) (e : Expr) (m : M (List D)) : Prop := PE X e (tN X.K C m)

section
variable {K : PySem.W.Frag} {C : Cc} {σ : L2.St} {Y Y1 : Vw} {H H1 : Hp} {fr : Fr} {st : SS}
theorem FX.ext {c : Nat} {d : D} (h : FX K C σ Y H c d fr st) (e : Ext Y H Y1 H1) : FX K C σ Y1 H1 c d fr st :=
  fun dx fs v H Y' R x => h dx fs v H Y' R (e.trans x)
theorem FO.ext {α β : Type} {rel : Vw → Hp → α → β → Prop} {Q : β → Hp → Prop} (e : Ext Y H Y1 H1) : ∀ {o : Option (Out α)}, FO K C rel σ Y H Q o → FO K C rel σ Y1 H1 Q o
  | none, h => h
  | some (.ok a fr st), h => fun b H Y' R x => h b H Y' R (e.trans x)
  | some (.exn c d fr st), h => FX.ext h e
/-- one thing after another -/
theorem tM_bnd {α α' β β' : Type} {rel : Vw → Hp → α → β → Prop} {rel' : Vw → Hp → α' → β' → Prop} {Q : β' → Hp → Prop} {m : M α} {f : α → M α'} {P : β → Hp → Prop} (R : Rl K C.B Y σ H fr st) (h : FO K C rel' σ Y H Q (bnd m f fr st))
    (k : ∀ a b H1 Y1 fr1 st1, Rl K C.B Y1 σ H1 fr1 st1 → Ext Y H Y1 H1 → rel Y1 H1 a b → FO K C rel' σ Y1 H1 Q (f a fr1 st1) → P b H1) : tM K C rel m σ H P := by
  refine ⟨Y, fr, st, R, ?_⟩
  unfold bnd at h
  cases e : m fr st with
  | none => rw [e] at h; exact h
  | some o =>
    rw [e] at h
    cases o with
    | ok a fr1 st1 => exact fun b H1 Y1 R1 x r => k a b H1 Y1 fr1 st1 R1 x r (FO.ext x h)
    | exn c d fr1 st1 => exact h
/-- the end: the value is there -/
theorem FO_ok {α β : Type} {rel : Vw → Hp → α → β → Prop} {Q : β → Hp → Prop} {a : α} {b : β} (R : Rl K C.B Y1 σ H1 fr st) (e : Ext Y H Y1 H1) (r : rel Y1 H1 a b) (h : FO K C rel σ Y H Q (some (.ok a fr st))) : Q b H1 := h b H1 Y1 R e r
theorem FO_opt {α β : Type} {rel : Vw → Hp → α → β → Prop} {Q : β → Hp → Prop} {o : Option α} (h : FO K C rel σ Y H Q (opt o fr st)) : ∃ a, o = some a ∧ FO K C rel σ Y H Q (some (.ok a fr st)) := by
  cases o with
  | none => exact h.elim
  | some a => exact ⟨a, rfl, h⟩
end

section
variable {X : Cx} {C : Cc} {pos : Pos} {e a b : Expr} {es : List Expr}
theorem pe_w {t t' : TE} (h : PE X e t) (w : ∀ σ H Q, t' σ H Q → t σ H Q) : PE X e t' := ⟨fun pins s σ H Q I q => h.run pins s σ H Q I (w σ H Q q)⟩
theorem pt_w {t t' : TT} (h : PT X e t) (w : ∀ σ H Q, t' σ H Q → t σ H Q) : PT X e t' := ⟨fun pins s σ H Q I q => h.run pins s σ H Q I (w σ H Q q)⟩
theorem pw_w {t t' : TT} (h : PW X e t) (w : ∀ σ H Q, t' σ H Q → t σ H Q) : PW X e t' := ⟨fun wh pins s σ H Q I q => h.run wh pins s σ H Q I (w σ H Q q)⟩
theorem pa_w {t t' : TA} (h : PA X es t) (w : ∀ σ H Q, t' σ H Q → t σ H Q) : PA X es t' := ⟨fun p pins s σ H Q I q => h.run p pins s σ H Q I (w σ H Q q)⟩

/-! ### names, constants -/
def getv (i : Nat) : M D := fun fr st =>
  match fr[i]? with
  | some (.val d) => some (.ok d fr st)
  | some (.own ds) => some (.ok (.lst ds) (fr.set i (.val (.lst ds))) st)
  | _ => none
theorem de_var (i : Nat) {x : Str} (hN : X.N[i]? = some x := by rfl) (hv : Vis X.env.scope x := by first | exact Or.inl rfl | exact Or.inr (Or.inl rfl) | exact Or.inr (Or.inr rfl)) (hd : (x == ("__debug__" : Str)) = false := by decide)
    (hcd : (x == ("__classdict__" : Str)) = false := by decide) : DE C X (.Name x pos) (getv i) := by
  refine pe_w (pe_var hN hv hd hcd) fun σ H Q ⟨Y, fr, st, R, h⟩ => ?_
  unfold getv at h
  cases e : fr[i]? with
  | none => rw [e] at h; exact h.elim
  | some s =>
    rw [e] at h
    cases s with
    | none => exact h.elim
    | val d =>
      obtain ⟨v, e1, r⟩ := R.sl i _ e
      exact ⟨v, e1, FO_ok R (.refl _ _) r h⟩
    | own ds =>
      obtain ⟨l, xs, e1, e2, R1, x1, r⟩ := R.freeze e
      exact ⟨_, e1, FO_ok R1 x1 r h⟩
theorem de_int {i : Int} {j : Nat} : DE C X (.Constant (.int i) j pos) (ret (.int i)) := pe_w pe_int fun σ H Q ⟨Y, fr, st, R, h⟩ => FO_ok (a := D.int i) (rel := rE X.K) R (.refl _ _) (by unfold rE Rep; rfl) h
theorem de_bl {i : Bool} {j : Nat} : DE C X (.Constant (.bool i) j pos) (ret (.bl i)) := pe_w pe_bl fun σ H Q ⟨Y, fr, st, R, h⟩ => FO_ok (a := D.bl i) (rel := rE X.K) R (.refl _ _) (by unfold rE Rep; rfl) h
theorem de_non {j : Nat} : DE C X (.Constant .none j pos) (ret .non) := pe_w pe_non fun σ H Q ⟨Y, fr, st, R, h⟩ => FO_ok (a := D.non) (rel := rE X.K) R (.refl _ _) (by unfold rE Rep; rfl) h
theorem de_str {i : Str} {j : Nat} : DE C X (.Constant (.str i) j pos) (ret (.str i)) := pe_w pe_str fun σ H Q ⟨Y, fr, st, R, h⟩ => FO_ok (a := D.str i) (rel := rE X.K) R (.refl _ _) (by unfold rE Rep; rfl) h
/-- a module's constant -/
theorem de_glob {x : Str} {d : D} {v : V} {u : Value} (hg : Gl X x) (hm : X.mg x = some u) (r : RelV v u) (rp : ∀ G lab, Rep X.K G lab d v) (hd : (x == ("__debug__" : Str)) = false := by decide) : DE C X (.Name x pos) (ret d) :=
  pe_w (pe_glob hg hm r hd) fun σ H Q ⟨Y, fr, st, R, h⟩ => FO_ok (a := d) (rel := rE X.K) R (.refl _ _) (rp _ _) h

/-! ### arguments -/
def nilA : M (List D) := ret []
def consA (m : M D) (ms : M (List D)) : M (List D) := bnd m fun x => bnd ms fun xs => ret (x :: xs)
theorem da_nil : DA C X [] nilA := pa_w pa_nil fun σ H Q ⟨Y, fr, st, R, h⟩ => FO_ok (a := ([] : List D)) (rel := rA X.K) R (.refl _ _) reps_nil h
theorem da_cons {m : M D} {ms : M (List D)} (ha : DE C X e m) (hr : DA C X es ms) (hs : starEach (e :: es) X.env = (false, eval e X.env) :: starEach es X.env := by rfl) : DA C X (e :: es) (consA m ms) := by
  refine pa_w (pa_cons ha hr hs) fun σ H Q ⟨Y, fr, st, R, h⟩ => ?_
  refine tM_bnd R h fun d v H1 Y1 fr1 st1 R1 x1 r1 h1 => ?_
  refine tM_bnd R1 h1 fun ds vs H2 Y2 fr2 st2 R2 x2 r2 h2 => ?_
  exact FO_ok (a := d :: ds) (rel := rA X.K) R2 (.refl _ _) (reps_cons (x2.rep r1) r2) h2

/-! ### tuples, lists -/
def small (n : Nat) : Bool := decide (n ≤ 1000000)
theorem small_line {n : Nat} (h : small n = true) : n ≤ sizeLine := by
  rw [sizeLine_eq]
  exact Nat.le_trans (of_decide_eq_true h) (by decide)
theorem small_lt {n : Nat} (h : small n = true) : n < sizeLine := by
  rw [sizeLine_eq]
  exact Nat.lt_of_le_of_lt (of_decide_eq_true h) (by decide)
def grd (b : Bool) {α : Type} (a : α) : M α := fun fr st => if b then some (.ok a fr st) else none
theorem FO_grd {α β : Type} {K : PySem.W.Frag} {σ : L2.St} {Y : Vw} {H : Hp} {fr : Fr} {st : SS} {rel : Vw → Hp → α → β → Prop} {Q : β → Hp → Prop} {b : Bool} {a : α} (h : FO K C rel σ Y H Q (grd b a fr st)) : b = true ∧ FO K C rel σ Y H Q (some (.ok a fr st)) := by
  cases b with
  | false => exact h.elim
  | true => exact ⟨rfl, h⟩
def tupM (ms : M (List D)) : M D := bnd ms fun ds => grd (small ds.length) (.tup ds)
def lstN (ms : M (List D)) : M (List D) := bnd ms fun ds => grd (small ds.length) ds
theorem de_tup {ms : M (List D)} {x1 : Nat} (h : DA C X es ms) : DE C X (.Tuple es x1 pos) (tupM ms) := by
  refine pe_w (pe_tup h) fun σ H Q ⟨Y, fr, st, R, h⟩ => ?_
  refine tM_bnd R h fun ds vs H1 Y1 fr1 st1 R1 x1 r1 h1 => ?_
  obtain ⟨g, h1⟩ := FO_grd h1
  refine ⟨by rw [reps_len r1]; exact small_line g, fun p hp => ?_⟩
  obtain ⟨R2, x2⟩ := R1.newG hp (.tup vs)
  refine FO_ok (a := D.tup ds) (rel := rE X.K) R2 x2 ?_ h1
  unfold rE Rep
  exact ⟨p, vs, rfl, .inl (.inl upd_same), x2.reps r1⟩
theorem dn_lst {ms : M (List D)} (h : DA C X es ms) : DN C X (.List es pos) (lstN ms) := by
  refine pe_w (pe_lst h) fun σ H Q ⟨Y, fr, st, R, h⟩ => ?_
  refine tM_bnd R h fun ds vs H1 Y1 fr1 st1 R1 x1 r1 h1 => ?_
  obtain ⟨g, h1⟩ := FO_grd h1
  refine ⟨by rw [reps_len r1]; exact small_line g, fun p hp => ?_⟩
  obtain ⟨R2, F, x2⟩ := R1.newL hp r1
  exact FO_ok (a := ds) (rel := rN X.K C H) R2 x2 ⟨p, vs, F, x1.t p hp⟩ h1
/-- a new list is handed on as a value -/
def frzM (m : M (List D)) : M D := bnd m fun ds => ret (.lst ds)
/-- what follows the making of a new list -/
theorem tN_bnd {α' β' : Type} {K : PySem.W.Frag} {σ : L2.St} {Y : Vw} {H : Hp} {fr : Fr} {st : SS} {rel' : Vw → Hp → α' → β' → Prop} {Q : β' → Hp → Prop} {m : M (List D)} {f : List D → M α'} {P : VK} (R : Rl K C.B Y σ H fr st) (h : FO K C rel' σ Y H Q (bnd m f fr st))
    (k : ∀ a b H1 Y1 fr1 st1, Rl K C.B Y1 σ H1 fr1 st1 → Ext Y H Y1 H1 → rN K C H Y1 H1 a b → FO K C rel' σ Y H Q (f a fr1 st1) → P b H1) : tN K C m σ H P := by
  refine ⟨Y, fr, st, R, ?_⟩
  unfold bnd at h
  cases e : m fr st with
  | none => rw [e] at h; exact h
  | some o =>
    rw [e] at h
    cases o with
    | ok a fr1 st1 => exact fun b H1 Y1 R1 x r => k a b H1 Y1 fr1 st1 R1 x r h
    | exn c d fr1 st1 => exact h
theorem de_frz {m : M (List D)} (h : DN C X e m) : DE C X e (frzM m) := by
  refine pe_w h fun σ H Q ⟨Y, fr, st, R, h⟩ => ?_
  refine tN_bnd R h fun ds v H1 Y1 fr1 st1 R1 x1 ⟨l, xs, F, hn⟩ h1 => ?_
  obtain ⟨R2, x2, r⟩ := R1.freezeNew F x1 hn
  exact FO_ok (a := D.lst ds) (rel := rE X.K) R2 x2 r h1
/-- a new list is labelled -/
def labM (m : M (List D)) : M D := bnd m fun ds fr st => some (.ok (.obj st.length) fr (st ++ [.lst ds]))
end

section
variable {K : PySem.W.Frag} {B : Bs} {Y : Vw} {σ : L2.St} {H : Hp} {fr : Fr} {st : SS}
theorem Rl.label {Ys : Vw} {Hs : Hp} (R : Rl K B Y σ H fr st) {ds : List D} {v : V} {l : Addr} {xs : List V} (F : Fresh K B Y H ds v l xs) (xe : Ext Ys Hs Y H) (hn : Hs l = none) :
    Rl K B ⟨Y.G, Y.lab ++ [l], Y.ow⟩ σ H fr (st ++ [.lst ds]) ∧ Ext Ys Hs ⟨Y.G, Y.lab ++ [l], Y.ow⟩ H ∧ Rep K Y.G (Y.lab ++ [l]) (.obj st.length) v := by
  have exl : ∀ (n : Nat) x, Y.lab[n]? = some x → (Y.lab ++ [l])[n]? = some x := fun n x h => by
    rw [List.getElem?_append_left (List.getElem?_eq_some_iff.mp h).1]; exact h
  have ex : Ext Ys Hs ⟨Y.G, Y.lab ++ [l], Y.ow⟩ H := by
    refine ⟨xe.g, ?_, fun a u h1 h2 h3 h4 => ?_, xe.t⟩
    · obtain ⟨q, eq⟩ := xe.l
      exact ⟨q ++ [l], by show Y.lab ++ [l] = _; rw [eq, List.append_assoc]⟩
    · obtain ⟨k1, k2, k3, k4⟩ := xe.k a u h1 h2 h3 h4
      refine ⟨k1, k2, fun m => ?_, k4⟩
      rcases List.mem_append.mp m with m | m
      · exact k3 m
      · rw [List.mem_singleton.mp m, hn] at h1; cases h1
  refine ⟨⟨⟨R.sub, R.base, R.gn, ?_, R.hs, R.hz, ?_, ?_, fun a m => ?_, fun n a b e1 e2 => ?_, fun i q e => ?_, R.inj⟩, R.ln, fun i s e => ?_⟩, ex, ?_⟩
  · obtain ⟨l', el, hl⟩ := R.pre
    refine ⟨l' ++ [l], by show Y.lab ++ [l] = _; rw [el, List.append_assoc], fun a m => ?_⟩
    rcases List.mem_append.mp m with m | m
    · exact hl a m
    · rw [List.mem_singleton.mp m]; exact R.hs _ F.h0
  · show (Y.lab ++ [l]).length = (st ++ [Ob.lst ds]).length
    simp [R.len]
  · show (Y.lab ++ [l]).Nodup
    rw [List.nodup_append]
    refine ⟨R.nd, by simp, fun a m b m2 z => ?_⟩
    rw [List.mem_singleton.mp m2] at z
    exact F.lab (by rw [← z]; exact m)
  · rcases List.mem_append.mp m with m | m
    · exact R.fl a m
    · rw [List.mem_singleton.mp m]; exact F.g
  · have e1' : (Y.lab ++ [l])[n]? = some a := e1
    by_cases hn : n < Y.lab.length
    · rw [List.getElem?_append_left hn] at e1'
      rw [List.getElem?_append_left (by rw [← R.len]; exact hn)] at e2
      exact (R.ob n a b e1' e2).mono (fun _ _ z => z) exl fun u z => z
    · rw [List.getElem?_append_right (Nat.le_of_not_lt hn)] at e1'
      rw [List.getElem?_append_right (by rw [← R.len]; exact Nat.le_of_not_lt hn)] at e2
      rw [R.len] at e1'
      cases k : n - st.length with
      | zero =>
        rw [k] at e1' e2
        simp at e1' e2
        subst e1' e2
        exact ⟨xs, F.h, Reps.mono (fun _ _ z => z) exl _ _ F.r⟩
      | succ m =>
        rw [k] at e1'
        simp at e1'
  · obtain ⟨h1, h2, h3, u, h4⟩ := R.own i q e
    refine ⟨h1, fun m => ?_, h3, u, h4⟩
    rcases List.mem_append.mp m with m | m
    · exact h2 m
    · rw [List.mem_singleton.mp m] at e
      exact F.ow i e
  · exact SlotOk.mono (Y := Y) (Y' := ⟨Y.G, Y.lab ++ [l], Y.ow⟩) (fun _ _ z => z) exl (fun q z => ⟨z, fun u hu => hu⟩) (R.sl i s e)
  · unfold Rep
    refine ⟨l, F.e, ?_⟩
    rw [List.getElem?_append_right (by rw [R.len]; exact Nat.le_refl _), R.len]
    simp
end
section
variable {X : Cx} {C : Cc} {pos : Pos} {e a b : Expr} {es : List Expr}
theorem de_lab {m : M (List D)} (h : DN C X e m) : DE C X e (labM m) := by
  refine pe_w h fun σ H Q ⟨Y, fr, st, R, h⟩ => ?_
  refine tN_bnd R h fun ds v H1 Y1 fr1 st1 R1 x1 ⟨l, xs, F, hn⟩ h1 => ?_
  obtain ⟨R2, x2, r⟩ := R1.label F x1 hn
  exact FO_ok (a := D.obj st1.length) (rel := rE X.K) R2 x2 r h1
end
end DL
end

section
set_option Elab.async false
set_option linter.all false
set_option maxRecDepth 100000
set_option maxHeartbeats 4000000
/-! The D layer, part c: operators, comparisons, subscripts, slices, built-in functions of one argument. -/
namespace DL
open PySem PySem.Spec PyProof.Rows L2

/-- a value that may be a name's own list: to be looked at, not to be handed on -/
def rP (K : PySem.W.Frag) : Vw → Hp → D → V → Prop := fun Y H d v => Rep K Y.G Y.lab d v ∨ ∃ ds l xs, d = .lst ds ∧ v = .ref l ∧ H l = some (.lst xs) ∧ Reps K Y.G Y.lab ds xs
abbrev DP (C : Cc) (X : Cx) (e : Expr) (m : M D) : Prop := PE X e (tM X.K C (rP X.K) m)
def peekv (i : Nat) : M D := fun fr st =>
  match fr[i]? with
  | some (.val d) => some (.ok d fr st)
  | some (.own ds) => some (.ok (.lst ds) fr st)
  | _ => none

/-- how a list or a tuple is read off a value -/
def items? : D → Option (List D)
  | .tup ds => some ds
  | .lst ds => some ds
  | .scr ns => some (ns.map .int)
  | _ => none
section
variable {K : PySem.W.Frag} {C : Cc} {B : Bs} {σ : L2.St} {Y Y1 : Vw} {H : Hp} {fr : Fr} {st : SS}
theorem reps_ints : ∀ {ns : List Int} {G : Hp} {lab : List Addr}, Reps K G lab (ns.map .int) (ns.map V.int)
  | [], _, _ => reps_nil
  | n :: ns, _, _ => reps_cons (by unfold Rep; rfl) reps_ints
theorem peek_of (R : Rl K B Y σ H fr st) {i : Nat} {s : Slot} (e : fr[i]? = some s) : (∀ d, s = .val d → ∃ v, σ[i]? = some (some v) ∧ rP K Y H d v) ∧ (∀ ds, s = .own ds → ∃ v, σ[i]? = some (some v) ∧ rP K Y H (.lst ds) v) := by
  refine ⟨fun d h => ?_, fun ds h => ?_⟩
  · subst h
    obtain ⟨v, e1, r⟩ := R.sl i _ e
    exact ⟨v, e1, .inl r⟩
  · subst h
    obtain ⟨l, xs, e1, e2, e3, r⟩ := R.sl i _ e
    exact ⟨_, e2, .inr ⟨ds, l, xs, rfl, rfl, e3, r⟩⟩
theorem peekv_ok (R : Rl K B Y σ H fr st) {i : Nat} {o : Out D} (h : peekv i fr st = some o) : ∃ d v, o = .ok d fr st ∧ σ[i]? = some (some v) ∧ rP K Y H d v := by
  unfold peekv at h
  cases e : fr[i]? with
  | none => rw [e] at h; cases h
  | some s =>
    rw [e] at h
    have p := peek_of R e
    cases s with
    | none => cases h
    | val d =>
      cases h
      obtain ⟨v, e1, r⟩ := p.1 d rfl
      exact ⟨d, v, rfl, e1, r⟩
    | own ds =>
      cases h
      obtain ⟨v, e1, r⟩ := p.2 ds rfl
      exact ⟨_, v, rfl, e1, r⟩
/-- what a looked-at list is in the heap -/
theorem rP_lst (W : Wd K B Y H st) {ds : List D} {v : V} (r : rP K Y H (.lst ds) v) : ∃ l xs, v = .ref l ∧ H l = some (.lst xs) ∧ Reps K Y.G Y.lab ds xs := by
  rcases r with r | ⟨ds', l, xs, e, e1, e2, r⟩
  · unfold Rep at r
    obtain ⟨l, xs, e, q, r⟩ := r
    exact ⟨l, xs, e, W.sub _ _ q, r⟩
  · cases e
    exact ⟨l, xs, e1, e2, r⟩
theorem rP_tup (W : Wd K B Y H st) {ds : List D} {v : V} (r : rP K Y H (.tup ds) v) : ∃ l xs, v = .ref l ∧ SqT K H l xs ∧ Reps K Y.G Y.lab ds xs := by
  rcases r with r | ⟨ds', l, xs, e, e1, e2, r⟩
  · unfold Rep at r
    obtain ⟨l, xs, e, q, r⟩ := r
    exact ⟨l, xs, e, sqT_sub W.sub q, r⟩
  · cases e
theorem rP_scr (W : Wd K B Y H st) {ns : List Int} {v : V} (r : rP K Y H (.scr ns) v) : ∃ l, v = .ref l ∧ SqL K H l (ns.map V.int) := by
  rcases r with r | ⟨ds', l, xs, e, e1, e2, r⟩
  · unfold Rep at r
    obtain ⟨l, e, q⟩ := r
    exact ⟨l, e, sqL_sub W.sub q⟩
  · cases e
theorem rP_int {i : Int} {v : V} (r : rP K Y H (.int i) v) : v = .int i := by
  rcases r with r | ⟨ds', l, xs, e, _⟩
  · unfold Rep at r; exact r
  · cases e
theorem rP_bl {i : Bool} {v : V} (r : rP K Y H (.bl i) v) : v = .bl i := by
  rcases r with r | ⟨ds', l, xs, e, _⟩
  · unfold Rep at r; exact r
  · cases e
theorem rP_str {i : Str} {v : V} (r : rP K Y H (.str i) v) : v = .str i := by
  rcases r with r | ⟨ds', l, xs, e, _⟩
  · unfold Rep at r; exact r
  · cases e
theorem rP_non {v : V} (r : rP K Y H .non v) : v = .non := by
  rcases r with r | ⟨ds', l, xs, e, _⟩
  · unfold Rep at r; exact r
  · cases e
theorem rP_obj (W : Wd K B Y H st) {n : Nat} {ob : Ob} {v : V} (r : rP K Y H (.obj n) v) (e : st[n]? = some ob) : ∃ l, v = .ref l ∧ Y.lab[n]? = some l ∧ ObAt K Y.G Y.lab H l ob := by
  rcases r with r | ⟨ds', l, xs, e, _⟩
  · unfold Rep at r
    obtain ⟨l, e1, q⟩ := r
    exact ⟨l, e1, q, W.ob n l ob q e⟩
  · cases e
/-- a list or a tuple as it is read -/
theorem rP_items (W : Wd K B Y H st) : ∀ {d : D} {ds : List D} {v : V}, rP K Y H d v → items? d = some ds → ∃ l xs, v = .ref l ∧ (SqL K H l xs ∨ SqT K H l xs) ∧ Reps K Y.G Y.lab ds xs
  | .tup ds', ds, v, r, e => by
    cases e
    obtain ⟨l, xs, h1, h2, h3⟩ := rP_tup W r
    exact ⟨l, xs, h1, .inr h2, h3⟩
  | .lst ds', ds, v, r, e => by
    cases e
    obtain ⟨l, xs, h1, h2, h3⟩ := rP_lst W r
    exact ⟨l, xs, h1, .inl (.inl (.inl h2)), h3⟩
  | .scr ns, ds, v, r, e => by
    cases e
    obtain ⟨l, h1, h2⟩ := rP_scr W r
    exact ⟨l, _, h1, .inl h2, reps_ints⟩
  | .non, _, _, _, e => by cases e
  | .bl _, _, _, _, e => by cases e
  | .int _, _, _, _, e => by cases e
  | .str _, _, _, _, e => by cases e
  | .obj _, _, _, _, e => by cases e
end

section
variable {X : Cx} {C : Cc} {pos : Pos} {e a b : Expr} {es : List Expr}
theorem dp_de {m : M D} (h : DE C X e m) : DP C X e m := pe_w h fun σ H Q ⟨Y, fr, st, R, h⟩ => ⟨Y, fr, st, R, by
  revert h
  cases m fr st with
  | none => exact id
  | some o =>
    cases o with
    | ok d fr1 st1 => exact fun h b H1 Y1 R1 x r => h b H1 Y1 R1 x (.inl r)
    | exn c d fr1 st1 => exact id⟩
theorem dp_var (i : Nat) {x : Str} (hN : X.N[i]? = some x := by rfl) (hv : Vis X.env.scope x := by first | exact Or.inl rfl | exact Or.inr (Or.inl rfl) | exact Or.inr (Or.inr rfl)) (hd : (x == ("__debug__" : Str)) = false := by decide)
    (hcd : (x == ("__classdict__" : Str)) = false := by decide) : DP C X (.Name x pos) (peekv i) := by
  refine pe_w (pe_var hN hv hd hcd) fun σ H Q ⟨Y, fr, st, R, h⟩ => ?_
  cases e : peekv i fr st with
  | none => rw [e] at h; exact h.elim
  | some o =>
    rw [e] at h
    obtain ⟨d, v, rfl, e1, r⟩ := peekv_ok R e
    exact ⟨v, e1, FO_ok (rel := rP X.K) R (.refl _ _) r h⟩

/-! ### two operands -/
/-- what an operation on data must be: it follows the rule r -/
def OpOk (K : PySem.W.Frag) (C : Cc) (f : SS → D → D → Option D) (r : R2) : Prop :=
  ∀ (σ : L2.St) (Y : Vw) (H : Hp) (fr : Fr) (st : SS) (d1 d2 d : D) (v1 v2 : V) (Q : VK), Rl K C.B Y σ H fr st → rP K Y H d1 v1 → rP K Y H d2 v2 → f st d1 d2 = some d →
    (∀ v H' Y', Rl K C.B Y' σ H' fr st → Ext Y H Y' H' → Rep K Y'.G Y'.lab d v → Q v H') → r v1 v2 H Q
theorem OpOk.or {K : PySem.W.Frag} {f g : SS → D → D → Option D} {r r' : R2} (h : OpOk K C f r) (h' : OpOk K C g r') : OpOk K C (fun st x y => (f st x y).or (g st x y)) (fun x y H Q => r x y H Q ∨ r' x y H Q) := by
  intro σ Y H fr st d1 d2 d v1 v2 Q R r1 r2 e k
  cases z : f st d1 d2 with
  | some u =>
    simp only [z, Option.some_or] at e
    cases e
    exact .inl (h σ Y H fr st d1 d2 _ v1 v2 Q R r1 r2 z k)
  | none =>
    simp only [z, Option.none_or] at e
    exact .inr (h' σ Y H fr st d1 d2 d v1 v2 Q R r1 r2 e k)
def op2 (f : SS → D → D → Option D) (x y : D) : M D := fun fr st => (f st x y).map fun d => .ok d fr st
def bin (f : SS → D → D → Option D) (ma mb : M D) : M D := bnd ma fun x => bnd mb fun y => op2 f x y
/-- the left one a name that is looked at behind the right one -/
def binL (f : SS → D → D → Option D) (i : Nat) (mb : M D) : M D := bnd (peekv i) fun _ => bnd mb fun y => bnd (peekv i) fun x => op2 f x y
theorem FO_op2 {K : PySem.W.Frag} {f : SS → D → D → Option D} {r : R2} {σ : L2.St} {Y : Vw} {H : Hp} {fr : Fr} {st : SS} {d1 d2 : D} {v1 v2 : V} {Q : VK} (ho : OpOk K C f r) (R : Rl K C.B Y σ H fr st) (r1 : rP K Y H d1 v1) (r2 : rP K Y H d2 v2)
    (h : FO K C (rE K) σ Y H Q (op2 f d1 d2 fr st)) : r v1 v2 H Q := by
  unfold op2 at h
  cases z : f st d1 d2 with
  | none => rw [z] at h; exact h.elim
  | some d =>
    rw [z] at h
    exact ho σ Y H fr st d1 d2 d v1 v2 Q R r1 r2 z fun v H' Y' R' x rv => FO_ok (rel := rE K) R' x rv h
theorem bin_ok {r : R2} {f : SS → D → D → Option D} {ma mb : M D} (ho : OpOk X.K C f r) : ∀ σ H Q, tM X.K C (rE X.K) (bin f ma mb) σ H Q → tOp r (tM X.K C (rE X.K) ma) (tM X.K C (rP X.K) mb) σ H Q := fun σ H Q ⟨Y, fr, st, R, h⟩ => by
  refine tM_bnd R h fun d1 v1 H1 Y1 fr1 st1 R1 x1 r1 h1 => ?_
  refine tM_bnd R1 h1 fun d2 v2 H2 Y2 fr2 st2 R2 x2 r2 h2 => ?_
  exact FO_op2 ho R2 (.inl (x2.rep r1)) r2 h2
theorem binL_ok {r : R2} {f : SS → D → D → Option D} {i : Nat} {mb : M D} (ho : OpOk X.K C f r) : ∀ σ H Q, tM X.K C (rE X.K) (binL f i mb) σ H Q → tOp r (tVar i) (tM X.K C (rP X.K) mb) σ H Q := fun σ H Q ⟨Y, fr, st, R, h⟩ => by
  unfold binL bnd at h
  cases z : peekv i fr st with
  | none => rw [z] at h; exact h.elim
  | some o =>
    rw [z] at h
    obtain ⟨d, v, rfl, e1, r⟩ := peekv_ok R z
    refine ⟨v, e1, ?_⟩
    have h' : FO X.K C (rE X.K) σ Y H Q (bnd mb (fun y => bnd (peekv i) fun x => op2 f x y) fr st) := h
    refine tM_bnd R h' fun d2 v2 H2 Y2 fr2 st2 R2 x2 r2 h2 => ?_
    unfold bnd at h2
    cases z2 : peekv i fr2 st2 with
    | none => rw [z2] at h2; exact h2.elim
    | some o2 =>
      rw [z2] at h2
      obtain ⟨d', v', rfl, e2, r'⟩ := peekv_ok R2 z2
      rw [e1] at e2
      cases e2
      exact FO_op2 ho R2 r' r2 h2
theorem de_bin {op : Operator} {r : R2} {f : SS → D → D → Option D} {ma mb : M D} (ho : OpR X (binaryOp op) r) (hf : OpOk X.K C f r) (ha : DE C X a ma) (hb : DP C X b mb) : DE C X (.BinOp a op b pos) (bin f ma mb) :=
  pe_w (pe_op ho ha hb) (bin_ok hf)
theorem de_binL {op : Operator} {r : R2} {f : SS → D → D → Option D} {mb : M D} (i : Nat) {x : Str} {p : Pos} (ho : OpR X (binaryOp op) r) (hf : OpOk X.K C f r) (hb : DP C X b mb) (hN : X.N[i]? = some x := by rfl) (hv : Vis X.env.scope x := by first | exact Or.inl rfl | exact Or.inr (Or.inl rfl) | exact Or.inr (Or.inr rfl)) (hd : (x == ("__debug__" : Str)) = false := by decide)
    (hcd : (x == ("__classdict__" : Str)) = false := by decide) : DE C X (.BinOp (.Name x p) op b pos) (binL f i mb) :=
  pe_w (pe_op ho (pe_var hN hv hd hcd) hb) (binL_ok hf)
theorem de_cmp {op : CmpOp} {r : R2} {f : SS → D → D → Option D} {ma mb : M D} (ho : OpR X (compareOp op) r) (hf : OpOk X.K C f r) (ha : DE C X a ma) (hb : DP C X b mb) (hm : behindInMarks op b = false) : DE C X (.Compare a [op] [b] pos) (bin f ma mb) :=
  pe_w (pe_cmpR ho ha hb hm) (bin_ok hf)
theorem de_cmpL {op : CmpOp} {r : R2} {f : SS → D → D → Option D} {mb : M D} (i : Nat) {x : Str} {p : Pos} (ho : OpR X (compareOp op) r) (hf : OpOk X.K C f r) (hb : DP C X b mb) (hm : behindInMarks op b = false) (hN : X.N[i]? = some x := by rfl) (hv : Vis X.env.scope x := by first | exact Or.inl rfl | exact Or.inr (Or.inl rfl) | exact Or.inr (Or.inr rfl)) (hd : (x == ("__debug__" : Str)) = false := by decide)
    (hcd : (x == ("__classdict__" : Str)) = false := by decide) : DE C X (.Compare (.Name x p) [op] [b] pos) (binL f i mb) :=
  pe_w (pe_cmpR ho (pe_var hN hv hd hcd) hb hm) (binL_ok hf)
theorem de_ix {r : R2} {f : SS → D → D → Option D} {ma mb : M D} (ho : IxR X r) (hf : OpOk X.K C f r) (ha : DE C X a ma) (hb : DP C X b mb) (hs : PlainIx b) : DE C X (.Subscript a b pos) (bin f ma mb) :=
  pe_w (pe_ix ho ha hb hs) (bin_ok hf)
theorem de_ixL {r : R2} {f : SS → D → D → Option D} {mb : M D} (i : Nat) {x : Str} {p : Pos} (ho : IxR X r) (hf : OpOk X.K C f r) (hb : DP C X b mb) (hs : PlainIx b) (hN : X.N[i]? = some x := by rfl) (hv : Vis X.env.scope x := by first | exact Or.inl rfl | exact Or.inr (Or.inl rfl) | exact Or.inr (Or.inr rfl)) (hd : (x == ("__debug__" : Str)) = false := by decide)
    (hcd : (x == ("__classdict__" : Str)) = false := by decide) : DE C X (.Subscript (.Name x p) b pos) (binL f i mb) :=
  pe_w (pe_ix ho (pe_var hN hv hd hcd) hb hs) (binL_ok hf)

/-! ### the operations on data -/
def intOp (g : Int → Int → D) (c : Int → Int → Bool) : SS → D → D → Option D
  | _, .int i, .int j => if c i j then some (g i j) else none
  | _, _, _ => none
theorem intOp_inv {g : Int → Int → D} {c : Int → Int → Bool} {st : SS} {d1 d2 d : D} (h : intOp g c st d1 d2 = some d) : ∃ i j, d1 = .int i ∧ d2 = .int j ∧ c i j = true ∧ d = g i j := by
  cases d1 with
  | int i =>
    cases d2 with
    | int j =>
      simp only [intOp] at h
      split at h
      · rename_i e
        cases h
        exact ⟨i, j, rfl, rfl, e, rfl⟩
      · cases h
    | _ => cases h
  | _ => cases d2 <;> cases h
theorem ok_intI {C0 : Int → Int → Prop} {g : Int → Int → Int} {c : Int → Int → Bool} (hc : ∀ i j, c i j = true → C0 i j) : OpOk X.K C (intOp (fun i j => .int (g i j)) c) (rI C0 fun i j => .int (g i j)) := by
  intro σ Y H fr st d1 d2 d v1 v2 Q R r1 r2 h k
  obtain ⟨i, j, rfl, rfl, e, rfl⟩ := intOp_inv h
  exact ⟨i, j, rP_int r1, rP_int r2, hc i j e, k _ H Y R (.refl _ _) (by unfold Rep; rfl)⟩
theorem ok_int0 {g : Int → Int → Int} : OpOk X.K C (intOp (fun i j => .int (g i j)) fun _ _ => true) (rI0 fun i j => .int (g i j)) := by
  intro σ Y H fr st d1 d2 d v1 v2 Q R r1 r2 h k
  obtain ⟨i, j, rfl, rfl, e, rfl⟩ := intOp_inv h
  exact ⟨i, j, rP_int r1, rP_int r2, k _ H Y R (.refl _ _) (by unfold Rep; rfl)⟩
theorem ok_intB {g : Int → Int → Bool} : OpOk X.K C (intOp (fun i j => .bl (g i j)) fun _ _ => true) (rI0 fun i j => .bl (g i j)) := by
  intro σ Y H fr st d1 d2 d v1 v2 Q R r1 r2 h k
  obtain ⟨i, j, rfl, rfl, e, rfl⟩ := intOp_inv h
  exact ⟨i, j, rP_int r1, rP_int r2, k _ H Y R (.refl _ _) (by unfold Rep; rfl)⟩

/-- + of ints, texts, tuples, lists -/
def catS : SS → D → D → Option D
  | _, .str i, .str j => if small (i.length + j.length) then some (.str (i ++ j)) else none
  | _, _, _ => none
def catT : SS → D → D → Option D
  | _, .tup i, .tup j => if small (i.length + j.length) then some (.tup (i ++ j)) else none
  | _, _, _ => none
def catL : SS → D → D → Option D
  | _, .lst i, .lst j => if small (i.length + j.length) then some (.lst (i ++ j)) else none
  | _, _, _ => none
theorem ok_catS : OpOk X.K C catS (fun x y H Q => ∃ i j, x = .str i ∧ y = .str j ∧ i.length + j.length ≤ sizeLine ∧ Q (.str (i ++ j)) H) := by
  intro σ Y H fr st d1 d2 d v1 v2 Q R r1 r2 h k
  unfold catS at h
  split at h
  · rename_i i j
    split at h
    · rename_i g
      cases h
      exact ⟨i, j, rP_str r1, rP_str r2, small_line g, k _ H Y R (.refl _ _) (by unfold Rep; rfl)⟩
    · cases h
  · cases h
theorem reps_nil_iff {K : PySem.W.Frag} {G : Hp} {lab : List Addr} {ds : List D} {xs : List V} (h : Reps K G lab ds xs) : xs = [] ↔ ds = [] := by
  have e := reps_len h
  constructor
  · rintro rfl
    exact List.length_eq_zero_iff.mp (by simpa using e.symm)
  · rintro rfl
    exact reps_nil_inv h
theorem ok_catT : OpOk X.K C catT (rCatA X.K) := by
  intro σ Y H fr st d1 d2 d v1 v2 Q R r1 r2 h k
  unfold catT at h
  split at h
  · rename_i i j
    split at h
    · rename_i g
      cases h
      obtain ⟨a1, xs, e1, s1, p1⟩ := rP_tup R.toWd r1
      obtain ⟨a2, ys, e2, s2, p2⟩ := rP_tup R.toWd r2
      have q1 : Rep X.K Y.G Y.lab (.tup i) v1 := by
        rcases r1 with r | ⟨ds', l, xs, e, _⟩
        · exact r
        · cases e
      have q2 : Rep X.K Y.G Y.lab (.tup j) v2 := by
        rcases r2 with r | ⟨ds', l, xs, e, _⟩
        · exact r
        · cases e
      refine ⟨a1, a2, xs, ys, e1, e2, s1, s2, by rw [reps_len p1, reps_len p2]; exact small_line g, fun z => ?_, fun _ z => ?_, fun _ _ p hp => ?_⟩
      · have zi : i = [] := (reps_nil_iff p1).mp z
        subst zi
        subst e2
        exact k _ H Y R (.refl _ _) q2
      · have zj : j = [] := (reps_nil_iff p2).mp z
        subst zj
        subst e1
        rw [List.append_nil] at k
        exact k _ H Y R (.refl _ _) q1
      · obtain ⟨R2, x2⟩ := R.newG hp (.tup (xs ++ ys))
        refine k _ _ _ R2 x2 ?_
        unfold Rep
        exact ⟨p, _, rfl, .inl (.inl upd_same), x2.reps (reps_append p1 p2)⟩
    · cases h
  · cases h
theorem ok_catL : OpOk X.K C catL rCat := by
  intro σ Y H fr st d1 d2 d v1 v2 Q R r1 r2 h k
  unfold catL at h
  split at h
  · rename_i i j
    split at h
    · rename_i g
      cases h
      obtain ⟨a1, xs, e1, s1, p1⟩ := rP_lst R.toWd r1
      obtain ⟨a2, ys, e2, s2, p2⟩ := rP_lst R.toWd r2
      refine ⟨a1, a2, xs, ys, e1, e2, s1, s2, by rw [reps_len p1, reps_len p2]; exact small_line g, fun p hp => ?_⟩
      obtain ⟨R2, x2⟩ := R.newG hp (.lst (xs ++ ys))
      refine k _ _ _ R2 x2 ?_
      unfold Rep
      exact ⟨p, _, rfl, upd_same, x2.reps (reps_append p1 p2)⟩
    · cases h
  · cases h
def addF : SS → D → D → Option D := fun st x y => (intOp (fun i j => .int (i + j)) (fun _ _ => true) st x y).or ((catS st x y).or ((catT st x y).or (catL st x y)))
theorem op_addA : OpR X (binaryOp .Add) (fun x y H Q => rI0 (fun i j => .int (i + j)) x y H Q ∨ ((∃ i j, x = .str i ∧ y = .str j ∧ i.length + j.length ≤ sizeLine ∧ Q (.str (i ++ j)) H) ∨ (rCatA X.K x y H Q ∨ rCat x y H Q))) :=
  op_add.or (op_add_str.or (op_catA.or op_cat))
theorem ok_addF : OpOk X.K C addF (fun x y H Q => rI0 (fun i j => .int (i + j)) x y H Q ∨ ((∃ i j, x = .str i ∧ y = .str j ∧ i.length + j.length ≤ sizeLine ∧ Q (.str (i ++ j)) H) ∨ (rCatA X.K x y H Q ∨ rCat x y H Q))) :=
  ok_int0.or (ok_catS.or (ok_catT.or ok_catL))
def subF : SS → D → D → Option D := intOp (fun i j => .int (i - j)) fun _ _ => true
def bitsOk (i j : Int) : Bool := decide (i.natAbs.log2 + j.natAbs.log2 < 1000000)
def divOk (_ j : Int) : Bool := decide (j ≠ 0 ∧ j.natAbs.log2 < 9000)
def mulF : SS → D → D → Option D := intOp (fun i j => .int (i * j)) bitsOk
def divF : SS → D → D → Option D := intOp (fun i j => .int (i.fdiv j)) divOk
def modF : SS → D → D → Option D := intOp (fun i j => .int (i.fmod j)) fun _ j => decide (j ≠ 0)
def powOk (i j : Int) : Bool := decide (0 ≤ j ∧ j ≤ 1000000 ∧ i.natAbs < 2 ^ 64)
def powF : SS → D → D → Option D := intOp (fun i j => .int (i ^ j.toNat)) powOk
def CDivWN (_ j : Int) : Prop := j ≠ 0 ∧ j.natAbs.log2 < 9000
theorem op_fdivWN : OpR X (binaryOp .FloorDiv) (rI CDivWN fun i j => .int (i.fdiv j)) := opI fun i j _ _ _ _ _ hc q => floordiv_int hc.1 q (.inl (PyProof.noPylong_of_log2 hc.2))
theorem bitsOk_ok (i j : Int) (h : bitsOk i j = true) : CMulW i j := by
  have q := decide_eq_true_eq.mp h
  exact q
theorem divOk_ok (i j : Int) (h : divOk i j = true) : CDivWN i j := by
  have q := decide_eq_true_eq.mp h
  exact q
theorem powOk_ok (i j : Int) (h : powOk i j = true) : CPow i j := by
  have q := decide_eq_true_eq.mp h
  exact q
variable {ma mb : M D}
theorem de_add (ha : DE C X a ma) (hb : DP C X b mb) : DE C X (.BinOp a .Add b pos) (bin addF ma mb) := de_bin op_addA ok_addF ha hb
theorem de_sub (ha : DE C X a ma) (hb : DP C X b mb) : DE C X (.BinOp a .Sub b pos) (bin subF ma mb) := de_bin op_sub ok_int0 ha hb
theorem de_mul (ha : DE C X a ma) (hb : DP C X b mb) : DE C X (.BinOp a .Mult b pos) (bin mulF ma mb) := de_bin op_mulW (ok_intI bitsOk_ok) ha hb
theorem de_div (ha : DE C X a ma) (hb : DP C X b mb) : DE C X (.BinOp a .FloorDiv b pos) (bin divF ma mb) := de_bin op_fdivWN (ok_intI divOk_ok) ha hb
theorem de_mod (ha : DE C X a ma) (hb : DP C X b mb) : DE C X (.BinOp a .Mod b pos) (bin modF ma mb) := de_bin op_modN (ok_intI fun _ _ h => of_decide_eq_true h) ha hb
theorem de_pow (ha : DE C X a ma) (hb : DP C X b mb) : DE C X (.BinOp a .Pow b pos) (bin powF ma mb) := de_bin op_pow (ok_intI powOk_ok) ha hb
def ltF : SS → D → D → Option D := intOp (fun i j => .bl (decide (i < j))) fun _ _ => true
def leF : SS → D → D → Option D := intOp (fun i j => .bl (decide (i ≤ j))) fun _ _ => true
def gtF : SS → D → D → Option D := intOp (fun i j => .bl (decide (j < i))) fun _ _ => true
def geF : SS → D → D → Option D := intOp (fun i j => .bl (decide (j ≤ i))) fun _ _ => true
theorem de_lt (ha : DE C X a ma) (hb : DP C X b mb) : DE C X (.Compare a [.Lt] [b] pos) (bin ltF ma mb) := de_cmp op_lt ok_intB ha hb (nomark _)
theorem de_le (ha : DE C X a ma) (hb : DP C X b mb) : DE C X (.Compare a [.LtE] [b] pos) (bin leF ma mb) := de_cmp op_le ok_intB ha hb (nomark _)
theorem de_gt (ha : DE C X a ma) (hb : DP C X b mb) : DE C X (.Compare a [.Gt] [b] pos) (bin gtF ma mb) := de_cmp op_gt ok_intB ha hb (nomark _)
theorem de_ge (ha : DE C X a ma) (hb : DP C X b mb) : DE C X (.Compare a [.GtE] [b] pos) (bin geF ma mb) := de_cmp op_ge ok_intB ha hb (nomark _)
end
end DL
end

section
set_option Elab.async false
set_option linter.all false
set_option maxRecDepth 100000
set_option maxHeartbeats 4000000
/-! The D layer, part d: equality, in, is; subscripts and slices; built-in functions of one and two arguments; isinstance. -/
namespace DL
open PySem PySem.Spec PyProof.Rows L2

/-! ### equality -/
mutual
def toPy : D → Option PyData
  | .non => some .none
  | .bl b => some (.bool b)
  | .int i => some (.int i)
  | .str s => some (.str s)
  | .tup ds => match toPys ds with | some ps => some (.tuple ps) | none => none
  | .lst ds => match toPys ds with | some ps => some (.list ps) | none => none
  | .obj _ => none
  | .scr _ => none
def toPys : List D → Option (List PyData)
  | [] => some []
  | d :: ds => match toPy d, toPys ds with | some p, some ps => some (p :: ps) | _, _ => none
end
section
variable {K : PySem.W.Frag} {C : Cc} {B : Bs} {σ : L2.St} {Y Y1 : Vw} {H : Hp} {fr : Fr} {st : SS}
theorem toPys_cons {d : D} {ds : List D} {qs : List PyData} (h : toPys (d :: ds) = some qs) : ∃ p ps, toPy d = some p ∧ toPys ds = some ps ∧ qs = p :: ps := by
  unfold toPys at h
  split at h
  · rename_i p ps e1 e2
    cases h
    exact ⟨p, ps, e1, e2, rfl⟩
  · cases h
mutual
theorem rep_dp (hs : ∀ a o, Y.G a = some o → H a = some o) : ∀ (d : D) (v : V) (p : PyData), Rep K Y.G Y.lab d v → toPy d = some p → Dp K H v p
  | .non, v, p, r, e => by
    unfold Rep at r; unfold toPy at e; cases e; subst r; exact .non
  | .bl b, v, p, r, e => by
    unfold Rep at r; unfold toPy at e; cases e; subst r; exact .bl b
  | .int b, v, p, r, e => by
    unfold Rep at r; unfold toPy at e; cases e; subst r; exact .int b
  | .str b, v, p, r, e => by
    unfold Rep at r; unfold toPy at e; cases e; subst r; exact .str b
  | .tup ds, v, p, r, e => by
    unfold Rep at r; unfold toPy at e
    obtain ⟨a, xs, rfl, q, rs⟩ := r
    cases z : toPys ds with
    | none => rw [z] at e; cases e
    | some ps =>
      rw [z] at e; cases e
      exact .tup (sqT_sub hs q) (reps_dp hs ds xs ps rs z)
  | .lst ds, v, p, r, e => by
    unfold Rep at r; unfold toPy at e
    obtain ⟨a, xs, rfl, q, rs⟩ := r
    cases z : toPys ds with
    | none => rw [z] at e; cases e
    | some ps =>
      rw [z] at e; cases e
      exact .lst (.inl (.inl (hs _ _ q))) (reps_dp hs ds xs ps rs z)
  | .obj n, v, p, r, e => by unfold toPy at e; cases e
  | .scr n, v, p, r, e => by unfold toPy at e; cases e
theorem reps_dp (hs : ∀ a o, Y.G a = some o → H a = some o) : ∀ (ds : List D) (vs : List V) (ps : List PyData), Reps K Y.G Y.lab ds vs → toPys ds = some ps → DpAll K H vs ps
  | [], vs, ps, r, e => by
    rw [reps_nil_inv r]; unfold toPys at e; cases e; exact .nil
  | d :: ds, vs, ps, r, e => by
    obtain ⟨v, vs', rfl, r1, r2⟩ := reps_cons_inv r
    obtain ⟨p, ps', e1, e2, rfl⟩ := toPys_cons e
    exact .cons (rep_dp hs d v p r1 e1) (reps_dp hs ds vs' ps' r2 e2)
end
theorem rP_dp (W : Wd K B Y H st) {d : D} {v : V} {p : PyData} (r : rP K Y H d v) (e : toPy d = some p) : Dp K H v p := by
  rcases r with r | ⟨ds, l, xs, rfl, rfl, h, r⟩
  · exact rep_dp W.sub d v p r e
  · unfold toPy at e
    cases z : toPys ds with
    | none => rw [z] at e; cases e
    | some ps =>
      rw [z] at e; cases e
      exact .lst (.inl (.inl h)) (reps_dp W.sub ds xs ps r z)
end
def eqB (x y : D) : Option Bool :=
  match toPy x, toPy y with
  | some p, some q => if SeqAt.shaped p && SeqAt.shaped q then some (PyData.eqv p q) else none
  | _, _ => none
def eqF : SS → D → D → Option D := fun _ x y => match eqB x y with | some b => some (.bl b) | none => none
def neF : SS → D → D → Option D := fun _ x y => match eqB x y with | some b => some (.bl (!b)) | none => none
/-- in, not in: a list of data; a flat thing in a tuple of flat things; a text in a text -/
def inL (x y : D) : Option Bool :=
  match toPy x, toPy y with
  | some p, some (.list qs) => if SeqAt.shaped p && SeqAt.shaped (.list qs) then some (qs.any fun z => PyData.eqv z p) else none
  | _, _ => none
def flatD : D → Option V
  | .non => some .non
  | .bl b => some (.bl b)
  | .int i => some (.int i)
  | .str s => some (.str s)
  | _ => none
def flatDs : List D → Option (List V)
  | [] => some []
  | d :: ds => match flatD d, flatDs ds with | some v, some vs => some (v :: vs) | _, _ => none
def inT (x : D) : D → Option Bool
  | .tup ds => match flatD x, flatDs ds with | some v, some vs => some (inV v vs) | _, _ => none
  | _ => none
def inS : D → D → Option Bool
  | .str i, .str j => some (!(Builtin.Str.occurrences j i 0 j.length 1).isEmpty)
  | _, _ => none
def liftB (f : D → D → Option Bool) (neg : Bool) : SS → D → D → Option D := fun _ x y => match f x y with | some b => some (.bl (if neg then !b else b)) | none => none
section
variable {K : PySem.W.Frag} {C : Cc} {B : Bs} {σ : L2.St} {Y Y1 : Vw} {H : Hp} {fr : Fr} {st : SS}
theorem eqB_inv {x y : D} {b : Bool} (h : eqB x y = some b) : ∃ p q, toPy x = some p ∧ toPy y = some q ∧ SeqAt.shaped p = true ∧ SeqAt.shaped q = true ∧ b = PyData.eqv p q := by
  unfold eqB at h
  split at h
  · rename_i p q e1 e2
    split at h
    · rename_i g
      cases h
      rw [Bool.and_eq_true] at g
      exact ⟨p, q, e1, e2, g.1, g.2, rfl⟩
    · cases h
  · cases h
theorem flatD_rep {d : D} {v v' : V} (h : flatD d = some v) (r : rP K Y H d v') : v' = v ∧ flatV v = true := by
  cases d with
  | non => cases h; exact ⟨rP_non r, rfl⟩
  | bl b => cases h; exact ⟨rP_bl r, rfl⟩
  | int b => cases h; exact ⟨rP_int r, rfl⟩
  | str b => cases h; exact ⟨rP_str r, rfl⟩
  | _ => cases h
theorem flatDs_rep {G : Hp} {lab : List Addr} : ∀ {ds : List D} {vs vs' : List V}, flatDs ds = some vs → Reps K G lab ds vs' → vs' = vs ∧ vs.all flatV = true
  | [], vs, vs', h, r => by
    unfold flatDs at h; cases h
    exact ⟨reps_nil_inv r, rfl⟩
  | d :: ds, vs, vs', h, r => by
    obtain ⟨v, ws, rfl, r1, r2⟩ := reps_cons_inv r
    unfold flatDs at h
    split at h
    · rename_i u us e1 e2
      cases h
      obtain ⟨q1, q2⟩ := flatD_rep (K := K) (Y := ⟨G, lab, fun _ => none⟩) (H := fun _ => none) e1 (.inl r1)
      obtain ⟨q3, q4⟩ := flatDs_rep e2 r2
      exact ⟨by rw [q1, q3], by rw [List.all_cons, q2, q4]; rfl⟩
    · cases h
theorem ok_eq : OpOk K C eqF (rEqD K) := by
  intro σ Y H fr st d1 d2 d v1 v2 Q R r1 r2 h k
  unfold eqF at h
  split at h
  · rename_i b e
    cases h
    obtain ⟨p, q, e1, e2, s1, s2, rfl⟩ := eqB_inv e
    exact ⟨p, q, rP_dp R.toWd r1 e1, rP_dp R.toWd r2 e2, s1, s2, k _ H Y R (.refl _ _) (by unfold Rep; rfl)⟩
  · cases h
theorem ok_ne : OpOk K C neF (rNeD K) := by
  intro σ Y H fr st d1 d2 d v1 v2 Q R r1 r2 h k
  unfold neF at h
  split at h
  · rename_i b e
    cases h
    obtain ⟨p, q, e1, e2, s1, s2, rfl⟩ := eqB_inv e
    exact ⟨p, q, rP_dp R.toWd r1 e1, rP_dp R.toWd r2 e2, s1, s2, k _ H Y R (.refl _ _) (by unfold Rep; rfl)⟩
  · cases h
theorem inL_inv {x y : D} {b : Bool} (h : inL x y = some b) : ∃ p qs, toPy x = some p ∧ toPy y = some (.list qs) ∧ SeqAt.shaped p = true ∧ SeqAt.shaped (.list qs) = true ∧ b = (qs.any fun z => PyData.eqv z p) := by
  unfold inL at h
  split at h
  · rename_i p q e1 e2
    split at h
    · rename_i g
      cases h
      rw [Bool.and_eq_true] at g
      exact ⟨p, q, e1, e2, g.1, g.2, rfl⟩
    · cases h
  · cases h
theorem liftB_inv {f : D → D → Option Bool} {neg : Bool} {x y d : D} (h : liftB f neg st x y = some d) : ∃ b, f x y = some b ∧ d = .bl (if neg then !b else b) := by
  unfold liftB at h
  split at h
  · rename_i b e
    cases h
    exact ⟨b, e, rfl⟩
  · cases h
theorem ok_inL : OpOk K C (liftB inL false) (rInD K) := by
  intro σ Y H fr st d1 d2 d v1 v2 Q R r1 r2 h k
  obtain ⟨b, e, rfl⟩ := liftB_inv h
  obtain ⟨p, q, e1, e2, s1, s2, rfl⟩ := inL_inv e
  exact ⟨p, q, rP_dp R.toWd r1 e1, rP_dp R.toWd r2 e2, s1, s2, k _ H Y R (.refl _ _) (by unfold Rep; rfl)⟩
theorem ok_ninL : OpOk K C (liftB inL true) (rNotInD K) := by
  intro σ Y H fr st d1 d2 d v1 v2 Q R r1 r2 h k
  obtain ⟨b, e, rfl⟩ := liftB_inv h
  obtain ⟨p, q, e1, e2, s1, s2, rfl⟩ := inL_inv e
  exact ⟨p, q, rP_dp R.toWd r1 e1, rP_dp R.toWd r2 e2, s1, s2, k _ H Y R (.refl _ _) (by unfold Rep; rfl)⟩
theorem inT_inv {x y : D} {b : Bool} (h : inT x y = some b) : ∃ ds v vs, y = .tup ds ∧ flatD x = some v ∧ flatDs ds = some vs ∧ b = inV v vs := by
  cases y with
  | tup ds =>
    simp only [inT] at h
    split at h
    · rename_i v vs e1 e2
      cases h
      exact ⟨ds, v, vs, rfl, e1, e2, rfl⟩
    · cases h
  | _ => cases h
theorem ok_inT {neg : Bool} : OpOk K C (liftB inT neg) (rIn K neg) := by
  intro σ Y H fr st d1 d2 d v1 v2 Q R r1 r2 h k
  obtain ⟨b, e, rfl⟩ := liftB_inv h
  obtain ⟨ds, v, vs, rfl, e1, e2, rfl⟩ := inT_inv e
  obtain ⟨l, xs, rfl, s, rs⟩ := rP_tup R.toWd r2
  obtain ⟨rfl, q2⟩ := flatD_rep e1 r1
  obtain ⟨rfl, q4⟩ := flatDs_rep e2 rs
  exact ⟨l, _, rfl, .inr s, q2, q4, k _ H Y R (.refl _ _) (by unfold Rep; cases neg <;> rfl)⟩
theorem inS_inv {x y : D} {b : Bool} (h : inS x y = some b) : ∃ i j, x = .str i ∧ y = .str j ∧ b = !(Builtin.Str.occurrences j i 0 j.length 1).isEmpty := by
  cases x with
  | str i =>
    cases y with
    | str j => cases h; exact ⟨i, j, rfl, rfl, rfl⟩
    | _ => cases h
  | _ => cases y <;> cases h
theorem ok_inS : OpOk K C (liftB inS false) (fun x y H Q => ∃ i j, x = .str i ∧ y = .str j ∧ Q (.bl (!(Builtin.Str.occurrences j i 0 j.length 1).isEmpty)) H) := by
  intro σ Y H fr st d1 d2 d v1 v2 Q R r1 r2 h k
  obtain ⟨b, e, rfl⟩ := liftB_inv h
  obtain ⟨i, j, rfl, rfl, rfl⟩ := inS_inv e
  exact ⟨i, j, rP_str r1, rP_str r2, k _ H Y R (.refl _ _) (by unfold Rep; rfl)⟩
theorem ok_ninS : OpOk K C (liftB inS true) (fun x y H Q => ∃ i j, x = .str i ∧ y = .str j ∧ Q (.bl (!(!(Builtin.Str.occurrences j i 0 j.length 1).isEmpty))) H) := by
  intro σ Y H fr st d1 d2 d v1 v2 Q R r1 r2 h k
  obtain ⟨b, e, rfl⟩ := liftB_inv h
  obtain ⟨i, j, rfl, rfl, rfl⟩ := inS_inv e
  exact ⟨i, j, rP_str r1, rP_str r2, k _ H Y R (.refl _ _) (by unfold Rep; rfl)⟩
end
/-- is: None, a truth value -/
def isNon : D → Bool
  | .non => true
  | _ => false
def isN (neg : Bool) : SS → D → D → Option D
  | _, x, .non => some (.bl (if neg then !isNon x else isNon x))
  | _, _, _ => none
def isB (neg : Bool) : SS → D → D → Option D
  | _, .bl a, .bl b => some (.bl (if neg then !decide (a = b) else decide (a = b)))
  | _, _, _ => none
section
variable {K : PySem.W.Frag} {C : Cc} {B : Bs} {σ : L2.St} {Y Y1 : Vw} {H : Hp} {fr : Fr} {st : SS}
theorem isNon_rep {d : D} {v : V} (r : rP K Y H d v) : decide (v = .non) = isNon d := by
  rcases r with r | ⟨ds, l, xs, rfl, rfl, _⟩
  · cases d with
    | non => unfold Rep at r; subst r; rfl
    | bl _ => unfold Rep at r; subst r; rfl
    | int _ => unfold Rep at r; subst r; rfl
    | str _ => unfold Rep at r; subst r; rfl
    | tup _ => unfold Rep at r; obtain ⟨a, _, rfl, _⟩ := r; rfl
    | lst _ => unfold Rep at r; obtain ⟨a, _, rfl, _⟩ := r; rfl
    | obj _ => unfold Rep at r; obtain ⟨a, rfl, _⟩ := r; rfl
    | scr _ => unfold Rep at r; obtain ⟨a, rfl, _⟩ := r; rfl
  · rfl
theorem isN_inv {neg : Bool} {x y d : D} (h : isN neg st x y = some d) : y = .non ∧ d = .bl (if neg then !isNon x else isNon x) := by
  cases y with
  | non => cases h; exact ⟨rfl, rfl⟩
  | _ => cases h
theorem ok_isN : OpOk K C (isN false) (fun x y H Q => y = .non ∧ Q (.bl (decide (x = .non))) H) := by
  intro σ Y H fr st d1 d2 d v1 v2 Q R r1 r2 h k
  obtain ⟨rfl, rfl⟩ := isN_inv h
  refine ⟨rP_non r2, ?_⟩
  rw [isNon_rep r1]
  exact k _ H Y R (.refl _ _) (by unfold Rep; rfl)
theorem ok_notN : OpOk K C (isN true) (fun x y H Q => y = .non ∧ Q (.bl (!decide (x = .non))) H) := by
  intro σ Y H fr st d1 d2 d v1 v2 Q R r1 r2 h k
  obtain ⟨rfl, rfl⟩ := isN_inv h
  refine ⟨rP_non r2, ?_⟩
  rw [isNon_rep r1]
  exact k _ H Y R (.refl _ _) (by unfold Rep; rfl)
theorem isB_inv {neg : Bool} {x y d : D} (h : isB neg st x y = some d) : ∃ a b, x = .bl a ∧ y = .bl b ∧ d = .bl (if neg then !decide (a = b) else decide (a = b)) := by
  cases x with
  | bl a =>
    cases y with
    | bl b => cases h; exact ⟨a, b, rfl, rfl, rfl⟩
    | _ => cases h
  | _ => cases y <;> cases h
theorem ok_isB : OpOk K C (isB false) (fun x y H Q => ∃ a b, x = .bl a ∧ y = .bl b ∧ Q (.bl (decide (a = b))) H) := by
  intro σ Y H fr st d1 d2 d v1 v2 Q R r1 r2 h k
  obtain ⟨a, b, rfl, rfl, rfl⟩ := isB_inv h
  exact ⟨a, b, rP_bl r1, rP_bl r2, k _ H Y R (.refl _ _) (by unfold Rep; rfl)⟩
theorem ok_isnotB : OpOk K C (isB true) (fun x y H Q => ∃ a b, x = .bl a ∧ y = .bl b ∧ Q (.bl (!decide (a = b))) H) := by
  intro σ Y H fr st d1 d2 d v1 v2 Q R r1 r2 h k
  obtain ⟨a, b, rfl, rfl, rfl⟩ := isB_inv h
  exact ⟨a, b, rP_bl r1, rP_bl r2, k _ H Y R (.refl _ _) (by unfold Rep; rfl)⟩
end
def isF : SS → D → D → Option D := fun st x y => (isN false st x y).or (isB false st x y)
def notIsF : SS → D → D → Option D := fun st x y => (isN true st x y).or (isB true st x y)
def inF : SS → D → D → Option D := fun st x y => (liftB inL false st x y).or ((liftB inT false st x y).or (liftB inS false st x y))
def notInF : SS → D → D → Option D := fun st x y => (liftB inL true st x y).or ((liftB inT true st x y).or (liftB inS true st x y))
section
variable {X : Cx} {C : Cc} {pos : Pos} {e a b : Expr} {es : List Expr} {ma mb : M D} {k : Nat}
theorem hu64 {k : Nat} (hr : Room k X.A) : X.A.units + 64 < cLine := hr.units
theorem de_eq (hr : Room k X.A) (ha : DE C X a ma) (hb : DP C X b mb) : DE C X (.Compare a [.Eq] [b] pos) (bin eqF ma mb) := de_cmp (op_eqD hr.units) ok_eq ha hb (nomark _)
theorem de_ne (hr : Room k X.A) (ha : DE C X a ma) (hb : DP C X b mb) : DE C X (.Compare a [.NotEq] [b] pos) (bin neF ma mb) := de_cmp (op_neD hr.units) ok_ne ha hb (nomark _)
theorem de_eqL (i : Nat) (hr : Room k X.A) {x : Str} {p : Pos} (hb : DP C X b mb) (hN : X.N[i]? = some x := by rfl) (hv : Vis X.env.scope x := by first | exact Or.inl rfl | exact Or.inr (Or.inl rfl) | exact Or.inr (Or.inr rfl)) (hd : (x == ("__debug__" : Str)) = false := by decide)
    (hcd : (x == ("__classdict__" : Str)) = false := by decide) : DE C X (.Compare (.Name x p) [.Eq] [b] pos) (binL eqF i mb) := de_cmpL i (op_eqD hr.units) ok_eq hb (nomark _) hN hv hd hcd
theorem de_neL (i : Nat) (hr : Room k X.A) {x : Str} {p : Pos} (hb : DP C X b mb) (hN : X.N[i]? = some x := by rfl) (hv : Vis X.env.scope x := by first | exact Or.inl rfl | exact Or.inr (Or.inl rfl) | exact Or.inr (Or.inr rfl)) (hd : (x == ("__debug__" : Str)) = false := by decide)
    (hcd : (x == ("__classdict__" : Str)) = false := by decide) : DE C X (.Compare (.Name x p) [.NotEq] [b] pos) (binL neF i mb) := de_cmpL i (op_neD hr.units) ok_ne hb (nomark _) hN hv hd hcd
theorem room65 (hr : Room k X.A) (hk : 1 ≤ k) : X.A.units + 65 < cLine := by have := hr.un; omega
theorem de_in (hr : Room k X.A) (hk : 1 ≤ k) (ha : DE C X a ma) (hb : DP C X b mb) (hm : behindInMarks .In b = false := by first | rfl | with_unfolding_all rfl) : DE C X (.Compare a [.In] [b] pos) (bin inF ma mb) :=
  de_cmp ((op_inD (room65 hr hk)).or (op_in_seq.or op_in_str)) (ok_inL.or (ok_inT.or ok_inS)) ha hb hm
theorem de_notIn (hr : Room k X.A) (hk : 1 ≤ k) (ha : DE C X a ma) (hb : DP C X b mb) (hm : behindInMarks .NotIn b = false := by first | rfl | with_unfolding_all rfl) : DE C X (.Compare a [.NotIn] [b] pos) (bin notInF ma mb) :=
  de_cmp ((op_notInD (room65 hr hk)).or (op_notIn_seq.or op_notin_str)) (ok_ninL.or (ok_inT.or ok_ninS)) ha hb hm
theorem de_is (ha : DE C X a ma) (hb : DP C X b mb) : DE C X (.Compare a [.Is] [b] pos) (bin isF ma mb) := de_cmp (op_isN.or op_is_bl) (ok_isN.or ok_isB) ha hb (nomark _)
theorem de_isnot (ha : DE C X a ma) (hb : DP C X b mb) : DE C X (.Compare a [.IsNot] [b] pos) (bin notIsF ma mb) := de_cmp (op_notN.or op_isnot_bl) (ok_notN.or ok_isnotB) ha hb (nomark _)
end
end DL
end

section
set_option Elab.async false
set_option linter.all false
set_option maxRecDepth 100000
set_option maxHeartbeats 4000000
/-! The D layer, part e: subscripts and slices; built-in functions of one and two arguments; isinstance. -/
namespace DL
open PySem PySem.Spec PyProof.Rows L2

/-- the items of what stands for a list or a tuple, labelled ones too -/
def itemsS (st : SS) : D → Option (List D)
  | .tup ds => some ds
  | .lst ds => some ds
  | .scr ns => some (ns.map .int)
  | .obj n => match st[n]? with | some (.lst ds) => some ds | _ => none
  | _ => none
section
variable {K : PySem.W.Frag} {C : Cc} {B : Bs} {σ : L2.St} {Y Y1 : Vw} {H : Hp} {fr : Fr} {st : SS}
theorem itemsS_rep (W : Wd K B Y H st) {d : D} {ds : List D} {v : V} (r : rP K Y H d v) (e : itemsS st d = some ds) : ∃ l xs, v = .ref l ∧ (SqL K H l xs ∨ SqT K H l xs) ∧ Reps K Y.G Y.lab ds xs := by
  cases d with
  | obj n =>
    simp only [itemsS] at e
    split at e
    · rename_i ds' e1
      cases e
      obtain ⟨l, h1, h2, h3⟩ := rP_obj W r e1
      obtain ⟨xs, h4, h5⟩ := h3
      exact ⟨l, xs, h1, .inl (.inl (.inl h4)), h5⟩
    · cases e
  | tup ds' => exact rP_items W r (by simpa [itemsS, items?] using e)
  | lst ds' => exact rP_items W r (by simpa [itemsS, items?] using e)
  | scr ds' => exact rP_items W r (by simpa [itemsS, items?] using e)
  | _ => cases e
theorem ixN_len {α β : Type} {xs : List α} {ys : List β} (h : xs.length = ys.length) (i : Int) : ixN xs.length i = ixN ys.length i := by rw [h]
theorem reps_at {G : Hp} {lab : List Addr} {ds : List D} {xs : List V} {i : Int} {d : D} (r : Reps K G lab ds xs) (h : atI ds i = some d) : ∃ v, atI xs i = some v ∧ Rep K G lab d v := by
  unfold atI at h ⊢
  rw [reps_len r]
  cases e : ixN ds.length i with
  | none => rw [e] at h; cases h
  | some j =>
    rw [e] at h
    exact reps_get r h
end
def ixF : SS → D → D → Option D
  | st, d, .int i => match itemsS st d with | some ds => atI ds i | none => none
  | _, _, _ => none
def ixS : SS → D → D → Option D
  | _, .str z, .int i => if small z.length then (atI z.cps.toList i).map fun c => .str ⟨#[c]⟩ else none
  | _, _, _ => none
def ixA : SS → D → D → Option D := fun st x y => (ixF st x y).or (ixS st x y)
def rIxLT (K : PySem.W.Frag) : R2 := fun x y H Q => rIxL K x y H Q ∨ rIxT K x y H Q
section
variable {K : PySem.W.Frag} {C : Cc} {B : Bs} {σ : L2.St} {Y Y1 : Vw} {H : Hp} {fr : Fr} {st : SS}
theorem ixF_inv {x y d : D} (h : ixF st x y = some d) : ∃ i ds, y = .int i ∧ itemsS st x = some ds ∧ atI ds i = some d := by
  cases y with
  | int i =>
    simp only [ixF] at h
    split at h
    · rename_i ds e
      exact ⟨i, ds, rfl, e, h⟩
    · cases h
  | _ => cases h
theorem ok_ixF : OpOk K C ixF (rIxLT K) := by
  intro σ Y H fr st d1 d2 d v1 v2 Q R r1 r2 h k
  obtain ⟨i, ds, rfl, e1, e2⟩ := ixF_inv h
  obtain ⟨l, xs, rfl, s, rs⟩ := itemsS_rep R.toWd r1 e1
  obtain ⟨v, e3, rv⟩ := reps_at rs e2
  rcases s with s | s
  · exact .inl ⟨l, xs, i, v, rfl, rP_int r2, s, e3, k v H Y R (.refl _ _) rv⟩
  · exact .inr ⟨l, xs, i, v, rfl, rP_int r2, s, e3, k v H Y R (.refl _ _) rv⟩
theorem ixS_inv {x y d : D} (h : ixS st x y = some d) : ∃ z i c, x = .str z ∧ y = .int i ∧ small z.length = true ∧ atI z.cps.toList i = some c ∧ d = .str ⟨#[c]⟩ := by
  cases x with
  | str z =>
    cases y with
    | int i =>
      simp only [ixS] at h
      split at h
      · rename_i g
        cases e : atI z.cps.toList i with
        | none => rw [e] at h; cases h
        | some c =>
          rw [e] at h
          cases h
          exact ⟨z, i, c, rfl, rfl, g, e, rfl⟩
      · cases h
    | _ => cases h
  | _ => cases y <;> cases h
theorem ok_ixS : OpOk K C ixS rIxS := by
  intro σ Y H fr st d1 d2 d v1 v2 Q R r1 r2 h k
  obtain ⟨z, i, c, rfl, rfl, g, e, rfl⟩ := ixS_inv h
  exact ⟨z, i, c, rP_str r1, rP_int r2, small_line g, e, k _ H Y R (.refl _ _) (by unfold Rep; rfl)⟩
end
section
variable {X : Cx} {C : Cc} {pos : Pos} {e a b : Expr} {es : List Expr} {ma mb : M D} {k : Nat}
theorem ix_any : IxR X (fun x y H Q => rIxLT X.K x y H Q ∨ rIxS x y H Q) := (ix_list.or ix_tup).or ix_str
theorem de_sub1 (ha : DE C X a ma) (hb : DP C X b mb) (hs : PlainIx b := by intro _ _; rfl) : DE C X (.Subscript a b pos) (bin ixA ma mb) := de_ix ix_any (ok_ixF.or ok_ixS) ha hb hs
theorem de_sub1L (i : Nat) {x : Str} {p : Pos} (hb : DP C X b mb) (hs : PlainIx b := by intro _ _; rfl) (hN : X.N[i]? = some x := by rfl) (hv : Vis X.env.scope x := by first | exact Or.inl rfl | exact Or.inr (Or.inl rfl) | exact Or.inr (Or.inr rfl)) (hd : (x == ("__debug__" : Str)) = false := by decide)
    (hcd : (x == ("__classdict__" : Str)) = false := by decide) : DE C X (.Subscript (.Name x p) b pos) (binL ixA i mb) := de_ixL i ix_any (ok_ixF.or ok_ixS) hb hs hN hv hd hcd
end

/-! ### slices -/
def cutL {α : Type} (xs : List α) (lo hi : Option Int) : List α := (xs.drop (HT.sIx xs.length 0 lo)).take (HT.sIx xs.length xs.length hi - HT.sIx xs.length 0 lo)
abbrev DO (C : Cc) (X : Cx) (e : Option Expr) (m : M (Option Int)) : Prop := PO X e (tM X.K C (fun _ _ a b => b = a) m)
def noneO : M (Option Int) := ret none
def someO (m : M D) : M (Option Int) := bnd m fun d => opt (match d with | .int i => some (some i) | _ => none)
/-- a cut of data: a list's cut is a new list of its own -/
def slD (st : SS) (d : D) (lo hi : Option Int) : Option D :=
  match d with
  | .tup ds => some (.tup (cutL ds lo hi))
  | .lst ds => some (.lst (cutL ds lo hi))
  | .scr ns => some (.lst (cutL (ns.map .int) lo hi))
  | .str z => if small z.length then some (.str (Txt.slice z lo hi)) else none
  | .obj n => match st[n]? with | some (.lst ds) => some (.lst (cutL ds lo hi)) | _ => none
  | _ => none
def slL (st : SS) (d : D) (lo hi : Option Int) : Option (List D) :=
  match d with
  | .lst ds => some (cutL ds lo hi)
  | .scr ns => some (cutL (ns.map .int) lo hi)
  | .obj n => match st[n]? with | some (.lst ds) => some (cutL ds lo hi) | _ => none
  | _ => none
def sl3 (m : M D) (ml mh : M (Option Int)) : M D := bnd m fun x => bnd ml fun lo => bnd mh fun hi fr st => (slD st x lo hi).map fun d => .ok d fr st
def sl3L (i : Nat) (ml mh : M (Option Int)) : M D := bnd (peekv i) fun _ => bnd ml fun lo => bnd mh fun hi => bnd (peekv i) fun x fr st => (slD st x lo hi).map fun d => .ok d fr st
def sl3N (i : Nat) (ml mh : M (Option Int)) : M (List D) := bnd (peekv i) fun _ => bnd ml fun lo => bnd mh fun hi => bnd (peekv i) fun x fr st => (slL st x lo hi).map fun d => .ok d fr st
section
variable {X : Cx} {C : Cc} {pos p2 : Pos} {e : Expr} {lo hi : Option Expr}
theorem do_none : DO C X none noneO := ⟨fun pins s σ H Q I h => (po_none (X := X)).run pins s σ H Q I (by
  obtain ⟨Y, fr, st, R, h⟩ := h
  exact FO_ok (a := (none : Option Int)) (rel := fun (_ : Vw) (_ : Hp) (a b : Option Int) => b = a) R (.refl _ _) rfl h)⟩
theorem do_some {m : M D} (h : DE C X e m) : DO C X (some e) (someO m) := ⟨fun pins s σ H Q I h' => (po_some h).run pins s σ H Q I (by
  obtain ⟨Y, fr, st, R, h'⟩ := h'
  refine tM_bnd R h' fun d v H1 Y1 fr1 st1 R1 x1 r1 h1 => ?_
  obtain ⟨a, ea, h2⟩ := FO_opt h1
  cases d with
  | int i =>
    cases ea
    have r2 : Rep X.K Y1.G Y1.lab (.int i) v := r1
    unfold Rep at r2
    exact ⟨i, r2, FO_ok (rel := fun (_ : Vw) (_ : Hp) (a b : Option Int) => b = a) R1 (.refl _ _) rfl h2⟩
  | _ => cases ea)⟩
theorem reps_cut {K : PySem.W.Frag} {G : Hp} {lab : List Addr} {ds : List D} {xs : List V} (r : Reps K G lab ds xs) (lo hi : Option Int) : Reps K G lab (cutL ds lo hi) (cutV xs lo hi) := by
  unfold cutL cutV
  rw [reps_len r]
  exact reps_take _ (reps_drop _ r)
def rSlAny (K : PySem.W.Frag) : V → Option Int → Option Int → Hp → VK → Prop := fun x lo hi H Q => rSlA K x lo hi H Q ∨ (rSlL K x lo hi H Q ∨ C8.rSlX x lo hi H Q)
theorem sl_any : SlR X (rSlAny X.K) := sl_tupA.or (sl_list.or C8.sl_txt)
theorem cutL_all {α : Type} {xs : List α} {lo hi : Option Int} (h : HT.sIx xs.length 0 lo = 0 ∧ HT.sIx xs.length xs.length hi = xs.length) : cutL xs lo hi = xs := by
  unfold cutL
  rw [h.1, h.2]
  simp
theorem sl_ok {σ : L2.St} {Y : Vw} {H : Hp} {fr : Fr} {st : SS} {d d' : D} {v : V} {lo hi : Option Int} {Q : VK} (R : Rl X.K C.B Y σ H fr st) (r : rP X.K Y H d v) (e : slD st d lo hi = some d')
    (k : ∀ v H' Y', Rl X.K C.B Y' σ H' fr st → Ext Y H Y' H' → Rep X.K Y'.G Y'.lab d' v → Q v H') : rSlAny X.K v lo hi H Q := by
  have lst : ∀ {ds : List D} {l : Addr} {xs : List V}, SqL X.K H l xs → Reps X.K Y.G Y.lab ds xs → d' = .lst (cutL ds lo hi) → rSlAny X.K (.ref l) lo hi H Q := fun {ds l xs} s rs e' => by
    subst e'
    refine .inr (.inl ⟨l, xs, rfl, s, fun p hp => ?_⟩)
    obtain ⟨R2, x2⟩ := R.newG hp (.lst (cutV xs lo hi))
    refine k _ _ _ R2 x2 ?_
    unfold Rep
    exact ⟨p, _, rfl, upd_same, x2.reps (reps_cut rs lo hi)⟩
  cases d with
  | tup ds =>
    cases e
    obtain ⟨l, xs, rfl, s, rs⟩ := rP_tup R.toWd r
    have r' : Rep X.K Y.G Y.lab (.tup ds) (.ref l) := by
      rcases r with r | ⟨_, _, _, e, _⟩
      · exact r
      · cases e
    refine .inl ⟨l, xs, rfl, s, fun w => ?_, fun _ p hp => ?_⟩
    · rw [reps_len rs] at w
      rw [cutL_all w] at k
      exact k _ H Y R (.refl _ _) r'
    · obtain ⟨R2, x2⟩ := R.newG hp (.tup (cutV xs lo hi))
      refine k _ _ _ R2 x2 ?_
      unfold Rep
      exact ⟨p, _, rfl, .inl (.inl upd_same), x2.reps (reps_cut rs lo hi)⟩
  | lst ds =>
    cases e
    obtain ⟨l, xs, rfl, s, rs⟩ := rP_lst R.toWd r
    exact lst (.inl (.inl s)) rs rfl
  | scr ns =>
    cases e
    obtain ⟨l, rfl, s⟩ := rP_scr R.toWd r
    exact lst s reps_ints rfl
  | str z =>
    simp only [slD] at e
    split at e
    · rename_i g
      cases e
      exact .inr (.inr ⟨z, rP_str r, small_line g, k _ H Y R (.refl _ _) (by unfold Rep; rfl)⟩)
    · cases e
  | obj n =>
    simp only [slD] at e
    split at e
    · rename_i ds e1
      cases e
      obtain ⟨l, rfl, h2, xs, h4, h5⟩ := rP_obj R.toWd r e1
      exact lst (.inl (.inl h4)) h5 rfl
    · cases e
  | _ => cases e
theorem de_slice {m : M D} {ml mh : M (Option Int)} (he : DE C X e m) (hl : DO C X lo ml) (hu : DO C X hi mh) : DE C X (.Subscript e (.Slice lo hi none p2) pos) (sl3 m ml mh) := by
  refine pe_w (pe_slice sl_any he hl hu) fun σ H Q ⟨Y, fr, st, R, h⟩ => ?_
  refine tM_bnd R h fun d v H1 Y1 fr1 st1 R1 x1 r1 h1 => ?_
  refine tM_bnd R1 h1 fun l l' H2 Y2 fr2 st2 R2 x2 r2 h2 => ?_
  refine tM_bnd R2 h2 fun u u' H3 Y3 fr3 st3 R3 x3 r3 h3 => ?_
  subst r2 r3
  have h3' : FO X.K C (rE X.K) σ Y3 H3 Q ((slD st3 d l' u').map fun d => .ok d fr3 st3) := h3
  cases z : slD st3 d l' u' with
  | none => rw [z] at h3'; exact h3'.elim
  | some d' =>
    rw [z] at h3'
    exact sl_ok R3 (.inl (x3.rep (x2.rep r1))) z fun w H' Y' R' x' r' => FO_ok (rel := rE X.K) R' x' r' h3'
theorem bnd_peek {β : Type} {K : PySem.W.Frag} {rel : Vw → Hp → D → β → Prop} {i : Nat} {f : D → M D} {σ : L2.St} {Y : Vw} {H : Hp} {fr : Fr} {st : SS} {Q : β → Hp → Prop} (R : Rl K C.B Y σ H fr st) (h : FO K C rel σ Y H Q (bnd (peekv i) f fr st)) :
    ∃ d v, σ[i]? = some (some v) ∧ rP K Y H d v ∧ FO K C rel σ Y H Q (f d fr st) := by
  unfold bnd at h
  cases z : peekv i fr st with
  | none => rw [z] at h; exact h.elim
  | some o =>
    rw [z] at h
    obtain ⟨d, v, rfl, e1, r⟩ := peekv_ok R z
    exact ⟨d, v, e1, r, h⟩
theorem bnd_peekL {β : Type} {K : PySem.W.Frag} {rel : Vw → Hp → List D → β → Prop} {i : Nat} {f : D → M (List D)} {σ : L2.St} {Y : Vw} {H : Hp} {fr : Fr} {st : SS} {Q : β → Hp → Prop} (R : Rl K C.B Y σ H fr st) (h : FO K C rel σ Y H Q (bnd (peekv i) f fr st)) :
    ∃ d v, σ[i]? = some (some v) ∧ rP K Y H d v ∧ FO K C rel σ Y H Q (f d fr st) := by
  unfold bnd at h
  cases z : peekv i fr st with
  | none => rw [z] at h; exact h.elim
  | some o =>
    rw [z] at h
    obtain ⟨d, v, rfl, e1, r⟩ := peekv_ok R z
    exact ⟨d, v, e1, r, h⟩
theorem de_sliceL {ml mh : M (Option Int)} (i : Nat) {x : Str} {p : Pos} (hl : DO C X lo ml) (hu : DO C X hi mh) (hN : X.N[i]? = some x := by rfl) (hv : Vis X.env.scope x := by first | exact Or.inl rfl | exact Or.inr (Or.inl rfl) | exact Or.inr (Or.inr rfl)) (hd : (x == ("__debug__" : Str)) = false := by decide)
    (hcd : (x == ("__classdict__" : Str)) = false := by decide) : DE C X (.Subscript (.Name x p) (.Slice lo hi none p2) pos) (sl3L i ml mh) := by
  refine pe_w (pe_slice sl_any (pe_var hN hv hd hcd) hl hu) fun σ H Q ⟨Y, fr, st, R, h⟩ => ?_
  obtain ⟨d0, v, e1, _, h0⟩ := bnd_peek R h
  refine ⟨v, e1, ?_⟩
  refine tM_bnd R h0 fun l l' H2 Y2 fr2 st2 R2 x2 r2 h2 => ?_
  refine tM_bnd R2 h2 fun u u' H3 Y3 fr3 st3 R3 x3 r3 h3 => ?_
  subst r2 r3
  obtain ⟨d, v', e2, r', h4⟩ := bnd_peek R3 h3
  rw [e1] at e2
  cases e2
  have h3' : FO X.K C (rE X.K) σ Y3 H3 Q ((slD st3 d l' u').map fun d => .ok d fr3 st3) := h4
  cases z : slD st3 d l' u' with
  | none => rw [z] at h3'; exact h3'.elim
  | some d' =>
    rw [z] at h3'
    exact sl_ok R3 r' z fun w H' Y' R' x' r' => FO_ok (rel := rE X.K) R' x' r' h3'
theorem slL_ok {σ : L2.St} {Y : Vw} {H : Hp} {fr : Fr} {st : SS} {d : D} {ds' : List D} {v : V} {lo hi : Option Int} {Q : VK} (R : Rl X.K C.B Y σ H fr st) (r : rP X.K Y H d v) (e : slL st d lo hi = some ds')
    {Hs : Hp} (tr : ∀ a, H a = none → Hs a = none) (k : ∀ v H' Y', Rl X.K C.B Y' σ H' fr st → Ext Y H Y' H' → rN X.K C Hs Y' H' ds' v → Q v H') : rSlL X.K v lo hi H Q := by
  have lst : ∀ {ds : List D} {l : Addr} {xs : List V}, SqL X.K H l xs → Reps X.K Y.G Y.lab ds xs → ds' = cutL ds lo hi → rSlL X.K (.ref l) lo hi H Q := fun {ds l xs} s rs e' => by
    subst e'
    refine ⟨l, xs, rfl, s, fun p hp => ?_⟩
    obtain ⟨R2, F, x2⟩ := R.newL hp (reps_cut rs lo hi)
    exact k _ _ _ R2 x2 ⟨p, _, F, tr p hp⟩
  cases d with
  | lst ds =>
    cases e
    obtain ⟨l, xs, rfl, s, rs⟩ := rP_lst R.toWd r
    exact lst (.inl (.inl s)) rs rfl
  | scr ns =>
    cases e
    obtain ⟨l, rfl, s⟩ := rP_scr R.toWd r
    exact lst s reps_ints rfl
  | obj n =>
    simp only [slL] at e
    split at e
    · rename_i ds e1
      cases e
      obtain ⟨l, rfl, h2, xs, h4, h5⟩ := rP_obj R.toWd r e1
      exact lst (.inl (.inl h4)) h5 rfl
    · cases e
  | _ => cases e
theorem dn_sliceL {ml mh : M (Option Int)} (i : Nat) {x : Str} {p : Pos} (hl : DO C X lo ml) (hu : DO C X hi mh) (hN : X.N[i]? = some x := by rfl) (hv : Vis X.env.scope x := by first | exact Or.inl rfl | exact Or.inr (Or.inl rfl) | exact Or.inr (Or.inr rfl)) (hd : (x == ("__debug__" : Str)) = false := by decide)
    (hcd : (x == ("__classdict__" : Str)) = false := by decide) : DN C X (.Subscript (.Name x p) (.Slice lo hi none p2) pos) (sl3N i ml mh) := by
  refine pe_w (pe_slice sl_list (pe_var hN hv hd hcd) hl hu) fun σ H Q ⟨Y, fr, st, R, h⟩ => ?_
  obtain ⟨d0, v, e1, _, h0⟩ := bnd_peekL R h
  refine ⟨v, e1, ?_⟩
  refine tM_bnd R h0 fun l l' H2 Y2 fr2 st2 R2 x2 r2 h2 => ?_
  refine tM_bnd R2 h2 fun u u' H3 Y3 fr3 st3 R3 x3 r3 h3 => ?_
  subst r2 r3
  obtain ⟨d, v', e2, r', h4⟩ := bnd_peekL R3 h3
  rw [e1] at e2
  cases e2
  have h3' : FO X.K C (rN X.K C H) σ Y3 H3 Q ((slL st3 d l' u').map fun d => .ok d fr3 st3) := h4
  cases z : slL st3 d l' u' with
  | none => rw [z] at h3'; exact h3'.elim
  | some d' =>
    rw [z] at h3'
    exact slL_ok R3 r' z (fun a ha => x2.t a (x3.t a ha)) fun w H' Y' R' x' r' => FO_ok (rel := rN X.K C H) R' x' r' h3'
end
end DL
end

section
set_option Elab.async false
set_option linter.all false
set_option maxRecDepth 100000
set_option maxHeartbeats 4000000
/-! The D layer, part f: built-in functions; isinstance. -/
namespace DL
open PySem PySem.Spec PyProof.Rows L2

def un1 (f : SS → D → Option D) (m : M D) : M D := bnd m fun x fr st => (f st x).map fun d => .ok d fr st
def un1N (f : SS → D → Option (List D)) (m : M D) : M (List D) := bnd m fun x fr st => (f st x).map fun d => .ok d fr st
def UnOk (K : PySem.W.Frag) (C : Cc) (f : SS → D → Option D) (r : List V → Hp → VK → Prop) : Prop :=
  ∀ (σ : L2.St) (Y : Vw) (H : Hp) (fr : Fr) (st : SS) (d d' : D) (v : V) (Q : VK), Rl K C.B Y σ H fr st → rP K Y H d v → f st d = some d' →
    (∀ v H' Y', Rl K C.B Y' σ H' fr st → Ext Y H Y' H' → Rep K Y'.G Y'.lab d' v → Q v H') → r [v] H Q
def UnOkN (K : PySem.W.Frag) (C : Cc) (f : SS → D → Option (List D)) (r : List V → Hp → VK → Prop) : Prop :=
  ∀ (σ : L2.St) (Y : Vw) (Hs H : Hp) (fr : Fr) (st : SS) (d : D) (ds : List D) (v : V) (Q : VK), (∀ a, H a = none → Hs a = none) → Rl K C.B Y σ H fr st → rP K Y H d v → f st d = some ds →
    (∀ v H' Y', Rl K C.B Y' σ H' fr st → Ext Y H Y' H' → rN K C Hs Y' H' ds v → Q v H') → r [v] H Q
section
variable {X : Cx} {C : Cc} {pos p : Pos} {e a b : Expr} {es : List Expr} {m ma mb : M D} {k : Nat} {x : Str} {id T : String} {r : List V → Hp → VK → Prop}
/-- e is no starred expression -/
def NoStar (X : Cx) (e : Expr) : Prop := ∀ es, starEach (e :: es) X.env = (false, eval e X.env) :: starEach es X.env
theorem un1_ok {f : SS → D → Option D} (hf : UnOk X.K C f r) : ∀ σ H Q, tM X.K C (rE X.K) (un1 f m) σ H Q → tCB r (tCons (tM X.K C (rP X.K) m) tNil) σ H Q := fun σ H Q ⟨Y, fr, st, R, h⟩ => by
  refine tM_bnd R h fun d v H1 Y1 fr1 st1 R1 x1 r1 h1 => ?_
  have h1' : FO X.K C (rE X.K) σ Y1 H1 Q ((f st1 d).map fun d => .ok d fr1 st1) := h1
  cases z : f st1 d with
  | none => rw [z] at h1'; exact h1'.elim
  | some d' =>
    rw [z] at h1'
    exact hf σ Y1 H1 fr1 st1 d d' v Q R1 r1 z fun w H' Y' R' x' r' => FO_ok (rel := rE X.K) R' x' r' h1'
theorem un1N_ok {f : SS → D → Option (List D)} (hf : UnOkN X.K C f r) : ∀ σ H Q, tN X.K C (un1N f m) σ H Q → tCB r (tCons (tM X.K C (rP X.K) m) tNil) σ H Q := fun σ H Q ⟨Y, fr, st, R, h⟩ => by
  refine tM_bnd R h fun d v H1 Y1 fr1 st1 R1 x1 r1 h1 => ?_
  have h1' : FO X.K C (rN X.K C H) σ Y1 H1 Q ((f st1 d).map fun d => .ok d fr1 st1) := h1
  cases z : f st1 d with
  | none => rw [z] at h1'; exact h1'.elim
  | some d' =>
    rw [z] at h1'
    exact hf σ Y1 H H1 fr1 st1 d d' v Q x1.t R1 r1 z fun w H' Y' R' x' r' => FO_ok (rel := rN X.K C H) R' x' r' h1'
theorem de_b1 {f : SS → D → Option D} (hc : CallR X (.builtin id) r) (hf : UnOk X.K C f r) (hg : Gl X x) (hm : X.mg x = none) (hv : bootBuiltins x = some (.builtin id)) (he : DP C X e m) (hn : x ≠ "__name__" := by decide) (hdb : (x == ("__debug__" : Str)) = false := by decide) (hst : NoStar X e := by intro _; rfl) : DE C X (.Call (.Name x p) [e] [] pos) (un1 f m) :=
  pe_w (pe_callB hc hg hm hv (pa_cons he pa_nil (hst [])) hn hdb (hst []) (by rfl)) (un1_ok hf)
theorem de_t1 {f : SS → D → Option D} (hc : CallR X (.type T) r) (hf : UnOk X.K C f r) (hg : Gl X x) (hm : X.mg x = none) (hv : bootBuiltins x = some (.type T)) (he : DP C X e m) (hn : x ≠ "__name__" := by decide) (hdb : (x == ("__debug__" : Str)) = false := by decide) (hst : NoStar X e := by intro _; rfl) : DE C X (.Call (.Name x p) [e] [] pos) (un1 f m) :=
  pe_w (pe_callTy hc hg hm hv (pa_cons he pa_nil (hst [])) hn hdb (hst []) (by rfl)) (un1_ok hf)
theorem dn_t1 {f : SS → D → Option (List D)} (hc : CallR X (.type T) r) (hf : UnOkN X.K C f r) (hg : Gl X x) (hm : X.mg x = none) (hv : bootBuiltins x = some (.type T)) (he : DP C X e m) (hn : x ≠ "__name__" := by decide) (hdb : (x == ("__debug__" : Str)) = false := by decide) (hst : NoStar X e := by intro _; rfl) : DN C X (.Call (.Name x p) [e] [] pos) (un1N f m) :=
  pe_w (pe_callTy hc hg hm hv (pa_cons he pa_nil (hst [])) hn hdb (hst []) (by rfl)) (un1N_ok hf)

/-! ### len -/
def lenF (st : SS) : D → Option D
  | .str z => if small z.length then some (.int z.length) else none
  | .obj n => match st[n]? with | some (.dic kvs) => some (.int kvs.length) | some (.lst ds) => some (.int ds.length) | _ => none
  | d => match itemsS st d with | some ds => some (.int ds.length) | none => none
def rLen (K : PySem.W.Frag) : List V → Hp → VK → Prop := fun xs H Q => (∃ p ys, xs = [.ref p] ∧ (SqL K H p ys ∨ SqT K H p ys) ∧ Q (.int ys.length) H) ∨ ((∃ z, xs = [.str z] ∧ z.length ≤ sizeLine ∧ Q (.int z.length) H) ∨ (∃ a kvs, xs = [V.ref a] ∧ H a = some (.dK kvs) ∧ Q (.int kvs.length) H))
theorem cr_len : CallR X (.builtin "len") (rLen X.K) := call_len_seq.or (call_len_str.or call_lenD)
theorem repK_len {K : PySem.W.Frag} {G : Hp} {lab : List Addr} : ∀ {kvs : List (Key × D)} {ps : List (Key × V)}, RepK K G lab kvs ps → ps.length = kvs.length
  | [], _, h => by cases h; rfl
  | p :: kvs, _, ⟨v, vs, e, _, h⟩ => by rw [e, List.length_cons, List.length_cons, repK_len h]
theorem ok_len : UnOk X.K C lenF (rLen X.K) := by
  intro σ Y H fr st d d' v Q R r e k
  have seq : ∀ {ds : List D}, itemsS st d = some ds → d' = .int ds.length → rLen X.K [v] H Q := fun {ds} e1 e2 => by
    obtain ⟨l, xs, rfl, s, rs⟩ := itemsS_rep R.toWd r e1
    subst e2
    refine .inl ⟨l, xs, rfl, s, ?_⟩
    rw [reps_len rs]
    exact k _ H Y R (.refl _ _) (by unfold Rep; rfl)
  cases d with
  | str z =>
    simp only [lenF] at e
    split at e
    · rename_i g
      cases e
      refine .inr (.inl ⟨z, by rw [rP_str r], small_line g, k _ H Y R (.refl _ _) (by unfold Rep; rfl)⟩)
    · cases e
  | obj n =>
    simp only [lenF] at e
    split at e
    · rename_i kvs e1
      cases e
      obtain ⟨l, rfl, h2, ps, h4, h5⟩ := rP_obj R.toWd r e1
      refine .inr (.inr ⟨l, ps, rfl, h4, ?_⟩)
      rw [repK_len h5]
      exact k _ H Y R (.refl _ _) (by unfold Rep; rfl)
    · rename_i ds e1
      cases e
      exact seq (by simp [itemsS, e1]) rfl
    · cases e
  | tup ds => cases e; exact seq rfl rfl
  | lst ds => cases e; exact seq rfl rfl
  | scr ds =>
    cases e
    exact seq rfl rfl
  | _ => cases e
theorem de_len (hg : Gl X "len") (hm : X.mg "len" = none) (he : DP C X e m) (hst : NoStar X e := by intro _; rfl) : DE C X (.Call (.Name "len" p) [e] [] pos) (un1 lenF m) := de_b1 cr_len ok_len hg hm PySem.boot_len he (hst := hst)

/-! ### int, abs, tuple, list, sum, all, any -/
def intF : SS → D → Option D
  | _, .int i => some (.int i)
  | _, .bl b => some (.int (if b then 1 else 0))
  | _, _ => none
theorem ok_int1 : UnOk X.K C intF (fun xs H Q => (∃ i, xs = [.int i] ∧ Q (.int i) H) ∨ ∃ k, xs = [.bl k] ∧ Q (.int (if k then 1 else 0)) H) := by
  intro σ Y H fr st d d' v Q R r e k
  cases d with
  | int i => cases e; exact .inl ⟨i, by rw [rP_int r], k _ H Y R (.refl _ _) (by unfold Rep; rfl)⟩
  | bl i => cases e; exact .inr ⟨i, by rw [rP_bl r], k _ H Y R (.refl _ _) (by unfold Rep; rfl)⟩
  | _ => cases e
theorem de_int1 (hg : Gl X "int") (hm : X.mg "int" = none) (he : DP C X e m) (hst : NoStar X e := by intro _; rfl) : DE C X (.Call (.Name "int" p) [e] [] pos) (un1 intF m) := de_t1 call_int1 ok_int1 hg hm (by decide +kernel) he (hst := hst)
def absF : SS → D → Option D
  | _, .int i => some (.int (if i < 0 then -i else i))
  | _, _ => none
theorem ok_abs : UnOk X.K C absF (fun xs H Q => ∃ i, xs = [.int i] ∧ Q (.int (if i < 0 then -i else i)) H) := by
  intro σ Y H fr st d d' v Q R r e k
  cases d with
  | int i => cases e; exact ⟨i, by rw [rP_int r], k _ H Y R (.refl _ _) (by unfold Rep; rfl)⟩
  | _ => cases e
theorem de_abs (hg : Gl X "abs") (hm : X.mg "abs" = none) (he : DP C X e m) (hst : NoStar X e := by intro _; rfl) : DE C X (.Call (.Name "abs" p) [e] [] pos) (un1 absF m) := de_b1 call_abs ok_abs hg hm (by decide +kernel) he (hst := hst)
def tupF (st : SS) : D → Option D
  | .tup ds => some (.tup ds)
  | .lst ds => some (.tup ds)
  | .obj n => match st[n]? with | some (.lst ds) => some (.tup ds) | _ => none
  | _ => none
theorem ok_tuple : UnOk X.K C tupF (fun xs H Q => ∃ p ys, xs = [.ref p] ∧ ((SqL X.K H p ys ∧ ∀ l, H l = none → Q (.ref l) (upd H l (.tup ys))) ∨ (SqT X.K H p ys ∧ Q (.ref p) H))) := by
  intro σ Y H fr st d d' v Q R r e k
  have lst : ∀ {ds : List D} {l : Addr} {xs : List V}, v = .ref l → H l = some (.lst xs) → Reps X.K Y.G Y.lab ds xs → d' = .tup ds → ∃ p ys, [v] = [V.ref p] ∧ ((SqL X.K H p ys ∧ ∀ l, H l = none → Q (.ref l) (upd H l (.tup ys))) ∨ (SqT X.K H p ys ∧ Q (.ref p) H)) := fun {ds l xs} ev s rs e' => by
    subst e' ev
    refine ⟨l, xs, rfl, .inl ⟨.inl (.inl s), fun q hq => ?_⟩⟩
    obtain ⟨R2, x2⟩ := R.newG hq (.tup xs)
    refine k _ _ _ R2 x2 ?_
    unfold Rep
    exact ⟨q, _, rfl, .inl (.inl upd_same), x2.reps rs⟩
  cases d with
  | tup ds =>
    cases e
    obtain ⟨l, xs, rfl, s, rs⟩ := rP_tup R.toWd r
    refine ⟨l, xs, rfl, .inr ⟨s, k _ H Y R (.refl _ _) ?_⟩⟩
    rcases r with r | ⟨_, _, _, e, _⟩
    · exact r
    · cases e
  | lst ds =>
    cases e
    obtain ⟨l, xs, e1, s, rs⟩ := rP_lst R.toWd r
    exact lst e1 s rs rfl
  | obj n =>
    simp only [tupF] at e
    split at e
    · rename_i ds e1
      cases e
      obtain ⟨l, e3, h2, xs, h4, h5⟩ := rP_obj R.toWd r e1
      exact lst e3 h4 h5 rfl
    · cases e
  | _ => cases e
theorem de_tuple (hg : Gl X "tuple") (hm : X.mg "tuple" = none) (he : DP C X e m) (hst : NoStar X e := by intro _; rfl) : DE C X (.Call (.Name "tuple" p) [e] [] pos) (un1 tupF m) := de_t1 call_tuple_of ok_tuple hg hm (by decide +kernel) he (hst := hst)
theorem ok_list : UnOkN X.K C itemsS (fun xs H Q => ∃ p ys, xs = [.ref p] ∧ (SqL X.K H p ys ∨ SqT X.K H p ys) ∧ ∀ l, H l = none → Q (.ref l) (upd H l (.lst ys))) := by
  intro σ Y Hs H fr st d d' v Q tr R r e k
  obtain ⟨l, xs, rfl, s, rs⟩ := itemsS_rep R.toWd r e
  refine ⟨l, xs, rfl, s, fun q hq => ?_⟩
  obtain ⟨R2, F, x2⟩ := R.newL hq rs
  exact k _ _ _ R2 x2 ⟨q, _, F, tr q hq⟩
theorem dn_list (hg : Gl X "list") (hm : X.mg "list" = none) (he : DP C X e m) (hst : NoStar X e := by intro _; rfl) : DN C X (.Call (.Name "list" p) [e] [] pos) (un1N itemsS m) := dn_t1 call_list_of ok_list hg hm (by decide +kernel) he (hst := hst)
def intsD : List D → Option (List Int)
  | [] => some []
  | .int i :: ds => match intsD ds with | some is => some (i :: is) | none => none
  | _ => none
def boolsD : List D → Option (List Bool)
  | [] => some []
  | .bl i :: ds => match boolsD ds with | some is => some (i :: is) | none => none
  | _ => none
theorem intsD_rep {K : PySem.W.Frag} {G : Hp} {lab : List Addr} : ∀ {ds : List D} {xs : List V} {is : List Int}, Reps K G lab ds xs → intsD ds = some is → xs = is.map V.int
  | [], xs, is, r, e => by cases e; rw [reps_nil_inv r]; rfl
  | d :: ds, xs, is, r, e => by
    obtain ⟨v, vs, rfl, r1, r2⟩ := reps_cons_inv r
    cases d with
    | int i =>
      simp only [intsD] at e
      split at e
      · rename_i js e1
        cases e
        unfold Rep at r1
        rw [r1, intsD_rep r2 e1]
        rfl
      · cases e
    | _ => cases e
theorem boolsD_rep {K : PySem.W.Frag} {G : Hp} {lab : List Addr} : ∀ {ds : List D} {xs : List V} {is : List Bool}, Reps K G lab ds xs → boolsD ds = some is → xs = is.map V.bl
  | [], xs, is, r, e => by cases e; rw [reps_nil_inv r]; rfl
  | d :: ds, xs, is, r, e => by
    obtain ⟨v, vs, rfl, r1, r2⟩ := reps_cons_inv r
    cases d with
    | bl i =>
      simp only [boolsD] at e
      split at e
      · rename_i js e1
        cases e
        unfold Rep at r1
        rw [r1, boolsD_rep r2 e1]
        rfl
      · cases e
    | _ => cases e
def sumF (_ : SS) : D → Option D
  | .lst ds => match intsD ds with | some is => some (.int is.sum) | none => none
  | .scr ns => some (.int ns.sum)
  | _ => none
def allF (_ : SS) : D → Option D
  | .lst ds => match boolsD ds with | some is => some (.bl (is.all _root_.id)) | none => none
  | _ => none
def anyF (_ : SS) : D → Option D
  | .lst ds => match boolsD ds with | some is => some (.bl (is.any _root_.id)) | none => none
  | _ => none
theorem ok_sum : UnOk X.K C sumF (rSum X.K) := by
  intro σ Y H fr st d d' v Q R r e k
  cases d with
  | lst ds =>
    simp only [sumF] at e
    split at e
    · rename_i is e1
      cases e
      obtain ⟨l, xs, rfl, s, rs⟩ := rP_lst R.toWd r
      have ex := intsD_rep rs e1
      subst ex
      exact ⟨l, is, rfl, .inl (.inl s), k _ H Y R (.refl _ _) (by unfold Rep; rfl)⟩
    · cases e
  | scr ns =>
    cases e
    obtain ⟨l, rfl, s⟩ := rP_scr R.toWd r
    exact ⟨l, ns, rfl, s, k _ H Y R (.refl _ _) (by unfold Rep; rfl)⟩
  | _ => cases e
theorem ok_all : UnOk X.K C allF (rAll X.K) := by
  intro σ Y H fr st d d' v Q R r e k
  cases d with
  | lst ds =>
    simp only [allF] at e
    split at e
    · rename_i is e1
      cases e
      obtain ⟨l, xs, rfl, s, rs⟩ := rP_lst R.toWd r
      have ex := boolsD_rep rs e1
      subst ex
      exact ⟨l, is, rfl, .inl (.inl s), k _ H Y R (.refl _ _) (by unfold Rep; rfl)⟩
    · cases e
  | _ => cases e
theorem ok_any : UnOk X.K C anyF (rAny X.K) := by
  intro σ Y H fr st d d' v Q R r e k
  cases d with
  | lst ds =>
    simp only [anyF] at e
    split at e
    · rename_i is e1
      cases e
      obtain ⟨l, xs, rfl, s, rs⟩ := rP_lst R.toWd r
      have ex := boolsD_rep rs e1
      subst ex
      exact ⟨l, is, rfl, .inl (.inl s), k _ H Y R (.refl _ _) (by unfold Rep; rfl)⟩
    · cases e
  | _ => cases e
theorem de_sum (hc : X.calm = true) (hg : Gl X "sum") (hm : X.mg "sum" = none) (he : DP C X e m) (hst : NoStar X e := by intro _; rfl) : DE C X (.Call (.Name "sum" p) [e] [] pos) (un1 sumF m) := de_b1 (cr_sum hc) ok_sum hg hm (by decide +kernel) he (hst := hst)
theorem de_all (hc : X.calm = true) (hg : Gl X "all") (hm : X.mg "all" = none) (he : DP C X e m) (hst : NoStar X e := by intro _; rfl) : DE C X (.Call (.Name "all" p) [e] [] pos) (un1 allF m) := de_b1 (cr_all hc) ok_all hg hm (by decide +kernel) he (hst := hst)
theorem de_any (hc : X.calm = true) (hg : Gl X "any") (hm : X.mg "any" = none) (he : DP C X e m) (hst : NoStar X e := by intro _; rfl) : DE C X (.Call (.Name "any" p) [e] [] pos) (un1 anyF m) := de_b1 (cr_any hc) ok_any hg hm (by decide +kernel) he (hst := hst)

/-! ### two arguments -/
def BiOk (K : PySem.W.Frag) (C : Cc) (f : SS → D → D → Option D) (r : List V → Hp → VK → Prop) : Prop := OpOk K C f fun x y H Q => r [x, y] H Q
theorem bi_ok {f : SS → D → D → Option D} (hf : BiOk X.K C f r) : ∀ σ H Q, tM X.K C (rE X.K) (bin f ma mb) σ H Q → tCB r (tCons (tM X.K C (rE X.K) ma) (tCons (tM X.K C (rP X.K) mb) tNil)) σ H Q := fun σ H Q h => bin_ok hf σ H Q h
theorem de_b2 {f : SS → D → D → Option D} (hc : CallR X (.builtin id) r) (hf : BiOk X.K C f r) (hg : Gl X x) (hm : X.mg x = none) (hv : bootBuiltins x = some (.builtin id)) (ha : DE C X a ma) (hb : DP C X b mb) (hn : x ≠ "__name__" := by decide) (hdb : (x == ("__debug__" : Str)) = false := by decide) (hsa : NoStar X a := by intro _; rfl) (hsb : NoStar X b := by intro _; rfl) (hplb : (backTo pos (starEach [b] X.env)).any (·.1) = false := by rfl) : DE C X (.Call (.Name x p) [a, b] [] pos) (bin f ma mb) :=
  pe_w (pe_callB hc hg hm hv (pa_cons ha (pa_cons hb pa_nil (hsb [])) (hsa [b])) hn hdb (hsa [b]) hplb) (bi_ok hf)
theorem de_max2 (hc : X.calm = true) (hg : Gl X "max") (hm : X.mg "max" = none) (ha : DE C X a ma) (hb : DP C X b mb) (hsa : NoStar X a := by intro _; rfl) (hsb : NoStar X b := by intro _; rfl) (hplb : (backTo pos (starEach [b] X.env)).any (·.1) = false := by rfl) : DE C X (.Call (.Name "max" p) [a, b] [] pos) (bin (intOp (fun i j => .int (if j > i then j else i)) fun _ _ => true) ma mb) :=
  de_b2 (call_max2 hc) (by
    intro σ Y H fr st d1 d2 d v1 v2 Q R r1 r2 h k
    obtain ⟨i, j, rfl, rfl, e, rfl⟩ := intOp_inv h
    rw [rP_int r1, rP_int r2]
    exact ⟨i, j, rfl, k _ H Y R (.refl _ _) (by unfold Rep; rfl)⟩) hg hm (by decide +kernel) ha hb (hsa := hsa) (hsb := hsb) (hplb := hplb)
theorem de_min2 (hc : X.calm = true) (hg : Gl X "min") (hm : X.mg "min" = none) (ha : DE C X a ma) (hb : DP C X b mb) (hsa : NoStar X a := by intro _; rfl) (hsb : NoStar X b := by intro _; rfl) (hplb : (backTo pos (starEach [b] X.env)).any (·.1) = false := by rfl) : DE C X (.Call (.Name "min" p) [a, b] [] pos) (bin (intOp (fun i j => .int (if j < i then j else i)) fun _ _ => true) ma mb) :=
  de_b2 (call_min2 hc) (by
    intro σ Y H fr st d1 d2 d v1 v2 Q R r1 r2 h k
    obtain ⟨i, j, rfl, rfl, e, rfl⟩ := intOp_inv h
    rw [rP_int r1, rP_int r2]
    exact ⟨i, j, rfl, k _ H Y R (.refl _ _) (by unfold Rep; rfl)⟩) hg hm (by decide +kernel) ha hb (hsa := hsa) (hsb := hsb) (hplb := hplb)
def gcdF : SS → D → D → Option D := intOp (fun i j => .int ((Nat.gcd i.natAbs j.natAbs : Nat) : Int)) fun _ _ => true
theorem de_gcd (hg : Gl X "gcd") (hm : X.mg "gcd" = some (.builtin "math.gcd")) (ha : DE C X a ma) (hb : DP C X b mb) (hsa : NoStar X a := by intro _; rfl) (hsb : NoStar X b := by intro _; rfl) (hplb : (backTo pos (starEach [b] X.env)).any (·.1) = false := by rfl) : DE C X (.Call (.Name "gcd" p) [a, b] [] pos) (bin gcdF ma mb) :=
  pe_w (pe_callBfun cr_gcd hg hm (pa_cons ha (pa_cons hb pa_nil (hsb [])) (hsa [b])) (by decide) (hsa [b]) hplb) (bi_ok (by
    intro σ Y H fr st d1 d2 d v1 v2 Q R r1 r2 h k
    obtain ⟨i, j, rfl, rfl, e, rfl⟩ := intOp_inv h
    rw [rP_int r1, rP_int r2]
    exact ⟨i, j, rfl, k _ H Y R (.refl _ _) (by unfold Rep; rfl)⟩))

/-! ### minus -/
def negF : SS → D → Option D
  | _, .int i => some (.int (-i))
  | _, _ => none
theorem de_neg (he : DP C X e m) : DE C X (.UnaryOp .USub e pos) (un1 negF m) := by
  refine pe_w (pe_un un_neg he) fun σ H Q ⟨Y, fr, st, R, h⟩ => ?_
  refine tM_bnd R h fun d v H1 Y1 fr1 st1 R1 x1 r1 h1 => ?_
  have h1' : FO X.K C (rE X.K) σ Y1 H1 Q ((negF st1 d).map fun d => .ok d fr1 st1) := h1
  cases d with
  | int i => exact ⟨i, rP_int r1, FO_ok (a := D.int (-i)) (rel := rE X.K) R1 (.refl _ _) (by unfold rE Rep; rfl) h1'⟩
  | _ => exact h1'.elim

/-! ### isinstance -/
/-- the built-in classes asked about; the kinds of data -/
inductive Kc where
  | int | bool | str | list | tuple | dict
inductive Kd where
  | non | bl | int | str | tup | lst | dic
def Kc.name : Kc → String
  | .int => "int" | .bool => "bool" | .str => "str" | .list => "list" | .tuple => "tuple" | .dict => "dict"
def Kd.name : Kd → String
  | .non => "NoneType" | .bl => "bool" | .int => "int" | .str => "str" | .tup => "tuple" | .lst => "list" | .dic => "dict"
def isK : Kd → Kc → Bool
  | .bl, .bool => true | .bl, .int => true | .int, .int => true | .str, .str => true | .tup, .tuple => true | .lst, .list => true | .dic, .dict => true
  | _, _ => false
theorem kit_isK (a : Kd) (b : Kc) : kitB a.name b.name = some (isK a b) := by
  cases a <;> cases b <;> decide +kernel
def kindOf (st : SS) : D → Option Kd
  | .non => some .non | .bl _ => some .bl | .int _ => some .int | .str _ => some .str | .tup _ => some .tup | .lst _ => some .lst | .scr _ => some .lst
  | .obj n => match st[n]? with | some (.lst _) => some .lst | some (.dic _) => some .dic | _ => none
theorem kind_ty {K : PySem.W.Frag} {B : Bs} {Y : Vw} {H : Hp} {st : SS} (W : Wd K B Y H st) {d : D} {v : V} {kd : Kd} (r : rP K Y H d v) (e : kindOf st d = some kd) : TyX K H v (.type kd.name) := by
  have lst : ∀ {l : Addr} {xs : List V}, v = .ref l → SqL K H l xs → TyX K H v (.type "list") := fun {l xs} ev s => by
    subst ev
    rcases s with (s | ⟨o, s⟩) | ⟨o, its, n, h1, h2, _⟩
    · exact .base (.lst s)
    · exact .base (.frz s)
    · exact .kList h1 h2
  cases d with
  | non => cases e; rw [rP_non r]; exact .base .non
  | bl b => cases e; rw [rP_bl r]; exact .base (.bl b)
  | int b => cases e; rw [rP_int r]; exact .base (.int b)
  | str b => cases e; rw [rP_str r]; exact .base (.str b)
  | tup ds =>
    cases e
    obtain ⟨l, xs, rfl, s, _⟩ := rP_tup W r
    rcases s with (s | ⟨o, s⟩) | ⟨o, its, n, h1, h2, _⟩
    · exact .base (.tup s)
    · exact .fTuple s
    · exact .kTuple h1 h2
  | lst ds =>
    cases e
    obtain ⟨l, xs, e1, s, _⟩ := rP_lst W r
    exact lst e1 (.inl (.inl s))
  | scr ds =>
    cases e
    obtain ⟨l, e1, s⟩ := rP_scr W r
    exact lst e1 s
  | obj n =>
    simp only [kindOf] at e
    split at e
    · rename_i ds e1
      cases e
      obtain ⟨l, e3, h2, xs, h4, h5⟩ := rP_obj W r e1
      exact lst e3 (.inl (.inl h4))
    · rename_i kvs e1
      cases e
      obtain ⟨l, rfl, h2, ps, h4, h5⟩ := rP_obj W r e1
      exact .base (.dK h4)
    · cases e
def isiF (cs : List Kc) (st : SS) (d : D) : Option D := match kindOf st d with | some kd => some (.bl (cs.any fun c => isK kd c)) | none => none
theorem isiF_inv {cs : List Kc} {st : SS} {d d' : D} (h : isiF cs st d = some d') : ∃ kd, kindOf st d = some kd ∧ d' = .bl (cs.any fun c => isK kd c) := by
  unfold isiF at h
  split at h
  · rename_i kd e
    cases h
    exact ⟨kd, e, rfl⟩
  · cases h
theorem de_isi1 (c : Kc) {xc : Str} {pc : Pos} (hg : Gl X "isinstance") (hm : X.mg "isinstance" = none) (he : DE C X e m) (hgc : Gl X xc) (hmc : X.mg xc = none) (hvc : bootBuiltins xc = some (.type c.name))
    (hnc : xc ≠ "__name__" := by decide) (hdc : (xc == ("__debug__" : Str)) = false := by decide) (hst : NoStar X e := by intro _; rfl) : DE C X (.Call (.Name "isinstance" p) [e, .Name xc pc] [] pos) (un1 (isiF [c]) m) := by
  refine pe_w (pe_callB call_isi hg hm (by decide +kernel) (pa_cons he (pa_cons (pe_bltn (v := .ty c.name) hgc hmc hvc rfl hnc hdc) pa_nil) (hst _)) (by decide) (by decide) (hst _) (by rfl)) fun σ H Q ⟨Y, fr, st, R, h⟩ => ?_
  refine tM_bnd R h fun d v H1 Y1 fr1 st1 R1 x1 r1 h1 => ?_
  have h1' : FO X.K C (rE X.K) σ Y1 H1 Q ((isiF [c] st1 d).map fun d => .ok d fr1 st1) := h1
  cases z : isiF [c] st1 d with
  | none => rw [z] at h1'; exact h1'.elim
  | some d' =>
    rw [z] at h1'
    obtain ⟨kd, ek, rfl⟩ := isiF_inv z
    refine ⟨v, _, _, _, _, rfl, .ty c.name, kind_ty R1.toWd (.inl r1) ek, kit_ty (kit_isK kd c), ?_⟩
    refine FO_ok (rel := rE X.K) R1 (.refl _ _) ?_ h1'
    unfold rE Rep
    simp
theorem de_isi2 (c1 c2 : Kc) {x1 x2 : Str} {pc1 pc2 pt : Pos} {kt : Nat} (hg : Gl X "isinstance") (hm : X.mg "isinstance" = none) (he : DE C X e m) (hgc1 : Gl X x1) (hmc1 : X.mg x1 = none) (hvc1 : bootBuiltins x1 = some (.type c1.name)) (hgc2 : Gl X x2) (hmc2 : X.mg x2 = none) (hvc2 : bootBuiltins x2 = some (.type c2.name))
    (hn1 : x1 ≠ "__name__" := by decide) (hd1 : (x1 == ("__debug__" : Str)) = false := by decide) (hn2 : x2 ≠ "__name__" := by decide) (hd2 : (x2 == ("__debug__" : Str)) = false := by decide) (hst : NoStar X e := by intro _; rfl) :
    DE C X (.Call (.Name "isinstance" p) [e, .Tuple [.Name x1 pc1, .Name x2 pc2] kt pt] [] pos) (un1 (isiF [c1, c2]) m) := by
  refine pe_w (pe_callB call_isiT hg hm (by decide +kernel) (pa_cons he (pa_cons (pe_tup (pa_cons (pe_bltn (v := .ty c1.name) hgc1 hmc1 hvc1 rfl hn1 hd1) (pa_cons (pe_bltn (v := .ty c2.name) hgc2 hmc2 hvc2 rfl hn2 hd2) pa_nil))) pa_nil) (hst _)) (by decide) (by decide) (hst _) (by rfl)) fun σ H Q ⟨Y, fr, st, R, h⟩ => ?_
  refine tM_bnd R h fun d v H1 Y1 fr1 st1 R1 x1 r1 h1 => ?_
  have h1' : FO X.K C (rE X.K) σ Y1 H1 Q ((isiF [c1, c2] st1 d).map fun d => .ok d fr1 st1) := h1
  cases z : isiF [c1, c2] st1 d with
  | none => rw [z] at h1'; exact h1'.elim
  | some d' =>
    rw [z] at h1'
    obtain ⟨kd, ek, rfl⟩ := isiF_inv z
    refine ⟨by show 2 ≤ sizeLine; decide, fun q hq => ?_⟩
    obtain ⟨R2, x2⟩ := R1.newG hq (.tup [.ty c1.name, .ty c2.name])
    have any : PySem.W.kitAny X.K (.type kd.name) [.type c1.name, .type c2.name] = some (isK kd c1 || isK kd c2) := by
      refine kitAny_cons (kit_ty (kit_isK kd c1)) (fun z1 => kitAny_cons (kit_ty (kit_isK kd c2)) (fun z2 => ?_) fun z2 => ?_) fun z1 => ?_
      · rw [z1, z2]; exact kitAny_nil
      · rw [z1, z2]; rfl
      · rw [z1]; rfl
    refine ⟨v, q, _, _, _, _, rfl, upd_same, .cons (.ty c1.name) (.cons (.ty c2.name) .nil), kind_ty R2.toWd (.inl (x2.rep r1)) ek, any, FO_ok (rel := rE X.K) R2 x2 ?_ h1'⟩
    unfold rE Rep
    simp
end
end DL
end

section
set_option Elab.async false
set_option linter.all false
set_option maxRecDepth 100000
set_option maxHeartbeats 4000000
/-! The D layer, part g: tests, and, or, not, if-expressions, chains; statements without loops. -/
namespace DL
open PySem PySem.Spec PyProof.Rows L2

/-! ### comparisons in one word -/
def CmpR (C : Cc) (X : Cx) (op : CmpOp) (b : Expr) (f : SS → D → D → Option D) : Prop := ∃ r, OpR X (compareOp op) r ∧ OpOk X.K C f r ∧ behindInMarks op b = false
section
variable {X : Cx} {C : Cc} {pos : Pos} {e a b c : Expr} {es : List Expr} {m ma mb mc : M D} {k : Nat} {op : CmpOp} {f g : SS → D → D → Option D}
theorem c_lt : CmpR C X .Lt b ltF := ⟨_, op_lt, ok_intB, nomark _⟩
theorem c_le : CmpR C X .LtE b leF := ⟨_, op_le, ok_intB, nomark _⟩
theorem c_gt : CmpR C X .Gt b gtF := ⟨_, op_gt, ok_intB, nomark _⟩
theorem c_ge : CmpR C X .GtE b geF := ⟨_, op_ge, ok_intB, nomark _⟩
theorem c_eq (hr : Room k X.A) : CmpR C X .Eq b eqF := ⟨_, op_eqD hr.units, ok_eq, nomark _⟩
theorem c_ne (hr : Room k X.A) : CmpR C X .NotEq b neF := ⟨_, op_neD hr.units, ok_ne, nomark _⟩
theorem c_is : CmpR C X .Is b isF := ⟨_, op_isN.or op_is_bl, ok_isN.or ok_isB, nomark _⟩
theorem c_isnot : CmpR C X .IsNot b notIsF := ⟨_, op_notN.or op_isnot_bl, ok_notN.or ok_isnotB, nomark _⟩
theorem c_in (hr : Room k X.A) (hk : 1 ≤ k) (hm : behindInMarks .In b = false := by first | rfl | with_unfolding_all rfl) : CmpR C X .In b inF := ⟨_, (op_inD (room65 hr hk)).or (op_in_seq.or op_in_str), ok_inL.or (ok_inT.or ok_inS), hm⟩
theorem c_notIn (hr : Room k X.A) (hk : 1 ≤ k) (hm : behindInMarks .NotIn b = false := by first | rfl | with_unfolding_all rfl) : CmpR C X .NotIn b notInF := ⟨_, (op_notInD (room65 hr hk)).or (op_notIn_seq.or op_notin_str), ok_ninL.or (ok_inT.or ok_ninS), hm⟩
theorem de_c (h : CmpR C X op b f) (ha : DE C X a ma) (hb : DP C X b mb) : DE C X (.Compare a [op] [b] pos) (bin f ma mb) := by
  obtain ⟨r, h1, h2, h3⟩ := h
  exact de_cmp h1 h2 ha hb h3
theorem de_cL (i : Nat) {x : Str} {p : Pos} (h : CmpR C X op b f) (hb : DP C X b mb) (hN : X.N[i]? = some x := by rfl) (hv : Vis X.env.scope x := by first | exact Or.inl rfl | exact Or.inr (Or.inl rfl) | exact Or.inr (Or.inr rfl)) (hd : (x == ("__debug__" : Str)) = false := by decide)
    (hcd : (x == ("__classdict__" : Str)) = false := by decide) : DE C X (.Compare (.Name x p) [op] [b] pos) (binL f i mb) := by
  obtain ⟨r, h1, h2, h3⟩ := h
  exact de_cmpL i h1 h2 hb h3 hN hv hd hcd

/-! ### tests -/
def tst (m : M D) : M Bool := bnd m fun d => opt (match d with | .bl b => some b | _ => none)
theorem tst_ok {t : TE} (h : ∀ σ H Q, tM X.K C (rE X.K) m σ H Q → t σ H Q) : ∀ σ H Q, tM X.K C rT (tst m) σ H Q → t σ H fun x H' => ∃ k, x = .bl k ∧ Q k H' := fun σ H Q ⟨Y, fr, st, R, h'⟩ => by
  refine h _ _ _ ?_
  refine tM_bnd R h' fun d v H1 Y1 fr1 st1 R1 x1 r1 h1 => ?_
  obtain ⟨b, eb, h2⟩ := FO_opt h1
  cases d with
  | bl b' =>
    cases eb
    have r2 : Rep X.K Y1.G Y1.lab (.bl b) v := r1
    unfold Rep at r2
    exact ⟨b, r2, FO_ok (rel := rT) R1 (.refl _ _) rfl h2⟩
  | _ => cases eb
theorem dt_val (h : DE C X e m) (he : ∀ whole, isTrue e X.env whole = (do let v ← whole; standAt e.pos; holding [v] (truthy v)) := by intro _; rfl) : DT C X e (tst m) :=
  pt_w (pt_val h he) (tst_ok fun _ _ _ z => z)
theorem dt_c (h : CmpR C X op b f) (ha : DE C X a ma) (hb : DP C X b mb) : DT C X (.Compare a [op] [b] pos) (tst (bin f ma mb)) := by
  obtain ⟨r, h1, h2, h3⟩ := h
  exact pt_w (pt_cmpR h1 ha hb h3) (tst_ok (bin_ok h2))
theorem dt_cL (i : Nat) {x : Str} {p : Pos} (h : CmpR C X op b f) (hb : DP C X b mb) (hN : X.N[i]? = some x := by rfl) (hv : Vis X.env.scope x := by first | exact Or.inl rfl | exact Or.inr (Or.inl rfl) | exact Or.inr (Or.inr rfl)) (hd : (x == ("__debug__" : Str)) = false := by decide)
    (hcd : (x == ("__classdict__" : Str)) = false := by decide) : DT C X (.Compare (.Name x p) [op] [b] pos) (tst (binL f i mb)) := by
  obtain ⟨r, h1, h2, h3⟩ := h
  exact pt_w (pt_cmpR h1 (pe_var hN hv hd hcd) hb h3) (tst_ok (binL_ok h2))
abbrev DW (C : Cc) (X : Cx) (e : Expr) (m : M Bool) : Prop := PW X e (tM X.K C rT m)
variable {t u : M Bool} {rest : List Expr}
def andT (t u : M Bool) : M Bool := bnd t fun c => if c then u else ret false
def orT (t u : M Bool) : M Bool := bnd t fun c => if c then ret true else u
def notT (t : M Bool) : M Bool := bnd t fun c => ret (!c)
theorem dw_and1 (ha : DT C X a t) : DW C X (.BoolOp .And [a] pos) t := pw_and1 ha
theorem dw_or1 (ha : DT C X a t) : DW C X (.BoolOp .Or [a] pos) t := pw_or1 ha
theorem dw_and (ha : DT C X a t) (hb : DW C X (.BoolOp .And (b :: rest) pos) u) : DW C X (.BoolOp .And (a :: b :: rest) pos) (andT t u) := by
  refine pw_w (pw_and ha hb) fun σ H Q ⟨Y, fr, st, R, h⟩ => ?_
  refine tM_bnd R h fun c c' H1 Y1 fr1 st1 R1 x1 r1 h1 => ?_
  subst r1
  cases c' with
  | true => exact ⟨Y1, fr1, st1, R1, h1⟩
  | false => exact FO_ok (a := false) (rel := rT) R1 (.refl _ _) rfl h1
theorem dw_or (ha : DT C X a t) (hb : DW C X (.BoolOp .Or (b :: rest) pos) u) : DW C X (.BoolOp .Or (a :: b :: rest) pos) (orT t u) := by
  refine pw_w (pw_or ha hb) fun σ H Q ⟨Y, fr, st, R, h⟩ => ?_
  refine tM_bnd R h fun c c' H1 Y1 fr1 st1 R1 x1 r1 h1 => ?_
  subst r1
  cases c' with
  | true => exact FO_ok (a := true) (rel := rT) R1 (.refl _ _) rfl h1
  | false => exact ⟨Y1, fr1, st1, R1, h1⟩
theorem dt_w (h : DW C X e t) : DT C X e t := h.pt
theorem dt_not (ha : DT C X a t) : DT C X (.UnaryOp .Not a pos) (notT t) := by
  refine pt_w (pt_not ha) fun σ H Q ⟨Y, fr, st, R, h⟩ => ?_
  refine tM_bnd R h fun c c' H1 Y1 fr1 st1 R1 x1 r1 h1 => ?_
  subst r1
  exact FO_ok (a := !c') (rel := rT) R1 (.refl _ _) rfl h1
/-! ### as values -/
def andV (m n : M D) : M D := bnd m fun d => match d with | .bl true => n | .bl false => ret (.bl false) | _ => stuck
def orV (m n : M D) : M D := bnd m fun d => match d with | .bl false => n | .bl true => ret (.bl true) | _ => stuck
def notV (m : M D) : M D := bnd m fun d => match d with | .bl b => ret (.bl (!b)) | _ => stuck
theorem de_one {o : BoolOp} (h : DE C X a m) : DE C X (.BoolOp o [a] pos) m := pe_one h
theorem de_and (ha : DE C X a ma) (hb : DE C X (.BoolOp .And (b :: rest) pos) mb) : DE C X (.BoolOp .And (a :: b :: rest) pos) (andV ma mb) := by
  refine pe_w (pe_and ha hb) fun σ H Q ⟨Y, fr, st, R, h⟩ => ?_
  refine tM_bnd R h fun d v H1 Y1 fr1 st1 R1 x1 r1 h1 => ?_
  cases d with
  | bl c =>
    have r2 : Rep X.K Y1.G Y1.lab (.bl c) v := r1
    unfold Rep at r2
    refine ⟨c, r2, ?_⟩
    cases c with
    | true => exact ⟨Y1, fr1, st1, R1, h1⟩
    | false => exact FO_ok (a := D.bl false) (rel := rE X.K) R1 (.refl _ _) (by unfold rE Rep; rfl) h1
  | _ => exact h1.elim
theorem de_or (ha : DE C X a ma) (hb : DE C X (.BoolOp .Or (b :: rest) pos) mb) : DE C X (.BoolOp .Or (a :: b :: rest) pos) (orV ma mb) := by
  refine pe_w (pe_or ha hb) fun σ H Q ⟨Y, fr, st, R, h⟩ => ?_
  refine tM_bnd R h fun d v H1 Y1 fr1 st1 R1 x1 r1 h1 => ?_
  cases d with
  | bl c =>
    have r2 : Rep X.K Y1.G Y1.lab (.bl c) v := r1
    unfold Rep at r2
    refine ⟨c, r2, ?_⟩
    cases c with
    | false => exact ⟨Y1, fr1, st1, R1, h1⟩
    | true => exact FO_ok (a := D.bl true) (rel := rE X.K) R1 (.refl _ _) (by unfold rE Rep; rfl) h1
  | _ => exact h1.elim
theorem de_not (ha : DE C X a ma) : DE C X (.UnaryOp .Not a pos) (notV ma) := by
  refine pe_w (pe_not ha) fun σ H Q ⟨Y, fr, st, R, h⟩ => ?_
  refine tM_bnd R h fun d v H1 Y1 fr1 st1 R1 x1 r1 h1 => ?_
  cases d with
  | bl c =>
    have r2 : Rep X.K Y1.G Y1.lab (.bl c) v := r1
    unfold Rep at r2
    exact ⟨c, r2, FO_ok (a := D.bl (!c)) (rel := rE X.K) R1 (.refl _ _) (by unfold rE Rep; rfl) h1⟩
  | _ => exact h1.elim
def ifE {α : Type} (t : M Bool) (m n : M α) : M α := bnd t fun c => if c then m else n
theorem de_if (hc : DT C X c t) (ha : DE C X a ma) (hb : DE C X b mb) : DE C X (.IfExp c a b pos) (ifE t ma mb) := by
  refine pe_w (pe_ifExp hc ha hb) fun σ H Q ⟨Y, fr, st, R, h⟩ => ?_
  refine tM_bnd R h fun c c' H1 Y1 fr1 st1 R1 x1 r1 h1 => ?_
  subst r1
  cases c' with
  | true => exact ⟨Y1, fr1, st1, R1, h1⟩
  | false => exact ⟨Y1, fr1, st1, R1, h1⟩
/-! ### a < b < c -/
def chn (f g : SS → D → D → Option D) (ma mb mc : M D) : M D := bnd ma fun x => bnd mb fun y => bnd (op2 f x y) fun z => match z with | .bl true => bnd mc fun w => op2 g y w | .bl false => ret (.bl false) | _ => stuck
theorem chn_ok {r r' : R2} (hf : OpOk X.K C f r) (hg : OpOk X.K C g r') : ∀ σ H Q, tM X.K C (rE X.K) (chn f g ma mb mc) σ H Q → tChain r r' (tM X.K C (rE X.K) ma) (tM X.K C (rE X.K) mb) (tM X.K C (rP X.K) mc) σ H Q := fun σ H Q ⟨Y, fr, st, R, h⟩ => by
  refine tM_bnd R h fun d1 v1 H1 Y1 fr1 st1 R1 x1 r1 h1 => ?_
  refine tM_bnd R1 h1 fun d2 v2 H2 Y2 fr2 st2 R2 x2 r2 h2 => ?_
  unfold bnd op2 at h2
  cases z : f st2 d1 d2 with
  | none => rw [z] at h2; exact h2.elim
  | some d =>
    rw [z] at h2
    refine hf σ Y2 H2 fr2 st2 d1 d2 d v1 v2 _ R2 (.inl (x2.rep r1)) (.inl r2) z fun v3 H3 Y3 R3 x3 r3 => ?_
    cases d with
    | bl k =>
      unfold Rep at r3
      refine ⟨k, r3, ?_⟩
      cases k with
      | true =>
        rw [if_pos rfl]
        have h3 : FO X.K C (rE X.K) σ Y3 H3 Q (bnd mc (fun w => op2 g d2 w) fr2 st2) := FO.ext x3 h2
        refine tM_bnd R3 h3 fun d4 v4 H4 Y4 fr4 st4 R4 x4 r4 h4 => ?_
        exact FO_op2 hg R4 (.inl (x4.rep (x3.rep r2))) r4 h4
      | false =>
        rw [if_neg Bool.false_ne_true]
        exact FO_ok (a := D.bl false) (rel := rE X.K) R3 x3 (by unfold rE Rep; rfl) h2
    | _ => exact h2.elim
theorem de_chain {op' : CmpOp} (h : CmpR C X op b f) (h' : CmpR C X op' c g) (ha : DE C X a ma) (hb : DE C X b mb) (hc : DP C X c mc) (hm : lastMarks [op, op'] [b, c] = false := by with_unfolding_all rfl) : DE C X (.Compare a [op, op'] [b, c] pos) (chn f g ma mb mc) := by
  obtain ⟨r, h1, h2, _⟩ := h
  obtain ⟨r', h1', h2', _⟩ := h'
  exact pe_w (pe_chain h1 h1' ha hb hc hm) (chn_ok h2 h2')
theorem dt_chain {op' : CmpOp} (h : CmpR C X op b f) (h' : CmpR C X op' c g) (ha : DE C X a ma) (hb : DE C X b mb) (hc : DP C X c mc) (hm : lastMarks [op, op'] [b, c] = false := by with_unfolding_all rfl) : DT C X (.Compare a [op, op'] [b, c] pos) (tst (chn f g ma mb mc)) := by
  obtain ⟨r, h1, h2, _⟩ := h
  obtain ⟨r', h1', h2', _⟩ := h'
  exact pt_w (pt_chain h1 h1' ha hb hc hm) (tst_ok (chn_ok h2 h2'))
end

/-! ### statements -/
inductive Fl where
  | nx | rt (d : D) | bk | ct
/-- what is wished behind a statement -/
def FS (K : PySem.W.Frag) (C : Cc) (Y : Vw) (H0 : Hp) (E : Ends) : Option (Out Fl) → Prop
  | none => False
  | some (.ok .nx fr st) => ∀ σ H Y', Rl K C.B Y' σ H fr st → Ext Y H0 Y' H → E.nx σ H
  | some (.ok .bk fr st) => ∀ σ H Y', Rl K C.B Y' σ H fr st → Ext Y H0 Y' H → E.bk σ H
  | some (.ok .ct fr st) => ∀ σ H Y', Rl K C.B Y' σ H fr st → Ext Y H0 Y' H → E.ct σ H
  | some (.ok (.rt d) fr st) => ∀ v σ H Y', Rl K C.B Y' σ H fr st → Ext Y H0 Y' H → Rep K Y'.G Y'.lab d v → E.rt v H
  | some (.exn c d fr st) => ∀ σ, FX K C σ Y H0 c d fr st
def tS (K : PySem.W.Frag) (C : Cc) (m : M Fl) : TS := fun E σ H => ∃ Y fr st, Rl K C.B Y σ H fr st ∧ FS K C Y H E (m fr st)
abbrev DS (C : Cc) (X : Cx) (s : Stmt) (m : M Fl) : Prop := PS X s (tS X.K C m)
abbrev DSs (C : Cc) (X : Cx) (s : List Stmt) (m : M Fl) : Prop := PSs X s (tS X.K C m)
section
variable {K : PySem.W.Frag} {C : Cc} {σ : L2.St} {Y Y1 : Vw} {H H1 : Hp} {fr : Fr} {st : SS} {E : Ends}
theorem FS.ext (e : Ext Y H Y1 H1) : ∀ {o : Option (Out Fl)}, FS K C Y H E o → FS K C Y1 H1 E o
  | none, h => h
  | some (.ok .nx fr st), h => fun σ H Y' R x => h σ H Y' R (e.trans x)
  | some (.ok .bk fr st), h => fun σ H Y' R x => h σ H Y' R (e.trans x)
  | some (.ok .ct fr st), h => fun σ H Y' R x => h σ H Y' R (e.trans x)
  | some (.ok (.rt d) fr st), h => fun v σ H Y' R x r => h v σ H Y' R (e.trans x) r
  | some (.exn c d fr st), h => fun σ => (h σ).ext e
theorem tS_bnd {α β : Type} {rel : Vw → Hp → α → β → Prop} {m : M α} {f : α → M Fl} {P : β → Hp → Prop} (R : Rl K C.B Y σ H fr st) (h : FS K C Y H E (bnd m f fr st))
    (k : ∀ a b H1 Y1 fr1 st1, Rl K C.B Y1 σ H1 fr1 st1 → Ext Y H Y1 H1 → rel Y1 H1 a b → FS K C Y1 H1 E (f a fr1 st1) → P b H1) : tM K C rel m σ H P := by
  refine ⟨Y, fr, st, R, ?_⟩
  unfold bnd at h
  cases e : m fr st with
  | none => rw [e] at h; exact h
  | some o =>
    rw [e] at h
    cases o with
    | ok a fr1 st1 => exact fun b H1 Y1 R1 x r => k a b H1 Y1 fr1 st1 R1 x r (FS.ext x h)
    | exn c d fr1 st1 => exact h σ
theorem tS_bndN {m : M (List D)} {f : List D → M Fl} {P : VK} (R : Rl K C.B Y σ H fr st) (h : FS K C Y H E (bnd m f fr st))
    (k : ∀ a b H1 Y1 fr1 st1, Rl K C.B Y1 σ H1 fr1 st1 → Ext Y H Y1 H1 → rN K C H Y1 H1 a b → FS K C Y H E (f a fr1 st1) → P b H1) : tN K C m σ H P := by
  refine ⟨Y, fr, st, R, ?_⟩
  unfold bnd at h
  cases e : m fr st with
  | none => rw [e] at h; exact h
  | some o =>
    rw [e] at h
    cases o with
    | ok a fr1 st1 => exact fun b H1 Y1 R1 x r => k a b H1 Y1 fr1 st1 R1 x r h
    | exn c d fr1 st1 => exact h σ
end
section
variable {X : Cx} {C : Cc} {pos pos' : Pos} {e a b c : Expr} {es : List Expr} {m ma mb mc : M D} {s : Stmt} {ss : List Stmt}
theorem ps_w {t t' : TS} (h : PS X s t) (w : ∀ E σ H, t' E σ H → t E σ H) : PS X s t' := ⟨fun pins s σ H D I q => h.run pins s σ H D I (w D σ H q)⟩
theorem pss_w {t t' : TS} (h : PSs X ss t) (w : ∀ E σ H, t' E σ H → t E σ H) : PSs X ss t' := ⟨fun pins s σ H D I q => h.run pins s σ H D I (w D σ H q)⟩
def seqM (m n : M Fl) : M Fl := bnd m fun f => match f with | .nx => n | .rt d => ret (.rt d) | .bk => ret .bk | .ct => ret .ct
theorem dss_one {m : M Fl} (h : DS C X s m) : DSs C X [s] m := pss_one h
theorem dss_nil : DSs C X [] (ret .nx) := pss_w pss_nil fun E σ H ⟨Y, fr, st, R, h⟩ => h σ H Y R (.refl _ _)
theorem dss_cons {m n : M Fl} (h : DS C X s m) (hs : DSs C X ss n) : DSs C X (s :: ss) (seqM m n) := by
  refine pss_w (pss_cons h hs) fun E σ H ⟨Y, fr, st, R, h⟩ => ?_
  refine ⟨Y, fr, st, R, ?_⟩
  unfold seqM bnd at h
  cases e : m fr st with
  | none => rw [e] at h; exact h
  | some o =>
    rw [e] at h
    cases o with
    | ok f fr1 st1 =>
      cases f with
      | nx => exact fun σ' H' Y' R' x' => ⟨Y', fr1, st1, R', FS.ext x' h⟩
      | rt d => exact h
      | bk => exact h
      | ct => exact h
    | exn c d fr1 st1 => exact h
def retM (m : M D) : M Fl := bnd m fun d => ret (.rt d)
theorem ds_ret (h : DE C X e m) : DS C X (.Return (some e) pos) (retM m) := by
  refine ps_w (ps_ret h) fun E σ H ⟨Y, fr, st, R, h⟩ => ?_
  refine tS_bnd R h fun d v H1 Y1 fr1 st1 R1 x1 r1 h1 => ?_
  exact h1 v σ H1 Y1 R1 (.refl _ _) r1
theorem ds_retN : DS C X (.Return none pos) (ret (.rt .non)) := ps_w ps_retN fun E σ H ⟨Y, fr, st, R, h⟩ => h .non σ H Y R (.refl _ _) (by unfold Rep; rfl)
theorem ds_pass : DS C X (.Pass pos) (ret .nx) := ps_w ps_pass fun E σ H ⟨Y, fr, st, R, h⟩ => h σ H Y R (.refl _ _)
def exprM (m : M D) : M Fl := bnd m fun _ => ret .nx
theorem ds_expr (h : DE C X e m) (hs : swapsWith e none pos.line X.env = pure false := by rfl) : DS C X (.Expr e pos) (exprM m) := by
  refine ps_w (ps_expr h hs) fun E σ H ⟨Y, fr, st, R, h⟩ => ?_
  refine tS_bnd R h fun d v H1 Y1 fr1 st1 R1 x1 r1 h1 => ?_
  exact h1 σ H1 Y1 R1 (.refl _ _)
def ifM (t : M Bool) (m n : M Fl) : M Fl := bnd t fun c => if c then m else n
theorem ds_if {t : M Bool} {m n : M Fl} {p q : List Stmt} (hc : DT C X c t) (hp : DSs C X p m) (hq : DSs C X q n) : DS C X (.If c p q pos) (ifM t m n) := by
  refine ps_w (ps_if hc hp hq) fun E σ H ⟨Y, fr, st, R, h⟩ => ?_
  refine tS_bnd R h fun c c' H1 Y1 fr1 st1 R1 x1 r1 h1 => ?_
  subst r1
  cases c' with
  | true => exact ⟨Y1, fr1, st1, R1, h1⟩
  | false => exact ⟨Y1, fr1, st1, R1, h1⟩

/-! ### stores at names -/
def setv (i : Nat) (d : D) : M Fl := fun fr st => if i < fr.length then some (.ok .nx (fr.set i (.val d)) st) else none
def seto (i : Nat) (ds : List D) : M Fl := fun fr st => if i < fr.length then some (.ok .nx (fr.set i (.own ds)) st) else none
def setM (i : Nat) (m : M D) : M Fl := bnd m fun d => setv i d
def setN (i : Nat) (m : M (List D)) : M Fl := bnd m fun d => seto i d
theorem FS_setv {K : PySem.W.Frag} {σ : L2.St} {Y : Vw} {H : Hp} {fr : Fr} {st : SS} {E : Ends} {i : Nat} {d : D} {v : V} (R : Rl K C.B Y σ H fr st) (r : Rep K Y.G Y.lab d v) (h : FS K C Y H E (setv i d fr st)) : E.nx (σ.set i (some v)) H := by
  unfold setv at h
  split at h
  · rename_i hi
    obtain ⟨R2, x2⟩ := R.setVal r hi
    exact h _ _ _ R2 x2
  · exact h.elim
theorem FS_seto {K : PySem.W.Frag} {σ : L2.St} {Ys Y : Vw} {Hs H : Hp} {fr : Fr} {st : SS} {E : Ends} {i : Nat} {ds : List D} {v : V} (R : Rl K C.B Y σ H fr st) (x : Ext Ys Hs Y H) (r : rN K C Hs Y H ds v) (h : FS K C Ys Hs E (seto i ds fr st)) : E.nx (σ.set i (some v)) H := by
  unfold seto at h
  split at h
  · rename_i hi
    obtain ⟨l, xs, F, hn⟩ := r
    obtain ⟨R2, x2⟩ := R.setNew F x hn hi
    exact h _ _ _ R2 x2
  · exact h.elim
theorem ds_set (i : Nat) {x : Str} (hN : X.N.Nodup) (he : DE C X e m) (hi : X.N[i]? = some x := by rfl) (hx : Loc X.env.scope x := by first | exact Or.inl rfl | exact Or.inr rfl) (hs : swapsWith e (some (.Name x pos')) pos.line X.env = pure false := by rfl) (hf : X.fn x = true ∨ X.env.scope.names.lookup x = some .local := by first | exact .inl rfl | exact .inr rfl | assumption) :
    DS C X (.Assign [.Name x pos'] e pos) (setM i m) := by
  refine ps_w (ps_set hN hi hx he hs hf) fun E σ H ⟨Y, fr, st, R, h⟩ => ?_
  refine tS_bnd R h fun d v H1 Y1 fr1 st1 R1 x1 r1 h1 => ?_
  exact FS_setv R1 r1 h1
theorem ds_setN (i : Nat) {x : Str} {m : M (List D)} (hN : X.N.Nodup) (he : DN C X e m) (hi : X.N[i]? = some x := by rfl) (hx : Loc X.env.scope x := by first | exact Or.inl rfl | exact Or.inr rfl) (hs : swapsWith e (some (.Name x pos')) pos.line X.env = pure false := by rfl) (hf : X.fn x = true ∨ X.env.scope.names.lookup x = some .local := by first | exact .inl rfl | exact .inr rfl | assumption) :
    DS C X (.Assign [.Name x pos'] e pos) (setN i m) := by
  refine ps_w (ps_set hN hi hx he hs hf) fun E σ H ⟨Y, fr, st, R, h⟩ => ?_
  refine tS_bndN R h fun d v H1 Y1 fr1 st1 R1 x1 r1 h1 => ?_
  exact FS_seto R1 x1 r1 h1
end
end DL
end

section
set_option Elab.async false
set_option linter.all false
set_option maxRecDepth 100000
set_option maxHeartbeats 4000000
/-! The D layer, part h: lists changed by methods and by stores; several targets at once. -/
namespace DL
open PySem PySem.Spec PyProof.Rows L2

/-! ### a list changed in place: a name's own one, or a labelled one -/
/-- what the place i holds: a list that may be changed -/
def chkL (i : Nat) : M Unit := fun fr st =>
  match fr[i]? with
  | some (.own _) => some (.ok () fr st)
  | some (.val (.obj n)) => match st[n]? with | some (.lst _) => some (.ok () fr st) | _ => none
  | _ => none
def mutI (i : Nat) (f : List D → List D → Option (D × List D)) (args : List D) : M D := fun fr st =>
  match fr[i]? with
  | some (.own ds) => match f ds args with | some (d, ds') => some (.ok d (fr.set i (.own ds')) st) | none => none
  | some (.val (.obj n)) => match st[n]? with | some (.lst ds) => (match f ds args with | some (d, ds') => some (.ok d fr (st.set n (.lst ds'))) | none => none) | _ => none
  | _ => none
def mutL (i : Nat) (f : List D → List D → Option (D × List D)) (ms : M (List D)) : M D := bnd (chkL i) fun _ => bnd ms fun args => mutI i f args
/-- the rule r of a method does f -/
def MutOk (K : PySem.W.Frag) (f : List D → List D → Option (D × List D)) (r : V → List V → Hp → VK → Prop) : Prop :=
  ∀ (G : Hp) (lab : List Addr) (H : Hp) (l : Addr) (xs : List V) (ds args : List D) (vs : List V) (d : D) (ds' : List D) (Q : VK), (∀ a o, G a = some o → H a = some o) → H l = some (.lst xs) → Reps K G lab ds xs → Reps K G lab args vs → f ds args = some (d, ds') →
    (∀ ys y, Reps K G lab ds' ys → Rep K G lab d y → Q y (upd H l (.lst ys))) → r (.ref l) vs H Q
section
variable {K : PySem.W.Frag} {C : Cc} {B : Bs} {σ : L2.St} {Y Y1 : Vw} {H : Hp} {fr : Fr} {st : SS}
/-- the list that stands in place i -/
theorem at_own (R : Rl K B Y σ H fr st) {i : Nat} {ds : List D} (e : fr[i]? = some (.own ds)) : ∃ l xs, σ[i]? = some (some (.ref l)) ∧ Y.ow i = some l ∧ H l = some (.lst xs) ∧ Reps K Y.G Y.lab ds xs := by
  obtain ⟨l, xs, e1, e2, e3, r⟩ := R.sl i _ e
  exact ⟨l, xs, e2, e1, e3, r⟩
theorem at_obj (R : Rl K B Y σ H fr st) {i n : Nat} {ds : List D} (e : fr[i]? = some (.val (.obj n))) (e2 : st[n]? = some (.lst ds)) : ∃ l xs, σ[i]? = some (some (.ref l)) ∧ Y.lab[n]? = some l ∧ H l = some (.lst xs) ∧ Reps K Y.G Y.lab ds xs := by
  obtain ⟨v, e1, r⟩ := R.sl i _ e
  unfold Rep at r
  obtain ⟨l, rfl, e3⟩ := r
  obtain ⟨xs, h1, h2⟩ := R.ob n l _ e3 e2
  exact ⟨l, xs, e1, e3, h1, h2⟩
theorem chkL_ok (R : Rl K B Y σ H fr st) {i : Nat} {o : Out Unit} (h : chkL i fr st = some o) : ∃ l xs, o = .ok () fr st ∧ σ[i]? = some (some (.ref l)) ∧ H l = some (.lst xs) := by
  unfold chkL at h
  split at h
  · rename_i ds e
    cases h
    obtain ⟨l, xs, h1, _, h3, _⟩ := at_own R e
    exact ⟨l, xs, rfl, h1, h3⟩
  · rename_i n e
    split at h
    · rename_i ds e2
      cases h
      obtain ⟨l, xs, h1, _, h3, _⟩ := at_obj R e e2
      exact ⟨l, xs, rfl, h1, h3⟩
    · cases h
  · cases h
theorem mutI_ok {r : V → List V → Hp → VK → Prop} {f : List D → List D → Option (D × List D)} (hf : MutOk K f r) (R : Rl K C.B Y σ H fr st) {i : Nat} {l : Addr} (hl : σ[i]? = some (some (.ref l))) {args : List D} {vs : List V} (ra : Reps K Y.G Y.lab args vs) {Q : VK}
    (h : FO K C (rE K) σ Y H Q (mutI i f args fr st)) : r (.ref l) vs H Q := by
  unfold mutI at h
  split at h
  · rename_i ds e
    obtain ⟨l', xs, h1, h2, h3, h4⟩ := at_own R e
    rw [hl] at h1
    cases h1
    split at h
    · rename_i d ds' e2
      refine hf Y.G Y.lab H l xs ds args vs d ds' Q R.sub h3 h4 ra e2 fun ys y r1 r2 => ?_
      obtain ⟨R2, x2⟩ := R.setOwn (xs := xs) e h2 r1
      exact FO_ok (rel := rE K) R2 x2 r2 h
    · exact h.elim
  · rename_i n e
    split at h
    · rename_i ds e3
      obtain ⟨l', xs, h1, h2, h3, h4⟩ := at_obj R e e3
      rw [hl] at h1
      cases h1
      split at h
      · rename_i d ds' e2
        refine hf Y.G Y.lab H l xs ds args vs d ds' Q R.sub h3 h4 ra e2 fun ys y r1 r2 => ?_
        obtain ⟨R2, x2⟩ := R.setOb h2 (fun u e5 ⟨od, w, e6⟩ => by rw [h3, e6] at e5; cases e5) (o := .lst ys) (ob := .lst ds') fun H' e' => ⟨ys, e', r1⟩
        exact FO_ok (rel := rE K) R2 x2 r2 h
      · exact h.elim
    · exact h.elim
  · exact h.elim
end
section
variable {X : Cx} {C : Cc} {apos cpos p : Pos} {e : Expr} {es : List Expr} {ms : M (List D)} {name : Str} {id : String} {r : V → List V → Hp → VK → Prop}
theorem de_mut (i : Nat) {x : Str} {f : List D → List D → Option (D × List D)} (slot : PySem.Slot "list" name id) (hty : typeOf (.builtin id) = pure (.type "method_descriptor")) (hm : MtR X id r) (hf : MutOk X.K f r) (ha : DA C X (e :: es) ms)
    (hN : X.N[i]? = some x := by rfl) (hv : Vis X.env.scope x := by first | exact Or.inl rfl | exact Or.inr (Or.inl rfl) | exact Or.inr (Or.inr rfl)) (hd : (x == ("__debug__" : Str)) = false := by decide) (hcd : (x == ("__classdict__" : Str)) = false := by decide)
    (hbase : attributeBase (.Name x p) name X.env (eval (.Name x p) X.env) = eval (.Name x p) X.env := by rfl)
    (hfew : ((backTo cpos (starEach (e :: es) X.env)).all (fun x => !x.1) && (backToKw cpos (keywordEach [] X.env)).all (fun x => x.1.isSome)
      && decide ((e :: es).length + ([] : List Keyword).length + (if ([] : List Keyword).isEmpty then 0 else 1) < 30)) = true := by rfl)
    (hline : (apos.endLine == cpos.line) = true := by rfl) (hs : starEach (e :: es) X.env = (false, eval e X.env) :: starEach es X.env := by rfl) (hplain : (backTo cpos (starEach es X.env)).any (·.1) = false := by rfl) :
    DE C X (.Call (.Attribute (.Name x p) name apos) (e :: es) [] cpos) (mutL i f ms) := by
  refine pe_w (pe_bm PySem.F.plainAttrs_list slot hty hm (pe_var hN hv hd hcd) ha hbase hfew hline hs hplain) fun σ H Q ⟨Y, fr, st, R, h⟩ => ?_
  have h0 := h
  unfold mutL bnd at h
  cases z : chkL i fr st with
  | none => rw [z] at h; exact h.elim
  | some o =>
    rw [z] at h
    obtain ⟨l, xs, rfl, e1, e2⟩ := chkL_ok R z
    refine ⟨.ref l, e1, .inl ⟨rfl, xs, .inl (.inl e2)⟩, ?_⟩
    have h' : FO X.K C (rE X.K) σ Y H Q (bnd ms (fun args => mutI i f args) fr st) := h
    refine tM_bnd R h' fun ds vs H1 Y1 fr1 st1 R1 x1 r1 h1 => ?_
    exact mutI_ok hf R1 e1 r1 h1
/-- no argument: pop() -/
theorem de_mut0 (i : Nat) {x : Str} {f : List D → List D → Option (D × List D)} (slot : PySem.Slot "list" name id) (hty : typeOf (.builtin id) = pure (.type "method_descriptor")) (hm : MtR X id r) (hf : MutOk X.K f r)
    (hN : X.N[i]? = some x := by rfl) (hv : Vis X.env.scope x := by first | exact Or.inl rfl | exact Or.inr (Or.inl rfl) | exact Or.inr (Or.inr rfl)) (hd : (x == ("__debug__" : Str)) = false := by decide) (hcd : (x == ("__classdict__" : Str)) = false := by decide)
    (hbase : attributeBase (.Name x p) name X.env (eval (.Name x p) X.env) = eval (.Name x p) X.env := by rfl) (hline : (apos.endLine == cpos.line) = true := by rfl) :
    DE C X (.Call (.Attribute (.Name x p) name apos) [] [] cpos) (mutL i f nilA) := by
  refine pe_w (pe_bm0 PySem.F.plainAttrs_list slot hty hm (pe_var hN hv hd hcd) hbase hline) fun σ H Q ⟨Y, fr, st, R, h⟩ => ?_
  unfold mutL bnd at h
  cases z : chkL i fr st with
  | none => rw [z] at h; exact h.elim
  | some o =>
    rw [z] at h
    obtain ⟨l, xs, rfl, e1, e2⟩ := chkL_ok R z
    refine ⟨.ref l, e1, .inl ⟨rfl, xs, .inl (.inl e2)⟩, ?_⟩
    exact mutI_ok hf R e1 reps_nil h
end
def appF : List D → List D → Option (D × List D)
  | ds, [y] => if small ds.length then some (.non, ds ++ [y]) else none
  | _, _ => none
def extF : List D → List D → Option (D × List D)
  | ds, [.lst es] => if small (ds.length + es.length) then some (.non, ds ++ es) else none
  | _, _ => none
def insF : List D → List D → Option (D × List D)
  | ds, [.int i, y] => if small ds.length && decide (0 ≤ i ∧ i < 2 ^ 63) then some (.non, ds.take i.toNat ++ [y] ++ ds.drop i.toNat) else none
  | _, _ => none
def popF : List D → List D → Option (D × List D)
  | ds, [] => match ds[ds.length - 1]? with | some y => some (y, ds.dropLast) | none => none
  | ds, [.int i] => if decide (-(2 ^ 63) ≤ i ∧ i < 2 ^ 63) then (match seqIndex? i ds.length with | some k => (match ds[k]? with | some y => some (y, ds.eraseIdx k) | none => none) | none => none) else none
  | _, _ => none
section
variable {K : PySem.W.Frag}
theorem reps1 {G : Hp} {lab : List Addr} {d : D} {vs : List V} (h : Reps K G lab [d] vs) : ∃ v, vs = [v] ∧ Rep K G lab d v := by
  obtain ⟨v, ws, rfl, h1, h2⟩ := reps_cons_inv h
  rw [reps_nil_inv h2]
  exact ⟨v, rfl, h1⟩
theorem reps2 {G : Hp} {lab : List Addr} {d e : D} {vs : List V} (h : Reps K G lab [d, e] vs) : ∃ v w, vs = [v, w] ∧ Rep K G lab d v ∧ Rep K G lab e w := by
  obtain ⟨v, ws, rfl, h1, h2⟩ := reps_cons_inv h
  obtain ⟨w, rfl, h3⟩ := reps1 h2
  exact ⟨v, w, rfl, h1, h3⟩
theorem rep_int {G : Hp} {lab : List Addr} {i : Int} {v : V} (h : Rep K G lab (.int i) v) : v = .int i := by unfold Rep at h; exact h
theorem rep_non {G : Hp} {lab : List Addr} : Rep K G lab .non .non := by unfold Rep; rfl
theorem reps_dropLast {G : Hp} {lab : List Addr} {ds : List D} {xs : List V} (h : Reps K G lab ds xs) : Reps K G lab ds.dropLast xs.dropLast := by
  rw [List.dropLast_eq_take, List.dropLast_eq_take, reps_len h]
  exact reps_take _ h
theorem ok_app : MutOk K appF rAppend := by
  intro G lab H l xs ds args vs d ds' Q hs hl r ra e k
  unfold appF at e
  split at e
  · rename_i y
    split at e
    · rename_i g
      cases e
      obtain ⟨v, rfl, rv⟩ := reps1 ra
      exact ⟨l, xs, v, rfl, rfl, hl, by rw [reps_len r]; exact small_lt g, k _ _ (reps_append r (reps_cons rv reps_nil)) rep_non⟩
    · cases e
  · cases e
theorem ok_ext : MutOk K extF rExtend := by
  intro G lab H l xs ds args vs d ds' Q hs hl r ra e k
  unfold extF at e
  split at e
  · rename_i es
    split at e
    · rename_i g
      cases e
      obtain ⟨v, rfl, rv⟩ := reps1 ra
      unfold Rep at rv
      obtain ⟨a, ys, rfl, h1, h2⟩ := rv
      exact ⟨l, a, xs, ys, rfl, rfl, hl, hs _ _ h1, by rw [reps_len r, reps_len h2]; exact small_line g, k _ _ (reps_append r h2) rep_non⟩
    · cases e
  · cases e
theorem ok_ins : MutOk K insF (fun x vs H Q => ∃ (l : Addr) (xs : List V) (i : Int) (y : V), x = .ref l ∧ vs = [.int i, y] ∧ H l = some (.lst xs) ∧ xs.length < sizeLine ∧ 0 ≤ i ∧ i < 2 ^ 63 ∧
    Q .non (upd H l (.lst (xs.take i.toNat ++ [y] ++ xs.drop i.toNat)))) := by
  intro G lab H l xs ds args vs d ds' Q hs hl r ra e k
  unfold insF at e
  split at e
  · rename_i i y
    split at e
    · rename_i g
      cases e
      rw [Bool.and_eq_true] at g
      obtain ⟨g1, g2⟩ := g
      have g3 := of_decide_eq_true g2
      obtain ⟨v, w, rfl, rv, rw'⟩ := reps2 ra
      exact ⟨l, xs, i, w, rfl, by rw [rep_int rv], hl, by rw [reps_len r]; exact small_lt g1, g3.1, g3.2, k _ _ (reps_append (reps_append (reps_take _ r) (reps_cons rw' reps_nil)) (reps_drop _ r)) rep_non⟩
    · cases e
  · cases e
theorem ok_pop : MutOk K popF (fun x vs H Q => rPop x vs H Q ∨ rPopAt x vs H Q) := by
  intro G lab H l xs ds args vs d ds' Q hs hl r ra e k
  unfold popF at e
  split at e
  · split at e
    · rename_i y ey
      cases e
      obtain ⟨v, e1, rv⟩ := reps_get r ey
      exact .inl ⟨l, xs, v, rfl, by rw [reps_nil_inv ra], hl, by rw [reps_len r]; exact e1, k _ _ (reps_dropLast r) rv⟩
    · cases e
  · rename_i i
    split at e
    · rename_i g
      have g := of_decide_eq_true g
      split at e
      · rename_i j ej
        split at e
        · rename_i y ey
          cases e
          obtain ⟨v, e1, rv⟩ := reps_get r ey
          obtain ⟨w, rfl, rw'⟩ := reps1 ra
          exact .inr ⟨l, xs, i, j, v, rfl, by rw [rep_int rw'], hl, g.1, g.2, by rw [reps_len r]; exact ej, e1, k _ _ (reps_eraseIdx j r) rv⟩
        · cases e
      · cases e
    · cases e
  · cases e
end
section
variable {X : Cx} {C : Cc} {apos cpos p : Pos} {e : Expr} {es : List Expr} {ms : M (List D)}
theorem mt_popAny : MtR X "list.pop" (fun x vs H Q => rPop x vs H Q ∨ rPopAt x vs H Q) := MtR.or mt_pop mt_popAt
end

/-! ### x[i] = e -/
def setF : List D → List D → Option (D × List D)
  | ds, [.int k, d] => match ixN ds.length k with | some j => some (.non, ds.set j d) | none => none
  | _, _ => none
def setIt (i : Nat) (mi me : M D) : M Fl := bnd me fun d => bnd (chkL i) fun _ => bnd mi fun k => bnd (mutI i setF [k, d]) fun _ => ret .nx
def rSetM : V → List V → Hp → VK → Prop := fun o vs H Q => ∃ k v, vs = [k, v] ∧ rSetL o k v H fun H' => Q .non H'
theorem ok_set {K : PySem.W.Frag} : MutOk K setF rSetM := by
  intro G lab H l xs ds args vs d ds' Q hs hl r ra e k
  unfold setF at e
  split at e
  · rename_i i y
    split at e
    · rename_i j ej
      cases e
      obtain ⟨v, w, rfl, rv, rw'⟩ := reps2 ra
      refine ⟨v, w, rfl, l, xs, i, j, rfl, rep_int rv, hl, by rw [reps_len r]; exact ej, k _ _ (reps_set j r rw') rep_non⟩
    · cases e
  · cases e
section
variable {X : Cx} {C : Cc} {pos p p2 : Pos} {e ix : Expr} {me mi : M D}
theorem bndS {α : Type} {K : PySem.W.Frag} {m : M α} {f : α → M Fl} {E : Ends} {Y : Vw} {H : Hp} {fr : Fr} {st : SS} (h : FS K C Y H E (bnd m f fr st)) : (∃ a fr1 st1, m fr st = some (.ok a fr1 st1) ∧ FS K C Y H E (f a fr1 st1)) ∨ (∃ c d fr1 st1, m fr st = some (.exn c d fr1 st1) ∧ FS K C Y H E (some (.exn c d fr1 st1))) := by
  unfold bnd at h
  cases z : m fr st with
  | none => rw [z] at h; exact h.elim
  | some o =>
    rw [z] at h
    cases o with
    | ok a fr1 st1 => exact .inl ⟨a, fr1, st1, rfl, h⟩
    | exn c d fr1 st1 => exact .inr ⟨c, d, fr1, st1, rfl, h⟩
theorem ds_setIt (i : Nat) {x : Str} (he : DE C X e me) (hi : DE C X ix mi) (hN : X.N[i]? = some x := by rfl) (hv : Vis X.env.scope x := by first | exact Or.inl rfl | exact Or.inr (Or.inl rfl) | exact Or.inr (Or.inr rfl)) (hd : (x == ("__debug__" : Str)) = false := by decide) (hcd : (x == ("__classdict__" : Str)) = false := by decide)
    (ha : ∀ v, assign (.Subscript (.Name x p) ix p2) X.env v = (do
      let ov ← holding [v] (eval (.Name x p) X.env)
      let iv ← holding [v, ov] (eval ix X.env)
      standAt p2
      holding [v, ov, iv] (setItem ov iv v)
      release [v, ov, iv] []) := by intro _; rfl)
    (hs : swapsWithSole [.Subscript (.Name x p) ix p2] e pos.line X.env = pure false := by rfl) (hw : swappedStores [.Subscript (.Name x p) ix p2] e X.env = pure none := by rfl)
    (h1 : (assignEach [.Subscript (.Name x p) ix p2] X.env).map (·.2) = [assign (.Subscript (.Name x p) ix p2) X.env] := by rfl) :
    DS C X (.Assign [.Subscript (.Name x p) ix p2] e pos) (setIt i mi me) := by
  refine ps_w (ps_asg he (pg_sub (pe_var hN hv hd hcd) hi set_list ha) hs hw h1) fun E σ H ⟨Y, fr, st, R, h⟩ => ?_
  refine tS_bnd R h fun d v H1 Y1 fr1 st1 R1 x1 r1 h1 => ?_
  rcases bndS h1 with ⟨_, fr1', st1', z, h2⟩ | ⟨c, d', fr1', st1', z, h2⟩
  · obtain ⟨l, xs, eo, e1, e2⟩ := chkL_ok R1 z
    cases eo
    refine ⟨.ref l, e1, ?_⟩
    refine tS_bnd R1 h2 fun kd kv H3 Y3 fr3 st3 R3 x3 r3 h3 => ?_
    -- the store itself
    have r1' := x3.rep r1
    rcases bndS h3 with ⟨d4, fr4, st4, z4, h4⟩ | ⟨c, d4, fr4, st4, z4, h4⟩
    · have key : FO X.K C (rE X.K) σ Y3 H3 (fun w H' => w = .non → E.nx σ H') (mutI i setF [kd, d] fr3 st3) := by
        rw [z4]
        exact fun b H' Y' R' x' _ _ => h4 σ H' Y' R' x'
      obtain ⟨k', v', ev, q⟩ := mutI_ok ok_set R3 e1 (reps_cons r3 (reps_cons r1' reps_nil)) key
      cases ev
      obtain ⟨p, xs, kk, j, q1, q2, q3, q4, q5⟩ := q
      exact ⟨p, xs, kk, j, q1, q2, q3, q4, q5 rfl⟩
    · exfalso
      unfold mutI at z4
      split at z4
      · split at z4 <;> cases z4
      · split at z4
        · split at z4 <;> cases z4
        · cases z4
      · cases z4
  · obtain ⟨l, xs, eo, _⟩ := chkL_ok R1 z
    cases eo
end
end DL
end

section
set_option Elab.async false
set_option linter.all false
set_option maxRecDepth 100000
set_option maxHeartbeats 4000000
/-! The D layer, part i: targets, several at once; what is walked; for, while. -/
namespace DL
open PySem PySem.Spec PyProof.Rows L2

/-! ### targets -/
abbrev tG (K : PySem.W.Frag) (C : Cc) (g : D → M Fl) : TG := fun v σ H Q => ∃ Y fr st d, Rl K C.B Y σ H fr st ∧ Rep K Y.G Y.lab d v ∧ ∃ fr' st', g d fr st = some (.ok .nx fr' st') ∧ ∀ σ' H' Y', Rl K C.B Y' σ' H' fr' st' → Ext Y H Y' H' → Q σ' H'
abbrev DG (C : Cc) (X : Cx) (t : Expr) (g : D → M Fl) : Prop := PG X t (tG X.K C g)
abbrev DGs (C : Cc) (X : Cx) (t : List Expr) (g : List D → M Fl) : Prop := PGs X t (fun vs σ H Q => ∃ Y fr st ds, Rl X.K C.B Y σ H fr st ∧ Reps X.K Y.G Y.lab ds vs ∧ ∃ fr' st', g ds fr st = some (.ok .nx fr' st') ∧ ∀ σ' H' Y', Rl X.K C.B Y' σ' H' fr' st' → Ext Y H Y' H' → Q σ' H')
def nilG : List D → M Fl := fun ds => match ds with | [] => ret .nx | _ => stuck
def consG (g : D → M Fl) (gs : List D → M Fl) : List D → M Fl := fun ds => match ds with | d :: ds => bnd (g d) (fun f => match f with | .nx => gs ds | _ => stuck) | [] => stuck
def tupG (n : Nat) (gs : List D → M Fl) : D → M Fl := fun d => match d with | .tup ds => if ds.length = n then gs ds else stuck | .lst ds => stuck | _ => stuck
section
variable {X : Cx} {C : Cc} {pos : Pos} {t e : Expr} {ts : List Expr} {g : D → M Fl} {gs : List D → M Fl}
theorem pg_w {t' t'' : TG} (h : PG X t t') (w : ∀ v σ H Q, t'' v σ H Q → t' v σ H Q) : PG X t t'' := ⟨fun pins s σ H v u Q I r q => h.run pins s σ H v u Q I r (w v σ H Q q)⟩
theorem pgs_w {t' t'' : TGs} (h : PGs X ts t') (w : ∀ v σ H Q, t'' v σ H Q → t' v σ H Q) : PGs X ts t'' := ⟨fun pins s σ H v u Q I r q => h.run pins s σ H v u Q I r (w v σ H Q q)⟩
theorem dg_name (i : Nat) {x : Str} (hN : X.N.Nodup) (hi : X.N[i]? = some x := by rfl) (hx : Loc X.env.scope x := by first | exact Or.inl rfl | exact Or.inr rfl) (hf : X.fn x = true ∨ X.env.scope.names.lookup x = some .local := by first | exact .inl rfl | exact .inr rfl | assumption) : DG C X (.Name x pos) (setv i) := by
  refine pg_w (pg_name hN hi hx hf) fun v σ H Q ⟨Y, fr, st, d, R, r, fr', st', e, k⟩ => ?_
  unfold setv at e
  split at e
  · rename_i hi'
    cases e
    obtain ⟨R2, x2⟩ := R.setVal r hi'
    exact k _ _ _ R2 x2
  · cases e
theorem dgs_nil : DGs C X [] nilG := by
  refine pgs_w pgs_nil fun vs σ H Q ⟨Y, fr, st, ds, R, r, fr', st', e, k⟩ => ?_
  cases ds with
  | nil => cases e; exact ⟨reps_nil_inv r, k σ H Y R (.refl _ _)⟩
  | cons => cases e
theorem dgs_cons (h : DG C X t g) (hs : DGs C X ts gs) (hh : (assignEach (t :: ts) X.env).map (·.2) = assign t X.env :: (assignEach ts X.env).map (·.2) := by rfl) : DGs C X (t :: ts) (consG g gs) := by
  refine pgs_w (pgs_cons h hs hh) fun vs σ H Q ⟨Y, fr, st, ds, R, r, fr', st', e, k⟩ => ?_
  cases ds with
  | nil => cases e
  | cons d ds =>
    obtain ⟨v, ws, rfl, r1, r2⟩ := reps_cons_inv r
    simp only [consG, bnd] at e
    cases z : g d fr st with
    | none => rw [z] at e; cases e
    | some o =>
      rw [z] at e
      cases o with
      | exn => cases e
      | ok f fr1 st1 =>
        cases f with
        | nx => exact ⟨v, ws, rfl, Y, fr, st, d, R, r1, fr1, st1, z, fun σ' H' Y' R' x' => ⟨Y', fr1, st1, ds, R', x'.reps r2, fr', st', e, fun σ2 H2 Y2 R2 x2 => k σ2 H2 Y2 R2 (x'.trans x2)⟩⟩
        | _ => cases e
theorem dg_tup {k n : Nat} (hc : X.calm = true) (h : DGs C X ts gs) (hn : (assignEach ts X.env).length = n := by rfl) (hst : (assignEach ts X.env).findIdx? (·.1) = none := by rfl) : DG C X (.Tuple ts k pos) (tupG n gs) := by
  refine pg_w (pg_tup hc h hn hst) fun v σ H Q ⟨Y, fr, st, d, R, r, fr', st', e, q⟩ => ?_
  cases d with
  | tup ds =>
    unfold Rep at r
    obtain ⟨a, xs, rfl, s, rs⟩ := r
    simp only [tupG] at e
    split at e
    · rename_i hl
      exact ⟨a, xs, rfl, sqT_sub R.sub s, by rw [reps_len rs]; exact hl, Y, fr, st, ds, R, rs, fr', st', e, q⟩
    · cases e
  | _ => cases e
/-- targets = a value -/
def asgM (g : D → M Fl) (m : M D) : M Fl := bnd m fun d => bnd (g d) fun f => match f with | .nx => ret .nx | _ => stuck
theorem exn_of_g {K : PySem.W.Frag} {Y : Vw} {H : Hp} {E : Ends} {fr : Fr} {st : SS} {m : M Fl} (h : FS K C Y H E (bnd m (fun f => match f with | .nx => ret .nx | _ => stuck) fr st)) (no : ∀ c d f s, m fr st ≠ some (.exn c d f s)) :
    ∃ fr' st', m fr st = some (.ok .nx fr' st') ∧ FS K C Y H E (some (.ok .nx fr' st')) := by
  unfold bnd at h
  cases z : m fr st with
  | none => rw [z] at h; exact h.elim
  | some o =>
    rw [z] at h
    cases o with
    | exn c d f s => exact absurd z (no c d f s)
    | ok f fr1 st1 =>
      cases f with
      | nx => exact ⟨fr1, st1, rfl, h⟩
      | _ => exact h.elim
def NoX (g : D → M Fl) : Prop := ∀ d fr st c e f s, g d fr st ≠ some (.exn c e f s)
def NoXs (g : List D → M Fl) : Prop := ∀ d fr st c e f s, g d fr st ≠ some (.exn c e f s)
theorem nox_name (i : Nat) : NoX (setv i) := fun d fr st c e f s h => by
  unfold setv at h
  split at h <;> cases h
theorem noxs_nil : NoXs nilG := fun d fr st c e f s h => by
  cases d <;> cases h
theorem noxs_cons (h : NoX g) (hs : NoXs gs) : NoXs (consG g gs) := fun d fr st c e f s q => by
  cases d with
  | nil => cases q
  | cons d ds =>
    simp only [consG, bnd] at q
    split at q
    · cases q
    · rename_i f1 fr1 st1 z
      cases f1 with
      | nx => exact hs ds fr1 st1 c e f s q
      | _ => cases q
    · rename_i c1 d1 fr1 st1 z
      exact h d fr st _ _ _ _ z
theorem nox_tup {n : Nat} (hs : NoXs gs) : NoX (tupG n gs) := fun d fr st c e f s q => by
  cases d with
  | tup ds =>
    simp only [tupG] at q
    split at q
    · exact hs ds fr st c e f s q
    · cases q
  | _ => cases q
theorem ds_asg {m : M D} (he : DE C X e m) (hg : DG C X t g) (nx : NoX g) (hs : swapsWithSole [t] e pos.line X.env = pure false := by rfl) (hw : swappedStores [t] e X.env = pure none := by rfl)
    (h1 : (assignEach [t] X.env).map (·.2) = [assign t X.env] := by rfl) : DS C X (.Assign [t] e pos) (asgM g m) := by
  refine ps_w (ps_asg he hg hs hw h1) fun E σ H ⟨Y, fr, st, R, h⟩ => ?_
  refine tS_bnd R h fun d v H1 Y1 fr1 st1 R1 x1 r1 h1 => ?_
  obtain ⟨fr', st', z, h2⟩ := exn_of_g h1 fun c e f s => nx d fr1 st1 c e f s
  exact ⟨Y1, fr1, st1, d, R1, r1, fr', st', z, h2⟩
end

/-! ### several values, lists of their own among them -/
inductive Rv where
  | val (d : D) | new (ds : List D)
def RvsAt (K : PySem.W.Frag) (B : Bs) (Hs : Hp) (Y : Vw) (H : Hp) : List Rv → List V → List Addr → Prop
  | [], vs, ls => vs = [] ∧ ls = []
  | .val d :: rs, vs, ls => ∃ v ws, vs = v :: ws ∧ Rep K Y.G Y.lab d v ∧ RvsAt K B Hs Y H rs ws ls
  | .new ds :: rs, vs, ls => ∃ v ws l ks xs, vs = v :: ws ∧ ls = l :: ks ∧ Fresh K B Y H ds v l xs ∧ Hs l = none ∧ l ∉ ks ∧ RvsAt K B Hs Y H rs ws ks
def rS (K : PySem.W.Frag) (C : Cc) (Hs : Hp) : Vw → Hp → List Rv → List V → Prop := fun Y H rs vs => ∃ ls, RvsAt K C.B Hs Y H rs vs ls
def tR (K : PySem.W.Frag) (C : Cc) (m : M (List Rv)) : TA := fun σ H Q => ∃ Y fr st, Rl K C.B Y σ H fr st ∧ FO K C (rS K C H) σ Y H Q (m fr st)
abbrev DR (C : Cc) (X : Cx) (es : List Expr) (m : M (List Rv)) : Prop := PA X es (tR X.K C m)
def nilR : M (List Rv) := ret []
def valR (m : M D) (ms : M (List Rv)) : M (List Rv) := bnd m fun d => bnd ms fun rs => ret (.val d :: rs)
def newR (m : M (List D)) (ms : M (List Rv)) : M (List Rv) := bnd m fun d => bnd ms fun rs => ret (.new d :: rs)
section
variable {K : PySem.W.Frag} {C : Cc} {B : Bs} {σ : L2.St} {Y Y1 : Vw} {Hs H H1 : Hp} {fr : Fr} {st : SS}
theorem RvsAt.none_of : ∀ {rs : List Rv} {vs : List V} {ls : List Addr}, RvsAt K B Hs Y H rs vs ls → ∀ l ∈ ls, Hs l = none
  | [], _, _, ⟨_, e⟩, l, m => by rw [e] at m; cases m
  | .val d :: rs, _, _, ⟨v, ws, _, _, h⟩, l, m => RvsAt.none_of h l m
  | .new ds :: rs, _, _, ⟨v, ws, l', ks, xs, _, e, _, hn, _, h⟩, l, m => by
    rw [e] at m
    rcases List.mem_cons.mp m with rfl | m
    · exact hn
    · exact RvsAt.none_of h l m
theorem RvsAt.start {Ht : Hp} (tr : ∀ a, Hs a = none → Ht a = none) : ∀ {rs : List Rv} {vs : List V} {ls : List Addr}, RvsAt K B Hs Y H rs vs ls → RvsAt K B Ht Y H rs vs ls
  | [], _, _, h => h
  | .val d :: rs, _, _, ⟨v, ws, e, r, h⟩ => ⟨v, ws, e, r, RvsAt.start tr h⟩
  | .new ds :: rs, _, _, ⟨v, ws, l', ks, xs, e1, e, F, hn, hk, h⟩ => ⟨v, ws, l', ks, xs, e1, e, F, tr _ hn, hk, RvsAt.start tr h⟩
theorem Fresh.ext {ds : List D} {v : V} {l : Addr} {xs : List V} (F : Fresh K B Y H ds v l xs) (x : Ext Y H Y1 H1) : Fresh K B Y1 H1 ds v l xs := by
  obtain ⟨k1, k2, k3, k4⟩ := x.k l _ F.h F.g F.lab F.ow
  exact ⟨F.e, k1, k2, k3, k4, F.h0, x.reps F.r⟩
/-- a name has taken its list: the others stand -/
theorem RvsAt.ow {l0 : Addr} {i : Nat} : ∀ {rs : List Rv} {vs : List V} {ls : List Addr}, RvsAt K B Hs Y H rs vs ls → l0 ∉ ls → RvsAt K B Hs ⟨Y.G, Y.lab, fun j => if j = i then some l0 else Y.ow j⟩ H rs vs ls
  | [], _, _, h, _ => h
  | .val d :: rs, _, _, ⟨v, ws, e, r, h⟩, n => ⟨v, ws, e, r, RvsAt.ow h n⟩
  | .new ds :: rs, _, _, ⟨v, ws, l', ks, xs, e1, e, F, hn, hk, h⟩, n => by
    subst e
    refine ⟨v, ws, l', ks, xs, e1, rfl, ⟨F.e, F.h, F.g, F.lab, fun j q => ?_, F.h0, F.r⟩, hn, hk, RvsAt.ow h fun m => n (List.mem_cons_of_mem _ m)⟩
    have q' : (if j = i then some l0 else Y.ow j) = some l' := q
    split at q'
    · cases q'
      exact n List.mem_cons_self
    · exact F.ow j q'
theorem RvsAt.ow0 {i : Nat} : ∀ {rs : List Rv} {vs : List V} {ls : List Addr}, RvsAt K B Hs Y H rs vs ls → RvsAt K B Hs ⟨Y.G, Y.lab, fun j => if j = i then none else Y.ow j⟩ H rs vs ls
  | [], _, _, h => h
  | .val d :: rs, _, _, ⟨v, ws, e, r, h⟩ => ⟨v, ws, e, r, RvsAt.ow0 h⟩
  | .new ds :: rs, _, _, ⟨v, ws, l', ks, xs, e1, e, F, hn, hk, h⟩ => ⟨v, ws, l', ks, xs, e1, e, ⟨F.e, F.h, F.g, F.lab, fun j => ow_not (F.ow j), F.h0, F.r⟩, hn, hk, RvsAt.ow0 h⟩
end
def asgR : List Nat → List Rv → M Fl
  | [], [] => ret .nx
  | i :: is, .val d :: rs => bnd (setv i d) fun _ => asgR is rs
  | i :: is, .new ds :: rs => bnd (seto i ds) fun _ => asgR is rs
  | _, _ => stuck
def parM (is : List Nat) (m : M (List Rv)) : M Fl := bnd m fun rs => asgR is rs
def storeAll : List Nat → List V → L2.St → L2.St
  | i :: is, v :: vs, σ => storeAll is vs (σ.set i (some v))
  | _, _, σ => σ
section
variable {K : PySem.W.Frag} {C : Cc} {B : Bs} {fr : Fr} {st : SS} {Ys : Vw} {Hs : Hp} {E : Ends}
theorem asgR_ok : ∀ {is : List Nat} {rs : List Rv} {vs : List V} {ls : List Addr} {σ : L2.St} {Y : Vw} {H : Hp} {fr : Fr} {st : SS}, Rl K C.B Y σ H fr st → Ext Ys Hs Y H → RvsAt K C.B Hs Y H rs vs ls → FS K C Ys Hs E (asgR is rs fr st) → is.length = vs.length ∧ E.nx (storeAll is vs σ) H
  | [], [], vs, ls, σ, Y, H, fr, st, R, x, ⟨e, _⟩, h => by
    subst e
    exact ⟨rfl, h σ H Y R x⟩
  | i :: is, .val d :: rs, vs, ls, σ, Y, H, fr, st, R, x, ⟨v, ws, e, r, q⟩, h => by
    subst e
    have h' : FS K C Ys Hs E (bnd (setv i d) (fun _ => asgR is rs) fr st) := h
    unfold bnd setv at h'
    by_cases hi : i < fr.length
    · rw [if_pos hi] at h'
      obtain ⟨R2, x2⟩ := R.setVal r hi
      obtain ⟨e1, e2⟩ := asgR_ok R2 (x.trans x2) q.ow0 h'
      exact ⟨by simp [e1], e2⟩
    · rw [if_neg hi] at h'
      exact h'.elim
  | i :: is, .new ds :: rs, vs, ls, σ, Y, H, fr, st, R, x, ⟨v, ws, l, ks, xs, e, el, F, hn, hk, q⟩, h => by
    subst e
    have h' : FS K C Ys Hs E (bnd (seto i ds) (fun _ => asgR is rs) fr st) := h
    unfold bnd seto at h'
    by_cases hi : i < fr.length
    · rw [if_pos hi] at h'
      obtain ⟨R2, x2⟩ := R.setNew F x hn hi
      obtain ⟨e1, e2⟩ := asgR_ok R2 x2 (q.ow hk) h'
      exact ⟨by simp [e1], e2⟩
    · rw [if_neg hi] at h'
      exact h'.elim
  | [], _ :: _, _, _, _, _, _, _, _, _, _, _, h => by exact (h : False).elim
  | _ :: _, [], _, _, _, _, _, _, _, _, _, _, h => by exact (h : False).elim
end
section
variable {X : Cx} {C : Cc} {pos : Pos} {e : Expr} {es : List Expr} {m : M D} {mn : M (List D)} {ms : M (List Rv)}
theorem dr_nil : DR C X [] nilR := pa_w pa_nil fun σ H Q ⟨Y, fr, st, R, h⟩ => FO_ok (a := ([] : List Rv)) (rel := rS X.K C H) R (.refl _ _) ⟨[], rfl, rfl⟩ h
theorem dr_val (ha : DE C X e m) (hr : DR C X es ms) (hs : starEach (e :: es) X.env = (false, eval e X.env) :: starEach es X.env := by rfl) : DR C X (e :: es) (valR m ms) := by
  refine pa_w (pa_cons ha hr hs) fun σ H Q ⟨Y, fr, st, R, h⟩ => ?_
  refine tM_bnd R h fun d v H1 Y1 fr1 st1 R1 x1 r1 h1 => ?_
  refine ⟨Y1, fr1, st1, R1, ?_⟩
  unfold bnd at h1
  cases z : ms fr1 st1 with
  | none => rw [z] at h1; exact h1
  | some o =>
    rw [z] at h1
    cases o with
    | exn => exact h1
    | ok rs fr2 st2 => exact fun vs H2 Y2 R2 x2 ⟨ls, q⟩ => FO_ok (a := Rv.val d :: rs) (rel := rS X.K C H) R2 x2 ⟨ls, v, vs, rfl, x2.rep r1, q.start x1.t⟩ h1
theorem dr_new (ha : DN C X e mn) (hr : DR C X es ms) (hs : starEach (e :: es) X.env = (false, eval e X.env) :: starEach es X.env := by rfl) : DR C X (e :: es) (newR mn ms) := by
  refine pa_w (pa_cons ha hr hs) fun σ H Q ⟨Y, fr, st, R, h⟩ => ?_
  refine tN_bnd R h fun d v H1 Y1 fr1 st1 R1 x1 ⟨l, xs, F, hn⟩ h1 => ?_
  refine ⟨Y1, fr1, st1, R1, ?_⟩
  unfold bnd at h1
  cases z : ms fr1 st1 with
  | none => rw [z] at h1; exact h1
  | some o =>
    rw [z] at h1
    cases o with
    | exn c dd fr2 st2 => exact FX.ext (show FX X.K C σ Y H c dd fr2 st2 from h1) x1
    | ok rs fr2 st2 => exact fun vs H2 Y2 R2 x2 ⟨ls, q⟩ => FO_ok (a := Rv.new d :: rs) (rel := rS X.K C H) R2 (x1.trans x2) ⟨l :: ls, v, vs, l, ls, xs, rfl, rfl, F.ext x2, hn, (fun mm => by
        have := q.none_of l mm
        rw [F.h] at this
        cases this), q.start x1.t⟩ h1
end
end DL
end

section
set_option Elab.async false
set_option linter.all false
set_option maxRecDepth 100000
set_option maxHeartbeats 4000000
/-! The D layer, part j: several targets; for; while. -/
namespace DL
open PySem PySem.Spec PyProof.Rows L2

section
variable {K : PySem.W.Frag} {B : Bs} {Y Y1 : Vw} {Hs H H1 : Hp}
theorem RvsAt.ext (x : Ext Y H Y1 H1) : ∀ {rs : List Rv} {vs : List V} {ls : List Addr}, RvsAt K B Hs Y H rs vs ls → RvsAt K B Hs Y1 H1 rs vs ls
  | [], _, _, h => h
  | .val d :: rs, _, _, ⟨v, ws, e, r, h⟩ => ⟨v, ws, e, x.rep r, RvsAt.ext x h⟩
  | .new ds :: rs, _, _, ⟨v, ws, l', ks, xs, e1, e, F, hn, hk, h⟩ => ⟨v, ws, l', ks, xs, e1, e, F.ext x, hn, hk, RvsAt.ext x h⟩
theorem RvsAt.len : ∀ {rs : List Rv} {vs : List V} {ls : List Addr}, RvsAt K B Hs Y H rs vs ls → vs.length = rs.length
  | [], _, _, ⟨e, _⟩ => by rw [e]; rfl
  | .val d :: rs, _, _, ⟨v, ws, e, r, h⟩ => by rw [e, List.length_cons, List.length_cons, RvsAt.len h]
  | .new ds :: rs, _, _, ⟨v, ws, l', ks, xs, e1, e, F, hn, hk, h⟩ => by rw [e1, List.length_cons, List.length_cons, RvsAt.len h]
end
def gNames (is : List Nat) : TGs := fun vs σ H Q => is.length = vs.length ∧ Q (storeAll is vs σ) H
section
variable {X : Cx} {C : Cc} {pos p1 p2 pt : Pos} {a b c t : Expr} {es ts : List Expr} {ms : M (List Rv)}
theorem gn_nil : PGs X [] (gNames []) := by
  refine pgs_w pgs_nil fun vs σ H Q ⟨h, q⟩ => ?_
  cases vs with
  | nil => exact ⟨rfl, q⟩
  | cons => cases h
theorem gn_cons (i : Nat) {is : List Nat} {x : Str} (hN : X.N.Nodup) (hs : PGs X ts (gNames is)) (hi : X.N[i]? = some x := by rfl) (hx : Loc X.env.scope x := by first | exact Or.inl rfl | exact Or.inr rfl) (hf : X.fn x = true ∨ X.env.scope.names.lookup x = some .local := by first | exact .inl rfl | exact .inr rfl | assumption)
    (hh : (assignEach (.Name x pos :: ts) X.env).map (·.2) = assign (.Name x pos) X.env :: (assignEach ts X.env).map (·.2) := by rfl) : PGs X (.Name x pos :: ts) (gNames (i :: is)) := by
  refine pgs_w (pgs_cons (pg_name hN hi hx hf) hs hh) fun vs σ H Q ⟨h, q⟩ => ?_
  cases vs with
  | nil => cases h
  | cons v ws => exact ⟨v, ws, rfl, by simpa using h, q⟩
/-- names = a tuple that is written -/
theorem ds_parT {is : List Nat} {n k k2 : Nat} (hc : X.calm = true) (ha : DR C X es ms) (hg : PGs X ts (gNames is)) (hl : small is.length = true := by rfl)
    (hn : (assignEach ts X.env).length = is.length := by rfl) (hst : (assignEach ts X.env).findIdx? (·.1) = none := by rfl) (hs : swapsWithSole [.Tuple ts k p1] (.Tuple es k2 p2) pos.line X.env = pure false := by rfl) (hw : swappedStores [.Tuple ts k p1] (.Tuple es k2 p2) X.env = pure none := by rfl)
    (h1 : (assignEach [.Tuple ts k p1] X.env).map (·.2) = [assign (.Tuple ts k p1) X.env] := by rfl) : DS C X (.Assign [.Tuple ts k p1] (.Tuple es k2 p2) pos) (parM is ms) := by
  refine ps_w (ps_asg (pe_tup ha) (pg_tup hc hg hn hst) hs hw h1) fun E σ H ⟨Y, fr, st, R, h⟩ => ?_
  have h' : FS X.K C Y H E (bnd ms (fun rs => asgR is rs) fr st) := h
  refine ⟨Y, fr, st, R, ?_⟩
  unfold bnd at h'
  cases z : ms fr st with
  | none => rw [z] at h'; exact h'
  | some o =>
    rw [z] at h'
    cases o with
    | exn => exact h' σ
    | ok rs fr1 st1 =>
      intro vs H1 Y1 R1 x1 ⟨ls, q⟩
      have len : is.length = vs.length := (asgR_ok R1 x1 q h').1
      refine ⟨by rw [← len]; exact small_line hl, fun p hp => ?_⟩
      obtain ⟨R2, x2⟩ := R1.newX hp (.tup vs)
      obtain ⟨e1, e2⟩ := asgR_ok R2 (x1.trans x2) (q.ext x2) h'
      exact ⟨p, vs, rfl, .inl (.inl upd_same), len.symm, e1, e2⟩
/-- two names, stored as they stand on the stack -/
theorem ds_par2 (i j : Nat) {x y : Str} {kt k2 : Nat} {px py : Pos} (hc : X.calm = true) (hN : X.N.Nodup) (ha : DR C X [a, b] ms) (hi : X.N[i]? = some x := by rfl) (hj : X.N[j]? = some y := by rfl) (hij : i ≠ j := by decide)
    (hx : X.env.scope.names.lookup x = some .local := by rfl) (hy : X.env.scope.names.lookup y = some .local := by rfl)
    (hw : swappedStores [.Tuple [.Name x px, .Name y py] kt p1] (.Tuple [a, b] k2 p2) X.env = pure (some [x, y]) := by rfl)
    (hs : swapsWithSole [.Tuple [.Name x px, .Name y py] kt p1] (.Tuple [a, b] k2 p2) pos.line X.env = pure false := by rfl) :
    DS C X (.Assign [.Tuple [.Name x px, .Name y py] kt p1] (.Tuple [a, b] k2 p2) pos) (parM [i, j] ms) := by
  refine ps_w (ps_par hc hN hi hj hij hx hy ha hw hs) fun E σ H ⟨Y, fr, st, R, h⟩ => ?_
  have h' : FS X.K C Y H E (bnd ms (fun rs => asgR [i, j] rs) fr st) := h
  refine ⟨Y, fr, st, R, ?_⟩
  unfold bnd at h'
  cases z : ms fr st with
  | none => rw [z] at h'; exact h'
  | some o =>
    rw [z] at h'
    cases o with
    | exn => exact h' σ
    | ok rs fr1 st1 =>
      intro vs H1 Y1 R1 x1 ⟨ls, q⟩
      obtain ⟨e1, e2⟩ := asgR_ok R1 x1 q h'
      match vs, e1, e2 with
      | [v, w], _, e2 => exact ⟨v, w, rfl, e2⟩
theorem ds_par3 (i j l : Nat) {x y z : Str} {kt k2 : Nat} {px py pz : Pos} (hc : X.calm = true) (hN : X.N.Nodup) (ha : DR C X [a, b, c] ms) (hi : X.N[i]? = some x := by rfl) (hj : X.N[j]? = some y := by rfl) (hl : X.N[l]? = some z := by rfl) (hij : i ≠ j := by decide) (hil : i ≠ l := by decide) (hjl : j ≠ l := by decide)
    (hx : X.env.scope.names.lookup x = some .local := by rfl) (hy : X.env.scope.names.lookup y = some .local := by rfl) (hz : X.env.scope.names.lookup z = some .local := by rfl)
    (hw : swappedStores [.Tuple [.Name x px, .Name y py, .Name z pz] kt p1] (.Tuple [a, b, c] k2 p2) X.env = pure (some [x, y, z]) := by rfl)
    (hs : swapsWithSole [.Tuple [.Name x px, .Name y py, .Name z pz] kt p1] (.Tuple [a, b, c] k2 p2) pos.line X.env = pure false := by rfl) :
    DS C X (.Assign [.Tuple [.Name x px, .Name y py, .Name z pz] kt p1] (.Tuple [a, b, c] k2 p2) pos) (parM [i, j, l] ms) := by
  refine ps_w (ps_par3 hc hN hi hj hl hij hil hjl hx hy hz ha hw hs) fun E σ H ⟨Y, fr, st, R, h⟩ => ?_
  have h' : FS X.K C Y H E (bnd ms (fun rs => asgR [i, j, l] rs) fr st) := h
  refine ⟨Y, fr, st, R, ?_⟩
  unfold bnd at h'
  cases z : ms fr st with
  | none => rw [z] at h'; exact h'
  | some o =>
    rw [z] at h'
    cases o with
    | exn => exact h' σ
    | ok rs fr1 st1 =>
      intro vs H1 Y1 R1 x1 ⟨ls, q⟩
      obtain ⟨e1, e2⟩ := asgR_ok R1 x1 q h'
      match vs, e1, e2 with
      | [u, v, w], _, e2 => exact ⟨u, v, w, rfl, e2⟩
end

/-! ### what is walked -/
def WkP (K : PySem.W.Frag) (B : Bs) (P : L2.St → Fr → SS → Prop) (items : List D) (Y : Vw) (J : It) : Prop :=
  ∃ (G : Hp → Prop) (Yd : Nat → Hp → V → Hp → Prop), Walk J items.length G Yd ∧ (∀ Y' σ' H' fr st, Rl K B Y' σ' H' fr st → Gro Y Y' → P σ' fr st → G H') ∧
    ∀ i x H' H'' Y' σ' fr st, i < items.length → Rl K B Y' σ' H' fr st → Gro Y Y' → P σ' fr st → Yd i H' x H'' → ∃ Y'' d, Rl K B Y'' σ' H'' fr st ∧ Ext Y' H' Y'' H'' ∧ items[i]? = some d ∧ Rep K Y''.G Y''.lab d x
abbrev Wk (K : PySem.W.Frag) (B : Bs) (items : List D) (Y : Vw) (J : It) : Prop := WkP K B (fun _ _ _ => True) items Y J
def rI (K : PySem.W.Frag) (C : Cc) : Vw → Hp → List D → It → Prop := fun Y _ items J => Wk K C.B items Y J
abbrev DI (C : Cc) (X : Cx) (tg it : Expr) (m : M (List D)) : Prop := PI X tg it (tM X.K C (rI X.K C) m)

def mFor : List D → (D → M Fl) → M Fl
  | [], _ => ret .nx
  | d :: ds, f => bnd (f d) fun r => match r with | .nx => mFor ds f | .ct => mFor ds f | .bk => ret .nx | .rt e => ret (.rt e)
def forB (g : D → M Fl) (b : M Fl) (d : D) : M Fl := bnd (g d) fun r => match r with | .nx => b | _ => stuck
def forM (mi : M (List D)) (g : D → M Fl) (b : M Fl) : M Fl := bnd mi fun items => mFor items (forB g b)
def mWhile : Nat → M Bool → M Fl → M Fl
  | 0, _, _ => stuck
  | n + 1, c, b => bnd c fun k => if k then bnd b (fun r => match r with | .nx => mWhile n c b | .ct => mWhile n c b | .bk => ret .nx | .rt e => ret (.rt e)) else ret .nx
section
variable {K : PySem.W.Frag} {C : Cc} {σ : L2.St} {Y Y1 : Vw} {H H1 : Hp} {fr : Fr} {st : SS} {E : Ends}
/-- a loop's body: its end is the next turn -/
theorem FS_turn {b k : M Fl} {N : L2.St → Hp → Prop} (h : FS K C Y H E (bnd b (fun r => match r with | .nx => k | .ct => k | .bk => ret .nx | .rt e => ret (.rt e)) fr st))
    (hN : ∀ σ' H' Y' fr' st', Rl K C.B Y' σ' H' fr' st' → Ext Y H Y' H' → FS K C Y' H' E (k fr' st') → N σ' H') : FS K C Y H { E with nx := N, ct := N, bk := E.nx } (b fr st) := by
  unfold bnd at h
  cases z : b fr st with
  | none => rw [z] at h; exact h
  | some o =>
    rw [z] at h
    cases o with
    | exn c d fr1 st1 => exact h
    | ok r fr1 st1 =>
      cases r with
      | nx => exact fun σ' H' Y' R' x' => hN σ' H' Y' fr1 st1 R' x' (FS.ext x' h)
      | ct => exact fun σ' H' Y' R' x' => hN σ' H' Y' fr1 st1 R' x' (FS.ext x' h)
      | bk => exact h
      | rt e => exact h
end
section
variable {X : Cx} {C : Cc} {pos : Pos} {tg it c : Expr} {body : List Stmt} {g : D → M Fl} {mi : M (List D)} {b : M Fl} {t : M Bool}
theorem ds_for (hp : PassesOwn (model X.prog X.w) X.A X.env X.xe) (hc : X.calm = true) (hi : DI C X tg it mi) (hg : DG C X tg g) (nx : NoX g) (hb : DSs C X body b) (hs : ∀ x, foldedSetIterable it X.env x = pure x := by intro _; rfl) : DS C X (.For tg it body [] pos) (forM mi g b) := by
  refine ps_w (ps_for hp hc hi hg hb hs) fun E σ H ⟨Y, fr, st, R, h⟩ => ?_
  refine tS_bnd R h fun items J H1 Y1 fr1 st1 R1 x1 ⟨G, Yd, w, hG, hY⟩ h1 => ?_
  refine for_it (g := tG X.K C g) (tb := tS X.K C b) (D := E) w (fun i σ H => ∃ Y fr st, Rl X.K C.B Y σ H fr st ∧ Ext Y1 H1 Y H ∧ FS X.K C Y H E (mFor (items.drop i) (forB g b) fr st)) ⟨Y1, fr1, st1, R1, .refl _ _, h1⟩
    (fun i σ H _ ⟨Y, fr, st, R, x, _⟩ => hG Y σ H fr st R x.gro trivial) (fun i x σ H H' hi ⟨Y, fr, st, R, xx, hF⟩ y => ?_) fun σ H ⟨Y, fr, st, R, xx, hF⟩ => ?_
  · obtain ⟨Y2, d, R2, x2, e2, r2⟩ := hY i x H H' Y σ fr st hi R xx.gro trivial y
    have ed : items.drop i = d :: items.drop (i + 1) := by
      rw [List.drop_eq_getElem_cons hi]
      rw [List.getElem?_eq_getElem hi] at e2
      cases e2
      rfl
    rw [ed] at hF
    have hF' : FS X.K C Y2 H' E (bnd (forB g b d) (fun r => match r with | .nx => mFor (items.drop (i + 1)) (forB g b) | .ct => mFor (items.drop (i + 1)) (forB g b) | .bk => ret .nx | .rt e => ret (.rt e)) fr st) := FS.ext x2 hF
    -- the target
    cases z : g d fr st with
    | none => unfold bnd forB bnd at hF'; rw [z] at hF'; exact hF'.elim
    | some o =>
      cases o with
      | exn c e f s => exact absurd z (nx d fr st c e f s)
      | ok r fr3 st3 =>
        cases r with
        | nx =>
          refine ⟨Y2, fr, st, d, R2, r2, fr3, st3, z, fun σ3 H3 Y3 R3 x3 => ⟨Y3, fr3, st3, R3, ?_⟩⟩
          have hF3 : FS X.K C Y2 H' E (bnd b (fun r => match r with | .nx => mFor (items.drop (i + 1)) (forB g b) | .ct => mFor (items.drop (i + 1)) (forB g b) | .bk => ret .nx | .rt e => ret (.rt e)) fr3 st3) := by
            have q := hF'
            unfold bnd forB bnd at q
            rw [z] at q
            unfold bnd
            exact q
          exact FS_turn (FS.ext x3 hF3) fun σ' H4 Y4 fr4 st4 R4 x4 h4 => ⟨Y4, fr4, st4, R4, ((xx.trans x2).trans x3).trans x4, h4⟩
        | rt e => unfold bnd forB bnd at hF'; rw [z] at hF'; exact hF'.elim
        | bk => unfold bnd forB bnd at hF'; rw [z] at hF'; exact hF'.elim
        | ct => unfold bnd forB bnd at hF'; rw [z] at hF'; exact hF'.elim
  · rw [List.drop_length] at hF
    exact hF σ H Y R (.refl _ _)
theorem ds_while (n : Nat) (hp : PassesOwn (model X.prog X.w) X.A X.env X.xe) (hc : DT C X c t) (hb : DSs C X body b) : DS C X (.While c body [] pos) (mWhile n t b) := by
  refine ps_w (ps_while hp hc hb) fun E σ H ⟨Y, fr, st, R, h⟩ => ?_
  refine ⟨fun m σ H => ∃ Y fr st, Rl X.K C.B Y σ H fr st ∧ FS X.K C Y H E (mWhile m t b fr st), ⟨n, Y, fr, st, R, h⟩, fun m σ H ⟨Y, fr, st, R, h⟩ => ?_⟩
  cases m with
  | zero => exact h.elim
  | succ m =>
    refine tS_bnd R h fun k k' H1 Y1 fr1 st1 R1 x1 r1 h1 => ?_
    subst r1
    cases k' with
    | false => exact h1 σ H1 Y1 R1 (.refl _ _)
    | true =>
      rw [if_pos rfl]
      refine ⟨fun σ H => ∃ Y fr st, Rl X.K C.B Y σ H fr st ∧ FS X.K C Y H E (mWhile m t b fr st), fun σ' H' q => ⟨m, Nat.lt_succ_self _, q⟩, Y1, fr1, st1, R1, ?_⟩
      exact FS_turn h1 fun σ' H4 Y4 fr4 st4 R4 x4 h4 => ⟨Y4, fr4, st4, R4, h4⟩
end
end DL
end

section
set_option Elab.async false
set_option linter.all false
set_option maxRecDepth 100000
set_option maxHeartbeats 4000000
/-! The D layer, part k: what is walked; comprehensions of one clause. -/
namespace DL
open PySem PySem.Spec PyProof.Rows L2

/-! ### lists and tuples, whichever it is -/
def iAny (K : PySem.W.Frag) (tl : TE) : TI := fun σ H R => tl σ H fun x H1 => ∃ a, x = .ref a ∧ ((∃ xs, SqL K H1 a xs) ∧ R (Itl K a) H1 ∨ (∃ xs, SqT K H1 a xs) ∧ R (Itt K a) H1)
section
variable {X : Cx} {tg : Expr}
theorem pi_seq {l : Expr} {tl : TE} (hl : PE X l tl) : PI X tg l (iAny X.K tl) := by
  refine ⟨fun pins s σ H R I h => thn (hl.run pins s σ H _ I h) fun v s2 ⟨x, H2, J, rv, a, ex, q⟩ => ?_⟩
  subst ex
  cases rv
  have grow : ∀ (b : Addr) (o : Obj) (new : Obj), s2.heap.get? b = some o → (s2.heap.push new).get? b = some o := fun b o new e => Heap.get?_push_of_some _ e
  have ok1 : ∀ b ∈ [s2.heap.objs.size], FpOk X pins H2 b := fun b hb => by
    cases List.mem_singleton.mp hb
    exact J.fpOk (Nat.le_refl _) (J.hok.fresh (Nat.le_refl _))
  rcases q with ⟨⟨xs, hx⟩, q⟩ | ⟨⟨xs, hx⟩, q⟩
  · obtain ⟨its, rr, pp, _⟩ := J.list hx
    exact wpAny_pyIter_list pp.isList ⟨s2.heap.objs.size, [s2.heap.objs.size], _, _, H2, rfl, J.kept (t' := s2.toks) fun b o e => grow b o _ e, turn_list a _, ⟨_, Heap.get?_push_size _ rfl, rfl, rfl⟩, ok1, q⟩
  · obtain ⟨its, rr, pp, _⟩ := J.tuple hx
    exact wpAny_pyIter_tuple (show s2.heap.IsTuple a its.toArray from pp) ⟨s2.heap.objs.size, [s2.heap.objs.size], _, _, H2, rfl, J.kept (t' := s2.toks) fun b o e => grow b o _ e, turn_tuple a _, ⟨_, Heap.get?_push_size _ rfl, rfl, rfl⟩, ok1, q⟩
end
/-- what must stay as it is while it is walked: nothing, a name's own list, a labelled list -/
inductive Wt where
  | no | own (i : Nat) | ob (n : Nat)
def KeepP (σ : L2.St) (p : List D × Wt) (σ' : L2.St) (fr : Fr) (st : SS) : Prop := match p.2 with
  | .no => True
  | .own i => σ'[i]? = σ[i]? ∧ fr[i]? = some (.own p.1)
  | .ob n => st[n]? = some (.lst p.1)
def rIw (K : PySem.W.Frag) (C : Cc) (σ : L2.St) : Vw → Hp → List D × Wt → It → Prop := fun Y _ p J => WkP K C.B (KeepP σ p) p.1 Y J
abbrev DIw (C : Cc) (X : Cx) (tg it : Expr) (m : M (List D × Wt)) : Prop := PI X tg it (fun σ H R => tM X.K C (rIw X.K C σ) m σ H R)
section
variable {X : Cx} {C : Cc} {tg e a b c : Expr} {m ma mb mc : M D} {p pos : Pos}
theorem pi_w {t t' : TI} (h : PI X tg e t) (w : ∀ σ H R, t' σ H R → t σ H R) : PI X tg e t' := ⟨fun pins s σ H R I q => h.run pins s σ H R I (w σ H R q)⟩
def noW (m : M (List D)) : M (List D × Wt) := bnd m fun ds => ret (ds, .no)
theorem diw_of {m : M (List D)} (h : DI C X tg e m) : DIw C X tg e (noW m) := pi_w h fun σ H R ⟨Y, fr, st, Rr, q⟩ => by
  refine tM_bnd Rr q fun ds J H1 Y1 fr1 st1 R1 x1 ⟨G, Yd, w1, w2, w3⟩ h1 => ?_
  exact FO_ok (a := (ds, Wt.no)) (rel := rIw X.K C σ) R1 (.refl _ _) ⟨G, Yd, w1, fun Y' σ' H' fr st R' x' _ => w2 Y' σ' H' fr st R' x' trivial, fun i x H' H'' Y' σ' fr st hi R' x' _ y => w3 i x H' H'' Y' σ' fr st hi R' x' trivial y⟩ h1
/-- the walk of a list that stands in the fixed part -/
theorem wk_list {K : PySem.W.Frag} {B : Bs} {P : L2.St → Fr → SS → Prop} {Y : Vw} {l : Addr} {xs : List V} {ds : List D} (hG : ∀ Y' σ' H' fr st, Rl K B Y' σ' H' fr st → Gro Y Y' → P σ' fr st → SqL K H' l xs) (r : Reps K Y.G Y.lab ds xs) : WkP K B P ds Y (Itl K l) := by
  have e := reps_len r
  refine ⟨fun H => SqL K H l xs, YAt xs, by rw [← e]; exact walk_list (xs := xs), hG, fun i x H' H'' Y' σ' fr st hi R' x' hP ⟨e1, e2⟩ => ?_⟩
  subst e1
  obtain ⟨d, ed, rd⟩ := reps_getV (x'.reps r) e2
  exact ⟨Y', d, R', .refl _ _, ed, rd⟩
theorem wk_tup {K : PySem.W.Frag} {B : Bs} {P : L2.St → Fr → SS → Prop} {Y : Vw} {l : Addr} {xs : List V} {ds : List D} (hG : ∀ Y' σ' H' fr st, Rl K B Y' σ' H' fr st → Gro Y Y' → P σ' fr st → SqT K H' l xs) (r : Reps K Y.G Y.lab ds xs) : WkP K B P ds Y (Itt K l) := by
  have e := reps_len r
  refine ⟨fun H => SqT K H l xs, YAt xs, by rw [← e]; exact walk_tup (xs := xs), hG, fun i x H' H'' Y' σ' fr st hi R' x' hP ⟨e1, e2⟩ => ?_⟩
  subst e1
  obtain ⟨d, ed, rd⟩ := reps_getV (x'.reps r) e2
  exact ⟨Y', d, R', .refl _ _, ed, rd⟩
def seqI (m : M D) : M (List D) := bnd m fun d => opt (items? d)
theorem di_seq (h : DE C X e m) : DI C X tg e (seqI m) := by
  refine pi_w (pi_seq h) fun σ H R ⟨Y, fr, st, Rr, q⟩ => ?_
  refine tM_bnd Rr q fun d v H1 Y1 fr1 st1 R1 x1 r1 h1 => ?_
  obtain ⟨ds, ed, h2⟩ := FO_opt h1
  have hsub : ∀ (Y' : Vw) (σ' : L2.St) (H' : Hp) (fr : Fr) (st : SS), Rl X.K C.B Y' σ' H' fr st → Gro Y1 Y' → ∀ a o, Y1.G a = some o → H' a = some o := fun Y' σ' H' fr st R' x' a o z => R'.sub a o (x'.g a o z)
  have r2 : Rep X.K Y1.G Y1.lab d v := r1
  cases d with
  | tup ds' =>
    cases ed
    unfold Rep at r2
    obtain ⟨l, xs, rfl, s, rs⟩ := r2
    refine ⟨l, rfl, .inr ⟨⟨xs, sqT_sub R1.sub s⟩, FO_ok (rel := rI X.K C) R1 (.refl _ _) ?_ h2⟩⟩
    exact wk_tup (fun Y' σ' H' fr st R' x' _ => sqT_sub (hsub Y' σ' H' fr st R' x') s) rs
  | lst ds' =>
    cases ed
    unfold Rep at r2
    obtain ⟨l, xs, rfl, s, rs⟩ := r2
    refine ⟨l, rfl, .inl ⟨⟨xs, .inl (.inl (R1.sub _ _ s))⟩, FO_ok (rel := rI X.K C) R1 (.refl _ _) ?_ h2⟩⟩
    exact wk_list (fun Y' σ' H' fr st R' x' _ => .inl (.inl (hsub Y' σ' H' fr st R' x' _ _ s))) rs
  | scr ns =>
    cases ed
    unfold Rep at r2
    obtain ⟨l, rfl, s⟩ := r2
    refine ⟨l, rfl, .inl ⟨⟨_, sqL_sub R1.sub s⟩, FO_ok (rel := rI X.K C) R1 (.refl _ _) ?_ h2⟩⟩
    exact wk_list (fun Y' σ' H' fr st R' x' _ => sqL_sub (hsub Y' σ' H' fr st R' x') s) reps_ints
  | _ => cases ed
/-- the walk of a list that is found anew at each turn -/
theorem wk_live {K : PySem.W.Frag} {B : Bs} {P : L2.St → Fr → SS → Prop} {Y : Vw} {H : Hp} {l : Addr} {xs : List V} {ds : List D} (h0 : SqL K H l xs) (e0 : xs.length = ds.length)
    (hP : ∀ Y' σ' H' fr st, Rl K B Y' σ' H' fr st → Gro Y Y' → P σ' fr st → ∃ ys, SqL K H' l ys ∧ Reps K Y'.G Y'.lab ds ys) : WkP K B P ds Y (Itl K l) := by
  refine ⟨fun H' => ∃ ys, SqL K H' l ys ∧ ys.length = ds.length, fun j H' x H'' => H'' = H' ∧ ∀ ys, SqL K H' l ys → ys[j]? = some x, ?_, fun Y' σ' H' fr' st' R' x' q => ?_, fun j x H' H'' Y' σ' fr' st' hj R' x' q ⟨y1, y2⟩ => ?_⟩
  · refine ⟨fun j H' hj ⟨ys, g, el⟩ => ⟨ys, ys[j], g, by simp [el, hj]⟩, fun H' ⟨ys, g, el⟩ => ⟨ys, g, by omega⟩, fun j H' x H'' hj g y => y⟩
  · obtain ⟨ys, g, r⟩ := hP Y' σ' H' fr' st' R' x' q
    exact ⟨ys, g, reps_len r⟩
  · obtain ⟨ys, g, r⟩ := hP Y' σ' H' fr' st' R' x' q
    subst y1
    obtain ⟨d, ed, rd⟩ := reps_getV r (y2 ys g)
    exact ⟨Y', d, R', .refl _ _, ed, rd⟩
/-- a name's own list, looked at -/
def ownI (i : Nat) : M (List D × Wt) := fun fr st => match fr[i]? with | some (.own ds) => some (.ok (ds, .own i) fr st) | _ => none
theorem diw_own (i : Nat) {x : Str} (hN : X.N[i]? = some x := by rfl) (hv : Vis X.env.scope x := by first | exact Or.inl rfl | exact Or.inr (Or.inl rfl) | exact Or.inr (Or.inr rfl)) (hd : (x == ("__debug__" : Str)) = false := by decide)
    (hcd : (x == ("__classdict__" : Str)) = false := by decide) : DIw C X tg (.Name x pos) (ownI i) := by
  refine pi_w (pi_list (pe_var hN hv hd hcd)) fun σ H R ⟨Y, fr, st, Rr, q⟩ => ?_
  unfold ownI at q
  cases e : fr[i]? with
  | none => rw [e] at q; exact q.elim
  | some s =>
    rw [e] at q
    cases s with
    | own ds =>
      obtain ⟨l, xs, e1, e2, e3, rs⟩ := at_own Rr e
      refine ⟨.ref l, e1, l, rfl, ⟨xs, .inl (.inl e3)⟩, FO_ok (rel := rIw X.K C σ) Rr (.refl _ _) ?_ q⟩
      refine wk_live (H := H) (.inl (.inl e3)) (reps_len rs) fun Y' σ' H' fr' st' R' x' ⟨p1, p2⟩ => ?_
      obtain ⟨l', ys, f1, f2, f3, f4⟩ := at_own R' p2
      rw [p1, e1] at f1
      cases f1
      exact ⟨ys, .inl (.inl f3), f4⟩
    | _ => exact q.elim
/-- a list or a tuple, a labelled one too -/
def seqW (m : M D) : M (List D × Wt) := bnd m fun d fr st => match d with
  | .obj n => (match st[n]? with | some (.lst ds) => some (.ok (ds, .ob n) fr st) | _ => none)
  | d => (match items? d with | some ds => some (.ok (ds, .no) fr st) | none => none)
theorem diw_seq (h : DE C X e m) : DIw C X tg e (seqW m) := by
  refine pi_w (pi_seq h) fun σ H R ⟨Y, fr, st, Rr, q⟩ => ?_
  refine tM_bnd Rr q fun d v H1 Y1 fr1 st1 R1 x1 r1 h1 => ?_
  have hsub : ∀ (Y' : Vw) (σ' : L2.St) (H' : Hp) (fr : Fr) (st : SS), Rl X.K C.B Y' σ' H' fr st → Gro Y1 Y' → ∀ a o, Y1.G a = some o → H' a = some o := fun Y' σ' H' fr st R' x' a o z => R'.sub a o (x'.g a o z)
  have r2 : Rep X.K Y1.G Y1.lab d v := r1
  cases d with
  | obj n =>
    unfold Rep at r2
    obtain ⟨l, rfl, el⟩ := r2
    simp only at h1
    split at h1
    · rename_i ds e2
      obtain ⟨xs, e3, rs⟩ := R1.ob n l _ el e2
      refine ⟨l, rfl, .inl ⟨⟨xs, .inl (.inl e3)⟩, FO_ok (rel := rIw X.K C σ) R1 (.refl _ _) ?_ h1⟩⟩
      refine wk_live (H := H1) (.inl (.inl e3)) (reps_len rs) fun Y' σ' H' fr' st' R' x' hk => ?_
      obtain ⟨ys, f3, f4⟩ := R'.ob n l _ (x'.lab n l el) hk
      exact ⟨ys, .inl (.inl f3), f4⟩
    · exact h1.elim
  | tup ds' =>
    unfold Rep at r2
    obtain ⟨l, xs, rfl, s, rs⟩ := r2
    refine ⟨l, rfl, .inr ⟨⟨xs, sqT_sub R1.sub s⟩, FO_ok (rel := rIw X.K C σ) R1 (.refl _ _) ?_ h1⟩⟩
    exact wk_tup (fun Y' σ' H' fr st R' x' _ => sqT_sub (hsub Y' σ' H' fr st R' x') s) rs
  | lst ds' =>
    unfold Rep at r2
    obtain ⟨l, xs, rfl, s, rs⟩ := r2
    refine ⟨l, rfl, .inl ⟨⟨xs, .inl (.inl (R1.sub _ _ s))⟩, FO_ok (rel := rIw X.K C σ) R1 (.refl _ _) ?_ h1⟩⟩
    exact wk_list (fun Y' σ' H' fr st R' x' _ => .inl (.inl (hsub Y' σ' H' fr st R' x' _ _ s))) rs
  | scr ns =>
    unfold Rep at r2
    obtain ⟨l, rfl, s⟩ := r2
    refine ⟨l, rfl, .inl ⟨⟨_, sqL_sub R1.sub s⟩, FO_ok (rel := rIw X.K C σ) R1 (.refl _ _) ?_ h1⟩⟩
    exact wk_list (fun Y' σ' H' fr st R' x' _ => sqL_sub (hsub Y' σ' H' fr st R' x') s) reps_ints
  | _ => exact h1.elim
/-! ### ranges -/
def inRange (i : Int) : Bool := decide (-(2 ^ 62) ≤ i ∧ i < 2 ^ 62)
def rangeD (lo : Int) (n : Nat) : List D := (List.range n).map fun i => .int (lo + (i : Nat))
theorem rangeD_get {lo : Int} {n i : Nat} (h : i < n) : (rangeD lo n)[i]? = some (.int (lo + (i : Nat))) := by
  unfold rangeD
  rw [List.getElem?_map, List.getElem?_range h]
  rfl
theorem wk_range {K : PySem.W.Frag} {B : Bs} {P : L2.St → Fr → SS → Prop} {Y : Vw} {lo : Int} {n : Nat} : WkP K B P (rangeD lo n) Y (Itr lo n) := by
  have e : (rangeD lo n).length = n := by simp [rangeD]
  refine ⟨fun _ => True, YFn fun i => .int (lo + (i : Nat)), by rw [e]; exact walk_range, fun _ _ _ _ _ _ _ _ => trivial, fun i x H' H'' Y' σ' fr st hi R' x' _ ⟨e1, e2⟩ => ?_⟩
  subst e1 e2
  rw [e] at hi
  exact ⟨Y', _, R', .refl _ _, rangeD_get hi, by unfold Rep; rfl⟩
def rng1 (m : M D) : M (List D) := bnd m fun d => opt (match d with | .int j => if inRange j then some (rangeD 0 j.toNat) else none | _ => none)
def rng2 (m n : M D) : M (List D) := bnd m fun x => bnd n fun y => opt (match x, y with | .int i, .int j => if inRange i && inRange j then some (rangeD i (j - i).toNat) else none | _, _ => none)
theorem di_range1 (hg : Gl X "range") (hm : X.mg "range" = none) (h : DE C X a m) (hs : starEach [a] X.env = [(false, eval a X.env)] := by rfl) : DI C X tg (.Call (.Name "range" p) [a] [] pos) (rng1 m) := by
  refine pi_w (pi_range1 hg hm (pa_cons h pa_nil hs) hs) fun σ H R ⟨Y, fr, st, Rr, q⟩ => ?_
  refine tM_bnd Rr q fun d v H1 Y1 fr1 st1 R1 x1 r1 h1 => ?_
  obtain ⟨ds, ed, h2⟩ := FO_opt h1
  cases d with
  | int j =>
    have r2 : Rep X.K Y1.G Y1.lab (.int j) v := r1
    unfold Rep at r2
    simp only at ed
    split at ed
    · rename_i g
      cases ed
      have g := of_decide_eq_true g
      exact ⟨j, by rw [r2], g.1, g.2, FO_ok (rel := rI X.K C) R1 (.refl _ _) wk_range h2⟩
    · cases ed
  | _ => cases ed
theorem di_range2 (hg : Gl X "range") (hm : X.mg "range" = none) (ha : DE C X a ma) (hb : DE C X b mb) (hs : starEach [a, b] X.env = [(false, eval a X.env), (false, eval b X.env)] := by rfl) (hs2 : starEach [b] X.env = [(false, eval b X.env)] := by rfl) : DI C X tg (.Call (.Name "range" p) [a, b] [] pos) (rng2 ma mb) := by
  refine pi_w (pi_range2 hg hm (pa_cons ha (pa_cons hb pa_nil hs2) (by rw [hs, hs2])) hs hs2) fun σ H R ⟨Y, fr, st, Rr, q⟩ => ?_
  refine tM_bnd Rr q fun d v H1 Y1 fr1 st1 R1 x1 r1 h1 => ?_
  refine tM_bnd R1 h1 fun d2 v2 H2 Y2 fr2 st2 R2 x2 r2 h2 => ?_
  obtain ⟨ds, ed, h3⟩ := FO_opt h2
  cases d with
  | int i =>
    cases d2 with
    | int j =>
      have q1 : Rep X.K Y1.G Y1.lab (.int i) v := r1
      have q2 : Rep X.K Y2.G Y2.lab (.int j) v2 := r2
      unfold Rep at q1 q2
      simp only at ed
      split at ed
      · rename_i g
        cases ed
        rw [Bool.and_eq_true] at g
        have g1 := of_decide_eq_true g.1
        have g2 := of_decide_eq_true g.2
        exact ⟨i, j, by rw [q1, q2], ⟨g1.1, g1.2, g2.1, g2.2⟩, FO_ok (rel := rI X.K C) R2 (.refl _ _) wk_range h3⟩
      · cases ed
    | _ => cases ed
  | _ => cases ed
end
end DL
end

section
set_option Elab.async false
set_option linter.all false
set_option maxRecDepth 100000
set_option maxHeartbeats 4000000
/-! The D layer, part l: comprehensions of one clause and of two. -/
namespace DL
open PySem PySem.Spec PyProof.Rows L2

mutual
def sameD : D → D → Bool
  | .non, .non => true
  | .bl a, .bl b => a == b
  | .int a, .int b => decide (a = b)
  | .str a, .str b => decide (a = b)
  | .tup a, .tup b => sameS a b
  | .lst a, .lst b => sameS a b
  | .obj a, .obj b => decide (a = b)
  | .scr a, .scr b => decide (a = b)
  | _, _ => false
def sameS : List D → List D → Bool
  | [], [] => true
  | a :: as, b :: bs => sameD a b && sameS as bs
  | _, _ => false
end
mutual
theorem sameD_eq : ∀ (a b : D), sameD a b = true → a = b
  | .non, b, h => by cases b <;> first | rfl | (unfold sameD at h; cases h)
  | .bl x, b, h => by cases b <;> unfold sameD at h <;> first | (rw [beq_iff_eq.mp h]) | cases h
  | .int x, b, h => by cases b <;> unfold sameD at h <;> first | (rw [of_decide_eq_true h]) | cases h
  | .str x, b, h => by cases b <;> unfold sameD at h <;> first | (rw [of_decide_eq_true h]) | cases h
  | .tup x, b, h => by cases b <;> unfold sameD at h <;> first | (rw [sameS_eq x _ h]) | cases h
  | .lst x, b, h => by cases b <;> unfold sameD at h <;> first | (rw [sameS_eq x _ h]) | cases h
  | .obj x, b, h => by cases b <;> unfold sameD at h <;> first | (rw [of_decide_eq_true h]) | cases h
  | .scr x, b, h => by cases b <;> unfold sameD at h <;> first | (rw [of_decide_eq_true h]) | cases h
theorem sameS_eq : ∀ (a b : List D), sameS a b = true → a = b
  | [], b, h => by cases b <;> unfold sameS at h <;> first | rfl | cases h
  | x :: xs, b, h => by
    cases b with
    | nil => unfold sameS at h; cases h
    | cons y ys =>
      unfold sameS at h
      rw [Bool.and_eq_true] at h
      rw [sameD_eq x y h.1, sameS_eq xs ys h.2]
end
mutual
theorem sameD_refl : ∀ (a : D), sameD a a = true
  | .non => by unfold sameD; rfl
  | .bl x => by unfold sameD; exact beq_self_eq_true x
  | .int x => by unfold sameD; exact decide_eq_true rfl
  | .str x => by unfold sameD; exact decide_eq_true rfl
  | .tup x => by unfold sameD; exact sameS_refl x
  | .lst x => by unfold sameD; exact sameS_refl x
  | .obj x => by unfold sameD; exact decide_eq_true rfl
  | .scr x => by unfold sameD; exact decide_eq_true rfl
theorem sameS_refl : ∀ (a : List D), sameS a a = true
  | [] => by unfold sameS; rfl
  | x :: xs => by unfold sameS; rw [sameD_refl x, sameS_refl xs]; rfl
end

/-! ### targets by their places -/
inductive Tg where
  | nm (i : Nat) | tup (ts : List Tg)
mutual
def gT (K : PySem.W.Frag) : Tg → TG
  | .nm i => gName i
  | .tup ts => gTup K ts.length (gTs K ts)
def gTs (K : PySem.W.Frag) : List Tg → TGs
  | [] => fun vs σ H Q => vs = [] ∧ Q σ H
  | t :: ts => fun vs σ H Q => ∃ v ws, vs = v :: ws ∧ gT K t v σ H fun σ1 H1 => gTs K ts ws σ1 H1 Q
end
mutual
def stT : Tg → D → Fr → Option Fr
  | .nm i, d, fr => if i < fr.length then some (fr.set i (.val d)) else none
  | .tup ts, .tup ds, fr => if ds.length = ts.length then stTs ts ds fr else none
  | _, _, _ => none
def stTs : List Tg → List D → Fr → Option Fr
  | [], [], fr => some fr
  | t :: ts, d :: ds, fr => match stT t d fr with | some fr1 => stTs ts ds fr1 | none => none
  | _, _, _ => none
end
mutual
def Tg.inn (vs : List Nat) : Tg → Bool
  | .nm i => vs.contains i
  | .tup ts => Tg.inns vs ts
def Tg.inns (vs : List Nat) : List Tg → Bool
  | [] => true
  | t :: ts => Tg.inn vs t && Tg.inns vs ts
end
section
variable {X : Cx} {pos : Pos} {t : Expr} {ts : List Expr} {g : Tg} {gs : List Tg}
abbrev DTg (X : Cx) (t : Expr) (g : Tg) : Prop := PG X t (gT X.K g)
abbrev DTgs (X : Cx) (ts : List Expr) (gs : List Tg) : Prop := PGs X ts (gTs X.K gs)
theorem tg_name (i : Nat) {x : Str} (hN : X.N.Nodup) (hi : X.N[i]? = some x := by rfl) (hx : Loc X.env.scope x := by first | exact Or.inl rfl | exact Or.inr rfl) (hf : X.fn x = true ∨ X.env.scope.names.lookup x = some .local := by first | exact .inl rfl | exact .inr rfl | assumption) : DTg X (.Name x pos) (.nm i) :=
  pg_w (pg_name hN hi hx hf) fun v σ H Q h => by unfold gT at h; exact h
theorem tgs_nil : DTgs X [] [] := pgs_w pgs_nil fun vs σ H Q h => by unfold gTs at h; exact h
theorem tgs_cons (h : DTg X t g) (hs : DTgs X ts gs) (hh : (assignEach (t :: ts) X.env).map (·.2) = assign t X.env :: (assignEach ts X.env).map (·.2) := by rfl) : DTgs X (t :: ts) (g :: gs) :=
  pgs_w (pgs_cons h hs hh) fun vs σ H Q h => by unfold gTs at h; exact h
theorem tg_tup {k : Nat} (hc : X.calm = true) (h : DTgs X ts gs) (hn : (assignEach ts X.env).length = gs.length := by rfl) (hst : (assignEach ts X.env).findIdx? (·.1) = none := by rfl) : DTg X (.Tuple ts k pos) (.tup gs) :=
  pg_w (pg_tup hc h hn hst) fun v σ H Q h => by unfold gT at h; exact h
end

/-! ### wiped places -/
theorem wipe_get {σ : L2.St} {vs : List Nat} {j : Nat} : (wipe σ vs)[j]? = if j ∈ vs then (σ[j]?).map (fun _ => none) else σ[j]? := by
  induction vs with
  | nil => simp [wipe]
  | cons v vs ih =>
    unfold wipe
    by_cases e : j = v
    · subst e
      simp only [List.mem_cons, true_or, if_true]
      by_cases hl : j < σ.length
      · rw [List.getElem?_set_self (by rw [wipe_length]; exact hl), List.getElem?_eq_getElem hl]
        rfl
      · rw [List.getElem?_eq_none (by rw [List.length_set, wipe_length]; omega), List.getElem?_eq_none (by omega)]
        rfl
    · rw [List.getElem?_set_ne (fun z => e z.symm), ih]
      simp [List.mem_cons, e]
theorem wipe_set {σ : L2.St} {vs : List Nat} {i : Nat} {x : Option V} (h : i ∈ vs) : wipe (σ.set i x) vs = wipe σ vs := by
  apply List.ext_getElem?
  intro j
  rw [wipe_get, wipe_get]
  by_cases e : i = j
  · subst e
    rw [if_pos h, if_pos h]
    by_cases hl : i < σ.length
    · rw [List.getElem?_set_self hl, List.getElem?_eq_getElem hl]
      rfl
    · rw [List.getElem?_eq_none (by rw [List.length_set]; omega), List.getElem?_eq_none (by omega)]
  · rw [List.getElem?_set_ne e]
theorem wipe_wipe {σ : L2.St} {vs vs1 : List Nat} (h : ∀ i ∈ vs1, i ∈ vs) : wipe (wipe σ vs1) vs = wipe σ vs := by
  apply List.ext_getElem?
  intro j
  rw [wipe_get, wipe_get, wipe_get]
  by_cases e : j ∈ vs
  · rw [if_pos e, if_pos e]
    split <;> cases σ[j]? <;> rfl
  · rw [if_neg e, if_neg e, if_neg (fun z => e (h j z))]
def wipeF (fr : Fr) : List Nat → Fr
  | [] => fr
  | v :: vs => (wipeF fr vs).set v .none
def restF (fr0 fr : Fr) : List Nat → Fr
  | [] => fr
  | v :: vs => (restF fr0 fr vs).set v (match fr0[v]? with | some (.val d) => .val d | _ => .none)
theorem wipeF_length {fr : Fr} : ∀ {vs : List Nat}, (wipeF fr vs).length = fr.length
  | [] => rfl
  | v :: vs => by unfold wipeF; rw [List.length_set, wipeF_length]
theorem restF_length {fr0 fr : Fr} : ∀ {vs : List Nat}, (restF fr0 fr vs).length = fr.length
  | [] => rfl
  | v :: vs => by unfold restF; rw [List.length_set, restF_length]
theorem wipeF_get {fr : Fr} {j : Nat} {s : Slot} : ∀ {vs : List Nat}, (wipeF fr vs)[j]? = some s → s = .none ∨ (j ∉ vs ∧ fr[j]? = some s)
  | [], h => .inr ⟨by simp, h⟩
  | v :: vs, h => by
    unfold wipeF at h
    by_cases e : v = j
    · subst e
      by_cases hl : v < (wipeF fr vs).length
      · rw [List.getElem?_set_self hl] at h
        cases h
        exact .inl rfl
      · rw [List.getElem?_eq_none (by rw [List.length_set]; omega)] at h
        cases h
    · rw [List.getElem?_set_ne e] at h
      rcases wipeF_get h with k | ⟨k1, k2⟩
      · exact .inl k
      · exact .inr ⟨fun z => (List.mem_cons.mp z).elim (fun y => e y.symm) k1, k2⟩
theorem restF_get {fr0 fr : Fr} {j : Nat} {s : Slot} : ∀ {vs : List Nat}, (restF fr0 fr vs)[j]? = some s → s = .none ∨ (j ∉ vs ∧ fr[j]? = some s) ∨ ∃ d, s = .val d ∧ fr0[j]? = some (.val d)
  | [], h => .inr (.inl ⟨by simp, h⟩)
  | v :: vs, h => by
    unfold restF at h
    by_cases e : v = j
    · subst e
      by_cases hl : v < (restF fr0 fr vs).length
      · rw [List.getElem?_set_self hl] at h
        cases h
        split
        · rename_i d e
          exact .inr (.inr ⟨d, rfl, e⟩)
        · exact .inl rfl
      · rw [List.getElem?_eq_none (by rw [List.length_set]; omega)] at h
        cases h
    · rw [List.getElem?_set_ne e] at h
      rcases restF_get h with k | ⟨k1, k2⟩ | k
      · exact .inl k
      · exact .inr (.inl ⟨fun z => (List.mem_cons.mp z).elim (fun y => e y.symm) k1, k2⟩)
      · exact .inr (.inr k)
section
variable {K : PySem.W.Frag} {B : Bs} {Y Y0 : Vw} {σ : L2.St} {H H0 : Hp} {fr fr0 : Fr} {st st0 : SS}
theorem Rl.wiped (R : Rl K B Y σ H fr st) (vs : List Nat) : Rl K B Y (wipe σ vs) H (wipeF fr vs) st := by
  refine ⟨R.toWd, by rw [wipe_length, wipeF_length]; exact R.ln, fun i s e => ?_⟩
  rcases wipeF_get e with rfl | ⟨h1, h2⟩
  · trivial
  · rw [wipe_out h1]
    exact R.sl i s h2
theorem Rl.rest {vs : List Nat} (R : Rl K B Y (wipe σ vs) H fr st) (R0 : Rl K B Y0 σ H0 fr0 st0) (g : Gro Y0 Y) : Rl K B Y σ H (restF fr0 fr vs) st := by
  refine ⟨R.toWd, by rw [restF_length, ← R.ln, wipe_length], fun i s e => ?_⟩
  rcases restF_get e with rfl | ⟨h1, h2⟩ | ⟨d, rfl, h2⟩
  · trivial
  · have := R.sl i s h2
    rw [wipe_out h1] at this
    exact this
  · obtain ⟨v, e1, r⟩ := R0.sl i _ h2
    exact ⟨v, e1, g.rep r⟩
mutual
theorem gT_ok (vs : List Nat) : ∀ (t : Tg), t.inn vs = true → ∀ {d : D} {v : V} {σ : L2.St} {Y : Vw} {H : Hp} {fr fr' : Fr} {st : SS} {Q : L2.St → Hp → Prop}, Rl K B Y σ H fr st → Rep K Y.G Y.lab d v → stT t d fr = some fr' →
    (∀ σ' Y', Rl K B Y' σ' H fr' st → Ext Y H Y' H → wipe σ' vs = wipe σ vs → Q σ' H) → gT K t v σ H Q
  | .nm i, hin, d, v, σ, Y, H, fr, fr', st, Q, R, r, e, k => by
    unfold Tg.inn at hin
    unfold stT at e
    unfold gT
    split at e
    · rename_i hi
      cases e
      obtain ⟨R2, x2⟩ := R.setVal r hi
      exact k _ _ R2 x2 (wipe_set (by simpa using hin))
    · cases e
  | .tup ts, hin, d, v, σ, Y, H, fr, fr', st, Q, R, r, e, k => by
    unfold Tg.inn at hin
    unfold gT
    cases d with
    | tup ds =>
      unfold stT at e
      split at e
      · rename_i hl
        unfold Rep at r
        obtain ⟨a, xs, rfl, s, rs⟩ := r
        exact ⟨a, xs, rfl, sqT_sub R.sub s, by rw [reps_len rs]; exact hl, gTs_ok vs ts hin R rs e k⟩
      · cases e
    | _ => unfold stT at e; cases e
theorem gTs_ok (vs : List Nat) : ∀ (t : List Tg), Tg.inns vs t = true → ∀ {d : List D} {v : List V} {σ : L2.St} {Y : Vw} {H : Hp} {fr fr' : Fr} {st : SS} {Q : L2.St → Hp → Prop}, Rl K B Y σ H fr st → Reps K Y.G Y.lab d v → stTs t d fr = some fr' →
    (∀ σ' Y', Rl K B Y' σ' H fr' st → Ext Y H Y' H → wipe σ' vs = wipe σ vs → Q σ' H) → gTs K t v σ H Q
  | [], hin, d, v, σ, Y, H, fr, fr', st, Q, R, r, e, k => by
    unfold gTs
    cases d with
    | nil =>
      unfold stTs at e
      cases e
      exact ⟨reps_nil_inv r, k σ Y R (.refl _ _) rfl⟩
    | cons => unfold stTs at e; cases e
  | t :: ts, hin, d, v, σ, Y, H, fr, fr', st, Q, R, r, e, k => by
    unfold Tg.inns at hin
    rw [Bool.and_eq_true] at hin
    unfold gTs
    cases d with
    | nil => unfold stTs at e; cases e
    | cons d ds =>
      obtain ⟨w, ws, rfl, r1, r2⟩ := reps_cons_inv r
      unfold stTs at e
      cases z : stT t d fr with
      | none => rw [z] at e; cases e
      | some fr1 =>
        rw [z] at e
        refine ⟨w, ws, rfl, gT_ok vs t hin.1 R r1 z fun σ' Y' R' x' hw => ?_⟩
        exact gTs_ok vs ts hin.2 R' (x'.reps r2) e fun σ2 Y2 R2 x2 hw2 => k σ2 Y2 R2 (x'.trans x2) (hw2.trans hw)
end
end

/-! ### the loop -/
def keep (vs : List Nat) (w : Wt) (all : List D) (fr : Fr) (st : SS) : Bool := match w with
  | .no => true
  | .own i => !vs.contains i && (match fr[i]? with | some (.own ds) => sameS ds all | _ => false)
  | .ob n => match st[n]? with | some (.lst ds) => sameS ds all | _ => false
theorem keep_at {vs : List Nat} {w : Wt} {all : List D} {fr : Fr} {st : SS} {σ σ' : L2.St} (h : keep vs w all fr st = true) (hσ : ∀ i, i ∉ vs → σ'[i]? = σ[i]?) : KeepP σ (all, w) σ' fr st := by
  unfold keep at h
  unfold KeepP
  cases w with
  | no => trivial
  | own i =>
    simp only [Bool.and_eq_true] at h
    obtain ⟨h1, h⟩ := h
    refine ⟨hσ i fun m => ?_, ?_⟩
    · have : vs.contains i = true := List.contains_iff_mem.mpr m
      rw [this] at h1
      cases h1
    · split at h
      · rename_i ds e
        rw [sameS_eq _ _ h] at e
        exact e
      · cases h
  | ob n =>
    simp only at h
    split at h
    · rename_i ds e
      rw [sameS_eq _ _ h] at e
      exact e
    · cases h
def cLoop (w : Wt) (all : List D) (vs : List Nat) (g : Tg) (t : M Bool) (e : M D) : List D → List D → M (List D)
  | [], acc => fun fr st => if keep vs w all fr st then some (.ok acc fr st) else none
  | d :: ds, acc => fun fr st => if keep vs w all fr st then (match stT g d fr with
    | none => none
    | some fr1 => bnd t (fun b => if b then bnd e (fun y => if small acc.length then (fun fr st => cLoop w all vs g t e ds (acc ++ [y]) (wipeF fr vs) st) else stuck) else fun fr st => cLoop w all vs g t e ds acc (wipeF fr vs) st) fr1 st) else none
def compM (vs : List Nat) (mi : M (List D × Wt)) (g : Tg) (t : M Bool) (e : M D) : M (List D) := bnd mi fun p fr st =>
  match cLoop p.2 p.1 vs g t e p.1 [] (wipeF fr vs) st with
  | some (.ok acc fr' st') => some (.ok acc (restF fr fr' vs) st')
  | _ => none
def cLoop2 (w : Wt) (all : List D) (vs : List Nat) (g : Tg) (t : M Bool) (vs1 : List Nat) (mi1 : M (List D × Wt)) (g1 : Tg) (t1 : M Bool) (e : M D) : List D → List D → M (List D)
  | [], acc => fun fr st => if keep vs w all fr st then some (.ok acc fr st) else none
  | d :: ds, acc => fun fr st => if keep vs w all fr st then (match stT g d fr with
    | none => none
    | some fr1 => bnd t (fun b => if b then bnd mi1 (fun p fr st => bnd (cLoop p.2 p.1 vs1 g1 t1 e p.1 acc) (fun acc fr st => cLoop2 w all vs g t vs1 mi1 g1 t1 e ds acc (wipeF fr vs) st) (wipeF fr vs1) st) else fun fr st => cLoop2 w all vs g t vs1 mi1 g1 t1 e ds acc (wipeF fr vs) st) fr1 st) else none
def compM2 (vs : List Nat) (mi : M (List D × Wt)) (g : Tg) (t : M Bool) (vs1 : List Nat) (mi1 : M (List D × Wt)) (g1 : Tg) (t1 : M Bool) (e : M D) : M (List D) := bnd mi fun p fr st =>
  match cLoop2 p.2 p.1 vs g t vs1 mi1 g1 t1 e p.1 [] (wipeF fr vs) st with
  | some (.ok acc fr' st') => some (.ok acc (restF fr fr' vs) st')
  | _ => none
def Cc.blk (C : Cc) : Cc := { C with W := fun _ _ _ _ => False }
abbrev Blk (X : Cx) (scope : Scope) (P : Cx → Prop) : Prop := ∀ (s : Shared) (H : Hp) (c : Addr) (cl : List (Str × Addr)) (fp : List Addr), P (X.blk s H scope (compEnvC scope cl c X.env) fp)
theorem bnd_ok {α β : Type} {m : M α} {f : α → M β} {fr : Fr} {st : SS} {b : β} {fr' : Fr} {st' : SS} (h : bnd m f fr st = some (.ok b fr' st')) : ∃ a fr1 st1, m fr st = some (.ok a fr1 st1) ∧ f a fr1 st1 = some (.ok b fr' st') := by
  unfold bnd at h
  cases z : m fr st with
  | none => rw [z] at h; cases h
  | some o =>
    rw [z] at h
    cases o with
    | exn => cases h
    | ok a fr1 st1 => exact ⟨a, fr1, st1, rfl, h⟩
theorem tM_ok {α β : Type} {K : PySem.W.Frag} {C : Cc} {rel : Vw → Hp → α → β → Prop} {m : M α} {σ : L2.St} {Y : Vw} {H : Hp} {fr fr1 : Fr} {st st1 : SS} {a : α} {P : β → Hp → Prop} (R : Rl K C.B Y σ H fr st) (h : m fr st = some (.ok a fr1 st1))
    (k : ∀ b H1 Y1, Rl K C.B Y1 σ H1 fr1 st1 → Ext Y H Y1 H1 → rel Y1 H1 a b → P b H1) : tM K C rel m σ H P := ⟨Y, fr, st, R, by rw [h]; exact k⟩

theorem loop_it {J : It} {n : Nat} {G : Hp → Prop} {Yd : Nat → Hp → V → Hp → Prop} (w : Walk J n G Yd) {H0 : Hp} {F : Hp → Prop} {S : (Hp → Prop) → V → Hp → Prop} (Pv : Nat → Hp → Prop) (h0 : Pv 0 H0) (hG : ∀ i H, i ≤ n → Pv i H → G H)
    (hs : ∀ i x H H', i < n → Pv i H → Yd i H x H' → S (Pv (i + 1)) x H') (hd : ∀ H, Pv n H → F H) :
    ∃ W : Nat → Nat → Hp → Prop, (∃ m, W 0 m H0) ∧ ∀ i m H, W i m H → (J.stop i H ∧ F H) ∨ (J.go i H ∧ ∃ Nx : Hp → Prop, (∀ H', Nx H' → ∃ m', m' < m ∧ W (i + 1) m' H') ∧ ∀ x H', J.yld i H x H' → S Nx x H') := by
  refine ⟨fun i m H => m = n - i ∧ i ≤ n ∧ Pv i H, ⟨n, by simp, Nat.zero_le _, h0⟩, ?_⟩
  rintro i m H ⟨rfl, hi, p⟩
  have q := hG i H hi p
  by_cases hlt : i < n
  · exact .inr ⟨w.goes i H hlt q, Pv (i + 1), fun H' p' => ⟨n - (i + 1), by omega, rfl, hlt, p'⟩, fun x H' y => hs i x H H' hlt p (w.yields i H x H' hlt q y)⟩
  · have e : i = n := by omega
    subst e
    exact .inl ⟨w.stops H q, hd H p⟩

section
variable {K : PySem.W.Frag} {C : Cc} {Y Yb : Vw} {σ : L2.St} {H Hb : Hp} {fr fr' : Fr} {st st' : SS}
/-- a tracked new list is changed -/
theorem Rl.setFresh {B : Bs} (R : Rl K B Y σ H fr st) {ds es : List D} {v : V} {l : Addr} {xs ys : List V} (F : Fresh K B Y H ds v l xs) (r : Reps K Y.G Y.lab es ys) : Rl K B Y σ (upd H l (.lst ys)) fr st ∧ Fresh K B Y (upd H l (.lst ys)) es v l ys := by
  have ne : ∀ a u, Y.G a = some u → a ≠ l := fun a u e z => by rw [z, F.g] at e; cases e
  refine ⟨⟨⟨fun a u e => ?_, fun a u e m => ?_, R.gn, R.pre, R.hs, R.hz, R.len, R.nd, R.fl, fun n a ob e1 e2 => ?_, fun i q e => ?_, R.inj⟩, R.ln, fun i s e => ?_⟩, ⟨F.e, upd_same, F.g, F.lab, F.ow, F.h0, r⟩⟩
  · rw [upd_ne (ne a u e)]; exact R.sub a u e
  · rw [upd_ne (show a ≠ l from fun z => by rw [z, F.h0] at e; cases e)]; exact R.base a u e m
  · exact (R.ob n a ob e1 e2).mono (fun _ _ z => z) (fun _ _ z => z) fun u z => by
      rw [upd_ne (show a ≠ l from fun q => F.lab (by rw [← q]; exact List.mem_of_getElem? e1))]; exact z
  · obtain ⟨h1, h2, h3, u, h4⟩ := R.own i q e
    exact ⟨h1, h2, h3, u, by rw [upd_ne (show q ≠ l from fun z => F.ow i (by rw [← z]; exact e))]; exact h4⟩
  · refine (R.sl i s e).mono (fun _ _ z => z) (fun _ _ z => z) fun q z => ⟨z, fun u hu => ?_⟩
    rw [upd_ne (show q ≠ l from fun w => F.ow i (by rw [← w]; exact z))]; exact hu
/-- what stands at a turn's start -/
def Turn (K : PySem.W.Frag) (C : Cc) (Yb : Vw) (Hb : Hp) (Yg : Vw) (σ0 : L2.St) (D0 : Addr) (m : List D → M (List D)) (o : Out (List D)) (H : Hp) : Prop :=
  ∃ Y fr st acc xs, Rl K C.B Y σ0 H fr st ∧ Ext Yb Hb Y H ∧ Gro Yg Y ∧ Fresh K C.B Y H acc (.ref D0) D0 xs ∧ m acc fr st = some o
theorem Fresh.extend {B : Bs} {ds : List D} {v : V} {l : Addr} {xs : List V} {Y1 : Vw} {H1 : Hp} (F : Fresh K B Y H ds v l xs) (x : Ext Y H Y1 H1) : Fresh K B Y1 H1 ds v l xs := F.ext x
theorem turn_ok {w : Wt} {all : List D} {vs : List Nat} {g : Tg} {t : M Bool} {e : M D} {d : D} {ds : List D} {x : V} {D0 : Addr} {a : List D} {fo : Fr} {so : SS} {Yg : Vw} (hin : g.inn vs = true) (hDb : Hb D0 = none)
    {acc : List D} {xs : List V} (R : Rl K C.B Y (wipe σ vs) H fr st) (xb : Ext Yb Hb Y H) (xg : Gro Yg Y) (F : Fresh K C.B Y H acc (.ref D0) D0 xs) (hc : cLoop w all vs g t e (d :: ds) acc fr st = some (.ok a fo so)) (r : Rep K Y.G Y.lab d x) :
    gT K g x (wipe σ vs) H fun σ2 H2 => wipe σ2 vs = wipe σ vs ∧ tM K C.blk rT t σ2 H2 fun b H3 => if b = true then tM K C.blk (rE K) e σ2 H3 fun y H4 => ∃ acc, H4 D0 = some (.lst acc) ∧ acc.length < sizeLine ∧
      Turn K C Yb Hb Yg (wipe σ vs) D0 (cLoop w all vs g t e ds) (.ok a fo so) (upd H4 D0 (.lst (acc ++ [y]))) else Turn K C Yb Hb Yg (wipe σ vs) D0 (cLoop w all vs g t e ds) (.ok a fo so) H3 := by
  unfold cLoop at hc
  split at hc
  · cases z : stT g d fr with
    | none => rw [z] at hc; cases hc
    | some fr1 =>
      rw [z] at hc
      refine gT_ok vs g hin R r z fun σ2 Y2 R2 x2 hw => ?_
      have hw' : wipe σ2 vs = wipe σ vs := hw.trans (wipe_wipe fun _ z => z)
      refine ⟨hw', ?_⟩
      obtain ⟨b, fr2, st2, z2, hc⟩ := bnd_ok hc
      refine tM_ok (C := C.blk) R2 z2 fun b' H3 Y3 R3 x3 r3 => ?_
      subst r3
      have F3 := (F.ext x2).ext x3
      cases b' with
      | true =>
        rw [if_pos rfl]
        rw [if_pos rfl] at hc
        obtain ⟨y, fr4, st4, z4, hc⟩ := bnd_ok hc
        refine tM_ok (C := C.blk) R3 z4 fun yv H4 Y4 R4 x4 r4 => ?_
        have F4 := F3.ext x4
        split at hc
        · rename_i sm
          refine ⟨xs, F4.h, by rw [reps_len F4.r]; exact small_lt sm, ?_⟩
          obtain ⟨R5, F5⟩ := R4.setFresh F4 (reps_append F4.r (reps_cons r4 reps_nil))
          have R6 := R5.wiped vs
          rw [hw'] at R6
          exact ⟨Y4, _, st4, _, _, R6, (((xb.trans x2).trans x3).trans x4).upd hDb, ((xg.trans x2.gro).trans x3.gro).trans x4.gro, F5, hc⟩
        · cases hc
      | false =>
        rw [if_neg Bool.false_ne_true]
        rw [if_neg Bool.false_ne_true] at hc
        have R6 := R3.wiped vs
        rw [hw'] at R6
        exact ⟨Y3, _, st2, _, _, R6, (xb.trans x2).trans x3, (xg.trans x2.gro).trans x3.gro, F3, hc⟩
  · cases hc
theorem cLoop_keep {w : Wt} {all : List D} {vs : List Nat} {g : Tg} {t : M Bool} {e : M D} {ds acc : List D} {fr : Fr} {st : SS} {o : Out (List D)} (h : cLoop w all vs g t e ds acc fr st = some o) : keep vs w all fr st = true := by
  cases ds with
  | nil =>
    unfold cLoop at h
    split at h
    · assumption
    · cases h
  | cons =>
    unfold cLoop at h
    split at h
    · assumption
    · cases h
/-- the loop of one clause, with what is walked -/
theorem cloop_ok {w : Wt} {all : List D} {vs : List Nat} {g : Tg} {t : M Bool} {e : M D} {D0 : Addr} {acc a : List D} {xs : List V} {fo : Fr} {so : SS} {Yg : Vw} {J : It} {F : Hp → Prop} {σw : L2.St} (hin : g.inn vs = true) (hDb : Hb D0 = none)
    (hσ : ∀ i, i ∉ vs → σ[i]? = σw[i]?)
    (wk : WkP K C.B (KeepP σw (all, w)) all Yg J) (R : Rl K C.B Y (wipe σ vs) H fr st) (xb : Ext Yb Hb Y H) (xg : Gro Yg Y) (Fh : Fresh K C.B Y H acc (.ref D0) D0 xs)
    (hc : cLoop w all vs g t e all acc fr st = some (.ok a fo so)) (hF : ∀ H, Turn K C Yb Hb Yg (wipe σ vs) D0 (cLoop w all vs g t e []) (.ok a fo so) H → F H) :
    ∃ W : Nat → Nat → Hp → Prop, (∃ m, W 0 m H) ∧ ∀ i m H, W i m H → (J.stop i H ∧ F H) ∨ (J.go i H ∧ ∃ Nx : Hp → Prop, (∀ H', Nx H' → ∃ m', m' < m ∧ W (i + 1) m' H') ∧ ∀ x H', J.yld i H x H' →
      gT K g x (wipe σ vs) H' fun σ2 H2 => wipe σ2 vs = wipe σ vs ∧ tM K C.blk rT t σ2 H2 fun b H3 => if b = true then tM K C.blk (rE K) e σ2 H3 fun y H4 => ∃ acc, H4 D0 = some (.lst acc) ∧ acc.length < sizeLine ∧ Nx (upd H4 D0 (.lst (acc ++ [y]))) else Nx H3) := by
  obtain ⟨G, Yd, wlk, hG, hY⟩ := wk
  have hP : ∀ {fr' : Fr} {st' : SS}, keep vs w all fr' st' = true → KeepP σw (all, w) (wipe σ vs) fr' st' := fun k => keep_at k fun i m => (wipe_out m).trans (hσ i m)
  refine loop_it wlk (F := F) (S := fun Nx x H' => gT K g x (wipe σ vs) H' fun σ2 H2 => wipe σ2 vs = wipe σ vs ∧ tM K C.blk rT t σ2 H2 fun b H3 => if b = true then tM K C.blk (rE K) e σ2 H3 fun y H4 => ∃ acc, H4 D0 = some (.lst acc) ∧ acc.length < sizeLine ∧ Nx (upd H4 D0 (.lst (acc ++ [y]))) else Nx H3)
    (fun i H => Turn K C Yb Hb Yg (wipe σ vs) D0 (cLoop w all vs g t e (all.drop i)) (.ok a fo so) H) ⟨Y, fr, st, acc, xs, R, xb, xg, Fh, hc⟩ ?_ ?_ ?_
  · rintro i H _ ⟨Y', fr', st', acc', xs', R', xb', xg', F', hc'⟩
    exact hG Y' _ H fr' st' R' xg' (hP (cLoop_keep hc'))
  · rintro i x H H' hi ⟨Y', fr', st', acc', xs', R', xb', xg', F', hc'⟩ y
    obtain ⟨Y2, d, R2, x2, e2, r2⟩ := hY i x H H' Y' _ fr' st' hi R' xg' (hP (cLoop_keep hc')) y
    have ed : all.drop i = d :: all.drop (i + 1) := by
      rw [List.drop_eq_getElem_cons hi]
      rw [List.getElem?_eq_getElem hi] at e2
      cases e2
      rfl
    rw [ed] at hc'
    exact turn_ok hin hDb R2 (xb'.trans x2) (xg'.trans x2.gro) (F'.ext x2) hc' r2
  · rintro H h
    rw [List.drop_length] at h
    exact hF H h
theorem compM_ok {vs : List Nat} {mi : M (List D × Wt)} {g : Tg} {t : M Bool} {e : M D} {Q : VK} (hin : g.inn vs = true) (h : tN K C (compM vs mi g t e) σ H Q) :
    tLc (fun σ H R => tM K C (rIw K C σ) mi σ H R) (gT K g) (tM K C.blk rT t) (tM K C.blk (rE K) e) vs σ H Q := by
  obtain ⟨Y, fr, st, R, h⟩ := h
  refine ⟨Y, fr, st, R, ?_⟩
  unfold compM bnd at h
  cases z : mi fr st with
  | none => rw [z] at h; exact h
  | some o =>
    rw [z] at h
    cases o with
    | exn => exact h
    | ok p fr1 st1 =>
      obtain ⟨items, w⟩ := p
      intro J H1 Y1 R1 x1 wk D0 hD0
      cases z2 : cLoop w items vs g t e items [] (wipeF fr1 vs) st1 with
      | none => simp only [z2] at h; exact h.elim
      | some o =>
        cases o with
        | exn => simp only [z2] at h; exact h.elim
        | ok a fo so =>
          simp only [z2] at h
          obtain ⟨R2, F2, x2⟩ := R1.newL hD0 (ds := []) (xs := []) reps_nil
          refine cloop_ok (Yg := Y1) (Yb := Y1) (Hb := H1) (σw := σ) (fr := wipeF fr1 vs) (st := st1) (acc := []) (xs := []) hin hD0 (fun _ _ => rfl) wk (R2.wiped vs) x2 (.refl _) F2 z2 ?_
          rintro H3 ⟨Y3, fr3, st3, acc3, xs3, R3, x3, g3, F3, hc3⟩
          unfold cLoop at hc3
          split at hc3
          · cases hc3
            exact h (.ref D0) H3 Y3 (R3.rest R1 g3) (x1.trans x3) ⟨D0, xs3, F3, x1.t _ hD0⟩
          · cases hc3
/-- two clauses -/
theorem cLoop2_keep {w : Wt} {all : List D} {vs vs1 : List Nat} {g g1 : Tg} {t t1 : M Bool} {mi1 : M (List D × Wt)} {e : M D} {ds acc : List D} {fr : Fr} {st : SS} {o : Out (List D)} (h : cLoop2 w all vs g t vs1 mi1 g1 t1 e ds acc fr st = some o) : keep vs w all fr st = true := by
  cases ds with
  | nil =>
    unfold cLoop2 at h
    split at h
    · assumption
    · cases h
  | cons =>
    unfold cLoop2 at h
    split at h
    · assumption
    · cases h
theorem compM2_ok {vs vs1 : List Nat} {mi mi1 : M (List D × Wt)} {g g1 : Tg} {t t1 : M Bool} {e : M D} {Q : VK} (hin : g.inn vs = true) (hin1 : g1.inn vs1 = true) (hv : ∀ i ∈ vs1, i ∈ vs) (h : tN K C (compM2 vs mi g t vs1 mi1 g1 t1 e) σ H Q) :
    tLc2 (fun σ H R => tM K C (rIw K C σ) mi σ H R) (gT K g) (tM K C.blk rT t) (fun σ H R => tM K C.blk (rIw K C.blk σ) mi1 σ H R) (gT K g1) (tM K C.blk rT t1) (tM K C.blk (rE K) e) vs vs1 σ H Q := by
  obtain ⟨Y, fr, st, R, h⟩ := h
  refine ⟨Y, fr, st, R, ?_⟩
  unfold compM2 bnd at h
  cases z : mi fr st with
  | none => rw [z] at h; exact h
  | some o =>
    rw [z] at h
    cases o with
    | exn => exact h
    | ok p fr1 st1 =>
      obtain ⟨items, w⟩ := p
      intro J H1 Y1 R1 x1 wk D0 hD0
      cases z2 : cLoop2 w items vs g t vs1 mi1 g1 t1 e items [] (wipeF fr1 vs) st1 with
      | none => simp only [z2] at h; exact h.elim
      | some o =>
        cases o with
        | exn => simp only [z2] at h; exact h.elim
        | ok a fo so =>
          simp only [z2] at h
          obtain ⟨R2, F2, x2⟩ := R1.newL hD0 (ds := []) (xs := []) reps_nil
          obtain ⟨G, Yd, wlk, hG, hY⟩ := wk
          have hP : ∀ {fr' : Fr} {st' : SS}, keep vs w items fr' st' = true → KeepP σ (items, w) (wipe σ vs) fr' st' := fun k => keep_at k fun i m => wipe_out m
          let T := fun ds H => Turn K C Y1 H1 Y1 (wipe σ vs) D0 (cLoop2 w items vs g t vs1 mi1 g1 t1 e ds) (.ok a fo so) H
          refine loop_it wlk (F := fun H => Q (.ref D0) H) (S := fun Nx x H' => gT K g x (wipe σ vs) H' fun σ2 H2 => wipe σ2 vs = wipe σ vs ∧ tM K C.blk rT t σ2 H2 fun b H3 =>
            if b = true then tM K C.blk (rIw K C.blk σ2) mi1 σ2 H3 fun J1 H4 => ∃ W1 : Nat → Nat → Hp → Prop, (∃ m, W1 0 m H4) ∧ ∀ j k H, W1 j k H →
              (J1.stop j H ∧ Nx H) ∨ (J1.go j H ∧ ∃ Nx1 : Hp → Prop, (∀ H', Nx1 H' → ∃ k', k' < k ∧ W1 (j + 1) k' H') ∧ ∀ x H', J1.yld j H x H' → gT K g1 x (wipe σ2 vs1) H' fun σ3 H5 => wipe σ3 vs1 = wipe σ2 vs1 ∧ tM K C.blk rT t1 σ3 H5 fun b H6 =>
                if b = true then tM K C.blk (rE K) e σ3 H6 fun y H7 => ∃ acc, H7 D0 = some (.lst acc) ∧ acc.length < sizeLine ∧ Nx1 (upd H7 D0 (.lst (acc ++ [y]))) else Nx1 H6)
            else Nx H3)
            (fun i H => T (items.drop i) H) ⟨Y1, _, st1, [], [], R2.wiped vs, x2, .refl _, F2, z2⟩ ?_ ?_ ?_
          · rintro i H _ ⟨Y', fr', st', acc', xs', R', xb', xg', F', hc'⟩
            exact hG Y' _ H fr' st' R' xg' (hP (cLoop2_keep hc'))
          · rintro i x H H' hi ⟨Y', fr', st', acc', xs', R', xb', xg', F', hc'⟩ y
            obtain ⟨Yt, d, Rt, xt, e2, r2⟩ := hY i x H H' Y' _ fr' st' hi R' xg' (hP (cLoop2_keep hc')) y
            have ed : items.drop i = d :: items.drop (i + 1) := by
              rw [List.drop_eq_getElem_cons hi]
              rw [List.getElem?_eq_getElem hi] at e2
              cases e2
              rfl
            rw [ed] at hc'
            unfold cLoop2 at hc'
            split at hc'
            · cases zs : stT g d fr' with
              | none => rw [zs] at hc'; cases hc'
              | some frs =>
                rw [zs] at hc'
                refine gT_ok vs g hin Rt r2 zs fun σ2 Y2 R2 x2 hws => ?_
                have hw' : wipe σ2 vs = wipe σ vs := hws.trans (wipe_wipe fun _ z => z)
                refine ⟨hw', ?_⟩
                obtain ⟨b, fr2, st2, z2, hc'⟩ := bnd_ok hc'
                refine tM_ok (C := C.blk) R2 z2 fun b' H3 Y3 R3 x3 r3 => ?_
                subst r3
                have F3 := ((F'.ext xt).ext x2).ext x3
                have xb3 := ((xb'.trans xt).trans x2).trans x3
                have xg3 := ((xg'.trans xt.gro).trans x2.gro).trans x3.gro
                cases b' with
                | true =>
                  rw [if_pos rfl]
                  rw [if_pos rfl] at hc'
                  obtain ⟨⟨its, w1⟩, fr4, st4, z4, hc'⟩ := bnd_ok hc'
                  refine tM_ok (C := C.blk) R3 z4 fun J1 H4 Y4 R4 x4 wk1 => ?_
                  obtain ⟨acc5, fr5, st5, z5, hc'⟩ := bnd_ok hc'
                  have F4 := F3.ext x4
                  refine cloop_ok (C := C) (Yg := Y4) (Yb := Y1) (Hb := H1) (σw := σ2) hin1 hD0 (fun _ _ => rfl) wk1 (R4.wiped vs1) (xb3.trans x4) (.refl _) F4 z5 ?_
                  rintro H6 ⟨Y6, fr6, st6, acc6, xs6, R6, x6, g6, F6, hc6⟩
                  unfold cLoop at hc6
                  split at hc6
                  · cases hc6
                    have R7 := R6.wiped vs
                    rw [wipe_wipe hv, hw'] at R7
                    exact ⟨Y6, _, _, _, _, R7, x6, (xg3.trans x4.gro).trans g6, F6, hc'⟩
                  · cases hc6
                | false =>
                  rw [if_neg Bool.false_ne_true]
                  rw [if_neg Bool.false_ne_true] at hc'
                  have R6 := R3.wiped vs
                  rw [hw'] at R6
                  exact ⟨Y3, _, st2, _, _, R6, xb3, xg3, F3, hc'⟩
            · cases hc'
          · rintro H3 q
            rw [List.drop_length] at q
            obtain ⟨Y3, fr3, st3, acc3, xs3, R3, x3, g3, F3, hc3⟩ := q
            unfold cLoop2 at hc3
            split at hc3
            · cases hc3
              exact h (.ref D0) H3 Y3 (R3.rest R1 g3) (x1.trans x3) ⟨D0, xs3, F3, x1.t _ hD0⟩
            · cases hc3
end

/-! ### the rules -/
section
variable {X : Cx} {C : Cc} {pos spos py : Pos} {elt tg iter tg1 iter1 : Expr} {ifs ifs1 : List Expr} {scope : Scope} {mi mi1 : M (List D × Wt)} {g g1 : Tg} {t t1 : M Bool} {e : M D}
abbrev DTs (C : Cc) (X : Cx) (ifs : List Expr) (t : M Bool) : Prop := PTs X ifs (tM X.K C rT t)
theorem dts_nil : DTs C X [] (ret true) := ⟨fun pins s σ H Q I ⟨Y, fr, st, R, h⟩ => pts_nil.run pins s σ H Q I (FO_ok (a := true) (rel := rT) R (.refl _ _) rfl h)⟩
theorem dts_one {c : Expr} (h : DT C X c t) : DTs C X [c] t := pts_one h
theorem dn_lc (own : List (Str × Nat)) (hc : X.calm = true) (hN : X.N.Nodup) (hi : DIw C X tg iter mi) (ok : BlkOk X.N X.env.scope scope own)
    (hg : Blk X scope fun Z => PG Z tg (gT X.K g)) (ht : Blk X scope fun Z => PTs Z ifs (tM X.K C.blk rT t)) (he : Blk X scope fun Z => PE Z elt (tM X.K C.blk (rE X.K) e))
    (hin : g.inn (own.map (·.2)) = true := by rfl)
    (hs : ∀ x, foldedSetIterable iter X.env x = pure x := by intro _; rfl) : DN C X (.ListComp elt [⟨tg, iter, ifs, 0⟩] scope pos) (compM (own.map (·.2)) mi g t e) :=
  pe_w (pe_lc hc hN hi ok hg ht he hs) fun σ H Q h => compM_ok hin h
theorem dn_lc2 (own : List (Str × Nat)) (vs1 : List Nat) (hc : X.calm = true) (hN : X.N.Nodup) (hi : DIw C X tg iter mi) (ok : BlkOk X.N X.env.scope scope own)
    (hg : Blk X scope fun Z => PG Z tg (gT X.K g)) (ht : Blk X scope fun Z => PTs Z ifs (tM X.K C.blk rT t)) (hi1 : Blk X scope fun Z => PI Z tg1 iter1 (fun σ H R => tM X.K C.blk (rIw X.K C.blk σ) mi1 σ H R))
    (hg1 : Blk X scope fun Z => PG Z tg1 (gT X.K g1)) (ht1 : Blk X scope fun Z => PTs Z ifs1 (tM X.K C.blk rT t1)) (he : Blk X scope fun Z => PE Z elt (tM X.K C.blk (rE X.K) e))
    (hv : ∀ i ∈ vs1, i ∈ own.map (·.2) := by decide) (hin : g.inn (own.map (·.2)) = true := by rfl) (hin1 : g1.inn vs1 = true := by rfl)
    (hs : ∀ x, foldedSetIterable iter X.env x = pure x := by intro _; rfl) (hs1 : ∀ env x, foldedSetIterable iter1 env x = pure x := by intro _ _; rfl) :
    DN C X (.ListComp elt [⟨tg, iter, ifs, 0⟩, ⟨tg1, iter1, ifs1, 0⟩] scope pos) (compM2 (own.map (·.2)) mi g t vs1 mi1 g1 t1 e) :=
  pe_w (pe_lc2 hc hN hi ok hv hg ht hi1 hg1 ht1 he hs hs1) fun σ H Q h => compM2_ok hin hin1 hv h
/-- name = [..]: the name's own list -/
theorem setLc_ok (i : Nat) {m : M (List D)} {te : TE} (h : ∀ σ H Q, tN X.K C m σ H Q → te σ H Q) : ∀ E σ H, tS X.K C (setN i m) E σ H → tAsg te (gName i) E σ H := fun E σ H ⟨Y, fr, st, R, q⟩ => by
  refine h _ _ _ ?_
  refine tS_bndN R q fun d v H1 Y1 fr1 st1 R1 x1 r1 h1 => ?_
  exact FS_seto R1 x1 r1 h1
theorem ds_setLc (i : Nat) {y : Str} (own : List (Str × Nat)) (hc : X.calm = true) (hN : X.N.Nodup) (hi : DIw C X tg iter mi) (ok : BlkOk X.N X.env.scope scope own)
    (hg : Blk X scope fun Z => PG Z tg (gT X.K g)) (ht : Blk X scope fun Z => PTs Z ifs (tM X.K C.blk rT t)) (he : Blk X scope fun Z => PE Z elt (tM X.K C.blk (rE X.K) e))
    (hy : X.N[i]? = some y := by rfl) (hyl : X.env.scope.names.lookup y = some .local := by rfl) (hsw : swapsWith (.ListComp elt [⟨tg, iter, ifs, 0⟩] scope pos) (some (.Name y py)) spos.line X.env = pure true := by exact sw_true rfl rfl rfl rfl)
    (hin : g.inn (own.map (·.2)) = true := by rfl)
    (hs : ∀ x, foldedSetIterable iter X.env x = pure x := by intro _; rfl) : DS C X (.Assign [.Name y py] (.ListComp elt [⟨tg, iter, ifs, 0⟩] scope pos) spos) (setN i (compM (own.map (·.2)) mi g t e)) :=
  ps_w (ps_setLc hc hN hy hyl hsw hi ok hg ht he hs) (setLc_ok i fun σ H Q h => compM_ok hin h)
theorem ds_setLc2 (i : Nat) {y : Str} (own : List (Str × Nat)) (vs1 : List Nat) (hc : X.calm = true) (hN : X.N.Nodup) (hi : DIw C X tg iter mi) (ok : BlkOk X.N X.env.scope scope own)
    (hg : Blk X scope fun Z => PG Z tg (gT X.K g)) (ht : Blk X scope fun Z => PTs Z ifs (tM X.K C.blk rT t)) (hi1 : Blk X scope fun Z => PI Z tg1 iter1 (fun σ H R => tM X.K C.blk (rIw X.K C.blk σ) mi1 σ H R))
    (hg1 : Blk X scope fun Z => PG Z tg1 (gT X.K g1)) (ht1 : Blk X scope fun Z => PTs Z ifs1 (tM X.K C.blk rT t1)) (he : Blk X scope fun Z => PE Z elt (tM X.K C.blk (rE X.K) e))
    (hy : X.N[i]? = some y := by rfl) (hyl : X.env.scope.names.lookup y = some .local := by rfl) (hsw : swapsWith (.ListComp elt [⟨tg, iter, ifs, 0⟩, ⟨tg1, iter1, ifs1, 0⟩] scope pos) (some (.Name y py)) spos.line X.env = pure true := by exact sw_true rfl rfl rfl rfl)
    (hv : ∀ i ∈ vs1, i ∈ own.map (·.2) := by decide) (hin : g.inn (own.map (·.2)) = true := by rfl) (hin1 : g1.inn vs1 = true := by rfl)
    (hs : ∀ x, foldedSetIterable iter X.env x = pure x := by intro _; rfl) (hs1 : ∀ env x, foldedSetIterable iter1 env x = pure x := by intro _ _; rfl) :
    DS C X (.Assign [.Name y py] (.ListComp elt [⟨tg, iter, ifs, 0⟩, ⟨tg1, iter1, ifs1, 0⟩] scope pos) spos) (setN i (compM2 (own.map (·.2)) mi g t vs1 mi1 g1 t1 e)) :=
  ps_w (ps_setLc2 hc hN hy hyl hsw hi ok hv hg ht hi1 hg1 ht1 he hs hs1) (setLc_ok i fun σ H Q h => compM2_ok hin hin1 hv h)
/-- name = [..]: as a value -/
theorem setLcV_ok (i : Nat) {m : M (List D)} {te : TE} (h : ∀ σ H Q, tN X.K C m σ H Q → te σ H Q) : ∀ E σ H, tS X.K C (setM i (frzM m)) E σ H → tAsg te (gName i) E σ H := fun E σ H ⟨Y, fr, st, R, q⟩ => by
  refine h _ _ _ ?_
  have q' : FS X.K C Y H E (bnd m (fun ds => setv i (.lst ds)) fr st) := by
    unfold setM frzM bnd at q
    unfold bnd
    cases z : m fr st with
    | none => rw [z] at q; exact q
    | some o =>
      rw [z] at q
      cases o with
      | ok => exact q
      | exn => exact q
  refine tS_bndN R q' fun ds v H1 Y1 fr1 st1 R1 x1 ⟨l, xs, F, hn⟩ h1 => ?_
  obtain ⟨R2, x2, r⟩ := R1.freezeNew F x1 hn
  exact FS_setv R2 r (FS.ext x2 h1)
theorem ds_setLcV (i : Nat) {y : Str} (own : List (Str × Nat)) (hc : X.calm = true) (hN : X.N.Nodup) (hi : DIw C X tg iter mi) (ok : BlkOk X.N X.env.scope scope own)
    (hg : Blk X scope fun Z => PG Z tg (gT X.K g)) (ht : Blk X scope fun Z => PTs Z ifs (tM X.K C.blk rT t)) (he : Blk X scope fun Z => PE Z elt (tM X.K C.blk (rE X.K) e))
    (hy : X.N[i]? = some y := by rfl) (hyl : X.env.scope.names.lookup y = some .local := by rfl) (hsw : swapsWith (.ListComp elt [⟨tg, iter, ifs, 0⟩] scope pos) (some (.Name y py)) spos.line X.env = pure true := by exact sw_true rfl rfl rfl rfl)
    (hin : g.inn (own.map (·.2)) = true := by rfl)
    (hs : ∀ x, foldedSetIterable iter X.env x = pure x := by intro _; rfl) : DS C X (.Assign [.Name y py] (.ListComp elt [⟨tg, iter, ifs, 0⟩] scope pos) spos) (setM i (frzM (compM (own.map (·.2)) mi g t e))) :=
  ps_w (ps_setLc hc hN hy hyl hsw hi ok hg ht he hs) (setLcV_ok i fun σ H Q h => compM_ok hin h)
theorem ds_setLc2V (i : Nat) {y : Str} (own : List (Str × Nat)) (vs1 : List Nat) (hc : X.calm = true) (hN : X.N.Nodup) (hi : DIw C X tg iter mi) (ok : BlkOk X.N X.env.scope scope own)
    (hg : Blk X scope fun Z => PG Z tg (gT X.K g)) (ht : Blk X scope fun Z => PTs Z ifs (tM X.K C.blk rT t)) (hi1 : Blk X scope fun Z => PI Z tg1 iter1 (fun σ H R => tM X.K C.blk (rIw X.K C.blk σ) mi1 σ H R))
    (hg1 : Blk X scope fun Z => PG Z tg1 (gT X.K g1)) (ht1 : Blk X scope fun Z => PTs Z ifs1 (tM X.K C.blk rT t1)) (he : Blk X scope fun Z => PE Z elt (tM X.K C.blk (rE X.K) e))
    (hy : X.N[i]? = some y := by rfl) (hyl : X.env.scope.names.lookup y = some .local := by rfl) (hsw : swapsWith (.ListComp elt [⟨tg, iter, ifs, 0⟩, ⟨tg1, iter1, ifs1, 0⟩] scope pos) (some (.Name y py)) spos.line X.env = pure true := by exact sw_true rfl rfl rfl rfl)
    (hv : ∀ i ∈ vs1, i ∈ own.map (·.2) := by decide) (hin : g.inn (own.map (·.2)) = true := by rfl) (hin1 : g1.inn vs1 = true := by rfl)
    (hs : ∀ x, foldedSetIterable iter X.env x = pure x := by intro _; rfl) (hs1 : ∀ env x, foldedSetIterable iter1 env x = pure x := by intro _ _; rfl) :
    DS C X (.Assign [.Name y py] (.ListComp elt [⟨tg, iter, ifs, 0⟩, ⟨tg1, iter1, ifs1, 0⟩] scope pos) spos) (setM i (frzM (compM2 (own.map (·.2)) mi g t vs1 mi1 g1 t1 e))) :=
  ps_w (ps_setLc2 hc hN hy hyl hsw hi ok hv hg ht hi1 hg1 ht1 he hs hs1) (setLcV_ok i fun σ H Q h => compM2_ok hin hin1 hv h)
end
end DL
end

section
set_option Elab.async false
set_option linter.all false
set_option maxRecDepth 100000
set_option maxHeartbeats 4000000
/-! The D layer, part m: defs and their calls. -/
namespace DL
open PySem PySem.Spec PyProof.Rows L2

/-- what a def's run comes to -/
inductive Res where
  | ret (d : D) (st : SS) | exn (c : Nat) (d : D) (st : SS)
abbrev Fn := List D → SS → Option Res
/-- the promise: g tells what comes of the arguments -/
def spD (K : PySem.W.Frag) (cl : Nat → Addr) (n : Nat) (g : Fn) : Sp := fun vs H Q E => ∃ G lab ds st, Wd K ⟨H, G, lab, H⟩ ⟨G, lab, fun _ => none⟩ H st ∧ Reps K G lab ds vs ∧ ds.length = n ∧
  match g ds st with
  | none => False
  | some (.ret d st') => ∀ v H' Y', Wd K ⟨H, G, lab, H⟩ Y' H' st' → (∀ a o, G a = some o → Y'.G a = some o) → Rep K Y'.G Y'.lab d v → Q v H'
  | some (.exn c d st') => ∀ dx fs v H' Y', Wd K ⟨H, G, lab, H⟩ Y' H' st' → (∀ a o, G a = some o → Y'.G a = some o) → H' dx = some (.xd fs) → fs.lookup ("given" : Str) = some v → Rep K Y'.G Y'.lab d v → Y'.G dx = none → dx ∉ Y'.lab → H dx = none → E (.ref (cl c)) (some dx) H'
/-- a def whose body does m: N names, n of them parameters -/
def runD (N n : Nat) (m : M Fl) : Fn := fun ds st => if ds.length ≠ n then none else match m (ds.map Slot.val ++ List.replicate (N - n) Slot.none) st with
  | some (.ok (.rt d) _ st') => some (.ret d st')
  | some (.ok .nx _ st') => some (.ret .non st')
  | some (.exn c d _ st') => some (.exn c d st')
  | _ => none
theorem runD_len {N n : Nat} {m : M Fl} : ∀ ds st, ds.length ≠ n → runD N n m ds st = none := fun ds st h => by
  unfold runD
  rw [if_pos h]
section
variable {K : PySem.W.Frag} {C : Cc} {σ : L2.St} {Y : Vw} {H : Hp} {fr : Fr} {st : SS}
/-- a caller's state, as the callee sees it -/
theorem Wd.down {B : Bs} (R : Wd K B Y H st) : Wd K ⟨H, Y.G, Y.lab, H⟩ ⟨Y.G, Y.lab, fun _ => none⟩ H st :=
  ⟨R.sub, (fun a o e _ => e), (fun a o e => .inl e), ⟨[], by simp, by simp⟩, (fun _ h => h), (fun a o h1 h2 => by
    have h1' : H a = some o := h1
    have h2' : H a = none := h2
    rw [h1'] at h2'
    cases h2'), R.len, R.nd, R.fl, fun n a ob e1 e2 => R.ob n a ob e1 e2, (fun i l e => by cases e), fun i j l e => by cases e⟩
/-- back from the callee -/
theorem Rl.up {B : Bs} {H' : Hp} {Y' : Vw} {st' : SS} (R : Rl K B Y σ H fr st) (W : Wd K ⟨H, Y.G, Y.lab, H⟩ Y' H' st') (g : ∀ a o, Y.G a = some o → Y'.G a = some o) :
    Rl K B ⟨Y'.G, Y'.lab, Y.ow⟩ σ H' fr st' ∧ Ext Y H ⟨Y'.G, Y'.lab, Y.ow⟩ H' := by
  obtain ⟨l, el, hl⟩ := W.pre
  have el' : Y'.lab = Y.lab ++ l := el
  have kp : ∀ a o, H a = some o → a ∉ Y.lab → H' a = some o := fun a o e m => W.base a o e (.inl m)
  have gn : ∀ a o, H a = some o → Y.G a = none → Y'.G a = none := fun a o e n => by
    cases z : Y'.G a with
    | none => rfl
    | some u =>
      rcases W.gn a u z with h | h
      · have h' : Y.G a = some u := h
        rw [n] at h'; cases h'
      · have h' : H a = none := h
        rw [e] at h'; cases h'
  have ln : ∀ a o, H a = some o → a ∉ Y.lab → a ∉ Y'.lab := fun a o e n m => by
    rw [el'] at m
    rcases List.mem_append.mp m with m | m
    · exact n m
    · have h' : H a = none := hl a m
      rw [e] at h'; cases h'
  refine ⟨⟨⟨W.sub, fun a o e m => ?_, fun a o e => ?_, ?_, R.hs, R.hz, W.len, W.nd, W.fl, W.ob, fun i q e => ?_, R.inj⟩, R.ln, fun i s e => ?_⟩, g, ⟨l, el'⟩, fun a o h1 h2 h3 h4 => ⟨kp a o h1 h3, gn a o h1 h2, ln a o h1 h3, h4⟩, fun a h => ?_⟩
  · rcases m with m | m
    · by_cases z : a ∈ Y.lab
      · obtain ⟨l0, e0, h0⟩ := R.pre
        rw [e0] at z
        rcases List.mem_append.mp z with z | z
        · exact absurd z m
        · have fz := R.hz a o e (h0 a z)
          exact W.base a o (R.base a o e (.inr fz)) (.inr fz)
      · exact kp a o (R.base a o e (.inl m)) z
    · exact W.base a o (R.base a o e (.inr m)) (.inr m)
  · rcases W.gn a o e with h | h
    · exact R.gn a o h
    · exact .inr (R.hnone h)
  · obtain ⟨l0, e0, h0⟩ := R.pre
    refine ⟨l0 ++ l, by show Y'.lab = _; rw [el', e0, List.append_assoc], fun a m => ?_⟩
    rcases List.mem_append.mp m with m | m
    · exact h0 a m
    · exact R.hs a (R.hnone (hl a m))
  · obtain ⟨h1, h2, h3, u, h4⟩ := R.own i q e
    exact ⟨gn q u h4 h1, ln q u h4 h2, h3, u, kp q u h4 h2⟩
  · refine SlotOk.mono (Y := Y) (Y' := ⟨Y'.G, Y'.lab, Y.ow⟩) g (fun n a z => ?_) (fun q z => ⟨z, fun u hu => ?_⟩) (R.sl i s e)
    · show Y'.lab[n]? = some a
      rw [el', List.getElem?_append_left (List.getElem?_eq_some_iff.mp z).1]
      exact z
    · obtain ⟨_, h2, _⟩ := R.own i q z
      exact kp q u hu h2
  · cases z : H a with
    | none => rfl
    | some o =>
      by_cases m : a ∈ Y.lab
      · have m' : a ∈ Y'.lab := by rw [el']; exact List.mem_append_left _ m
        obtain ⟨o', e'⟩ := W.labH m'
        rw [h] at e'; cases e'
      · rw [kp a o z m] at h; cases h
/-- a body's state at its entry -/
theorem Rl.start {G : Hp} {lab : List Addr} {ds : List D} {vs : List V} {N : List Str} (W : Wd K ⟨H, G, lab, H⟩ ⟨G, lab, fun _ => none⟩ H st) (r : Reps K G lab ds vs) :
    Rl K ⟨H, G, lab, H⟩ ⟨G, lab, fun _ => none⟩ (L2.start N vs) H (ds.map Slot.val ++ List.replicate (N.length - ds.length) Slot.none) st := by
  have e := reps_len r
  refine ⟨W, by unfold L2.start; simp [e], fun i s h => ?_⟩
  by_cases hi : i < ds.length
  · rw [List.getElem?_append_left (by simpa using hi), List.getElem?_map] at h
    cases z : ds[i]? with
    | none => rw [z] at h; cases h
    | some d =>
      rw [z] at h
      cases h
      obtain ⟨v, e1, rv⟩ := reps_get r z
      refine ⟨v, ?_, rv⟩
      unfold L2.start
      rw [List.getElem?_append_left (by simpa [e] using hi), List.getElem?_map, e1]
      rfl
  · rw [List.getElem?_append_right (by simpa using hi), List.getElem?_replicate] at h
    split at h
    · cases h
      trivial
    · cases h
end
/-- a def's own context -/
abbrev CcAt (cl : Nat → Addr) (H G : Hp) (lab : List Addr) (E : XK) : Cc := ⟨⟨H, G, lab, H⟩, cl, fun c d _ H' => E c d H'⟩
section
variable {P : Program} {w : World} {K : PySem.W.Frag} {mg : Str → Option Value} {base : Heap}
abbrev BodyCx (P : Program) (w : World) (K : PySem.W.Frag) (mg : Str → Option Value) (base : Heap) (N : List Str) (qual : Str) (st : Stmt) (f : Addr) (cdv : Value) (A : Around) (outer : List Env) (s : Shared) (H : Hp) (E : XK) : Cx :=
  cxOf (L2.CX P w) P w K mg base N qual (defScope st) f cdv A outer s H E
/-- what is shown of a def's body -/
abbrev Body (P : Program) (w : World) (K : PySem.W.Frag) (mg : Str → Option Value) (base : Heap) (cl : Nat → Addr) (k : Nat) (N : List Str) (qual : Str) (st : Stmt) (f : Addr) (m : M Fl) : Prop :=
  ∀ (C : Cc) (cdv : Value) (A : Around) (outer : List Env) (s : Shared) (H : Hp) (E : XK), C.cl = cl → Room k (A.deeper (envOfC qual (defScope st) s.heap.objs.size f cdv)) → Takes (BodyCx P w K mg base N qual st f cdv A outer s H E) C.W →
    PassesOwn (model P w) (BodyCx P w K mg base N qual st f cdv A outer s H E).A (BodyCx P w K mg base N qual st f cdv A outer s H E).env (BodyCx P w K mg base N qual st f cdv A outer s H E).xe → DSs C (BodyCx P w K mg base N qual st f cdv A outer s H E) (defBody st) m
theorem fn_D {x qual : Str} {st : Stmt} {f : Addr} {fd : FuncData} {N ps : List Str} {k : Nat} {m : M Fl} {cl : Nat → Addr} (F : Fun K x qual st f fd) (S : FnScope N ps (defScope st)) (hb : Body P w K mg base cl k N qual st f m) :
    FnOk P w K mg base (L2.CX P w) (k + 1) f fd ps (spD K cl ps.length (runD N.length ps.length m)) := by
  refine F.okX S (fun vs H Q E h => ?_) (fun cdv A outer s H vs Q E hr h => ?_)
  · obtain ⟨G, lab, ds, st', W, r, hl, _⟩ := h
    rw [reps_len r, hl]
  · obtain ⟨G, lab, ds, st', W, r, hl, h⟩ := h
    have tk : Takes (BodyCx P w K mg base N qual st f cdv A outer s H E) (CcAt cl H G lab E).W := takes_of rfl rfl rfl rfl
    refine ⟨_, hb (CcAt cl H G lab E) cdv A outer s H E rfl hr tk (passes_of rfl), ⟨G, lab, fun _ => none⟩, _, st', Rl.start W r, ?_⟩
    rw [hl]
    unfold runD at h
    rw [if_neg (fun z => z hl)] at h
    show FS K (CcAt cl H G lab E) _ _ _ (m (ds.map Slot.val ++ List.replicate (N.length - ps.length) Slot.none) st')
    cases z : m (ds.map Slot.val ++ List.replicate (N.length - ps.length) Slot.none) st' with
    | none => rw [z] at h; exact h.elim
    | some o =>
      rw [z] at h
      cases o with
      | exn c d fr1 st1 =>
        intro σ' dx fs v H' Y' R' x' e1 e2 r' xo
        exact h dx fs v H' Y' R'.toWd x'.g e1 e2 r' xo.g xo.lab xo.h0
      | ok fl fr1 st1 =>
        cases fl with
        | nx => exact fun σ' H' Y' R' x' => h .non H' Y' R'.toWd x'.g (by unfold Rep; rfl)
        | rt d => exact fun v σ' H' Y' R' x' r' => h v H' Y' R'.toWd x'.g r'
        | bk => exact h.elim
        | ct => exact h.elim
end

/-! ### calls -/
def callM (g : Fn) (ms : M (List D)) : M D := bnd ms fun ds fr st => match g ds st with
  | none => none
  | some (.ret d st') => some (.ok d fr st')
  | some (.exn c d st') => some (.exn c d fr st')
section
variable {X : Cx} {C : Cc} {k n : Nat} {f : Addr} {fd : FuncData} {ps : List Str} {g : Fn} {x : Str} {p pos kpos : Pos} {e : Expr} {es : List Expr} {ms : M (List D)} {m : M D} {kws : List Keyword} {nm : Option Str}
/-- the callee's promise serves -/
theorem call_sp {σ : L2.St} {Y : Vw} {H : Hp} {fr : Fr} {st : SS} {ds : List D} {vs : List V} {Q : VK} (F : ds.length = n) (R : Rl X.K C.B Y σ H fr st) (r : Reps X.K Y.G Y.lab ds vs)
    (h : FO X.K C (rE X.K) σ Y H Q (match g ds st with | none => none | some (.ret d st') => some (.ok d fr st') | some (.exn c d st') => some (.exn c d fr st'))) : spD X.K C.cl n g vs H Q (fun c d H' => C.W c d σ H') := by
  refine ⟨Y.G, Y.lab, ds, st, R.toWd.down, r, F, ?_⟩
  cases z : g ds st with
  | none => rw [z] at h; exact h.elim
  | some o =>
    rw [z] at h
    cases o with
    | ret d st' => exact fun v H' Y' W' g' r' => h v H' ⟨Y'.G, Y'.lab, Y.ow⟩ (R.up W' g').1 (R.up W' g').2 r'
    | exn c d st' => exact fun dx fs v H' Y' W' g' e1 e2 r' n1 n2 n3 => h dx fs v H' ⟨Y'.G, Y'.lab, Y.ow⟩ (R.up W' g').1 (R.up W' g').2 e1 e2 r' ⟨n1, n2, (fun i e => by
      obtain ⟨_, _, _, u, h4⟩ := R.own i dx e
      rw [n3] at h4
      cases h4), R.hnone n3⟩
/-- a def is called: its errors are this body's -/
theorem runs_fn {pins : List (Addr × Obj)} {σ : L2.St} {H : Hp} {s : Shared} {Q : VK} {args : List Value} {kw : List (Str × Value)} {us : List Value} {vs : List V} (F : FnOk X.prog X.w X.K X.mg X.base (L2.CX X.prog X.w) k f fd ps (spD X.K C.cl n g)) (hr : Room k X.A) (tk : Takes X C.W)
    (I : Inv X pins σ H s) (hb : BindsTo s fd ⟨args, kw⟩ (ps.zip us)) (r : Vals vs us) (h : spD X.K C.cl n g vs H Q (fun c d H' => C.W c d σ H')) : wpAny (model X.prog X.w) X.A (call (.ref f) args kw) (EP X pins σ Q) X.xe s := by
  refine wpAny_call (codeAny_mono (F.run X.A X.stack s H ⟨args, kw⟩ us vs Q _ hr I.env0 hb r h) fun res s' hq => ?_)
  cases res with
  | error er => exact tk er s' (XE.of_call I (fun _ _ _ z => z) hq)
  | ok fl =>
    cases fl with
    | ret u => exact I.after hq
    | next => exact hq.elim
    | brk => exact hq.elim
    | cont => exact hq.elim
/-- f(e, ..) -/
theorem de_call (F : FnOk X.prog X.w X.K X.mg X.base (L2.CX X.prog X.w) k f fd ps (spD X.K C.cl n g)) (hr : Room k X.A) (hn : ps.length = n) (hg : Gl X x) (hm : X.mg x = some (.ref f)) (hk : PySem.W.keepIn X.K (.ref f) = true) (hb : Binds X.K fd ps []) (tk : Takes X C.W)
    (hlen : ∀ ds st, ds.length ≠ n → g ds st = none) (ha : DA C X (e :: es) ms)
    (hdb : (x == ("__debug__" : Str)) = false := by decide) (he : starEach (e :: es) X.env = (false, eval e X.env) :: starEach es X.env := by rfl) (hpl : (backTo pos (starEach es X.env)).any (·.1) = false := by rfl) : DE C X (.Call (.Name x p) (e :: es) [] pos) (callM g ms) := by
  refine ⟨fun pins s σ H Q I h => ?_⟩
  obtain ⟨Y, fr, st, R, h⟩ := h
  refine wpAny_Call_Name_kw (ld_glob I hg hm ?_ hdb)
  refine PySem.W.callWith_K (h₀ := X.base) I.ok.mod.kin hk (thn (ha.run pos pins s σ H (fun vs H1 => spD X.K C.cl n g vs H1 Q (fun c d H' => C.W c d σ H')) I ?_) fun us s1 hh => ?_) he hpl
  · refine tM_bnd R h fun ds vs H1 Y1 fr1 st1 R1 x1 r1 h1 => ?_
    by_cases hl : ds.length = n
    · exact call_sp hl R1 r1 h1
    · rw [hlen ds st1 hl] at h1
      exact h1.elim
  · obtain ⟨vs, H1, I1, r, q⟩ := hh
    have hl : (us ++ []).length = ps.length := by
      obtain ⟨_, _, ds, _, _, r2, h2, _⟩ := id q
      rw [List.append_nil, hn, ← h2, ← reps_len r2]
      exact r.length.symm
    exact ⟨I1.kIn, runs_fn F hr tk I1 (hb s1 us I1.kIn hl) (by rw [List.append_nil]; exact r) q⟩
/-- f() -/
theorem de_call0 (F : FnOk X.prog X.w X.K X.mg X.base (L2.CX X.prog X.w) k f fd ps (spD X.K C.cl 0 g)) (hr : Room k X.A) (hn : ps.length = 0) (hg : Gl X x) (hm : X.mg x = some (.ref f)) (hk : PySem.W.keepIn X.K (.ref f) = true) (hb : Binds X.K fd ps []) (tk : Takes X C.W)
    (hdb : (x == ("__debug__" : Str)) = false := by decide) : DE C X (.Call (.Name x p) [] [] pos) (callM g nilA) := by
  refine ⟨fun pins s σ H Q I h => ?_⟩
  obtain ⟨Y, fr, st, R, h⟩ := h
  refine wpAny_Call_Name_kw (ld_glob I hg hm ?_ hdb)
  exact PySem.W.callWith_K0 I.kIn hk (runs_fn (us := []) F hr tk I (hb s [] I.kIn hn.symm) .nil (call_sp rfl R reps_nil h))
/-! ### keywords alone -/
abbrev DK (C : Cc) (X : Cx) (kws : List Keyword) (m : M (List D)) : Prop := PK X kws (tM X.K C (rA X.K) m)
theorem dk_nil : DK C X [] nilA := ⟨fun pos pins s σ H Q I ⟨Y, fr, st, R, h⟩ => pk_nil.run pos pins s σ H Q I (FO_ok (a := ([] : List D)) (rel := rA X.K) R (.refl _ _) reps_nil h)⟩
theorem dk_cons (ha : DE C X e m) (hr : DK C X kws ms) : DK C X (⟨nm, e, kpos⟩ :: kws) (consA m ms) := by
  refine ⟨fun pos pins s σ H Q I ⟨Y, fr, st, R, h⟩ => (pk_cons ha hr).run pos pins s σ H Q I ?_⟩
  refine tM_bnd R h fun d v H1 Y1 fr1 st1 R1 x1 r1 h1 => ?_
  refine tM_bnd R1 h1 fun ds vs H2 Y2 fr2 st2 R2 x2 r2 h2 => ?_
  exact FO_ok (a := d :: ds) (rel := rA X.K) R2 (.refl _ _) (reps_cons (x2.rep r1) r2) h2
def perm {α : Type} (is : List Nat) (l : List α) : List α := is.filterMap fun i => l[i]?
theorem reps_perm {K : PySem.W.Frag} {G : Hp} {lab : List Addr} {ds : List D} {xs : List V} (r : Reps K G lab ds xs) : ∀ is : List Nat, Reps K G lab (perm is ds) (perm is xs)
  | [] => reps_nil
  | i :: is => by
    have ih := reps_perm r is
    unfold perm at ih ⊢
    rw [List.filterMap_cons, List.filterMap_cons]
    cases z : ds[i]? with
    | some d =>
      obtain ⟨v, e, rv⟩ := reps_get r z
      rw [e]
      exact reps_cons rv ih
    | none =>
      have : xs[i]? = none := by
        rw [List.getElem?_eq_none_iff] at z ⊢
        rw [reps_len r]; exact z
      rw [this]
      exact ih
theorem vals_perm {vs : List V} {us : List Value} (r : Vals vs us) : ∀ is : List Nat, Vals (perm is vs) (perm is us)
  | [] => .nil
  | i :: is => by
    have ih := vals_perm r is
    unfold perm at ih ⊢
    rw [List.filterMap_cons, List.filterMap_cons]
    cases z : vs[i]? with
    | some d =>
      obtain ⟨v, e, rv⟩ := r.get z
      rw [e]
      exact .cons rv ih
    | none =>
      have : us[i]? = none := by
        rw [List.getElem?_eq_none_iff] at z ⊢
        rw [← r.length]; exact z
      rw [this]
      exact ih
/-- how keywords alone bind -/
def BindsK (fd : FuncData) (ps ks : List Str) (is : List Nat) : Prop := ∀ (s : Shared) (ws : List Value), ws.length = ks.length → BindsTo s fd ⟨[], ks.zip ws⟩ (ps.zip (perm is ws))
def callK (nk : Nat) (is : List Nat) (g : Fn) (ms : M (List D)) : M D := callM g (bnd ms fun ds => if ds.length = nk then ret (perm is ds) else stuck)
/-- f(k = e, ..) -/
theorem de_callK (ks : List Str) (is : List Nat) (F : FnOk X.prog X.w X.K X.mg X.base (L2.CX X.prog X.w) k f fd ps (spD X.K C.cl n g)) (hr : Room k X.A) (hg : Gl X x) (hm : X.mg x = some (.ref f)) (hk : PySem.W.keepIn X.K (.ref f) = true) (hb : BindsK fd ps ks is) (tk : Takes X C.W)
    (hlen : ∀ ds st, ds.length ≠ n → g ds st = none) (hkn : kws.length = ks.length) (ha : DK C X kws ms) (hall : (backToKw pos (keywordEach kws X.env)).all (·.1.isSome) = true := by rfl) (hks : (backToKw pos (keywordEach kws X.env)).filterMap (·.1) = ks := by rfl)
    (hel : (backToKw pos (keywordEach kws X.env)).length = ks.length := by rfl)
    (hpl : ((backTo pos (starEach [] X.env)).any (·.1) || (backToKw pos (keywordEach kws X.env)).any (·.1.isNone)) = false := by rfl) (hdb : (x == ("__debug__" : Str)) = false := by decide) : DE C X (.Call (.Name x p) [] kws pos) (callK ks.length is g ms) := by
  refine ⟨fun pins s σ H Q I h => ?_⟩
  obtain ⟨Y, fr, st, R, h⟩ := h
  refine wpAny_Call_Name_kw (ld_glob I hg hm ?_ hdb)
  refine PySem.W.callWith_KW0 (h₀ := X.base) I.ok.mod.kin hk hall (thn (ha.run pos pins s σ H (fun zs H1 => zs.length = ks.length ∧ spD X.K C.cl n g (perm is zs) H1 Q (fun c d H' => C.W c d σ H')) I ?_) fun ws s1 hh => ?_) hpl
  · have h' : FO X.K C (rE X.K) σ Y H Q (bnd ms (fun ds => callM g (if ds.length = ks.length then ret (perm is ds) else stuck)) fr st) := by
      unfold callK callM bnd at h
      unfold bnd callM bnd
      cases z : ms fr st with
      | none => rw [z] at h; exact h
      | some o =>
        rw [z] at h
        cases o with
        | ok => exact h
        | exn => exact h
    refine tM_bnd R h' fun ds vs H1 Y1 fr1 st1 R1 x1 r1 h1 => ?_
    by_cases hl : ds.length = ks.length
    · rw [if_pos hl] at h1
      refine ⟨(reps_len r1).trans hl, ?_⟩
      by_cases hl2 : (perm is ds).length = n
      · exact call_sp hl2 R1 (reps_perm r1 is) h1
      · have h2 : FO X.K C (rE X.K) σ Y1 H1 Q (match g (perm is ds) st1 with | none => none | some (.ret d st') => some (.ok d fr1 st') | some (.exn c d st') => some (.exn c d fr1 st')) := h1
        rw [hlen _ st1 hl2] at h2
        exact h2.elim
    · rw [if_neg hl] at h1
      exact h1.elim
  · obtain ⟨zs, H1, I1, r, el, q⟩ := hh
    refine ⟨I1.kIn, ?_⟩
    rw [hks]
    exact runs_fn (us := perm is ws) F hr tk I1 (hb s1 ws (r.length.symm.trans el)) (vals_perm r is) q
end
end DL
end

section
set_option Elab.async false
set_option linter.all false
set_option maxRecDepth 100000
set_option maxHeartbeats 4000000
/-! The D layer, part n: errors of own classes: raised, caught. -/
namespace DL
open PySem PySem.Spec PyProof.Rows L2

/-! ### the class: __init__(self, given): self.given = given -/
abbrev GIV : Str := "given"
/-- a class of errors as the top leaves it: C, its __init__ at fI -/
structure ErrC (K : PySem.W.Frag) (mg : Str → Option Value) (x : Str) (st : Stmt) (C fI : Addr) (fd : FuncData) : Prop where
  ox : OexC K C
  iC : PySem.W.findIn K (.ref C) "__init__" = some (some (.ref fI))
  tI : PySem.W.typeIn K (.ref fI) = some (.type "function")
  no : PySem.W.findIn K (.ref C) GIV = some none
  mg : mg x = some (.ref C)
  fn : ∃ q, Fun K "__init__" q st fI fd
  bi : Binds K fd ["self", GIV] []
  xf : XfC K C
/-- the text of __init__ -/
def initTxt (st : Stmt) : Prop := (∃ p1 p2 p3 p4, defBody st = [.Assign [.Attribute (.Name "self" p1) GIV p2] (.Name GIV p3) p4]) ∧ FnScope ["self", GIV] ["self", GIV] (defScope st) ∧ (defScope st).names.lookup ("self" : Str) = some .local ∧ (defScope st).names.lookup GIV = some .local
def spInit (K : PySem.W.Frag) (C : Addr) : Sp := fun vs H Q _ => ∃ a v, vs = [.ref a, v] ∧ OexC K C ∧ PySem.W.findIn K (.ref C) GIV = some none ∧ H a = some (exo a C none) ∧ ∀ dx, H dx = none → dx ≠ a → Q .non (upd (upd H dx (exd dx [(GIV, v)])) a (exo a C (some dx)))
theorem err_init {P : Program} {w : World} {K : PySem.W.Frag} {mg : Str → Option Value} {base : Heap} {q : Str} {st : Stmt} {fI C : Addr} {fd : FuncData} (F : Fun K "__init__" q st fI fd) (T : initTxt st) : FnOk P w K mg base (L2.CX P w) 1 fI fd ["self", GIV] (spInit K C) := by
  obtain ⟨⟨p1, p2, p3, p4, eb⟩, S, l1, l2⟩ := T
  refine F.okX S (fun vs H Q E h => ?_) (fun cdv A outer s H vs Q E hr h => ?_)
  · obtain ⟨a, v, rfl, _⟩ := h
    rfl
  · obtain ⟨a, v, rfl, ox, no, ha, k⟩ := h
    rw [eb]
    have v1 : Vis (cxOf (L2.CX P w) P w K mg base ["self", GIV] q (defScope st) fI cdv A outer s H E).env.scope "self" := .inl l1
    have v2 : Vis (cxOf (L2.CX P w) P w K mg base ["self", GIV] q (defScope st) fI cdv A outer s H E).env.scope GIV := .inl l2
    refine ⟨_, pss_one (ps_ost (pe_var (i := 0) rfl v1 (by decide) (by decide)) (pe_var (i := 1) rfl v2 (by decide) (by decide))), ?_⟩
    refine ⟨v, rfl, .ref a, rfl, a, C, rfl, ox, no, .inl ⟨ha, fun dx n ne => k dx n ne⟩⟩

def raiseM (c : Nat) (m : M D) : M Fl := bnd m fun d fr st => some (.exn c d fr st)
section
variable {X : Cx} {C : Cc} {x : Str} {st : Stmt} {fI : Addr} {fd : FuncData} {k c : Nat} {a : Expr} {m : M D} {p pos pos2 : Pos}
theorem upd_del {H : Hp} {a dx : Addr} {o u v w : HO} (ha : H a = none) (hd : dx ≠ a) : upd (del (upd (upd (upd H a o) dx u) a v) a) dx w = upd H dx w := by
  funext b
  by_cases h1 : b = dx
  · subst h1
    rw [upd_same, upd_same]
  · rw [upd_ne h1, upd_ne h1]
    by_cases h2 : b = a
    · subst h2
      rw [del_same, ha]
    · rw [del_ne h2, upd_ne h2, upd_ne h1, upd_ne h2]
theorem ds_raise (hc : X.calm = true) (T : ErrC X.K X.mg x st (C.cl c) fI fd) (tx : initTxt st) (hr : Room k X.A) (hk : 2 ≤ k) (tk : Takes X C.W) (hg : Gl X x) (ha : DE C X a m) (hdb : (x == ("__debug__" : Str)) = false := by decide)
    (he : starEach (a :: []) X.env = (false, eval a X.env) :: starEach [] X.env := by rfl) (hpl : (backTo pos (starEach [] X.env)).any (·.1) = false := by rfl) :
    DS C X (.Raise (some (.Call (.Name x p) [a] [] pos)) none pos2) (raiseM c m) := by
  obtain ⟨q, F⟩ := T.fn
  refine ps_w (ps_raise hc tk (pmk_oex (dvs := []) (k := 1) (sp := spInit X.K (C.cl c)) T.ox T.iC T.tI (err_init F tx) (hr.mono hk) T.bi .nil passL hg T.mg (pa_cons ha pa_nil he) hdb he hpl)) fun E σ H ⟨Y, fr, st, R, h⟩ => ?_
  refine tS_bnd R h fun d v H1 Y1 fr1 st1 R1 x1 r1 h1 => ?_
  refine ⟨(by show 1 ≤ 1000; decide), fun b hb => ⟨b, v, rfl, T.ox, T.no, upd_same, fun dx hdx ne => ⟨rfl, dx, _, upd_same, (by rw [upd_ne ne, upd_same]), ?_, ?_⟩⟩⟩
  · rw [upd_ne ne] at hdx
    exact hdx
  · rw [upd_ne ne] at hdx
    rw [upd_del hb ne]
    obtain ⟨R2, x2⟩ := R1.newX hdx (.xd [(GIV, v)])
    exact h1 σ dx _ v _ Y1 R2 x2 upd_same (by simp [List.lookup]) r1 ⟨R1.gnone hdx, R1.labnone hdx, (fun i e => by
      obtain ⟨_, _, _, u, h4⟩ := R1.own i dx e
      rw [hdx] at h4
      cases h4), R1.hnone hdx⟩
end

/-! ### try: several clauses, each with a name -/
/-- a clause: its class, its name's slot, what its suite does -/
structure Cls1 where
  c : Value
  i : Nat
  ts : Addr → Value → Option Addr → TS
def endsAt (i : Nat) (D : Ends) : Ends := { nx := fun σ' H' => D.nx (σ'.set i none) H', rt := D.rt, bk := fun σ' H' => D.bk (σ'.set i none) H', ct := fun σ' H' => D.ct (σ'.set i none) H' }
def wClauses (K : PySem.W.Frag) (Wout : WX) (D : Ends) : List Cls1 → WX
  | [] => Wout
  | q :: r => fun cls d σ H => ∃ b, PySem.W.exmOne K cls q.c = some b ∧ (b = true → ∀ a, H a = none → q.ts a cls d (endsAt q.i D) (σ.set q.i (some (.ref a))) H) ∧ (b = false → wClauses K Wout D r cls d σ H)
inductive ClausesOk (X : Cx) : List ExceptHandler → List Cls1 → Prop
  | nil : ClausesOk X [] []
  | cons {x n : Str} {q : Cls1} {s0 : Stmt} {rest : List Stmt} {pa pb : Pos} {hs : List ExceptHandler} {l : List Cls1} (hc : Names X x q.c) (hi : X.N[q.i]? = some n) (hl : X.env.kindOf n = some .local)
      (hsu : ∀ (a : Addr) (oe : Obj) (cls : Value) (d : Option Addr) (pn : List (Addr × Obj)), Zc cls d oe → (∃ vs, oe.data = .fields vs) → PSs (X.suite a ((a, oe) :: pn)) (s0 :: rest) (q.ts a cls d)) (r : ClausesOk X hs l) :
      ClausesOk X (.ExceptHandler (some (.Name x pa)) (some n) (s0 :: rest) pb :: hs) (q :: l)
section
variable {X : Cx} {body : List Stmt} {h0 : ExceptHandler} {hs : List ExceptHandler} {l : List Cls1} {pos : Pos} {tb : WX → TS} {Wout : WX}
/-- the clauses, one behind another, at an exception that has come down -/
theorem clauses_ok {pins : List (Addr × Obj)} {s : Shared} {D : Ends} (hst : X.stack = X.env :: X.outer) (hf : X.env.frame = some X.env.locals) (hN : X.N.Nodup) (tk : Takes X Wout) (ok : X.Ok)
    {x0 : Addr} {B : Heap} {sI : Shared} {σ1 : L2.St} {H1 : Hp} {cls : Value} {d : Option Addr} {g3 : Heap} (J : Inv X pins σ1 H1 sI) (nb : ∀ b o, sI.heap.get? b = some o → b ∉ frs X.stack → B.get? b = some o) (up : sI.heap.UpToSlots g3)
    (fly : PySem.HandSPX.FlyingZ B (X.env :: X.outer) x0 (Zc cls d) g3) (na : H1 x0 = none) (os : s.os = sI.os) (ag : AllBare s.gens) :
    ∀ {hs : List ExceptHandler} {l : List Cls1}, ClausesOk X hs l → wClauses X.K Wout D l cls d σ1 H1 → wpAny (model X.prog X.w) X.A (handleBy (.ref x0) X.env hs) (SP X pins D) X.xe { s with heap := g3 } := by
  have J3 : Inv X pins σ1 H1 { s with heap := g3 } := J.landed nb fly.1 up os ag
  obtain ⟨oe, ve, e1, z1, d1⟩ := fly.there
  have off : x0 ∉ frs (X.env :: X.outer) := fun hm => by
    obtain ⟨_, o', e', nf⟩ := fly.2.2.1.mem hm
    rw [e1] at e'
    cases e'
    exact nf _ d1
  have offL : x0 ≠ X.env.locals := fun z => off (List.mem_filterMap.mpr ⟨X.env, List.mem_cons_self, by rw [hf, z]⟩)
  have offF : x0 ∉ X.fs := fun hm => by
    obtain ⟨en, he, q⟩ := List.mem_filterMap.mp hm
    exact off (List.mem_filterMap.mpr ⟨en, List.mem_cons_of_mem _ he, q⟩)
  have S3 := J3.suite e1 d1 na offL offF
  intro hs l hk
  induction hk with
  | nil =>
    intro wl
    refine wpAny_handleBy_nil ?_
    obtain ⟨_, _, _, _, fields, link, _, _, e5, z5, d5, l5, _⟩ := id fly
    have go : wpAny (model X.prog X.w) X.A (setFlight (.ref x0) X.env.frame) (fun _ s4 => wpAny (model X.prog X.w) X.A (throw (.ref x0) : Sem Flow) (SP X pins D) X.xe s4) X.xe { s with heap := g3 } := by
      rw [hf]
      refine PySem.HandSPX.setFlight_upZ fly fun g4 held up4 => wpAny_throw (tk _ _ ?_)
      exact ⟨x0, B, sI, pins, σ1, H1, cls, d, rfl, J, nb, up.trans up4, .inr (.inr (by rw [hst]; exact held)), na, os, ag, wl⟩
    unfold PySem.passOn
    refine wpAny_bind (wpAny_field e5 d5 l5 ?_)
    rw [if_neg (show ¬ ((Value.ref link == Value.none) = true) from by simp)]
    first
      | exact wpAny_bind (wpAny_pure (wpAny_bind go))
      | exact wpAny_bind go
  | @cons x n q s0 rest pa pb hs2 l2 hc hi hl hsu r ih =>
    intro wl
    obtain ⟨b, eb, yes, no⟩ := wl
    refine wpAny_handleBy_cons (codeAny_handlers_test ?_) (by intro z; cases z)
    have LT : PySem.W.Looks (model X.prog X.w) g3 (typeOf (.ref x0)) cls := fun A Q E s kp w => wpAny_typeOf_ref (kp _ _ e1) (by rw [z1.1]; exact w)
    have LM := PySem.W.exm_one (M := model X.prog X.w) (J3.kIn) LT eb
    have named : ∀ {Q : Value → Shared → Prop} {E : Value → Shared → Prop}, Q q.c { s with heap := g3 } → wpAny (model X.prog X.w) (X.A.mark (some (.ref x0))) (eval (.Name x pa) X.env) Q E { s with heap := g3 } := fun {Q E} w => by
      obtain ⟨gl, nd, hm | ⟨hm, hv, nn⟩⟩ := hc
      · exact ld_glob (X := X.suite x0 ((x0, oe) :: (X.pn ++ pins))) S3 gl hm w nd
      · exact ld_blt (X := X.suite x0 ((x0, oe) :: (X.pn ++ pins))) S3 gl hm hv w nn nd
    refine named (LM.here ?_)
    cases b with
    | false => exact ih (no rfl)
    | true =>
      refine codeAny_handlers_suite_as ?_
      refine PySem.HandSPX.lands_againZ fly fun g4 fly4 up4 => ?_
      have J4 : Inv X pins σ1 H1 { s with heap := g4 } := J.landed nb fly4.1 (up.trans up4) os ag
      obtain ⟨oe4, ve4, e4, z4, d4⟩ := fly4.there
      have S4 := J4.suite e4 d4 na offL offF
      refine store_ok (X := X.suite x0 ((x0, oe4) :: (X.pn ++ pins))) (v := .ref x0) S4 hN hi (.inl hl) rfl (fun s5 S5 => ?_) (.inr hl)
      refine wpAny_mono ((hsu x0 oe4 cls d (X.pn ++ pins) z4 ⟨_, d4⟩).run [] s5 _ H1 _ S5 (yes rfl x0 na)) (fun f s6 hsp => ?_) (fun _ _ z => False.elim z)
      have gone : ∀ {σ6 : L2.St} {H6 : Hp} {Q : Shared → Prop}, Inv (X.suite x0 ((x0, oe4) :: (X.pn ++ pins))) [] σ6 H6 s6 → (∀ s7, Inv X pins (σ6.set q.i none) H6 s7 → Q s7) →
          wpAny (model X.prog X.w) X.A (do bindName X.env n .none; unbindBehindTheSuite X.env n pb) (fun _ s7 => Q s7) X.xe s6 := fun {σ6 H6 Q} S6 w => gone_ok (S6.unsuite ok) hN hi hl w
      cases f with
      | ret u =>
        obtain ⟨v6, σ6, H6, S6, r6, q6⟩ := hsp
        exact gone S6 fun s7 J7 => ⟨_, _, _, J7, r6, q6⟩
      | next =>
        obtain ⟨σ6, H6, S6, q6⟩ := hsp
        exact gone S6 fun s7 J7 => ⟨_, _, J7, q6⟩
      | brk =>
        obtain ⟨σ6, H6, S6, q6⟩ := hsp
        exact gone S6 fun s7 J7 => ⟨_, _, J7, q6⟩
      | cont =>
        obtain ⟨σ6, H6, S6, q6⟩ := hsp
        exact gone S6 fun s7 J7 => ⟨_, _, J7, q6⟩
theorem ps_clauses (hst : X.stack = X.env :: X.outer) (hf : X.env.frame = some X.env.locals) (hN : X.N.Nodup) (tk : Takes X Wout)
    (hb : ∀ (W : WX) (pn : List (Addr × Obj)) (xe : Value → Shared → Prop), Takes (X.tr pn xe) W → PassesOwn (model X.prog X.w) X.A X.env xe → PSs (X.tr pn xe) body (tb W))
    (hh : ClausesOk X (h0 :: hs) l) : PS X (.Try body (h0 :: hs) [] [] pos) (fun D σ H => tb (wClauses X.K Wout D l) D σ H) := by
  refine ⟨fun pins s σ H D I h => ?_⟩
  have ok := I.ok
  have frm : X.A.frames = some (X.env :: X.outer) := by rw [ok.frames, hst]
  refine wpAny_Try_except ?_
  refine wpAny_mono ((hb (wClauses X.K Wout D l) (X.pn ++ pins) (fun er s1 => wpAny (model X.prog X.w) X.A (noteFrame er X.env) (fun _ s2 => wpAny (model X.prog X.w) X.A (setFlight er none) (fun _ s3 =>
    wpAny (model X.prog X.w) X.A (handleBy er X.env (h0 :: hs)) (SP X pins D) X.xe s3) X.xe s2) X.xe s1) (fun u s' air => ?_) PassesOwn.looking).run [] s σ H D (I.toTry _) h) (fun f s1 hsp => ?_) (fun _ _ z => z)
  · obtain ⟨x0, B, sI, pins1, σ1, H1, cls, d, rfl, J0, nb, up, sky, na, os, ag, w⟩ := air
    have J : Inv X pins σ1 H1 sI := J0.ofTry ok
    have sky1 : Sky B (X.env :: X.outer) x0 (Zc cls d) X.env.locals s'.heap := by rw [← hst]; exact sky
    show wpAny (model X.prog X.w) X.A (noteFrame (.ref x0) X.env) _ _ _
    refine Sky.land Zc.steady frm hf sky1 fun g3 fly3 up3 => ?_
    exact clauses_ok hst hf hN tk ok J nb (up.trans up3) fly3 na os ag hh w
  · cases f with
    | ret u =>
      obtain ⟨v, σ', H', J', r, q⟩ := hsp
      exact ⟨v, σ', H', J'.ofTry ok, r, q⟩
    | next =>
      obtain ⟨σ', H', J', q⟩ := hsp
      exact wpAny_execs_nil ⟨σ', H', J'.ofTry ok, q⟩
    | brk =>
      obtain ⟨σ', H', J', q⟩ := hsp
      exact ⟨σ', H', J'.ofTry ok, q⟩
    | cont =>
      obtain ⟨σ', H', J', q⟩ := hsp
      exact ⟨σ', H', J'.ofTry ok, q⟩
end
end DL
end

section
set_option Elab.async false
set_option linter.all false
set_option maxRecDepth 100000
set_option maxHeartbeats 4000000
/-! The D layer, part o: try, over data. -/
namespace DL
open PySem PySem.Spec PyProof.Rows L2

abbrev Hd := (Nat → Bool) × (D → M Fl)
def pickM : List Hd → Nat → D → M Fl
  | [], c, d => fun fr st => some (.exn c d fr st)
  | q :: r, c, d => if q.1 c then q.2 d else pickM r c d
def tryM (m : M Fl) (hs : List Hd) : M Fl := fun fr st => match m fr st with
  | some (.exn c d fr' st') => pickM hs c d fr' st'
  | r => r
/-- return [s, e.given] -/
def hGiv (i : Nat) (s : Str) (d : D) : M Fl := fun fr st => if i < fr.length then some (.ok (.rt (.lst [.str s, d])) fr st) else none
inductive DCl (C : Cc) (X : Cx) : List ExceptHandler → List Hd → Prop
  | nil : DCl C X [] []
  | giv {x n s : Str} {C1 : Addr} {t : Nat → Bool} {i j : Nat} {p1 p2 p3 p4 p5 pa pb : Pos} {hs : List ExceptHandler} {l : List Hd} (hc : Names X x (.ref C1)) (hi : X.N[i]? = some n) (hl : X.env.kindOf n = some .local)
      (te : ∀ c, PySem.W.exmOne X.K (.ref (C.cl c)) (.ref C1) = some (t c)) (tc : ∀ c, t c = true → C.cl c = C1) (xf : XfC X.K C1) (no : PySem.W.findIn X.K (.ref C1) GIV = some none)
      (hd : (n == ("__debug__" : Str)) = false) (hcd : (n == ("__classdict__" : Str)) = false) (r : DCl C X hs l) :
      DCl C X (.ExceptHandler (some (.Name x pa)) (some n) [.Return (some (.List [.Constant (.str s) j p1, .Attribute (.Name n p2) GIV p3] p4)) p5] pb :: hs) ((t, hGiv i s) :: l)
section
variable {X : Cx} {C : Cc} {body : List Stmt} {h0 : ExceptHandler} {hs : List ExceptHandler} {l : List Hd} {pos : Pos} {m : M Fl}
theorem dcl_ok : ∀ {hs : List ExceptHandler} {l : List Hd}, DCl C X hs l → ∃ L : List Cls1, ClausesOk X hs L ∧ ∀ (E : Ends) (c : Nat) (d : D) (fr : Fr) (st : SS) (σ : L2.St) (Y : Vw) (H : Hp) (dx : Addr) (fs : List (Str × V)) (v : V),
    Rl X.K C.B Y σ H fr st → H dx = some (.xd fs) → fs.lookup GIV = some v → Rep X.K Y.G Y.lab d v → XdOk C.B Y dx → FS X.K C Y H E (pickM l c d fr st) → wClauses X.K C.W E L (.ref (C.cl c)) (some dx) σ H := by
  intro hs l h
  induction h with
  | nil => exact ⟨[], .nil, fun E c d fr st σ Y H dx fs v R e1 e2 r xo h => h σ dx fs v H Y R (.refl _ _) e1 e2 r xo⟩
  | @giv x n s C1 t i j p1 p2 p3 p4 p5 pa pb hs l hc hi hl te tc xf no hd hcd r ih =>
    obtain ⟨L, ok, q⟩ := ih
    have vis : Vis X.env.scope n := .inl hl
    refine ⟨⟨.ref C1, i, _⟩ :: L, .cons hc hi hl (fun a oe cls d pn hz hf => pss_one (ps_ret (pe_lst (pa_cons pe_str (pa_cons (pe_xf xf no hz hf (pe_var (i := i) hi vis hd hcd) rfl) pa_nil rfl) rfl)))) ok, fun E c d fr st σ Y H dx fs v R e1 e2 r xo h => ?_⟩
    refine ⟨t c, te c, fun tt a na => ?_, fun tf => ?_⟩
    · have h' : FS X.K C Y H E (hGiv i s d fr st) := by
        unfold pickM at h
        rw [if_pos tt] at h
        exact h
      unfold hGiv at h'
      split at h'
      · rename_i hi'
        refine ⟨.ref a, (by rw [List.getElem?_set_self (by rw [R.ln]; exact hi')]), rfl, by rw [tc c tt], dx, fs, v, rfl, e1, e2, (by rw [sizeLine_eq]; show 2 ≤ 16777216; decide), fun p hp => ?_⟩
        obtain ⟨R2, F2, x2⟩ := R.newL hp (ds := [.str s, d]) (xs := [.str s, v]) (reps_cons (by unfold Rep; rfl) (reps_cons r reps_nil))
        obtain ⟨R3, x3, r3⟩ := R2.freezeNew F2 x2 hp
        exact h' (.ref p) σ _ _ R3 x3 r3
      · exact h'.elim
    · refine q E c d fr st σ Y H dx fs v R e1 e2 r xo ?_
      unfold pickM at h
      rw [if_neg (show ¬ t c = true from by rw [tf]; exact Bool.false_ne_true)] at h
      exact h
theorem ds_try (hst : X.stack = X.env :: X.outer) (hf : X.env.frame = some X.env.locals) (hN : X.N.Nodup) (tk : Takes X C.W) (hh : DCl C X (h0 :: hs) l)
    (hb : ∀ (W : WX) (pn : List (Addr × Obj)) (xe : Value → Shared → Prop), Takes (X.tr pn xe) W → PassesOwn (model X.prog X.w) X.A X.env xe → DSs { C with W := W } (X.tr pn xe) body m) :
    DS C X (.Try body (h0 :: hs) [] [] pos) (tryM m l) := by
  obtain ⟨L, ok, q⟩ := dcl_ok hh
  refine ps_w (ps_clauses hst hf hN tk (tb := fun W => tS X.K { C with W := W } m) hb ok) fun E σ H ⟨Y, fr, st, R, h⟩ => ⟨Y, fr, st, R, ?_⟩
  unfold tryM at h
  cases z : m fr st with
  | none => rw [z] at h; exact h.elim
  | some o =>
    rw [z] at h
    cases o with
    | ok fl fr1 st1 =>
      cases fl with
      | nx => exact h
      | rt d => exact h
      | bk => exact h
      | ct => exact h
    | exn c d fr1 st1 =>
      intro σ' dx fs v H' Y' R' x' e1 e2 r' xo
      exact q E c d fr1 st1 σ' Y' H' dx fs v R' e1 e2 r' xo (FS.ext x' h)
end
end DL
end

section
set_option Elab.async false
set_option linter.all false
set_option maxRecDepth 100000
set_option maxHeartbeats 4000000
/-! The D layer, part p: labelled dicts; range with a step, zip, enumerate. -/
namespace DL
open PySem PySem.Spec PyProof.Rows L2

def dkey : D → Option Key
  | .int i => some (.inl i)
  | .str s => some (.inr s)
  | _ => none
def keyD : Key → D
  | .inl i => .int i
  | .inr s => .str s
def dlook : List (Key × D) → Key → Option D
  | [], _ => none
  | p :: r, k => if p.1 = k then some p.2 else dlook r k
def dset : List (Key × D) → Key → D → List (Key × D)
  | [], _, _ => []
  | p :: r, k, d => (if p.1 = k then (p.1, d) else p) :: dset r k d
def dput (kvs : List (Key × D)) (k : Key) (d : D) : List (Key × D) := if (dlook kvs k).isSome then dset kvs k d else kvs ++ [(k, d)]
section
variable {K : PySem.W.Frag} {G : Hp} {lab : List Addr}
theorem rep_key {y : D} {k : Key} {v : V} (r : Rep K G lab y v) (e : dkey y = some k) : v = kV k := by
  cases y <;> unfold dkey at e <;> first | (cases e; done) | (cases e; unfold Rep at r; exact r)
theorem rep_keyD {k : Key} : Rep K G lab (keyD k) (kV k) := by
  cases k <;> (unfold keyD Rep; rfl)
theorem repK_look : ∀ {kvs : List (Key × D)} {ps : List (Key × V)} {k : Key}, RepK K G lab kvs ps → (∀ d, dlook kvs k = some d → ∃ v, valV ps k = some v ∧ Rep K G lab d v) ∧ (dlook kvs k = none → valV ps k = none)
  | [], _, k, h => by cases h; exact ⟨(fun d e => by cases e), fun _ => rfl⟩
  | p :: kvs, _, k, ⟨v, vs, e, r, h⟩ => by
    subst e
    obtain ⟨h1, h2⟩ := repK_look (k := k) h
    unfold dlook
    by_cases q : p.1 = k
    · rw [if_pos q, valV_pos (show ((p.1, v) : Key × V).1 = k from q)]
      exact ⟨fun d e => by cases e; exact ⟨v, rfl, r⟩, fun e => by cases e⟩
    · rw [if_neg q, valV_neg (show ¬ ((p.1, v) : Key × V).1 = k from q)]
      exact ⟨h1, h2⟩
theorem repK_append : ∀ {kvs js : List (Key × D)} {ps qs : List (Key × V)}, RepK K G lab kvs ps → RepK K G lab js qs → RepK K G lab (kvs ++ js) (ps ++ qs)
  | [], _, _, _, h, h' => by cases h; exact h'
  | p :: kvs, _, _, _, ⟨v, vs, e, r, h⟩, h' => by subst e; exact ⟨v, _, rfl, r, repK_append h h'⟩
theorem repK_set {k : Key} {d : D} {v : V} (r : Rep K G lab d v) : ∀ {kvs : List (Key × D)} {ps : List (Key × V)}, RepK K G lab kvs ps → RepK K G lab (dset kvs k d) (ps.map fun kv => if kv.1 = k then (kv.1, v) else kv)
  | [], _, h => by cases h; exact rfl
  | p :: kvs, _, ⟨v', vs, e, r', h⟩ => by
    subst e
    unfold dset
    rw [List.map_cons]
    by_cases q : p.1 = k
    · rw [if_pos q, if_pos (show ((p.1, v') : Key × V).1 = k from q)]
      exact ⟨v, _, rfl, r, repK_set r h⟩
    · rw [if_neg q, if_neg (show ¬ ((p.1, v') : Key × V).1 = k from q)]
      exact ⟨v', _, rfl, r', repK_set r h⟩
theorem repK_put {k : Key} {d : D} {v : V} (r : Rep K G lab d v) {kvs : List (Key × D)} {ps : List (Key × V)} (h : RepK K G lab kvs ps) : RepK K G lab (dput kvs k d) (putK ps k v) := by
  unfold dput putK
  obtain ⟨h1, h2⟩ := repK_look (k := k) h
  rw [valV_any]
  cases e : dlook kvs k with
  | some d0 =>
    obtain ⟨v0, e0, _⟩ := h1 d0 e
    rw [e0]
    exact repK_set r h
  | none =>
    rw [h2 e]
    exact repK_append h ⟨v, [], rfl, r, rfl⟩
theorem repK_get : ∀ {kvs : List (Key × D)} {ps : List (Key × V)} {i : Nat} {k : Key} {v : V}, RepK K G lab kvs ps → ps[i]? = some (k, v) → ∃ d, kvs[i]? = some (k, d)
  | [], _, i, k, v, h, e => by cases h; simp at e
  | p :: kvs, _, 0, k, v, ⟨v', vs, e', r', h⟩, e => by
    subst e'
    simp at e
    exact ⟨p.2, by simp [← e.1]⟩
  | p :: kvs, _, i + 1, k, v, ⟨v', vs, e', r', h⟩, e => by
    subst e'
    obtain ⟨d, q⟩ := repK_get (i := i) h (by simpa using e)
    exact ⟨d, by simpa using q⟩
end
section
variable {K : PySem.W.Frag} {C : Cc} {B : Bs} {σ : L2.St} {Y : Vw} {H : Hp} {fr : Fr} {st : SS}
/-- a labelled dict, as it may be read -/
def dicAt (st : SS) (d : D) : Option (List (Key × D)) := match d with
  | .obj n => match st[n]? with | some (.dic kvs) => some kvs | some (.fdic kvs) => some kvs | _ => none
  | _ => none
theorem dicAt_ok (R : Wd K B Y H st) {d : D} {v : V} {kvs : List (Key × D)} (r : Rep K Y.G Y.lab d v) (e : dicAt st d = some kvs) : ∃ a ps, v = .ref a ∧ Rd H a (.dK ps) ∧ RepK K Y.G Y.lab kvs ps := by
  cases d with
  | obj n =>
    unfold Rep at r
    obtain ⟨a, rfl, el⟩ := r
    simp only [dicAt] at e
    split at e
    · rename_i k e2
      cases e
      obtain ⟨ps, h1, h2⟩ := R.ob n a _ el e2
      exact ⟨a, ps, rfl, .inl h1, h2⟩
    · rename_i k e2
      cases e
      obtain ⟨o, ps, h1, h2⟩ := R.ob n a _ el e2
      exact ⟨a, ps, rfl, .inr ⟨o, h1⟩, h2⟩
    · cases e
  | _ => cases e
end
def inK : SS → D → D → Option D := fun st y d => match dicAt st d, dkey y with | some kvs, some k => some (.bl (dlook kvs k).isSome) | _, _ => none
def ninK : SS → D → D → Option D := fun st y d => match dicAt st d, dkey y with | some kvs, some k => some (.bl (!(dlook kvs k).isSome)) | _, _ => none
def subK : SS → D → D → Option D := fun st d y => match dicAt st d, dkey y with | some kvs, some k => dlook kvs k | _, _ => none
def dop (f : SS → D → D → Option D) (m n : M D) : M D := bnd m fun x => bnd n fun y fr st => (f st x y).map fun d => .ok d fr st
def newDicM : M D := fun fr st => some (.ok (.obj st.length) fr (st ++ [.dic []]))
section
variable {X : Cx} {C : Cc} {pos p : Pos} {a b e : Expr} {ma mb : M D} {k : Nat}
theorem inK_ok (h : tM X.K C (rE X.K) (dop inK ma mb) σ H Q) : tDIn (tM X.K C (rE X.K) ma) (tM X.K C (rE X.K) mb) σ H Q := by
  obtain ⟨Y, fr, st, R, h⟩ := h
  refine tM_bnd R h fun x v H1 Y1 fr1 st1 R1 x1 r1 h1 => ?_
  refine tM_bnd R1 h1 fun y w H2 Y2 fr2 st2 R2 x2 r2 h2 => ?_
  cases z : inK st2 x y with
  | none => rw [z] at h2; exact h2.elim
  | some d =>
    rw [z] at h2
    unfold inK at z
    split at z
    · rename_i kvs ky e1 e2
      cases z
      obtain ⟨a, ps, rfl, h3, h4⟩ := dicAt_ok R2.toWd r2 e1
      have ev := rep_key (x2.rep r1) e2
      refine ⟨a, valV ps ky, rfl, .inl ⟨ps, ky, h3, ev, rfl⟩, ?_⟩
      refine FO_ok (rel := rE X.K) R2 (.refl _ _) ?_ h2
      obtain ⟨q1, q2⟩ := repK_look (k := ky) h4
      unfold rE Rep
      cases e5 : dlook kvs ky with
      | none => rw [q2 e5]; rfl
      | some d5 =>
        obtain ⟨v5, e6, _⟩ := q1 d5 e5
        rw [e6]; rfl
    · cases z
theorem ninK_ok (h : tM X.K C (rE X.K) (dop ninK ma mb) σ H Q) : tDNotIn (tM X.K C (rE X.K) ma) (tM X.K C (rE X.K) mb) σ H Q := by
  obtain ⟨Y, fr, st, R, h⟩ := h
  refine tM_bnd R h fun x v H1 Y1 fr1 st1 R1 x1 r1 h1 => ?_
  refine tM_bnd R1 h1 fun y w H2 Y2 fr2 st2 R2 x2 r2 h2 => ?_
  cases z : ninK st2 x y with
  | none => rw [z] at h2; exact h2.elim
  | some d =>
    rw [z] at h2
    unfold ninK at z
    split at z
    · rename_i kvs ky e1 e2
      cases z
      obtain ⟨a, ps, rfl, h3, h4⟩ := dicAt_ok R2.toWd r2 e1
      have ev := rep_key (x2.rep r1) e2
      refine ⟨a, valV ps ky, rfl, .inl ⟨ps, ky, h3, ev, rfl⟩, ?_⟩
      refine FO_ok (rel := rE X.K) R2 (.refl _ _) ?_ h2
      obtain ⟨q1, q2⟩ := repK_look (k := ky) h4
      unfold rE Rep
      cases e5 : dlook kvs ky with
      | none => rw [q2 e5]; rfl
      | some d5 =>
        obtain ⟨v5, e6, _⟩ := q1 d5 e5
        rw [e6]; rfl
    · cases z
theorem subK_ok (h : tM X.K C (rE X.K) (dop subK ma mb) σ H Q) : tDGet (tM X.K C (rE X.K) ma) (tM X.K C (rE X.K) mb) σ H Q := by
  obtain ⟨Y, fr, st, R, h⟩ := h
  refine tM_bnd R h fun x v H1 Y1 fr1 st1 R1 x1 r1 h1 => ?_
  refine tM_bnd R1 h1 fun y w H2 Y2 fr2 st2 R2 x2 r2 h2 => ?_
  cases z : subK st2 x y with
  | none => rw [z] at h2; exact h2.elim
  | some d =>
    rw [z] at h2
    unfold subK at z
    split at z
    · rename_i kvs ky e1 e2
      obtain ⟨a, ps, ea, h3, h4⟩ := dicAt_ok R2.toWd (x2.rep r1) e1
      have ev := rep_key r2 e2
      obtain ⟨q1, q2⟩ := repK_look (k := ky) h4
      obtain ⟨v5, e6, r5⟩ := q1 d z
      exact ⟨a, v5, ea, .inl ⟨ps, ky, h3, ev, e6.symm⟩, FO_ok (rel := rE X.K) R2 (.refl _ _) r5 h2⟩
    · cases z
theorem de_inK (hr : Room k X.A) (ha : DE C X a ma) (hb : DE C X b mb) (hm : behindInMarks .In b = false := by first | rfl | with_unfolding_all rfl) : DE C X (.Compare a [.In] [b] pos) (dop inK ma mb) := pe_w (pe_cmp (pc_din (hu_of hr) ha hb) hm) fun _ _ _ h => inK_ok h
theorem dt_inK (hr : Room k X.A) (ha : DE C X a ma) (hb : DE C X b mb) (hm : behindInMarks .In b = false := by first | rfl | with_unfolding_all rfl) : DT C X (.Compare a [.In] [b] pos) (tst (dop inK ma mb)) := pt_w (pt_cmp (pc_din (hu_of hr) ha hb) hm) (tst_ok fun _ _ _ h => inK_ok h)
theorem de_ninK (hr : Room k X.A) (ha : DE C X a ma) (hb : DE C X b mb) (hm : behindInMarks .NotIn b = false := by first | rfl | with_unfolding_all rfl) : DE C X (.Compare a [.NotIn] [b] pos) (dop ninK ma mb) := pe_w (pe_cmp (pc_dnotin (hu_of hr) ha hb) hm) fun _ _ _ h => ninK_ok h
theorem dt_ninK (hr : Room k X.A) (ha : DE C X a ma) (hb : DE C X b mb) (hm : behindInMarks .NotIn b = false := by first | rfl | with_unfolding_all rfl) : DT C X (.Compare a [.NotIn] [b] pos) (tst (dop ninK ma mb)) := pt_w (pt_cmp (pc_dnotin (hu_of hr) ha hb) hm) (tst_ok fun _ _ _ h => ninK_ok h)
theorem de_subK (hr : Room k X.A) (ha : DE C X a ma) (hb : DE C X b mb) (hs : NoSl b := by intro _ _; rfl) : DE C X (.Subscript a b pos) (dop subK ma mb) := pe_w (pe_dget (hu_of hr) ha hb hs) fun _ _ _ h => subK_ok h
theorem de_dnew : DE C X (.Dict [] [] pos) newDicM := pe_w pe_dnewK fun σ H Q ⟨Y, fr, st, R, h⟩ => fun q hq => by
  obtain ⟨R2, x2⟩ := R.newOb hq (o := .dK []) (ob := .dic []) fun H' e => ⟨[], e, rfl⟩
  refine FO_ok (a := D.obj st.length) (rel := rE X.K) R2 x2 ?_ h
  unfold rE Rep
  refine ⟨q, rfl, ?_⟩
  show (Y.lab ++ [q])[st.length]? = some q
  rw [← R.len, List.getElem?_append_right (Nat.le_refl _)]
  simp
/-- o[k] = e -/
def dputM (me mo mk : M D) : M Fl := bnd me fun d => bnd mo fun o => bnd mk fun y fr st => match o, dkey y with
  | .obj n, some k => match st[n]? with | some (.dic kvs) => if small kvs.length then some (.ok .nx fr (st.set n (.dic (dput kvs k d)))) else none | _ => none
  | _, _ => none
theorem ds_dput {me mo mk : M D} {o i value : Expr} {pos' : Pos} (hr : Room k X.A) (ho : DE C X o mo) (hi : DE C X i mk) (hv : DE C X value me) (hs : swapsWith value (some (.Subscript o i pos')) pos.line X.env = pure false := by rfl) :
    DS C X (.Assign [.Subscript o i pos'] value pos) (dputM me mo mk) := by
  refine ps_w (ps_dput (hu_of hr) ho hi hv hs) fun E σ H ⟨Y, fr, st, R, h⟩ => ?_
  refine tS_bnd R h fun d v H1 Y1 fr1 st1 R1 x1 r1 h1 => ?_
  refine tS_bnd R1 h1 fun o w H2 Y2 fr2 st2 R2 x2 r2 h2 => ?_
  refine tS_bnd R2 h2 fun y u H3 Y3 fr3 st3 R3 x3 r3 h3 => ?_
  have r2' : Rep X.K Y3.G Y3.lab o w := x3.rep r2
  cases o with
  | obj n =>
    cases e1 : dkey y with
    | none => rw [e1] at h3; exact h3.elim
    | some ky =>
      rw [e1] at h3
      simp only at h3
      split at h3
      · rename_i kvs e2
        split at h3
        · rename_i sm
          unfold Rep at r2'
          obtain ⟨a, rfl, el⟩ := r2'
          obtain ⟨ps, h4, h5⟩ := R3.ob n a _ el e2
          have eu := rep_key (show Rep X.K Y3.G Y3.lab y u from r3) e1
          refine ⟨a, _, rfl, .inl ⟨ps, ky, h4, eu, (by rw [repK_len h5]; exact small_lt sm), rfl⟩, ?_⟩
          obtain ⟨R4, x4⟩ := R3.setOb el (fun z e5 ⟨od, w, e6⟩ => by rw [h4, e6] at e5; cases e5) (o := .dK (putK ps ky v)) (ob := .dic (dput kvs ky d)) fun H' e => ⟨_, e, repK_put (x3.rep (x2.rep r1)) h5⟩
          exact h3 σ _ _ R4 x4
        · exact h3.elim
      · exact h3.elim
  | _ => exact h3.elim
end

/-! ### [e for k in d if ..], d a labelled dict: it is locked meanwhile -/
def Cc.lock (C : Cc) (d : Addr) (u : HO) : Cc := { C with B := ⟨upd C.B.H0 d u, C.B.G0, C.B.lab0, C.B.Hs⟩ }
section
variable {K : PySem.W.Frag} {C : Cc} {σ : L2.St} {Y Y' : Vw} {H H' : Hp} {fr fr' : Fr} {st st' : SS}
theorem Rl.lock (R : Rl K C.B Y σ H fr st) {n : Nat} {d : Addr} {ps : List (Key × V)} {kvs : List (Key × D)} {od : Obj} (hd : Y.lab[n]? = some d) (h : H d = some (.dK ps)) (r : RepK K Y.G Y.lab kvs ps) :
    Rl K (C.lock d (.frz od (.dK ps))).B Y σ (upd H d (.frz od (.dK ps))) fr (st.set n (.fdic kvs)) := by
  have mp : d ∈ Y.lab := List.mem_of_getElem? hd
  have ne : ∀ a u, Y.G a = some u → a ≠ d := fun a u e z => by
    rw [z, R.fl d mp] at e; cases e
  refine ⟨⟨fun a u e => ?_, fun a u e m => ?_, fun a u e => ?_, R.pre, fun a e => ?_, fun a u e1 e2 => ?_, by simp [R.len], R.nd, R.fl, fun j a b e1 e2 => ?_, fun i l e => ?_, R.inj⟩, R.ln, fun i s e => ?_⟩
  · rw [upd_ne (ne a u e)]; exact R.sub a u e
  · have e' : upd C.B.H0 d (.frz od (.dK ps)) a = some u := e
    by_cases hap : a = d
    · subst hap
      rw [upd_same] at e' ⊢
      exact e'
    · rw [upd_ne hap] at e' ⊢
      exact R.base a u e' m
  · rcases R.gn a u e with q | q
    · exact .inl q
    · refine .inr ?_
      show upd C.B.H0 d _ a = none
      rw [upd_ne (ne a u e)]
      exact q
  · have e' : upd C.B.H0 d (.frz od (.dK ps)) a = none := e
    exact R.hs a (upd_tr e')
  · have e' : upd C.B.H0 d (.frz od (.dK ps)) a = some u := e1
    by_cases hap : a = d
    · subst hap
      rw [upd_same] at e'
      cases e'
      exact ⟨_, _, rfl⟩
    · rw [upd_ne hap] at e'
      exact R.hz a u e' e2
  · by_cases hk : j = n
    · subst hk
      rw [hd] at e1; cases e1
      have hl : j < st.length := by rw [← R.len]; exact (List.getElem?_eq_some_iff.mp hd).1
      rw [List.getElem?_set_self hl] at e2
      cases e2
      exact ⟨od, ps, upd_same, r⟩
    · rw [List.getElem?_set_ne (Ne.symm hk)] at e2
      have hap : a ≠ d := by
        rintro rfl
        obtain ⟨h1, z1⟩ := List.getElem?_eq_some_iff.mp e1
        obtain ⟨h2, z2⟩ := List.getElem?_eq_some_iff.mp hd
        exact hk ((List.getElem_inj R.nd).mp (z1.trans z2.symm))
      exact (R.ob j a b e1 e2).mono (fun _ _ z => z) (fun _ _ z => z) fun u z => by rw [upd_ne hap]; exact z
  · obtain ⟨h1, h2, h3, u, h4⟩ := R.own i l e
    have nl : l ≠ d := fun z => h2 (by rw [z]; exact mp)
    refine ⟨h1, h2, ?_, u, by rw [upd_ne nl]; exact h4⟩
    show upd C.B.H0 d _ l = none
    rw [upd_ne nl]
    exact h3
  · refine (R.sl i s e).mono (fun _ _ z => z) (fun _ _ z => z) fun l z => ⟨z, fun u hu => ?_⟩
    obtain ⟨_, h2, _⟩ := R.own i l z
    rw [upd_ne (show l ≠ d from fun q => h2 (by rw [q]; exact mp))]; exact hu
theorem Rl.unlock (R0 : Rl K C.B Y σ H fr st) {n : Nat} {d : Addr} {ps : List (Key × V)} {kvs : List (Key × D)} {od : Obj} (hd : Y.lab[n]? = some d) (h : H d = some (.dK ps)) (r : RepK K Y.G Y.lab kvs ps)
    (R : Rl K (C.lock d (.frz od (.dK ps))).B Y' σ H' fr' st') (x : Ext Y (upd H d (.frz od (.dK ps))) Y' H') :
    H' d = some (.frz od (.dK ps)) ∧ Rl K C.B Y' σ (upd H' d (.dK ps)) fr' (st'.set n (.dic kvs)) ∧ Ext Y H Y' (upd H' d (.dK ps)) := by
  have hd' : Y'.lab[n]? = some d := x.lab n d hd
  have mp : d ∈ Y'.lab := List.mem_of_getElem? hd'
  have ne : ∀ a u, Y'.G a = some u → a ≠ d := fun a u e z => by
    rw [z, R.fl d mp] at e; cases e
  have b0 : ∀ a, a ≠ d → (C.lock d (.frz od (.dK ps))).B.H0 a = C.B.H0 a := fun a q => upd_ne q
  have fd : H' d = some (.frz od (.dK ps)) := R.base d _ upd_same (.inr ⟨_, _, rfl⟩)
  refine ⟨fd, ⟨⟨fun a u e => ?_, fun a u e m => ?_, fun a u e => ?_, R.pre, R0.hs, R0.hz, by simp [R.len], R.nd, R.fl, fun j a b e1 e2 => ?_, fun i l e => ?_, R.inj⟩, R.ln, fun i s e => ?_⟩, x.g, x.l, fun a u h1 h2 h3 h4 => ?_, fun a e => ?_⟩
  · rw [upd_ne (ne a u e)]; exact R.sub a u e
  · by_cases hap : a = d
    · subst hap
      have z := R0.base a u e m
      rw [h] at z
      rw [upd_same]
      exact z
    · rw [upd_ne hap]
      exact R.base a u ((b0 a hap).trans e) m
  · rcases R.gn a u e with q | q
    · exact .inl q
    · exact .inr ((b0 a (ne a u e)).symm.trans q)
  · by_cases hk : j = n
    · subst hk
      rw [hd'] at e1; cases e1
      have hl : j < st'.length := by rw [← R.len]; exact (List.getElem?_eq_some_iff.mp hd').1
      rw [List.getElem?_set_self hl] at e2
      cases e2
      exact ⟨ps, upd_same, RepK.mono x.g x.lab r⟩
    · rw [List.getElem?_set_ne (Ne.symm hk)] at e2
      have hap : a ≠ d := by
        rintro rfl
        obtain ⟨h1, z1⟩ := List.getElem?_eq_some_iff.mp e1
        obtain ⟨h2, z2⟩ := List.getElem?_eq_some_iff.mp hd'
        exact hk ((List.getElem_inj R.nd).mp (z1.trans z2.symm))
      exact (R.ob j a b e1 e2).mono (fun _ _ z => z) (fun _ _ z => z) fun u z => by rw [upd_ne hap]; exact z
  · obtain ⟨h1, h2, h3, u, h4⟩ := R.own i l e
    have nl : l ≠ d := fun z => h2 (by rw [z]; exact mp)
    exact ⟨h1, h2, (b0 l nl).symm.trans h3, u, by rw [upd_ne nl]; exact h4⟩
  · refine (R.sl i s e).mono (fun _ _ z => z) (fun _ _ z => z) fun l z => ⟨z, fun u hu => ?_⟩
    obtain ⟨_, h2, _⟩ := R.own i l z
    rw [upd_ne (show l ≠ d from fun q => h2 (by rw [q]; exact mp))]; exact hu
  · have nd : a ≠ d := fun z => h3 (by rw [z]; exact List.mem_of_getElem? hd)
    obtain ⟨k1, k2⟩ := x.k a u (by rw [upd_ne nd]; exact h1) h2 h3 h4
    exact ⟨by rw [upd_ne nd]; exact k1, k2⟩
  · by_cases hap : a = d
    · rw [hap, upd_same] at e; cases e
    · rw [upd_ne hap] at e
      have z := x.t a e
      rw [upd_ne hap] at z
      exact z
end
def compK (i : Nat) (vs : List Nat) (g : Tg) (t : M Bool) (e : M D) : M (List D) := fun fr st => match fr[i]? with
  | some (.val (.obj n)) => match st[n]? with
    | some (.dic kvs) => match compM vs (ret (kvs.map (fun p => keyD p.1), Wt.no)) g t e fr (st.set n (.fdic kvs)) with
      | some (.ok acc fr' st') => some (.ok acc fr' (st'.set n (.dic kvs)))
      | _ => none
    | _ => none
  | _ => none
section
variable {X : Cx} {C : Cc} {pos np : Pos} {elt tg : Expr} {ifs : List Expr} {scope : Scope} {g : Tg} {t : M Bool} {e : M D} {x : Str}
theorem dn_lcK (i : Nat) (own : List (Str × Nat)) (hc : X.calm = true) (hN : X.N.Nodup) (ok : BlkOk X.N X.env.scope scope own)
    (hg : Blk X scope fun Z => PG Z tg (gT X.K g)) (ht : ∀ d u, Blk X scope fun Z => PTs Z ifs (tM X.K (C.lock d u).blk rT t)) (he : ∀ d u, Blk X scope fun Z => PE Z elt (tM X.K (C.lock d u).blk (rE X.K) e))
    (hN' : X.N[i]? = some x := by rfl) (hv : Vis X.env.scope x := by first | exact Or.inl rfl | exact Or.inr (Or.inl rfl) | exact Or.inr (Or.inr rfl)) (hd : (x == ("__debug__" : Str)) = false := by decide) (hcd : (x == ("__classdict__" : Str)) = false := by decide)
    (hin : g.inn (own.map (·.2)) = true := by rfl) (hs : ∀ z, foldedSetIterable (.Name x np) X.env z = pure z := by intro _; rfl) : DN C X (.ListComp elt [⟨tg, .Name x np, ifs, 0⟩] scope pos) (compK i (own.map (·.2)) g t e) := by
  refine ⟨fun pins s σ H Q I h => ?_⟩
  obtain ⟨Y, fr, st, R, h⟩ := h
  unfold compK at h
  cases e1 : fr[i]? with
  | none => rw [e1] at h; exact h.elim
  | some sl =>
    rw [e1] at h
    cases sl with
    | none => exact h.elim
    | own => exact h.elim
    | val dd =>
      cases dd with
      | obj n =>
        simp only at h
        cases e2 : st[n]? with
        | none => rw [e2] at h; exact h.elim
        | some ob =>
          rw [e2] at h
          cases ob with
          | lst => exact h.elim
          | fdic => exact h.elim
          | dic kvs =>
            simp only at h
            obtain ⟨v, e3, rv⟩ := R.sl i _ e1
            unfold Rep at rv
            obtain ⟨d, rfl, el⟩ := rv
            obtain ⟨ps, h4, h5⟩ := R.ob n d _ el e2
            obtain ⟨od, I1⟩ := I.lock (d := d) (u := .dK ps) h4 trivial
            have RL := R.lock (C := C) (od := od) el h4 h5
            refine thn ((pe_lc hc hN (pi_keys (pe_var hN' hv hd hcd)) ok hg (ht d (.frz od (.dK ps))) (he d (.frz od (.dK ps))) hs).run pins s σ _ (fun v H' => H' d = some (.frz od (.dK ps)) ∧ Q v (upd H' d (.dK ps))) I1 ?_) fun v s1 ⟨x, H1, I2, rx, e5, q⟩ => ⟨x, _, I2.unlock e5 (I.nofrz h4 trivial), rx, q⟩
            have walk : ∀ Z, WkP X.K (C.lock d (.frz od (.dK ps))).B (KeepP σ (kvs.map (fun p => keyD p.1), Wt.no)) (kvs.map fun p => keyD p.1) Z (Itk d od ps) := fun Z => by
              refine ⟨fun H => H d = some (.frz od (.dK ps)), fun i H x H' => H' = H ∧ ∃ k v, ps[i]? = some (k, v) ∧ x = kV k, ?_, fun Y' σ' H' fr st R' _ _ => R'.base d _ upd_same (.inr ⟨_, _, rfl⟩), fun j y H' H'' Y' σ' fr st hj R' _ _ ⟨z1, k, v, z2, z3⟩ => ?_⟩
              · rw [List.length_map, ← repK_len h5]
                exact walk_keys
              · subst z1 z3
                obtain ⟨d5, z4⟩ := repK_get h5 z2
                exact ⟨Y', keyD k, R', .refl _ _, by rw [List.getElem?_map, z4]; rfl, rep_keyD⟩
            have fin := compM_ok (C := C.lock d (.frz od (.dK ps))) (K := X.K) (σ := σ) (H := upd H d (.frz od (.dK ps))) (mi := ret (kvs.map (fun p => keyD p.1), Wt.no)) (g := g) (t := t) (e := e) (vs := own.map (·.2)) (Q := fun v H' => H' d = some (.frz od (.dK ps)) ∧ Q v (upd H' d (.dK ps))) hin
              ⟨Y, fr, st.set n (.fdic kvs), RL, ?_⟩
            · obtain ⟨Y1, fr1, st1, R1, q⟩ := fin
              exact ⟨.ref d, e3, d, od, rfl, .inl ⟨ps, upd_same, q _ _ _ R1 (.refl _ _) (walk _)⟩⟩
            · cases z : compM (own.map (·.2)) (ret (kvs.map (fun p => keyD p.1), Wt.no)) g t e fr (st.set n (.fdic kvs)) with
              | none => rw [z] at h; exact h.elim
              | some o =>
                rw [z] at h
                cases o with
                | exn => exact h.elim
                | ok acc fr' st' =>
                  intro b H' Y' R' x' ⟨l, xs, F, hn⟩
                  obtain ⟨k1, k2, k3⟩ := R.unlock el h4 h5 R' x'
                  have nl : l ≠ d := fun zz => F.lab (by rw [zz]; exact List.mem_of_getElem? (x'.lab n d el))
                  refine ⟨k1, h b _ Y' k2 k3 ⟨l, xs, ⟨F.e, (by rw [upd_ne nl]; exact F.h), F.g, F.lab, F.ow, ?_, F.r⟩, ?_⟩⟩
                  · have z0 : upd C.B.H0 d (.frz od (.dK ps)) l = none := F.h0
                    rw [upd_ne nl] at z0
                    exact z0
                  · rw [upd_ne nl] at hn
                    exact hn
      | _ => exact h.elim
end

/-! ### range(i, j, c); zip; enumerate -/
def rangeC (lo c : Int) (n : Nat) : List D := (List.range n).map fun i => .int (lo + (i : Nat) * c)
theorem rangeC_get {lo c : Int} {n i : Nat} (h : i < n) : (rangeC lo c n)[i]? = some (.int (lo + (i : Nat) * c)) := by
  unfold rangeC
  rw [List.getElem?_map, List.getElem?_range h]
  rfl
def rng3 (ma mb mc : M D) : M (List D) := bnd ma fun x => bnd mb fun y => bnd mc fun z => opt (match x, y, z with
  | .int i, .int j, .int c => if decide (c ≠ 0) && (decide (c.natAbs < 1073741824) && Builtin.Range.small i j c) then some (rangeC i c (Builtin.Range.rangeSize i j c).toNat) else none
  | _, _, _ => none)
/-- pairs of two rows -/
def zipD : List D → List D → List D
  | x :: xs, y :: ys => .tup [x, y] :: zipD xs ys
  | _, _ => []
def enumD : Nat → List D → List D
  | _, [] => []
  | n, x :: xs => .tup [.int (n : Nat), x] :: enumD (n + 1) xs
theorem zipD_len : ∀ {xs ys : List D}, (zipD xs ys).length = min xs.length ys.length
  | [], _ => by simp [zipD]
  | _ :: _, [] => by simp [zipD]
  | x :: xs, y :: ys => by simp [zipD, zipD_len (xs := xs) (ys := ys)]
theorem zipD_get : ∀ {xs ys : List D} {i : Nat} {x y : D}, xs[i]? = some x → ys[i]? = some y → (zipD xs ys)[i]? = some (.tup [x, y])
  | [], _, i, x, y, h, _ => by simp at h
  | _ :: _, [], i, x, y, _, h => by simp at h
  | x :: xs, y :: ys, 0, _, _, h1, h2 => by simp at h1 h2; simp [zipD, h1, h2]
  | x :: xs, y :: ys, i + 1, _, _, h1, h2 => by
    have := zipD_get (xs := xs) (ys := ys) (i := i) (by simpa using h1) (by simpa using h2)
    simpa [zipD] using this
theorem enumD_len : ∀ {xs : List D} {n : Nat}, (enumD n xs).length = xs.length
  | [], _ => rfl
  | x :: xs, n => by simp [enumD, enumD_len (xs := xs)]
theorem enumD_get : ∀ {xs : List D} {n i : Nat} {x : D}, xs[i]? = some x → (enumD n xs)[i]? = some (.tup [.int ((n + i : Nat) : Int), x])
  | [], _, i, x, h => by simp at h
  | x :: xs, n, 0, _, h => by simp at h; simp [enumD, h]
  | x :: xs, n, i + 1, _, h => by
    have := enumD_get (xs := xs) (n := n + 1) (i := i) (by simpa using h)
    simp only [enumD, List.getElem?_cons_succ]
    rw [this]
    congr 4
    omega
def lstOf : D → Option (List D)
  | .lst ds => some ds
  | .scr ns => some (ns.map .int)
  | _ => none
def tupOf : D → Option (List D)
  | .tup ds => some ds
  | _ => none
def zipI (ma mb : M D) : M (List D) := bnd ma fun x => bnd mb fun y => opt (match lstOf x, lstOf y with | some xs, some ys => some (zipD xs ys) | _, _ => none)
def enumI (m : M D) : M (List D) := bnd m fun x => opt (match lstOf x with | some xs => some (enumD 0 xs) | _ => none)
section
variable {K : PySem.W.Frag} {B : Bs} {Y : Vw} {σ : L2.St} {H : Hp} {fr : Fr} {st : SS}
/-- a list in the fixed part, or the script -/
theorem lstOf_rep {G : Hp} {lab : List Addr} {d : D} {v : V} {ds : List D} (r : Rep K G lab d v) (e : lstOf d = some ds) : ∃ a xs, v = .ref a ∧ SqL K G a xs ∧ Reps K G lab ds xs := by
  cases d with
  | lst ds' =>
    cases e
    unfold Rep at r
    obtain ⟨a, xs, rfl, s, rs⟩ := r
    exact ⟨a, xs, rfl, .inl (.inl s), rs⟩
  | scr ns =>
    cases e
    unfold Rep at r
    obtain ⟨a, rfl, s⟩ := r
    exact ⟨a, _, rfl, s, reps_ints⟩
  | _ => cases e
/-- the walk of pairs -/
theorem wk_pair {P : L2.St → Fr → SS → Prop} {G : Hp → Prop} {J : It} {ds : List D} {f g : Nat → Option V} (w : Walk J ds.length G (YPair f g)) (hG : ∀ Y' σ' H' fr st, Rl K B Y' σ' H' fr st → Gro Y Y' → P σ' fr st → G H')
    (h : ∀ i x y, i < ds.length → f i = some x → g i = some y → ∃ a b, ds[i]? = some (.tup [a, b]) ∧ Rep K Y.G Y.lab a x ∧ Rep K Y.G Y.lab b y) : WkP K B P ds Y J := by
  refine ⟨G, YPair f g, w, hG, fun i v H' H'' Y' σ' fr st hi R' gr _ ⟨T, x, y, ev, hT, eH, h1, h2⟩ => ?_⟩
  subst ev eH
  obtain ⟨a, b, e1, r1, r2⟩ := h i x y hi h1 h2
  obtain ⟨R2, x2⟩ := R'.newG hT (.tup [x, y])
  refine ⟨_, .tup [a, b], R2, x2, e1, ?_⟩
  unfold Rep
  exact ⟨T, [x, y], rfl, .inl (.inl upd_same), reps_cons (x2.rep (gr.rep r1)) (reps_cons (x2.rep (gr.rep r2)) reps_nil)⟩
end
section
variable {X : Cx} {C : Cc} {tg a b c e : Expr} {m ma mb mc : M D} {p pos tpos : Pos} {elts : List Expr} {kk : Nat}
theorem di_zip (hg : Gl X "zip") (hm : X.mg "zip" = none) (ha : DE C X a ma) (hb : DE C X b mb) (hs : starEach [a, b] X.env = (false, eval a X.env) :: starEach [b] X.env := by rfl) (hs2 : starEach [b] X.env = [(false, eval b X.env)] := by rfl) (hpl : (backTo pos (starEach [b] X.env)).any (·.1) = false := by rfl) :
    DI C X (.Tuple elts kk tpos) (.Call (.Name "zip" p) [a, b] [] pos) (zipI ma mb) := by
  refine pi_w (pi_zip hg hm (pa_cons ha (pa_cons hb pa_nil hs2) hs) hs hpl) fun σ H R ⟨Y, fr, st, Rr, q⟩ => ?_
  refine tM_bnd Rr q fun x v H1 Y1 fr1 st1 R1 x1 r1 h1 => ?_
  refine tM_bnd R1 h1 fun y w H2 Y2 fr2 st2 R2 x2 r2 h2 => ?_
  obtain ⟨ds, ed, h3⟩ := FO_opt h2
  split at ed
  · rename_i xs ys e1 e2
    cases ed
    obtain ⟨a1, vs, rfl, s1, rs1⟩ := lstOf_rep (x2.rep r1) e1
    obtain ⟨a2, ws, rfl, s2, rs2⟩ := lstOf_rep (show Rep X.K Y2.G Y2.lab y w from r2) e2
    refine ⟨a1, a2, vs, ws, rfl, sqL_sub R2.sub s1, sqL_sub R2.sub s2, FO_ok (rel := rI X.K C) R2 (.refl _ _) ?_ h3⟩
    refine wk_pair (walk_zip (xs := vs) (ys := ws) (by rw [zipD_len, reps_len rs1, reps_len rs2])) (fun Y' σ' H' fr st R' g _ => ⟨sqL_sub (fun a o z => R'.sub a o (g.g a o z)) s1, sqL_sub (fun a o z => R'.sub a o (g.g a o z)) s2⟩) fun i u u' hi h4 h5 => ?_
    obtain ⟨d1, q1, t1⟩ := reps_getV rs1 h4
    obtain ⟨d2, q2, t2⟩ := reps_getV rs2 h5
    exact ⟨d1, d2, zipD_get q1 q2, t1, t2⟩
  · cases ed
theorem di_enum (hg : Gl X "enumerate") (hm : X.mg "enumerate" = none) (ha : DE C X a ma) (hs : starEach [a] X.env = [(false, eval a X.env)] := by rfl) : DI C X (.Tuple elts kk tpos) (.Call (.Name "enumerate" p) [a] [] pos) (enumI ma) := by
  refine pi_w (pi_enum hg hm (pa_cons ha pa_nil hs) hs) fun σ H R ⟨Y, fr, st, Rr, q⟩ => ?_
  refine tM_bnd Rr q fun x v H1 Y1 fr1 st1 R1 x1 r1 h1 => ?_
  obtain ⟨ds, ed, h3⟩ := FO_opt h1
  split at ed
  · rename_i xs e1
    cases ed
    obtain ⟨a1, vs, rfl, s1, rs1⟩ := lstOf_rep (show Rep X.K Y1.G Y1.lab x v from r1) e1
    refine ⟨a1, vs, rfl, sqL_sub R1.sub s1, FO_ok (rel := rI X.K C) R1 (.refl _ _) ?_ h3⟩
    have w0 := walk_enum (K := X.K) (a := a1) (xs := vs)
    rw [reps_len rs1, ← enumD_len (n := 0)] at w0
    refine wk_pair w0 (fun Y' σ' H' fr st R' g _ => sqL_sub (fun a o z => R'.sub a o (g.g a o z)) s1) fun i u u' hi h4 h5 => ?_
    obtain ⟨d2, q2, t2⟩ := reps_getV rs1 h5
    refine ⟨.int (i : Nat), d2, ?_, ?_, t2⟩
    · have := enumD_get (n := 0) q2
      simpa using this
    · cases h4
      unfold Rep
      rfl
  · cases ed
theorem di_range3 (hg : Gl X "range") (hm : X.mg "range" = none) (ha : DE C X a ma) (hb : DE C X b mb) (hc : DE C X c mc) (hs : starEach [a, b, c] X.env = (false, eval a X.env) :: starEach [b, c] X.env := by rfl)
    (hs2 : starEach [b, c] X.env = (false, eval b X.env) :: starEach [c] X.env := by rfl) (hs3 : starEach [c] X.env = [(false, eval c X.env)] := by rfl) (hpl : (backTo pos (starEach [b, c] X.env)).any (·.1) = false := by rfl) :
    DI C X tg (.Call (.Name "range" p) [a, b, c] [] pos) (rng3 ma mb mc) := by
  refine pi_w (pi_range3 hg hm (pa_cons ha (pa_cons hb (pa_cons hc pa_nil hs3) hs2) hs) hs hpl) fun σ H R ⟨Y, fr, st, Rr, q⟩ => ?_
  refine tM_bnd Rr q fun x v H1 Y1 fr1 st1 R1 x1 r1 h1 => ?_
  refine tM_bnd R1 h1 fun y w H2 Y2 fr2 st2 R2 x2 r2 h2 => ?_
  refine tM_bnd R2 h2 fun z u H3 Y3 fr3 st3 R3 x3 r3 h3 => ?_
  obtain ⟨ds, ed, h4⟩ := FO_opt h3
  split at ed
  · rename_i i j k
    split at ed
    · rename_i g
      cases ed
      rw [Bool.and_eq_true, Bool.and_eq_true] at g
      have q1 : v = .int i := by have t : Rep X.K Y1.G Y1.lab (.int i) v := r1; unfold Rep at t; exact t
      have q2 : w = .int j := by have t : Rep X.K Y2.G Y2.lab (.int j) w := r2; unfold Rep at t; exact t
      have q3 : u = .int k := by have t : Rep X.K Y3.G Y3.lab (.int k) u := r3; unfold Rep at t; exact t
      refine ⟨i, j, k, (Builtin.Range.rangeSize i j k).toNat, by rw [q1, q2, q3], ⟨of_decide_eq_true g.1, of_decide_eq_true g.2.1, g.2.2, PyProof.Rows.rangeSize_toNat i j k⟩, FO_ok (rel := rI X.K C) R3 (.refl _ _) ?_ h4⟩
      have e : (rangeC i k (Builtin.Range.rangeSize i j k).toNat).length = (Builtin.Range.rangeSize i j k).toNat := by simp [rangeC]
      refine ⟨fun _ => True, YFn fun n => .int (i + (n : Nat) * k), by rw [e]; exact walk_rangeC, fun _ _ _ _ _ _ _ _ => trivial, fun n x H' H'' Y' σ' fr st hi R' x' _ ⟨e1, e2⟩ => ?_⟩
      subst e1 e2
      rw [e] at hi
      exact ⟨Y', _, R', .refl _ _, rangeC_get hi, by unfold Rep; rfl⟩
    · cases ed
  · cases ed
end
end DL
end

section
set_option Elab.async false
set_option linter.all false
set_option maxRecDepth 100000
set_option maxHeartbeats 4000000
/-! The D layer, part q: defs as facts; constants. -/
namespace DL
open PySem PySem.Spec PyProof.Rows L2

/-- a def that may be called: x its name, g what it does -/
structure Df (P : Program) (w : World) (K : PySem.W.Frag) (mg : Str → Option Value) (base : Heap) (cl : Nat → Addr) (x : Str) (k n : Nat) (g : Fn) : Prop where
  ex : ∃ f fd ps, FnOk P w K mg base (L2.CX P w) k f fd ps (spD K cl n g) ∧ ps.length = n ∧ mg x = some (.ref f) ∧ PySem.W.keepIn K (.ref f) = true ∧ Binds K fd ps []
  ln : ∀ ds st, ds.length ≠ n → g ds st = none
/-- .. by keywords ks; is: where each parameter's value stands among them -/
structure DfK (P : Program) (w : World) (K : PySem.W.Frag) (mg : Str → Option Value) (base : Heap) (cl : Nat → Addr) (x : Str) (k n : Nat) (g : Fn) (ks : List Str) (is : List Nat) : Prop where
  ex : ∃ f fd ps, FnOk P w K mg base (L2.CX P w) k f fd ps (spD K cl n g) ∧ mg x = some (.ref f) ∧ PySem.W.keepIn K (.ref f) = true ∧ BindsK fd ps ks is
  ln : ∀ ds st, ds.length ≠ n → g ds st = none
section
variable {X : Cx} {C : Cc} {k k0 n : Nat} {g : Fn} {x : Str} {p pos : Pos} {e : Expr} {es : List Expr} {ms : M (List D)} {kws : List Keyword}
theorem de_callD (D : Df X.prog X.w X.K X.mg X.base C.cl x k n g) (hr : Room k0 X.A) (hk : k ≤ k0) (tk : Takes X C.W) (ha : DA C X (e :: es) ms) (hg : Gl X x := by rfl)
    (hdb : (x == ("__debug__" : Str)) = false := by decide) (he : starEach (e :: es) X.env = (false, eval e X.env) :: starEach es X.env := by rfl) (hpl : (backTo pos (starEach es X.env)).any (·.1) = false := by rfl) : DE C X (.Call (.Name x p) (e :: es) [] pos) (callM g ms) := by
  obtain ⟨f, fd, ps, F, hn, hm, hkp, hb⟩ := D.ex
  exact de_call F (hr.mono hk) hn hg hm hkp hb tk D.ln ha hdb he hpl
theorem de_callD0 (D : Df X.prog X.w X.K X.mg X.base C.cl x k 0 g) (hr : Room k0 X.A) (hk : k ≤ k0) (tk : Takes X C.W) (hg : Gl X x := by rfl) (hdb : (x == ("__debug__" : Str)) = false := by decide) : DE C X (.Call (.Name x p) [] [] pos) (callM g nilA) := by
  obtain ⟨f, fd, ps, F, hn, hm, hkp, hb⟩ := D.ex
  exact de_call0 F (hr.mono hk) hn hg hm hkp hb tk hdb
theorem de_callDK (ks : List Str) (is : List Nat) (D : DfK X.prog X.w X.K X.mg X.base C.cl x k n g ks is) (hr : Room k0 X.A) (hk : k ≤ k0) (tk : Takes X C.W) (hkn : kws.length = ks.length) (ha : DK C X kws ms) (hg : Gl X x := by rfl) (hall : (backToKw pos (keywordEach kws X.env)).all (·.1.isSome) = true := by rfl) (hks : (backToKw pos (keywordEach kws X.env)).filterMap (·.1) = ks := by rfl)
    (hel : (backToKw pos (keywordEach kws X.env)).length = ks.length := by rfl)
    (hpl : ((backTo pos (starEach [] X.env)).any (·.1) || (backToKw pos (keywordEach kws X.env)).any (·.1.isNone)) = false := by rfl) (hdb : (x == ("__debug__" : Str)) = false := by decide) : DE C X (.Call (.Name x p) [] kws pos) (callK ks.length is g ms) := by
  obtain ⟨f, fd, ps, F, hm, hkp, hb⟩ := D.ex
  exact de_callK ks is F (hr.mono hk) hg hm hkp hb tk D.ln hkn ha hall hks hel hpl hdb
/-- a module's constant, as data -/
def ConstD (K : PySem.W.Frag) (mg : Str → Option Value) (x : Str) (d : D) : Prop := ∃ v u, mg x = some u ∧ RelV v u ∧ ∀ G lab, Rep K G lab d v
theorem de_const {d : D} (h : ConstD X.K X.mg x d) (hg : Gl X x := by rfl) (hd : (x == ("__debug__" : Str)) = false := by decide) : DE C X (.Name x pos) (ret d) := by
  obtain ⟨v, u, h1, h2, h3⟩ := h
  exact de_glob hg h1 h2 h3 hd
end
/-- a def, from its body -/
theorem df_mk {P : Program} {w : World} {K : PySem.W.Frag} {mg : Str → Option Value} {base : Heap} {cl : Nat → Addr} {x qual : Str} {st : Stmt} {f : Addr} {fd : FuncData} {N ps : List Str} {k : Nat} {m : M Fl} (F : Fun K x qual st f fd) (hm : mg x = some (.ref f)) (bi : Binds K fd ps []) (S : FnScope N ps (defScope st))
    (hb : Body P w K mg base cl k N qual st f m) : Df P w K mg base cl x (k + 1) ps.length (runD N.length ps.length m) :=
  ⟨⟨f, fd, ps, fn_D F S hb, rfl, hm, F.kp, bi⟩, runD_len⟩
theorem dfK_mk {P : Program} {w : World} {K : PySem.W.Frag} {mg : Str → Option Value} {base : Heap} {cl : Nat → Addr} {x qual : Str} {st : Stmt} {f : Addr} {fd : FuncData} {N ps ks : List Str} {is : List Nat} {k : Nat} {m : M Fl} (F : Fun K x qual st f fd) (hm : mg x = some (.ref f)) (bi : BindsK fd ps ks is) (S : FnScope N ps (defScope st))
    (hb : Body P w K mg base cl k N qual st f m) : DfK P w K mg base cl x (k + 1) ps.length (runD N.length ps.length m) ks is :=
  ⟨⟨f, fd, ps, fn_D F S hb, hm, F.kp, bi⟩, runD_len⟩
theorem binds_k {K : PySem.W.Frag} {x qual : Str} {st : Stmt} {f : Addr} {fd : FuncData} {ps ks : List Str} {is : List Nat} (F : Fun K x qual st f fd)
    (h : ∀ (kV doc pm : Value) (an : Option Addr) (cdv ct : Value) (ws : List Value), ws.length = ks.length → bindArgs (PySem.W.fnOf x qual (defArgs st) (defBody st) (defScope st) .none kV doc pm an cdv ct) ⟨[], ks.zip ws⟩ = pure (ps.zip (perm is ws))) : BindsK fd ps ks is := by
  obtain ⟨oc, od, kV, doc, pm, an, cdv, ct, osl, rfl, lk, hcd⟩ := F.ex
  exact fun s ws hl => .of_eq (h kV doc pm an cdv ct ws hl)
/-- nothing is promised -/
theorem df_zero {P : Program} {w : World} {K : PySem.W.Frag} {mg : Str → Option Value} {base : Heap} {cl : Nat → Addr} {x qual : Str} {st : Stmt} {f : Addr} {fd : FuncData} {ps : List Str} {k : Nat} (F : Fun K x qual st f fd) (hm : mg x = some (.ref f)) (bi : Binds K fd ps []) : Df P w K mg base cl x k ps.length (fun _ _ => none) :=
  ⟨⟨f, fd, ps, ⟨fun vs H Q E h => by obtain ⟨_, _, _, _, _, _, _, z⟩ := h; exact z.elim, fun A outer s H args us vs Q E hr e0 hb hv hsp => by obtain ⟨_, _, _, _, _, _, _, z⟩ := hsp; exact z.elim⟩, rfl, hm, F.kp, bi⟩, fun _ _ _ => rfl⟩
/-- a class of errors, its __init__ not named -/
def ErrD (K : PySem.W.Frag) (mg : Str → Option Value) (x : Str) (st : Stmt) (C : Addr) : Prop := ∃ fI fd, ErrC K mg x st C fI fd
section
variable {K : PySem.W.Frag} {mg : Str → Option Value} {x : Str} {st : Stmt} {C : Addr}
theorem ErrD.xf (h : ErrD K mg x st C) : XfC K C := by
  obtain ⟨_, _, h⟩ := h
  exact h.xf
theorem ErrD.no (h : ErrD K mg x st C) : PySem.W.findIn K (.ref C) GIV = some none := by
  obtain ⟨_, _, h⟩ := h
  exact h.no
theorem ErrD.named (h : ErrD K mg x st C) : mg x = some (.ref C) := by
  obtain ⟨_, _, h⟩ := h
  exact h.mg
end
theorem ds_raiseD {X : Cx} {C : Cc} {x : Str} {st : Stmt} {k c : Nat} {a : Expr} {m : M D} {p pos pos2 : Pos} (hc : X.calm = true) (T : ErrD X.K X.mg x st (C.cl c)) (tx : initTxt st) (hr : Room k X.A) (hk : 2 ≤ k) (tk : Takes X C.W) (hg : Gl X x) (ha : DE C X a m) (hdb : (x == ("__debug__" : Str)) = false := by decide)
    (he : starEach (a :: []) X.env = (false, eval a X.env) :: starEach [] X.env := by rfl) (hpl : (backTo pos (starEach [] X.env)).any (·.1) = false := by rfl) :
    DS C X (.Raise (some (.Call (.Name x p) [a] [] pos)) none pos2) (raiseM c m) := by
  obtain ⟨fI, fd, h⟩ := T
  exact ds_raise hc h tx hr hk tk hg ha hdb he hpl
/-! ### constants that stand in the written part -/
mutual
def kRep (K : PySem.W.Frag) : Nat → D → Value → Bool
  | 0, _, _ => false
  | _ + 1, .non, u => match u with | .none => true | _ => false
  | _ + 1, .bl b, u => match u with | .bool c => b == c | _ => false
  | _ + 1, .int i, u => match u with | .int j _ => decide (i = j) | _ => false
  | _ + 1, .str x, u => match u with | .str y _ => decide (x = y) | _ => false
  | k + 1, .tup ds, u => match u with
    | .ref a => (match K.lookup a with
      | some o => (o.cls == .type "tuple") && (match o.data with | .seq its n => decide (its.size ≤ 1000) && kReps K k ds its.toList | _ => false)
      | none => false)
    | _ => false
  | _ + 1, _, _ => false
def kReps (K : PySem.W.Frag) : Nat → List D → List Value → Bool
  | 0, _, _ => false
  | _ + 1, [], us => match us with | [] => true | _ => false
  | k + 1, d :: ds, us => match us with | u :: us => kRep K k d u && kReps K k ds us | [] => false
end
mutual
theorem kRep_ok {K : PySem.W.Frag} : ∀ (k : Nat) (d : D) (u : Value), kRep K k d u = true → ∃ v, RelV v u ∧ ∀ G lab, Rep K G lab d v
  | 0, _, _, h => by unfold kRep at h; cases h
  | _ + 1, .non, u, h => by
    cases u <;> unfold kRep at h <;> first | exact ⟨.non, rfl, fun _ _ => by unfold Rep; rfl⟩ | cases h
  | _ + 1, .bl b, u, h => by
    cases u <;> unfold kRep at h <;> first | exact ⟨.bl b, by rw [beq_iff_eq.mp h]; rfl, fun _ _ => by unfold Rep; rfl⟩ | cases h
  | _ + 1, .int b, u, h => by
    cases u <;> unfold kRep at h <;> first | exact ⟨.int b, by rw [of_decide_eq_true h]; exact ⟨_, rfl⟩, fun _ _ => by unfold Rep; rfl⟩ | cases h
  | _ + 1, .str b, u, h => by
    cases u <;> unfold kRep at h <;> first | exact ⟨.str b, by rw [of_decide_eq_true h]; exact ⟨_, rfl⟩, fun _ _ => by unfold Rep; rfl⟩ | cases h
  | k + 1, .tup ds, u, h => by
    cases u with
    | ref a =>
      unfold kRep at h
      simp only at h
      cases e : K.lookup a with
      | none => rw [e] at h; cases h
      | some o =>
        simp only [e, Bool.and_eq_true] at h
        obtain ⟨h1, h2⟩ := h
        split at h2
        · rename_i its n ed
          rw [Bool.and_eq_true] at h2
          obtain ⟨h3, h4⟩ := h2
          obtain ⟨vs, r1, r2⟩ := kReps_ok k ds its.toList h4
          refine ⟨.ref a, rfl, fun G lab => ?_⟩
          unfold Rep
          exact ⟨a, vs, rfl, .inr ⟨o, its, n, e, beq_iff_eq.mp h1, ed, Nat.le_trans (of_decide_eq_true h3) (by rw [sizeLine_eq]; decide), r1⟩, r2 G lab⟩
        · cases h2
    | _ => unfold kRep at h; cases h
  | _ + 1, .lst _, u, h => by unfold kRep at h; cases h
  | _ + 1, .obj _, u, h => by unfold kRep at h; cases h
  | _ + 1, .scr _, u, h => by unfold kRep at h; cases h
theorem kReps_ok {K : PySem.W.Frag} : ∀ (k : Nat) (ds : List D) (us : List Value), kReps K k ds us = true → ∃ vs, Vals vs us ∧ ∀ G lab, Reps K G lab ds vs
  | 0, _, _, h => by unfold kReps at h; cases h
  | _ + 1, [], us, h => by
    cases us <;> unfold kReps at h <;> first | exact ⟨[], .nil, fun _ _ => reps_nil⟩ | cases h
  | k + 1, d :: ds, us, h => by
    cases us with
    | nil => unfold kReps at h; cases h
    | cons u us =>
      unfold kReps at h
      rw [Bool.and_eq_true] at h
      obtain ⟨v, r1, r2⟩ := kRep_ok k d u h.1
      obtain ⟨vs, r3, r4⟩ := kReps_ok k ds us h.2
      exact ⟨v :: vs, .cons r1 r3, fun G lab => reps_cons (r2 G lab) (r4 G lab)⟩
end
theorem constD_of {K : PySem.W.Frag} {mg : Str → Option Value} {x : Str} {d : D} {u : Value} {k : Nat} (h : kRep K k d u = true) (hm : mg x = some u) : ConstD K mg x d := by
  obtain ⟨v, r1, r2⟩ := kRep_ok k d u h
  exact ⟨v, u, hm, r1, r2⟩
end DL
end

section
set_option Elab.async false
set_option linter.all false
set_option maxRecDepth 100000
set_option maxHeartbeats 4000000
/-! The plain side: how programs over data run. -/
namespace DL
open PySem PySem.Spec PyProof.Rows L2

/-! ### one after another -/
theorem bnd_eq {α β : Type} {m : M α} {f : α → M β} {fr fr1 : Fr} {st st1 : SS} {a : α} (h : m fr st = some (.ok a fr1 st1)) : bnd m f fr st = f a fr1 st1 := by unfold bnd; rw [h]
theorem seq_eq {m n : M Fl} {fr fr1 : Fr} {st st1 : SS} (h : m fr st = some (.ok .nx fr1 st1)) : seqM m n fr st = n fr1 st1 := by unfold seqM; rw [bnd_eq h]
theorem seq_rt {m n : M Fl} {fr fr1 : Fr} {st st1 : SS} {d : D} (h : m fr st = some (.ok (.rt d) fr1 st1)) : seqM m n fr st = some (.ok (.rt d) fr1 st1) := by unfold seqM; rw [bnd_eq h]; rfl
theorem seq_ex {m n : M Fl} {fr fr1 : Fr} {st st1 : SS} {c : Nat} {d : D} (h : m fr st = some (.exn c d fr1 st1)) : seqM m n fr st = some (.exn c d fr1 st1) := by unfold seqM bnd; rw [h]
theorem run_ret {N n : Nat} {m : M Fl} {ds : List D} {st st' : SS} {d : D} {fr : Fr} (hl : ds.length = n) (h : m (ds.map Slot.val ++ List.replicate (N - n) Slot.none) st = some (.ok (.rt d) fr st')) : runD N n m ds st = some (.ret d st') := by
  unfold runD
  rw [if_neg (fun z => z hl), h]
theorem run_nx {N n : Nat} {m : M Fl} {ds : List D} {st st' : SS} {fr : Fr} (hl : ds.length = n) (h : m (ds.map Slot.val ++ List.replicate (N - n) Slot.none) st = some (.ok .nx fr st')) : runD N n m ds st = some (.ret .non st') := by
  unfold runD
  rw [if_neg (fun z => z hl), h]
theorem run_ex {N n : Nat} {m : M Fl} {ds : List D} {st st' : SS} {c : Nat} {d : D} {fr : Fr} (hl : ds.length = n) (h : m (ds.map Slot.val ++ List.replicate (N - n) Slot.none) st = some (.exn c d fr st')) : runD N n m ds st = some (.exn c d st') := by
  unfold runD
  rw [if_neg (fun z => z hl), h]

/-! ### operators on known data -/
section
variable {st : SS} {i j : Int} {a b c d x : D} {l : List D} {s s' : Str} {p q : Bool}
@[simp] theorem s_add : addF st (.int i) (.int j) = some (.int (i + j)) := by simp [addF, intOp]
@[simp] theorem s_sub : subF st (.int i) (.int j) = some (.int (i - j)) := by simp [subF, intOp]
@[simp] theorem s_mul : mulF st (.int i) (.int j) = if bitsOk i j = true then some (.int (i * j)) else none := by simp [mulF, intOp]
@[simp] theorem s_div : divF st (.int i) (.int j) = if divOk i j = true then some (.int (i.fdiv j)) else none := by simp [divF, intOp]
@[simp] theorem s_mod : modF st (.int i) (.int j) = if j ≠ 0 then some (.int (i.fmod j)) else none := by simp [modF, intOp]
@[simp] theorem s_lt : ltF st (.int i) (.int j) = some (.bl (decide (i < j))) := by simp [ltF, intOp]
@[simp] theorem s_le : leF st (.int i) (.int j) = some (.bl (decide (i ≤ j))) := by simp [leF, intOp]
@[simp] theorem s_gt : gtF st (.int i) (.int j) = some (.bl (decide (j < i))) := by simp [gtF, intOp]
@[simp] theorem s_ge : geF st (.int i) (.int j) = some (.bl (decide (j ≤ i))) := by simp [geF, intOp]
@[simp] theorem s_catL {l' : List D} (h : small (l.length + l'.length) = true) : addF st (.lst l) (.lst l') = some (.lst (l ++ l')) := by simp [addF, intOp, catS, catT, catL, h]
@[simp] theorem s_catT {l' : List D} (h : small (l.length + l'.length) = true) : addF st (.tup l) (.tup l') = some (.tup (l ++ l')) := by simp [addF, intOp, catS, catT, catL, h]
theorem ix_nat (k : Nat) {m : D} (hm : m = .tup l ∨ m = .lst l) (h : l[k]? = some a) : ixA st m (.int (k : Int)) = some a := by
  have hk : k < l.length := (List.getElem?_eq_some_iff.mp h).1
  have e : atI l (k : Int) = some a := by
    unfold atI ixN
    rw [if_pos (Int.natCast_nonneg k), if_pos (by omega)]
    exact h
  rcases hm with rfl | rfl <;> simp [ixA, ixF, itemsS, e]
@[simp] theorem s_ix0t : ixA st (.tup (a :: l)) (.int 0) = some a := ix_nat 0 (.inl rfl) rfl
@[simp] theorem s_ix1t : ixA st (.tup (a :: b :: l)) (.int 1) = some b := ix_nat 1 (.inl rfl) rfl
@[simp] theorem s_ix2t : ixA st (.tup (a :: b :: c :: l)) (.int 2) = some c := ix_nat 2 (.inl rfl) rfl
@[simp] theorem s_ix3t : ixA st (.tup (a :: b :: c :: d :: l)) (.int 3) = some d := ix_nat 3 (.inl rfl) rfl
@[simp] theorem s_ix0l : ixA st (.lst (a :: l)) (.int 0) = some a := ix_nat 0 (.inr rfl) rfl
@[simp] theorem s_ix1l : ixA st (.lst (a :: b :: l)) (.int 1) = some b := ix_nat 1 (.inr rfl) rfl
@[simp] theorem s_ix2l : ixA st (.lst (a :: b :: c :: l)) (.int 2) = some c := ix_nat 2 (.inr rfl) rfl
@[simp] theorem s_ix3l : ixA st (.lst (a :: b :: c :: d :: l)) (.int 3) = some d := ix_nat 3 (.inr rfl) rfl
end
/-! ### comprehensions without effect -/
section
variable {α : Type} {f : α → D} {vs : List Nat} {g : Tg} {t : M Bool} {e : M D} {st st1 : SS} {fw fr fr1 : Fr} {p : α → Bool} {q : α → D} {w : Wt} {all : List D}
/-- one turn at x -/
def Tn (f : α → D) (vs : List Nat) (g : Tg) (t : M Bool) (e : M D) (p : α → Bool) (q : α → D) (fw : Fr) (st : SS) (x : α) : Prop :=
  ∃ fra frb, stT g (f x) fw = some fra ∧ t fra st = some (.ok (p x) frb st) ∧ (p x = false → wipeF frb vs = fw) ∧ (p x = true → ∃ frc, e frb st = some (.ok (q x) frc st) ∧ wipeF frc vs = fw)
theorem small_of {n : Nat} (h : n ≤ 1000000) : small n = true := decide_eq_true h
theorem cLoop_pure (hk : keep vs w all fw st = true) : ∀ (xs : List α) (acc : List D), (∀ x ∈ xs, Tn f vs g t e p q fw st x) → acc.length + xs.length ≤ 1000000 → cLoop w all vs g t e (xs.map f) acc fw st = some (.ok (acc ++ (xs.filter p).map q) fw st)
  | [], acc, _, _ => by
    unfold cLoop
    simp [hk]
  | x :: xs, acc, h, hl => by
    obtain ⟨fra, frb, h1, h2, h3, h4⟩ := h x List.mem_cons_self
    have hs : ∀ y ∈ xs, Tn f vs g t e p q fw st y := fun y hy => h y (List.mem_cons_of_mem _ hy)
    rw [List.map_cons]
    unfold cLoop
    rw [if_pos hk, h1]
    simp only
    rw [bnd_eq h2]
    cases hp : p x with
    | true =>
      rw [if_pos rfl]
      obtain ⟨frc, h5, h6⟩ := h4 hp
      rw [bnd_eq h5, if_pos (small_of (by rw [List.length_cons] at hl; omega)), h6, cLoop_pure hk xs (acc ++ [q x]) hs (by rw [List.length_append, List.length_singleton]; rw [List.length_cons] at hl; omega)]
      simp [hp]
    | false =>
      rw [if_neg Bool.false_ne_true, h3 hp, cLoop_pure hk xs acc hs (by rw [List.length_cons] at hl; omega)]
      simp [hp]
theorem compM_pure {xs : List α} {mi : M (List D × Wt)} (hi : mi fr st = some (.ok (xs.map f, w) fr1 st1)) (hk : keep vs w (xs.map f) (wipeF fr1 vs) st1 = true) (h : ∀ x ∈ xs, Tn f vs g t e p q (wipeF fr1 vs) st1 x) (hl : xs.length ≤ 1000000) :
    compM vs mi g t e fr st = some (.ok ((xs.filter p).map q) (restF fr1 (wipeF fr1 vs) vs) st1) := by
  unfold compM
  rw [bnd_eq hi]
  simp only
  rw [cLoop_pure hk xs [] h (by simpa using hl)]
  simp
end
theorem noW_eq {m : M (List D)} {fr fr1 : Fr} {st st1 : SS} {ds : List D} (h : m fr st = some (.ok ds fr1 st1)) : noW m fr st = some (.ok (ds, .no) fr1 st1) := by unfold noW; rw [bnd_eq h]; rfl
theorem seqW_eq {m : M D} {fr fr1 : Fr} {st st1 : SS} {d : D} {ds : List D} (h : m fr st = some (.ok d fr1 st1)) (hd : d = .tup ds ∨ d = .lst ds) : seqW m fr st = some (.ok (ds, .no) fr1 st1) := by
  unfold seqW
  rw [bnd_eq h]
  rcases hd with rfl | rfl <;> rfl
theorem seqI_eq {m : M D} {fr fr1 : Fr} {st st1 : SS} {d : D} {ds : List D} (h : m fr st = some (.ok d fr1 st1)) (hd : d = .tup ds ∨ d = .lst ds) : seqI m fr st = some (.ok ds fr1 st1) := by
  unfold seqI
  rw [bnd_eq h]
  rcases hd with rfl | rfl <;> rfl
theorem frz_eq {m : M (List D)} {fr fr1 : Fr} {st st1 : SS} {ds : List D} (h : m fr st = some (.ok ds fr1 st1)) : frzM m fr st = some (.ok (.lst ds) fr1 st1) := by unfold frzM; rw [bnd_eq h]; rfl

/-! ### for -/
theorem mFor_fold {α S : Type} {f : α → D} {body : D → M Fl} {F : S → Fr} {Z : S → SS} {step : S → α → S} : ∀ (xs : List α) (s : S), (∀ x ∈ xs, ∀ s, body (f x) (F s) (Z s) = some (.ok .nx (F (step s x)) (Z (step s x)))) →
    mFor (xs.map f) body (F s) (Z s) = some (.ok .nx (F (xs.foldl step s)) (Z (xs.foldl step s)))
  | [], s, _ => rfl
  | x :: xs, s, h => by
    rw [List.map_cons, List.foldl_cons]
    unfold mFor
    rw [bnd_eq (h x List.mem_cons_self s)]
    exact mFor_fold xs _ fun y hy => h y (List.mem_cons_of_mem _ hy)
/-- with what stays true of the state -/
theorem mFor_inv {α S : Type} {f : α → D} {body : D → M Fl} {F : S → Fr} {Z : S → SS} {I : List α → S → Prop} : ∀ (xs : List α) (s : S), I xs s → (∀ x xs s, I (x :: xs) s → ∃ s', body (f x) (F s) (Z s) = some (.ok .nx (F s') (Z s')) ∧ I xs s') →
    ∃ s', mFor (xs.map f) body (F s) (Z s) = some (.ok .nx (F s') (Z s')) ∧ I [] s'
  | [], s, h0, _ => ⟨s, rfl, h0⟩
  | x :: xs, s, h0, h => by
    obtain ⟨s1, h1, h2⟩ := h x xs s h0
    obtain ⟨s2, h3, h4⟩ := mFor_inv xs s1 h2 h
    refine ⟨s2, ?_, h4⟩
    rw [List.map_cons]
    unfold mFor
    rw [bnd_eq h1]
    exact h3

/-! ### sizes -/
def Sz (k : Nat) (i : Int) : Prop := i.natAbs < 2 ^ k
theorem Sz.log {k : Nat} {i : Int} (h : Sz k i) : i.natAbs.log2 ≤ k := by
  by_cases h0 : i.natAbs = 0
  · rw [h0]; simp
  · exact Nat.le_of_lt ((Nat.log2_lt h0).mpr h)
theorem bits_of {k l : Nat} {i j : Int} (h1 : Sz k i) (h2 : Sz l j) (h : k + l < 1000000) : bitsOk i j = true := by
  have a := h1.log
  have b := h2.log
  exact decide_eq_true (by omega)
theorem divOk_of {k : Nat} {i j : Int} (h0 : j ≠ 0) (h1 : Sz k j) (h : k < 9000) : divOk i j = true := by
  have a := h1.log
  exact decide_eq_true ⟨h0, by omega⟩
theorem Sz.mul {k l : Nat} {i j : Int} (h1 : Sz k i) (h2 : Sz l j) : Sz (k + l) (i * j) := by
  unfold Sz at *
  rw [Int.natAbs_mul, Nat.pow_add]
  exact Nat.mul_lt_mul'' h1 h2
theorem Sz.mono {k l : Nat} {i : Int} (h1 : Sz k i) (h : k ≤ l) : Sz l i := Nat.lt_of_lt_of_le h1 (Nat.pow_le_pow_right (by decide) h)
theorem Sz.add {k : Nat} {i j : Int} (h1 : Sz k i) (h2 : Sz k j) : Sz (k + 1) (i + j) := by
  unfold Sz at *
  have e : (2 : Nat) ^ (k + 1) = 2 ^ k + 2 ^ k := by rw [Nat.pow_succ]; omega
  omega
theorem Sz.sub {k : Nat} {i j : Int} (h1 : Sz k i) (h2 : Sz k j) : Sz (k + 1) (i - j) := by
  unfold Sz at *
  have e : (2 : Nat) ^ (k + 1) = 2 ^ k + 2 ^ k := by rw [Nat.pow_succ]; omega
  omega

/-! ### == over ints, tuples, lists -/
mutual
def okD : Nat → D → Bool
  | _, .int _ => true
  | _, .non => true
  | n + 1, .tup ds => okDs n ds
  | n + 1, .lst ds => okDs n ds
  | _, _ => false
def okDs : Nat → List D → Bool
  | _, [] => true
  | n, d :: ds => okD n d && okDs n ds
end
mutual
theorem okD_py : ∀ (n : Nat) (d : D), okD n d = true → ∃ p, toPy d = some p ∧ p.canLay0 = true ∧ p.depth ≤ n
  | n, .int i, _ => ⟨.int i, by unfold toPy; rfl, by unfold PyData.canLay0; rfl, by unfold PyData.depth; exact Nat.zero_le _⟩
  | n, .non, _ => ⟨.none, by unfold toPy; rfl, by unfold PyData.canLay0; rfl, by unfold PyData.depth; exact Nat.zero_le _⟩
  | n + 1, .tup ds, h => by
    unfold okD at h
    obtain ⟨ps, h1, h2, h3⟩ := okDs_py n ds h
    exact ⟨.tuple ps, by unfold toPy; rw [h1], by unfold PyData.canLay0; exact h2, by unfold PyData.depth; omega⟩
  | n + 1, .lst ds, h => by
    unfold okD at h
    obtain ⟨ps, h1, h2, h3⟩ := okDs_py n ds h
    exact ⟨.list ps, by unfold toPy; rw [h1], by unfold PyData.canLay0; exact h2, by unfold PyData.depth; omega⟩
  | 0, .tup _, h => by unfold okD at h; cases h
  | 0, .lst _, h => by unfold okD at h; cases h
  | _, .bl _, h => by unfold okD at h; cases h
  | _, .str _, h => by unfold okD at h; cases h
  | _, .obj _, h => by unfold okD at h; cases h
  | _, .scr _, h => by unfold okD at h; cases h
theorem okDs_py : ∀ (n : Nat) (d : List D), okDs n d = true → ∃ p, toPys d = some p ∧ PyData.canLayAll0 p = true ∧ PyData.depthAll p ≤ n
  | n, [], _ => ⟨[], by unfold toPys; rfl, by unfold PyData.canLayAll0; rfl, by unfold PyData.depthAll; exact Nat.zero_le _⟩
  | n, d :: ds, h => by
    unfold okDs at h
    rw [Bool.and_eq_true] at h
    obtain ⟨p, h1, h2, h3⟩ := okD_py n d h.1
    obtain ⟨ps, h4, h5, h6⟩ := okDs_py n ds h.2
    refine ⟨p :: ps, by unfold toPys; rw [h1, h4], by unfold PyData.canLayAll0; rw [h2, h5]; rfl, by unfold PyData.depthAll; omega⟩
end
mutual
theorem eqv_same : ∀ (n : Nat) (a b : D) (m : Nat) (p q : PyData), okD n a = true → okD m b = true → toPy a = some p → toPy b = some q → PyData.eqv p q = sameD a b
  | n, .int i, b, m, p, q, _, h2, e1, e2 => by
    unfold toPy at e1
    cases e1
    cases b <;> unfold okD at h2 <;> first | (cases h2; done) | skip
    all_goals first
      | (unfold toPy at e2; cases e2; unfold PyData.eqv sameD; first | rfl | exact (beq_eq_decide _ _))
      | (cases m <;> first | (cases h2; done) | (unfold toPy at e2; split at e2 <;> first | (cases e2; unfold PyData.eqv sameD; rfl) | cases e2))
  | n, .non, b, m, p, q, _, h2, e1, e2 => by
    unfold toPy at e1
    cases e1
    cases b <;> unfold okD at h2 <;> first | (cases h2; done) | skip
    all_goals first
      | (unfold toPy at e2; cases e2; unfold PyData.eqv sameD; rfl)
      | (cases m <;> first | (cases h2; done) | (unfold toPy at e2; split at e2 <;> first | (cases e2; unfold PyData.eqv sameD; rfl) | cases e2))
  | n + 1, .tup ds, b, m, p, q, h1, h2, e1, e2 => by
    unfold okD at h1
    unfold toPy at e1
    split at e1
    · rename_i ps e3
      cases e1
      cases b <;> unfold okD at h2 <;> first | (cases h2; done) | skip
      all_goals first
        | (unfold toPy at e2; cases e2; unfold PyData.eqv sameD; rfl)
        | skip
      · cases m with
        | zero => cases h2
        | succ m =>
          unfold toPy at e2
          split at e2
          · rename_i qs e4
            cases e2
            unfold PyData.eqv sameD
            exact eqvs_same n ds _ m ps qs h1 h2 e3 e4
          · cases e2
      · cases m with
        | zero => cases h2
        | succ m =>
          unfold toPy at e2
          split at e2
          · cases e2
            unfold PyData.eqv sameD
            rfl
          · cases e2
    · cases e1
  | n + 1, .lst ds, b, m, p, q, h1, h2, e1, e2 => by
    unfold okD at h1
    unfold toPy at e1
    split at e1
    · rename_i ps e3
      cases e1
      cases b <;> unfold okD at h2 <;> first | (cases h2; done) | skip
      all_goals first
        | (unfold toPy at e2; cases e2; unfold PyData.eqv sameD; rfl)
        | skip
      · cases m with
        | zero => cases h2
        | succ m =>
          unfold toPy at e2
          split at e2
          · cases e2
            unfold PyData.eqv sameD
            rfl
          · cases e2
      · cases m with
        | zero => cases h2
        | succ m =>
          unfold toPy at e2
          split at e2
          · rename_i qs e4
            cases e2
            unfold PyData.eqv sameD
            exact eqvs_same n ds _ m ps qs h1 h2 e3 e4
          · cases e2
    · cases e1
  | 0, .tup _, _, _, _, _, h, _, _, _ => by unfold okD at h; cases h
  | 0, .lst _, _, _, _, _, h, _, _, _ => by unfold okD at h; cases h
  | _, .bl _, _, _, _, _, h, _, _, _ => by unfold okD at h; cases h
  | _, .str _, _, _, _, _, h, _, _, _ => by unfold okD at h; cases h
  | _, .obj _, _, _, _, _, h, _, _, _ => by unfold okD at h; cases h
  | _, .scr _, _, _, _, _, h, _, _, _ => by unfold okD at h; cases h
theorem eqvs_same : ∀ (n : Nat) (a b : List D) (m : Nat) (p q : List PyData), okDs n a = true → okDs m b = true → toPys a = some p → toPys b = some q → PyData.eqvAll p q = sameS a b
  | n, [], b, m, p, q, _, h2, e1, e2 => by
    unfold toPys at e1
    cases e1
    cases b with
    | nil => unfold toPys at e2; cases e2; unfold PyData.eqvAll sameS; rfl
    | cons y ys =>
      obtain ⟨q1, qs, _, _, rfl⟩ := toPys_cons e2
      unfold PyData.eqvAll sameS; rfl
  | n, x :: xs, b, m, p, q, h1, h2, e1, e2 => by
    obtain ⟨p1, ps, e3, e4, rfl⟩ := toPys_cons e1
    unfold okDs at h1
    rw [Bool.and_eq_true] at h1
    cases b with
    | nil => unfold toPys at e2; cases e2; unfold PyData.eqvAll sameS; rfl
    | cons y ys =>
      obtain ⟨q1, qs, e5, e6, rfl⟩ := toPys_cons e2
      unfold okDs at h2
      rw [Bool.and_eq_true] at h2
      unfold PyData.eqvAll sameS
      rw [eqv_same n x y m p1 q1 h1.1 h2.1 e3 e5, eqvs_same n xs ys m ps qs h1.2 h2.2 e4 e6]
end
theorem eqB_ok {n m : Nat} {a b : D} (h1 : okD n a = true) (h2 : okD m b = true) (hn : n ≤ 64) (hm : m ≤ 64) : eqB a b = some (sameD a b) := by
  obtain ⟨p, e1, c1, d1⟩ := okD_py n a h1
  obtain ⟨q, e2, c2, d2⟩ := okD_py m b h2
  have s1 : SeqAt.shaped p = true := by unfold SeqAt.shaped; rw [c1, decide_eq_true (by omega)]; rfl
  have s2 : SeqAt.shaped q = true := by unfold SeqAt.shaped; rw [c2, decide_eq_true (by omega)]; rfl
  unfold eqB
  rw [e1, e2]
  simp only [s1, s2, Bool.and_self, if_true]
  rw [eqv_same n a b m p q h1 h2 e1 e2]
section
variable {st : SS} {i j : Int} {p q : Bool}
@[simp] theorem s_eqi : eqF st (.int i) (.int j) = some (.bl (decide (i = j))) := by
  unfold eqF
  rw [eqB_ok (n := 0) (m := 0) (by unfold okD; rfl) (by unfold okD; rfl) (by decide) (by decide)]
  simp [sameD]
@[simp] theorem s_nei : neF st (.int i) (.int j) = some (.bl (!decide (i = j))) := by
  unfold neF
  rw [eqB_ok (n := 0) (m := 0) (by unfold okD; rfl) (by unfold okD; rfl) (by decide) (by decide)]
  simp [sameD]
@[simp] theorem s_eqb : eqF st (.bl p) (.bl q) = some (.bl (p == q)) := by
  cases p <;> cases q <;> rfl
@[simp] theorem s_neb : neF st (.bl p) (.bl q) = some (.bl (!(p == q))) := by
  cases p <;> cases q <;> rfl
end

/-! ### steps by name -/
section
variable {fr fr1 fr2 : Fr} {st st1 st2 : SS} {d x y r : D} {i : Nat}
theorem get_eq (h : fr[i]? = some (.val d)) : getv i fr st = some (.ok d fr st) := by unfold getv; rw [h]
theorem peek_eq (h : fr[i]? = some (.val d)) : peekv i fr st = some (.ok d fr st) := by unfold peekv; rw [h]
theorem peek_own {ds : List D} (h : fr[i]? = some (.own ds)) : peekv i fr st = some (.ok (.lst ds) fr st) := by unfold peekv; rw [h]
theorem un1_eq {f : SS → D → Option D} {m : M D} (h : m fr st = some (.ok d fr1 st1)) (e : f st1 d = some r) : un1 f m fr st = some (.ok r fr1 st1) := by
  unfold un1
  rw [bnd_eq h]
  simp [e]
theorem bin_eq {f : SS → D → D → Option D} {ma mb : M D} (h : ma fr st = some (.ok x fr1 st1)) (h2 : mb fr1 st1 = some (.ok y fr2 st2)) (e : f st2 x y = some r) : bin f ma mb fr st = some (.ok r fr2 st2) := by
  unfold bin
  rw [bnd_eq h, bnd_eq h2]
  unfold op2
  simp [e]
theorem ret_eq {m : M D} (h : m fr st = some (.ok d fr1 st1)) : retM m fr st = some (.ok (.rt d) fr1 st1) := by
  unfold retM
  rw [bnd_eq h]
  rfl
theorem tst_eq {m : M D} {b : Bool} (h : m fr st = some (.ok (.bl b) fr1 st1)) : tst m fr st = some (.ok b fr1 st1) := by
  unfold tst
  rw [bnd_eq h]
  rfl
theorem call_eq {g : Fn} {ms : M (List D)} {ds : List D} (h : ms fr st = some (.ok ds fr1 st1)) (e : g ds st1 = some (.ret d st2)) : callM g ms fr st = some (.ok d fr1 st2) := by
  unfold callM
  rw [bnd_eq h]
  simp [e]
theorem call_ex {g : Fn} {ms : M (List D)} {ds : List D} {c : Nat} (h : ms fr st = some (.ok ds fr1 st1)) (e : g ds st1 = some (.exn c d st2)) : callM g ms fr st = some (.exn c d fr1 st2) := by
  unfold callM
  rw [bnd_eq h]
  simp [e]
theorem cons_eq {m : M D} {ms : M (List D)} {ds : List D} (h : m fr st = some (.ok d fr1 st1)) (h2 : ms fr1 st1 = some (.ok ds fr2 st2)) : consA m ms fr st = some (.ok (d :: ds) fr2 st2) := by
  unfold consA
  rw [bnd_eq h, bnd_eq h2]
  rfl
theorem nil_eq : nilA fr st = some (.ok [] fr st) := rfl
theorem set_eq {m : M D} (h : m fr st = some (.ok d fr1 st1)) (hi : i < fr1.length) : setM i m fr st = some (.ok .nx (fr1.set i (.val d)) st1) := by
  unfold setM
  rw [bnd_eq h]
  unfold setv
  rw [if_pos hi]
theorem setN_eq {m : M (List D)} {ds : List D} (h : m fr st = some (.ok ds fr1 st1)) (hi : i < fr1.length) : setN i m fr st = some (.ok .nx (fr1.set i (.own ds)) st1) := by
  unfold setN
  rw [bnd_eq h]
  unfold seto
  rw [if_pos hi]
theorem for_eq {mi : M (List D)} {g : D → M Fl} {b : M Fl} {ds : List D} {o : Option (Out Fl)} (h : mi fr st = some (.ok ds fr1 st1)) (h2 : mFor ds (forB g b) fr1 st1 = o) : forM mi g b fr st = o := by
  unfold forM
  rw [bnd_eq h]
  exact h2
theorem if_eq {t : M Bool} {m n : M Fl} {b : Bool} (h : t fr st = some (.ok b fr1 st1)) : ifM t m n fr st = (if b then m else n) fr1 st1 := by
  unfold ifM
  rw [bnd_eq h]
theorem ife_eq {t : M Bool} {m n : M D} {b : Bool} (h : t fr st = some (.ok b fr1 st1)) : ifE t m n fr st = (if b then m else n) fr1 st1 := by
  unfold ifE
  rw [bnd_eq h]
theorem tup_eq {ms : M (List D)} {ds : List D} (h : ms fr st = some (.ok ds fr1 st1)) (hl : small ds.length = true) : tupM ms fr st = some (.ok (.tup ds) fr1 st1) := by
  unfold tupM
  rw [bnd_eq h]
  unfold grd
  rw [if_pos hl]
theorem lst_eq {ms : M (List D)} {ds : List D} (h : ms fr st = some (.ok ds fr1 st1)) (hl : small ds.length = true) : lstN ms fr st = some (.ok ds fr1 st1) := by
  unfold lstN
  rw [bnd_eq h]
  unfold grd
  rw [if_pos hl]
theorem app_run {ms : M (List D)} {ds : List D} {y : D} (h : fr[i]? = some (.own ds)) (ha : ms fr st = some (.ok [y] fr st1)) (hl : ds.length ≤ 1000000) : mutL i appF ms fr st = some (.ok .non (fr.set i (.own (ds ++ [y]))) st1) := by
  unfold mutL
  have c : chkL i fr st = some (.ok () fr st) := by unfold chkL; rw [h]
  rw [bnd_eq c, bnd_eq ha]
  unfold mutI
  rw [h]
  simp only [appF, if_pos (small_of hl)]
theorem expr_eq {m : M D} (h : m fr st = some (.ok d fr1 st1)) : exprM m fr st = some (.ok .nx fr1 st1) := by
  unfold exprM
  rw [bnd_eq h]
  rfl
theorem rng1_eq {m : M D} {j : Int} (h : m fr st = some (.ok (.int j) fr1 st1)) (hj : inRange j = true) : rng1 m fr st = some (.ok (rangeD 0 j.toNat) fr1 st1) := by
  unfold rng1
  rw [bnd_eq h]
  simp only [opt, hj, if_true, Option.map_some]
theorem rng2_eq {m n : M D} {i j : Int} (h : m fr st = some (.ok (.int i) fr1 st1)) (h2 : n fr1 st1 = some (.ok (.int j) fr2 st2)) (hi : inRange i = true) (hj : inRange j = true) : rng2 m n fr st = some (.ok (rangeD i (j - i).toNat) fr2 st2) := by
  unfold rng2
  rw [bnd_eq h, bnd_eq h2]
  simp only [opt, hi, hj, Bool.and_self, if_true, Option.map_some]
theorem inRange_of {j : Int} (h : -1000000000 ≤ j) (h2 : j ≤ 1000000000) : inRange j = true := by
  have e : (2 : Int) ^ 62 = 4611686018427387904 := by decide
  exact decide_eq_true (by omega)
end

/-! ### two clauses without effect -/
section
variable {α : Type} {f : α → D} {vs vs1 : List Nat} {g g1 : Tg} {t t1 : M Bool} {e : M D} {st st1 : SS} {fw fr fr1 : Fr} {w : Wt} {all : List D} {mi1 : M (List D × Wt)} {out : α → List D} {N : Nat}
def Tn2 (f : α → D) (vs vs1 : List Nat) (g : Tg) (t : M Bool) (mi1 : M (List D × Wt)) (g1 : Tg) (t1 : M Bool) (e : M D) (out : α → List D) (fw : Fr) (st : SS) (x : α) : Prop :=
  ∃ fra frb frc frd its w1, stT g (f x) fw = some fra ∧ t fra st = some (.ok true frb st) ∧ mi1 frb st = some (.ok (its, w1) frc st) ∧
    (∀ acc : List D, acc.length + (out x).length ≤ 1000000 → cLoop w1 its vs1 g1 t1 e its acc (wipeF frc vs1) st = some (.ok (acc ++ out x) frd st)) ∧ wipeF frd vs = fw
theorem cLoop2_pure (hk : keep vs w all fw st = true) : ∀ (xs : List α) (acc : List D), (∀ x ∈ xs, Tn2 f vs vs1 g t mi1 g1 t1 e out fw st x) → acc.length + (xs.flatMap out).length ≤ 1000000 → cLoop2 w all vs g t vs1 mi1 g1 t1 e (xs.map f) acc fw st = some (.ok (acc ++ xs.flatMap out) fw st)
  | [], acc, _, _ => by
    unfold cLoop2
    simp [hk]
  | x :: xs, acc, h, hl => by
    obtain ⟨fra, frb, frc, frd, its, w1, h1, h2, h3, h4, h5⟩ := h x List.mem_cons_self
    have hs : ∀ y ∈ xs, Tn2 f vs vs1 g t mi1 g1 t1 e out fw st y := fun y hy => h y (List.mem_cons_of_mem _ hy)
    rw [List.flatMap_cons, List.length_append] at hl
    rw [List.map_cons]
    unfold cLoop2
    rw [if_pos hk, h1]
    simp only
    rw [bnd_eq h2, if_pos rfl, bnd_eq h3]
    simp only
    rw [bnd_eq (h4 acc (by omega))]
    rw [h5, cLoop2_pure hk xs (acc ++ out x) hs (by rw [List.length_append]; omega)]
    simp [List.append_assoc]
theorem compM2_pure {xs : List α} {mi : M (List D × Wt)} (hi : mi fr st = some (.ok (xs.map f, w) fr1 st1)) (hk : keep vs w (xs.map f) (wipeF fr1 vs) st1 = true) (h : ∀ x ∈ xs, Tn2 f vs vs1 g t mi1 g1 t1 e out (wipeF fr1 vs) st1 x) (hl : (xs.flatMap out).length ≤ 1000000) :
    compM2 vs mi g t vs1 mi1 g1 t1 e fr st = some (.ok (xs.flatMap out) (restF fr1 (wipeF fr1 vs) vs) st1) := by
  unfold compM2
  rw [bnd_eq hi]
  simp only
  rw [cLoop2_pure hk xs [] h (by simpa using hl)]
  simp
end

/-! ### cuts, last items, ranges with a step -/
theorem cutN {α : Type} (l : List α) (k m : Nat) : cutL l (some (k : Int)) (some ((k : Int) + (m : Int))) = (l.drop k).take m := by
  unfold cutL
  have e : ((k : Int) + (m : Int)) = ((k + m : Nat) : Int) := by omega
  rw [e, HT.sIx_nat, HT.sIx_nat]
  by_cases h : k < l.length
  · rw [Nat.min_eq_left (show k ≤ l.length by omega)]
    by_cases h2 : k + m ≤ l.length
    · rw [Nat.min_eq_left h2]
      congr 1
      omega
    · rw [Nat.min_eq_right (show l.length ≤ k + m by omega), List.take_of_length_le (by rw [List.length_drop]; omega), List.take_of_length_le (by rw [List.length_drop]; omega)]
  · rw [Nat.min_eq_right (show l.length ≤ k by omega), Nat.min_eq_right (show l.length ≤ k + m by omega), List.drop_eq_nil_of_le (show l.length ≤ k by omega), List.drop_eq_nil_of_le (Nat.le_refl _)]
    simp
theorem ix_last {st : SS} {l : List D} {a m : D} (hm : m = .tup (l ++ [a]) ∨ m = .lst (l ++ [a])) : ixA st m (.int (-1)) = some a := by
  have e : atI (l ++ [a]) (-1) = some a := by
    unfold atI ixN
    rw [if_neg (by omega), if_pos (by rw [List.length_append]; simp; omega)]
    have e2 : (-1 + ((l ++ [a]).length : Int)).toNat = l.length := by
      rw [List.length_append, List.length_singleton]
      omega
    simp only [Option.bind_some, e2]
    rw [List.getElem?_append_right (Nat.le_refl _)]
    simp
  rcases hm with rfl | rfl <;> simp [ixA, ixF, itemsS, e]
@[simp] theorem s_neg {st : SS} {i : Int} : negF st (.int i) = some (.int (-i)) := rfl
theorem rng3_eq {m n l : M D} {fr fr1 fr2 fr3 : Fr} {st st1 st2 st3 : SS} {i j c : Int} (h : m fr st = some (.ok (.int i) fr1 st1)) (h2 : n fr1 st1 = some (.ok (.int j) fr2 st2)) (h3 : l fr2 st2 = some (.ok (.int c) fr3 st3)) (hc : c ≠ 0) (hc2 : c.natAbs < 1073741824)
    (hs : Builtin.Range.small i j c = true) : rng3 m n l fr st = some (.ok (rangeC i c (Builtin.Range.rangeSize i j c).toNat) fr3 st3) := by
  unfold rng3
  rw [bnd_eq h, bnd_eq h2, bnd_eq h3]
  simp only [opt, hs, decide_eq_true hc, decide_eq_true hc2, Bool.and_self, if_true, Option.map_some]
theorem range_by2 (n : Nat) (hn : n ≤ 1000000) : Builtin.Range.small 0 (n : Int) 2 = true ∧ (Builtin.Range.rangeSize 0 (n : Int) 2).toNat = (n + 1) / 2 := by
  have e : Builtin.Range.rangeSize 0 (n : Int) 2 = (((n + 1) / 2 : Nat) : Int) := by
    unfold Builtin.Range.rangeSize
    rw [if_pos (by decide)]
    split <;> omega
  refine ⟨?_, by rw [e]; exact Int.toNat_natCast _⟩
  have fit : ∀ z : Int, -1000000000 ≤ z → z ≤ 1000000000 → Builtin.Range.rangeFitsLong z = true := fun z h1 h2 => by
    have z2 : (2 : Int) ^ 63 = 9223372036854775808 := by decide
    unfold Builtin.Range.rangeFitsLong
    rw [Bool.and_eq_true, decide_eq_true_iff, decide_eq_true_iff, z2]
    omega
  unfold Builtin.Range.small
  rw [e]
  rw [fit _ (show -1000000000 ≤ (0 : Int) by omega) (by omega), fit _ (show -1000000000 ≤ (n : Int) by omega) (by omega), fit 2 (by omega) (by omega), fit _ (show -1000000000 ≤ (((n + 1) / 2 : Nat) : Int) by omega) (by omega), if_pos (show (2 : Int) > 0 by decide), fit _ (show -1000000000 ≤ (n : Int) + (2 - 1) by omega) (by omega), Bool.or_true]
  rfl
theorem if_pure {α : Type} {t : M Bool} {m n : M α} {fr fr1 : Fr} {st st1 : SS} {b : Bool} (h : t fr st = some (.ok b fr1 st1)) : bnd t (fun c => if c then m else n) fr st = (if b then m else n) fr1 st1 := bnd_eq h
section
variable {t u : M Bool} {fr fr1 : Fr} {st st1 : SS} {b : Bool}
theorem not_eq (h : t fr st = some (.ok b fr1 st1)) : notT t fr st = some (.ok (!b) fr1 st1) := by
  unfold notT
  rw [bnd_eq h]
  rfl
theorem or_f (h : t fr st = some (.ok false fr1 st1)) : orT t u fr st = u fr1 st1 := by
  unfold orT
  rw [bnd_eq h, if_neg Bool.false_ne_true]
theorem or_t (h : t fr st = some (.ok true fr1 st1)) : orT t u fr st = some (.ok true fr1 st1) := by
  unfold orT
  rw [bnd_eq h, if_pos rfl]
  rfl
theorem and_t (h : t fr st = some (.ok true fr1 st1)) : andT t u fr st = u fr1 st1 := by
  unfold andT
  rw [bnd_eq h, if_pos rfl]
theorem and_f (h : t fr st = some (.ok false fr1 st1)) : andT t u fr st = some (.ok false fr1 st1) := by
  unfold andT
  rw [bnd_eq h, if_neg Bool.false_ne_true]
  rfl
theorem if_nx {m : M Fl} (h : t fr st = some (.ok false fr1 st1)) : ifM t m (ret .nx) fr st = some (.ok .nx fr1 st1) := by
  rw [if_eq h, if_neg Bool.false_ne_true]
  rfl
theorem if_t {m n : M Fl} (h : t fr st = some (.ok true fr1 st1)) : ifM t m n fr st = m fr1 st1 := by
  rw [if_eq h, if_pos rfl]
theorem if_f {m n : M Fl} (h : t fr st = some (.ok false fr1 st1)) : ifM t m n fr st = n fr1 st1 := by
  rw [if_eq h, if_neg Bool.false_ne_true]
end
section
variable {m n : M D} {fr fr1 : Fr} {st st1 : SS} {b : Bool}
theorem andV_t (h : m fr st = some (.ok (.bl true) fr1 st1)) : andV m n fr st = n fr1 st1 := by
  unfold andV
  rw [bnd_eq h]
theorem andV_f (h : m fr st = some (.ok (.bl false) fr1 st1)) : andV m n fr st = some (.ok (.bl false) fr1 st1) := by
  unfold andV
  rw [bnd_eq h]
  rfl
theorem notV_eq (h : m fr st = some (.ok (.bl b) fr1 st1)) : notV m fr st = some (.ok (.bl (!b)) fr1 st1) := by
  unfold notV
  rw [bnd_eq h]
  rfl
end
end DL
end

section
set_option Elab.async false
set_option linter.all false
set_option maxRecDepth 100000
set_option maxHeartbeats 4000000
/-! Printed by gen.py: the programs over data. -/
namespace DL
open PySem PySem.Spec PyProof.Rows L2
def maxF : SS → D → D → Option D := intOp (fun i j => .int (if j > i then j else i)) fun _ _ => true
def minF : SS → D → D → Option D := intOp (fun i j => .int (if j < i then j else i)) fun _ _ => true
def is0 (c : Nat) : Bool := c == 0
def is1 (c : Nat) : Bool := c == 1
def is2 (c : Nat) : Bool := decide (2 ≤ c)
def c_ZERO : D := .tup [.int 0, .int 1]
def c_EITHER : D := .tup [.bl false, .bl true, .bl true, .bl true]
def c_BOTH : D := .tup [.bl false, .bl false, .bl false, .bl true]
def c_FIRST : D := .tup [.bl false, .bl false, .bl true, .bl false]
def m_is_integer (fu : Nat) : M Fl :=
 retM (andV (un1 (isiF [.int]) (getv 0)) (notV (un1 (isiF [.bool]) (getv 0))))
def d_is_integer (fu : Nat) : Fn := runD 1 1 (m_is_integer fu)
def m_is_list (fu : Nat) : M Fl :=
 retM (un1 (isiF [.list, .tuple]) (getv 0))
def d_is_list (fu : Nat) : Fn := runD 1 1 (m_is_list fu)
def m_is_tuple_of (fu : Nat) : M Fl :=
 retM (andV (un1 (isiF [.tuple]) (getv 0)) (bin eqF (un1 lenF (peekv 0)) (peekv 1)))
def d_is_tuple_of (fu : Nat) : Fn := runD 2 2 (m_is_tuple_of fu)
def m_fraction_of (fu : Nat) : M Fl :=
 seqM (setM 2 (ifE (tst (bin gtF (getv 1) (ret (.int 0)))) (bin gcdF (getv 0) (peekv 1)) (un1 negF (bin gcdF (getv 0) (peekv 1)))))
 (retM (tupM (consA (bin divF (getv 0) (peekv 2)) (consA (bin divF (getv 1) (peekv 2)) (nilA)))))
def d_fraction_of (fu : Nat) : Fn := runD 3 2 (m_fraction_of fu)
def m_is_fraction (fu : Nat) : M Fl :=
 seqM (ifM (orT (notT (tst (callM (d_is_tuple_of fu) (consA (getv 0) (consA (ret (.int 2)) (nilA)))))) (orT (notT (tst (callM (d_is_integer fu) (consA (bin ixA (getv 0) (ret (.int 0))) (nilA))))) (notT (tst (callM (d_is_integer fu) (consA (bin ixA (getv 0) (ret (.int 1))) (nilA)))))))
 (retM (ret (.bl false)))
 (ret .nx))
 (retM (andV (bin gtF (bin ixA (getv 0) (ret (.int 1))) (ret (.int 0))) (bin eqF (bin gcdF (bin ixA (getv 0) (ret (.int 0))) (bin ixA (getv 0) (ret (.int 1)))) (ret (.int 1)))))
def d_is_fraction (fu : Nat) : Fn := runD 1 1 (m_is_fraction fu)
def m_is_place (fu : Nat) : M Fl :=
 retM (andV (callM (d_is_fraction fu) (consA (getv 0) (nilA))) (chn leF leF (ret (.int 0)) (bin ixA (getv 0) (ret (.int 0))) (bin ixA (getv 0) (ret (.int 1)))))
def d_is_place (fu : Nat) : Fn := runD 1 1 (m_is_place fu)
def m_check_place (fu : Nat) : M Fl :=
 ifM (notT (tst (callM (d_is_place fu) (consA (getv 0) (nilA)))))
 (raiseM 1 (getv 0))
 (ret .nx)
def d_check_place (fu : Nat) : Fn := runD 1 1 (m_check_place fu)
def m_sum_of (fu : Nat) : M Fl :=
 retM (callM (d_fraction_of fu) (consA (bin addF (bin mulF (bin ixA (getv 0) (ret (.int 0))) (bin ixA (getv 1) (ret (.int 1)))) (bin mulF (bin ixA (getv 1) (ret (.int 0))) (bin ixA (getv 0) (ret (.int 1))))) (consA (bin mulF (bin ixA (getv 0) (ret (.int 1))) (bin ixA (getv 1) (ret (.int 1)))) (nilA))))
def d_sum_of (fu : Nat) : Fn := runD 2 2 (m_sum_of fu)
def m_difference_of (fu : Nat) : M Fl :=
 retM (callM (d_fraction_of fu) (consA (bin subF (bin mulF (bin ixA (getv 0) (ret (.int 0))) (bin ixA (getv 1) (ret (.int 1)))) (bin mulF (bin ixA (getv 1) (ret (.int 0))) (bin ixA (getv 0) (ret (.int 1))))) (consA (bin mulF (bin ixA (getv 0) (ret (.int 1))) (bin ixA (getv 1) (ret (.int 1)))) (nilA))))
def d_difference_of (fu : Nat) : Fn := runD 2 2 (m_difference_of fu)
def m_order_of (fu : Nat) : M Fl :=
 seqM (parM [2, 3] (valR (bin mulF (bin ixA (getv 0) (ret (.int 0))) (bin ixA (getv 1) (ret (.int 1)))) (valR (bin mulF (bin ixA (getv 1) (ret (.int 0))) (bin ixA (getv 0) (ret (.int 1)))) (nilR))))
 (retM (bin subF (un1 intF (bin gtF (getv 2) (peekv 3))) (un1 intF (bin ltF (getv 2) (peekv 3)))))
def d_order_of (fu : Nat) : Fn := runD 4 2 (m_order_of fu)
def m_total_of (fu : Nat) : M Fl :=
 seqM (setM 1 (ret c_ZERO))
 (seqM (forM (seqI (getv 0)) (setv 2)
 (setM 1 (callM (d_sum_of fu) (consA (getv 1) (consA (getv 2) (nilA))))))
 (retM (getv 1)))
def d_total_of (fu : Nat) : Fn := runD 3 1 (m_total_of fu)
def m_least_of (fu : Nat) : M Fl :=
 seqM (setM 1 (bin ixA (getv 0) (ret (.int 0))))
 (seqM (forM (seqI (getv 0)) (setv 2)
 (setM 1 (ifE (tst (bin ltF (callM (d_order_of fu) (consA (getv 2) (consA (getv 1) (nilA)))) (ret (.int 0)))) (getv 2) (getv 1))))
 (retM (getv 1)))
def d_least_of (fu : Nat) : Fn := runD 3 1 (m_least_of fu)
def m_greatest_of (fu : Nat) : M Fl :=
 seqM (setM 1 (bin ixA (getv 0) (ret (.int 0))))
 (seqM (forM (seqI (getv 0)) (setv 2)
 (setM 1 (ifE (tst (bin gtF (callM (d_order_of fu) (consA (getv 2) (consA (getv 1) (nilA)))) (ret (.int 0)))) (getv 2) (getv 1))))
 (retM (getv 1)))
def d_greatest_of (fu : Nat) : Fn := runD 3 1 (m_greatest_of fu)
def m_rises (fu : Nat) : M Fl :=
 retM (un1 allF (frzM (compM [1] (noW (rng2 (ret (.int 1)) (un1 lenF (peekv 0)))) (.nm 1) (ret true) (bin ltF (callM (d_order_of fu) (consA (bin ixA (getv 0) (bin subF (getv 1) (ret (.int 1)))) (consA (bin ixA (getv 0) (peekv 1)) (nilA)))) (ret (.int 0))))))
def d_rises (fu : Nat) : Fn := runD 2 1 (m_rises fu)
def m_is_pair (fu : Nat) : M Fl :=
 retM (andV (callM (d_is_tuple_of fu) (consA (getv 0) (consA (ret (.int 2)) (nilA)))) (andV (callM (d_is_place fu) (consA (bin ixA (getv 0) (ret (.int 0))) (nilA))) (callM (d_is_place fu) (consA (bin ixA (getv 0) (ret (.int 1))) (nilA)))))
def d_is_pair (fu : Nat) : Fn := runD 1 1 (m_is_pair fu)
def m_is_piece (fu : Nat) : M Fl :=
 seqM (ifM (orT (notT (tst (un1 (isiF [.tuple]) (getv 0)))) (notT (tst (un1 allF (frzM (compM [3] (seqW (getv 0)) (.nm 3) (ret true) (callM (d_is_pair fu) (consA (getv 3) (nilA)))))))))
 (retM (ret (.bl false)))
 (ret .nx))
 (retM (callM (d_rises fu) (consA (frzM (compM2 [1, 2] (seqW (getv 0)) (.nm 1) (ret true) [2] (seqW (getv 1)) (.nm 2) (ret true) (getv 2))) (nilA))))
def d_is_piece (fu : Nat) : Fn := runD 4 1 (m_is_piece fu)
def m_check_piece (fu : Nat) : M Fl :=
 ifM (notT (tst (callM (d_is_piece fu) (consA (getv 0) (nilA)))))
 (raiseM 0 (getv 0))
 (ret .nx)
def d_check_piece (fu : Nat) : Fn := runD 1 1 (m_check_piece fu)
def m_check_pieces (fu : Nat) : M Fl :=
 seqM (exprM (callM (d_check_piece fu) (consA (getv 0) (nilA))))
 (exprM (callM (d_check_piece fu) (consA (getv 1) (nilA))))
def d_check_pieces (fu : Nat) : Fn := runD 2 2 (m_check_pieces fu)
def m_combined (fu : Nat) : M Fl :=
 seqM (parM [3, 4] (valR (frzM (compM2 [11, 9] (seqW (getv 0)) (.nm 11) (ret true) [9] (seqW (getv 11)) (.nm 9) (ret true) (getv 9))) (valR (frzM (compM2 [11, 9] (seqW (getv 1)) (.nm 11) (ret true) [9] (seqW (getv 11)) (.nm 9) (ret true) (getv 9))) (nilR))))
 (seqM (parM [5, 6, 7, 8] (newR (lstN (nilA)) (valR (ret .non) (valR (ret (.int 0)) (valR (ret (.int 0)) (nilR))))))
 (seqM (mWhile fu (orT (tst (bin ltF (getv 7) (un1 lenF (peekv 3)))) (tst (bin ltF (getv 8) (un1 lenF (peekv 4)))))
 (seqM (setM 9 (callM (d_least_of fu) (consA (bin addF (sl3 (getv 3) (someO (getv 7)) (someO (bin addF (getv 7) (ret (.int 1))))) (sl3 (getv 4) (someO (getv 8)) (someO (bin addF (getv 8) (ret (.int 1)))))) (nilA))))
 (seqM (setM 7 (bin addF (getv 7) (un1 intF (bin eqF (sl3 (getv 3) (someO (getv 7)) (someO (bin addF (getv 7) (ret (.int 1))))) (frzM (lstN (consA (getv 9) (nilA))))))))
 (seqM (setM 8 (bin addF (getv 8) (un1 intF (bin eqF (sl3 (getv 4) (someO (getv 8)) (someO (bin addF (getv 8) (ret (.int 1))))) (frzM (lstN (consA (getv 9) (nilA))))))))
 (seqM (setM 10 (bin ixA (getv 2) (bin addF (bin mulF (bin modF (getv 7) (ret (.int 2))) (ret (.int 2))) (bin modF (getv 8) (ret (.int 2))))))
 (ifM (andT (tst (bin isF (getv 6) (ret .non))) (tst (getv 10)))
 (setM 6 (getv 9))
 (ifM (andT (tst (bin notIsF (getv 6) (ret .non))) (notT (tst (getv 10))))
 (seqM (exprM (mutL 5 appF (consA (tupM (consA (getv 6) (consA (getv 9) (nilA)))) (nilA))))
 (setM 6 (ret .non)))
 (ret .nx))))))))
 (retM (un1 tupF (peekv 5)))))
def d_combined (fu : Nat) : Fn := runD 12 3 (m_combined fu)
def m_piece_from (fu : Nat) : M Fl :=
 seqM (setM 1 (frzM (compM [3, 4] (seqW (getv 0)) (.tup [(.nm 3), (.nm 4)]) (ret true) (ifE (tst (bin ltF (callM (d_order_of fu) (consA (getv 3) (consA (getv 4) (nilA)))) (ret (.int 0)))) (tupM (consA (tupM (consA (getv 3) (consA (getv 4) (nilA)))) (nilA))) (tupM (nilA))))))
 (seqM (mWhile fu (tst (bin gtF (un1 lenF (peekv 1)) (ret (.int 1))))
 (seqM (setM 2 (frzM (compM [5] (noW (rng3 (ret (.int 0)) (un1 lenF (peekv 1)) (ret (.int 2)))) (.nm 5) (ret true) (sl3 (getv 1) (someO (getv 5)) (someO (bin addF (getv 5) (ret (.int 2))))))))
 (setM 1 (frzM (compM [6] (seqW (getv 2)) (.nm 6) (ret true) (callM (d_combined fu) (consA (bin ixA (getv 6) (ret (.int 0))) (consA (bin ixA (getv 6) (un1 negF (ret (.int 1)))) (consA (ret c_EITHER) (nilA))))))))))
 (retM (ifE (tst (bin neF (getv 1) (frzM (lstN (nilA))))) (bin ixA (getv 1) (ret (.int 0))) (tupM (nilA)))))
def d_piece_from (fu : Nat) : Fn := runD 7 1 (m_piece_from fu)
def m_piece_of (fu : Nat) : M Fl :=
 seqM (ifM (orT (notT (tst (callM (d_is_list fu) (consA (getv 0) (nilA))))) (notT (tst (un1 allF (frzM (compM [3] (seqW (getv 0)) (.nm 3) (ret true) (callM (d_is_pair fu) (consA (getv 3) (nilA)))))))))
 (raiseM 2 (getv 0))
 (ret .nx))
 (seqM (ifM (tst (un1 anyF (frzM (compM [1, 2] (seqW (getv 0)) (.tup [(.nm 1), (.nm 2)]) (ret true) (bin gtF (callM (d_order_of fu) (consA (getv 1) (consA (getv 2) (nilA)))) (ret (.int 0)))))))
 (raiseM 2 (getv 0))
 (ret .nx))
 (retM (callM (d_piece_from fu) (consA (getv 0) (nilA)))))
def d_piece_of (fu : Nat) : Fn := runD 4 1 (m_piece_of fu)
def m_length_of (fu : Nat) : M Fl :=
 seqM (exprM (callM (d_check_piece fu) (consA (getv 0) (nilA))))
 (retM (callM (d_total_of fu) (consA (frzM (compM [1, 2] (seqW (getv 0)) (.tup [(.nm 1), (.nm 2)]) (ret true) (callM (d_difference_of fu) (consA (getv 2) (consA (getv 1) (nilA)))))) (nilA))))
def d_length_of (fu : Nat) : Fn := runD 3 1 (m_length_of fu)
def m_joined_pieces (fu : Nat) : M Fl :=
 seqM (exprM (callM (d_check_pieces fu) (consA (getv 0) (consA (getv 1) (nilA)))))
 (retM (callM (d_combined fu) (consA (getv 0) (consA (getv 1) (consA (ret c_EITHER) (nilA))))))
def d_joined_pieces (fu : Nat) : Fn := runD 2 2 (m_joined_pieces fu)
def m_common_piece (fu : Nat) : M Fl :=
 seqM (exprM (callM (d_check_pieces fu) (consA (getv 0) (consA (getv 1) (nilA)))))
 (retM (callM (d_combined fu) (consA (getv 0) (consA (getv 1) (consA (ret c_BOTH) (nilA))))))
def d_common_piece (fu : Nat) : Fn := runD 2 2 (m_common_piece fu)
def m_rest_piece (fu : Nat) : M Fl :=
 seqM (exprM (callM (d_check_pieces fu) (consA (getv 0) (consA (getv 1) (nilA)))))
 (retM (callM (d_combined fu) (consA (getv 0) (consA (getv 1) (consA (ret c_FIRST) (nilA))))))
def d_rest_piece (fu : Nat) : Fn := runD 2 2 (m_rest_piece fu)
def m_left_piece (fu : Nat) : M Fl :=
 retM (un1 tupF (frzM (compM [2, 3] (seqW (getv 0)) (.tup [(.nm 2), (.nm 3)]) (tst (bin ltF (callM (d_order_of fu) (consA (getv 2) (consA (getv 1) (nilA)))) (ret (.int 0)))) (tupM (consA (getv 2) (consA (callM (d_least_of fu) (consA (frzM (lstN (consA (getv 3) (consA (getv 1) (nilA))))) (nilA))) (nilA)))))))
def d_left_piece (fu : Nat) : Fn := runD 4 2 (m_left_piece fu)
def m_right_piece (fu : Nat) : M Fl :=
 retM (un1 tupF (frzM (compM [2, 3] (seqW (getv 0)) (.tup [(.nm 2), (.nm 3)]) (tst (bin ltF (callM (d_order_of fu) (consA (getv 1) (consA (getv 3) (nilA)))) (ret (.int 0)))) (tupM (consA (callM (d_greatest_of fu) (consA (frzM (lstN (consA (getv 2) (consA (getv 1) (nilA))))) (nilA))) (consA (getv 3) (nilA)))))))
def d_right_piece (fu : Nat) : Fn := runD 4 2 (m_right_piece fu)
def m_parted (fu : Nat) : M Fl :=
 seqM (exprM (callM (d_check_piece fu) (consA (getv 0) (nilA))))
 (seqM (exprM (callM (d_check_place fu) (consA (getv 1) (nilA))))
 (retM (tupM (consA (callM (d_left_piece fu) (consA (getv 0) (consA (getv 1) (nilA)))) (consA (callM (d_right_piece fu) (consA (getv 0) (consA (getv 1) (nilA)))) (nilA))))))
def d_parted (fu : Nat) : Fn := runD 2 2 (m_parted fu)
def m_has_place (fu : Nat) : M Fl :=
 seqM (ifM (notT (tst (callM (d_is_place fu) (consA (getv 1) (nilA)))))
 (retM (ret (.bl false)))
 (ret .nx))
 (seqM (ifM (tst (bin eqF (getv 0) (tupM (nilA))))
 (retM (bin eqF (getv 1) (ret c_ZERO)))
 (ret .nx))
 (retM (un1 anyF (frzM (compM [2, 3] (seqW (getv 0)) (.tup [(.nm 2), (.nm 3)]) (ret true) (andV (bin leF (callM (d_order_of fu) (consA (getv 2) (consA (getv 1) (nilA)))) (ret (.int 0))) (bin leF (callM (d_order_of fu) (consA (getv 1) (consA (getv 3) (nilA)))) (ret (.int 0)))))))))
def d_has_place (fu : Nat) : Fn := runD 4 2 (m_has_place fu)
def m_is_place_of (fu : Nat) : M Fl :=
 seqM (exprM (callM (d_check_piece fu) (consA (getv 0) (nilA))))
 (retM (callM (d_has_place fu) (consA (getv 0) (consA (getv 1) (nilA)))))
def d_is_place_of (fu : Nat) : Fn := runD 2 2 (m_is_place_of fu)
def m_law_box (fu : Nat) : M Fl :=
 seqM (setM 1 (bin modF (un1 intF (un1 absF (peekv 0))) (bin powF (ret (.int 10)) (ret (.int 64)))))
 (retM (labM (lstN (consA (getv 1) (consA (bin geF (un1 absF (peekv 0)) (bin powF (ret (.int 10)) (ret (.int 18)))) (consA (bin modF (getv 1) (ret (.int 2147483629))) (consA (ret (.int 0)) (nilA))))))))
def d_law_box (fu : Nat) : Fn := runD 2 1 (m_law_box fu)
def m_law_take (fu : Nat) : M Fl :=
 seqM (ifM (andT (tst (bin ixA (getv 0) (ret (.int 1)))) (tst (bin gtF (bin ixA (getv 0) (ret (.int 0))) (ret (.int 0)))))
 (seqM (setM 2 (bin modF (un1 intF (bin ixA (getv 0) (ret (.int 0)))) (peekv 1)))
 (seqM (setIt 0 (ret (.int 0)) (bin divF (un1 intF (bin ixA (getv 0) (ret (.int 0)))) (peekv 1)))
 (retM (getv 2))))
 (ret .nx))
 (seqM (setIt 0 (ret (.int 3)) (bin addF (bin ixA (getv 0) (ret (.int 3))) (ret (.int 1))))
 (seqM (setIt 0 (ret (.int 2)) (bin modF (bin addF (bin addF (bin mulF (bin ixA (getv 0) (ret (.int 2))) (ret (.int 69621))) (bin mulF (ret (.int 1327)) (bin ixA (getv 0) (ret (.int 3))))) (ret (.int 31))) (ret (.int 2147483629))))
 (retM (bin modF (un1 intF (bin divF (bin ixA (getv 0) (ret (.int 2))) (ret (.int 64)))) (peekv 1)))))
def d_law_take (fu : Nat) : Fn := runD 3 2 (m_law_take fu)
def m_law_pick (fu : Nat) : M Fl :=
 retM (bin ixA (getv 1) (callM (d_law_take fu) (consA (getv 0) (consA (un1 lenF (peekv 1)) (nilA)))))
def d_law_pick (fu : Nat) : Fn := runD 2 2 (m_law_pick fu)
def m_law_cell (fu : Nat) : M Fl :=
 retM (ifE (tst (bin ltF (getv 1) (un1 lenF (peekv 0)))) (bin ixA (getv 0) (peekv 1)) (bin addF (bin mulF (ret (.int 6173)) (peekv 1)) (bin modF (un1 intF (un1 sumF (sl3 (getv 0) (noneO) (someO (ret (.int 1)))))) (ret (.int 1000033)))))
def d_law_cell (fu : Nat) : Fn := runD 2 2 (m_law_cell fu)
def m_law_mixed (fu : Nat) : M Fl :=
 seqM (parM [2, 3] (newR (un1N itemsS (peekv 1)) (newR (lstN (nilA)) (nilR))))
 (seqM (forM (rng1 (un1 lenF (peekv 1))) (setv 4)
 (exprM (mutL 3 appF (consA (mutL 2 popF (consA (callM (d_law_take fu) (consA (getv 0) (consA (un1 lenF (peekv 2)) (nilA)))) (nilA))) (nilA)))))
 (retM (getv 3)))
def d_law_mixed (fu : Nat) : Fn := runD 5 2 (m_law_mixed fu)
def m_law_low (fu : Nat) : M Fl :=
 seqM (parM [2, 3] (valR (un1 absF (peekv 0)) (valR (un1 absF (peekv 1)) (nilR))))
 (seqM (mWhile fu (tst (bin gtF (getv 3) (ret (.int 0))))
 (parM [2, 3] (valR (getv 3) (valR (bin modF (un1 intF (peekv 2)) (peekv 3)) (nilR)))))
 (seqM (ifM (tst (bin ltF (getv 1) (ret (.int 0))))
 (setM 2 (un1 negF (peekv 2)))
 (ret .nx))
 (retM (tupM (consA (bin divF (getv 0) (peekv 2)) (consA (bin divF (getv 1) (peekv 2)) (nilA)))))))
def d_law_low (fu : Nat) : Fn := runD 4 2 (m_law_low fu)
def m_law_plus (fu : Nat) : M Fl :=
 retM (callM (d_law_low fu) (consA (bin addF (bin mulF (bin ixA (getv 0) (ret (.int 0))) (bin ixA (getv 1) (ret (.int 1)))) (bin mulF (bin ixA (getv 1) (ret (.int 0))) (bin ixA (getv 0) (ret (.int 1))))) (consA (bin mulF (bin ixA (getv 0) (ret (.int 1))) (bin ixA (getv 1) (ret (.int 1)))) (nilA))))
def d_law_plus (fu : Nat) : Fn := runD 2 2 (m_law_plus fu)
def m_law_minus (fu : Nat) : M Fl :=
 retM (callM (d_law_low fu) (consA (bin subF (bin mulF (bin ixA (getv 0) (ret (.int 0))) (bin ixA (getv 1) (ret (.int 1)))) (bin mulF (bin ixA (getv 1) (ret (.int 0))) (bin ixA (getv 0) (ret (.int 1))))) (consA (bin mulF (bin ixA (getv 0) (ret (.int 1))) (bin ixA (getv 1) (ret (.int 1)))) (nilA))))
def d_law_minus (fu : Nat) : Fn := runD 2 2 (m_law_minus fu)
def m_law_less (fu : Nat) : M Fl :=
 retM (bin ltF (bin mulF (bin ixA (getv 0) (ret (.int 0))) (bin ixA (getv 1) (ret (.int 1)))) (bin mulF (bin ixA (getv 1) (ret (.int 0))) (bin ixA (getv 0) (ret (.int 1)))))
def d_law_less (fu : Nat) : Fn := runD 2 2 (m_law_less fu)
def m_law_sum (fu : Nat) : M Fl :=
 seqM (setM 1 (tupM (consA (ret (.int 0)) (consA (ret (.int 1)) (nilA)))))
 (seqM (forM (seqI (getv 0)) (setv 2)
 (setM 1 (callM (d_law_plus fu) (consA (getv 1) (consA (getv 2) (nilA))))))
 (retM (getv 1)))
def d_law_sum (fu : Nat) : Fn := runD 3 1 (m_law_sum fu)
def m_law_union (fu : Nat) : M Fl :=
 seqM (parM [1, 2] (newR (lstN (nilA)) (newR (lstN (nilA)) (nilR))))
 (seqM (forM (seqI (getv 0)) (tupG 2 (consG (setv 3) (consG (setv 4) (nilG))))
 (exprM (mutL 1 insF (consA (un1 lenF (frzM (compM [5] (ownI 1) (.nm 5) (notT (tst (callM (d_law_less fu) (consA (getv 3) (consA (bin ixA (getv 5) (ret (.int 0))) (nilA)))))) (getv 5)))) (consA (tupM (consA (getv 3) (consA (getv 4) (nilA)))) (nilA))))))
 (seqM (forM (seqI (getv 1)) (tupG 2 (consG (setv 3) (consG (setv 4) (nilG))))
 (ifM (andT (tst (binL neF 2 (frzM (lstN (nilA))))) (notT (tst (callM (d_law_less fu) (consA (bin ixA (binL ixA 2 (un1 negF (ret (.int 1)))) (ret (.int 1))) (consA (getv 3) (nilA)))))))
 (ifM (tst (callM (d_law_less fu) (consA (bin ixA (binL ixA 2 (un1 negF (ret (.int 1)))) (ret (.int 1))) (consA (getv 4) (nilA)))))
 (setIt 2 (un1 negF (ret (.int 1))) (tupM (consA (bin ixA (binL ixA 2 (un1 negF (ret (.int 1)))) (ret (.int 0))) (consA (getv 4) (nilA)))))
 (ret .nx))
 (ifM (tst (callM (d_law_less fu) (consA (getv 3) (consA (getv 4) (nilA)))))
 (exprM (mutL 2 appF (consA (tupM (consA (getv 3) (consA (getv 4) (nilA)))) (nilA))))
 (ret .nx))))
 (retM (un1 tupF (peekv 2)))))
def d_law_union (fu : Nat) : Fn := runD 6 1 (m_law_union fu)
def m_law_split (fu : Nat) : M Fl :=
 seqM (parM [2, 3] (newR (lstN (nilA)) (newR (lstN (nilA)) (nilR))))
 (seqM (forM (seqI (getv 0)) (tupG 2 (consG (setv 4) (consG (setv 5) (nilG))))
 (ifM (notT (tst (callM (d_law_less fu) (consA (getv 1) (consA (getv 5) (nilA))))))
 (exprM (mutL 2 appF (consA (tupM (consA (getv 4) (consA (getv 5) (nilA)))) (nilA))))
 (ifM (notT (tst (callM (d_law_less fu) (consA (getv 4) (consA (getv 1) (nilA))))))
 (exprM (mutL 3 appF (consA (tupM (consA (getv 4) (consA (getv 5) (nilA)))) (nilA))))
 (seqM (exprM (mutL 2 appF (consA (tupM (consA (getv 4) (consA (getv 1) (nilA)))) (nilA))))
 (exprM (mutL 3 appF (consA (tupM (consA (getv 1) (consA (getv 5) (nilA)))) (nilA))))))))
 (retM (tupM (consA (un1 tupF (peekv 2)) (consA (un1 tupF (peekv 3)) (nilA))))))
def d_law_split (fu : Nat) : Fn := runD 6 2 (m_law_split fu)
def m_law_same (fu : Nat) (self : Fn) : M Fl :=
 seqM (ifM (orT (tst (bin isF (getv 1) (ret .non))) (tst (un1 (isiF [.bool]) (getv 1))))
 (retM (ifE (tst (bin isF (getv 1) (ret .non))) (bin isF (getv 0) (ret .non)) (andV (un1 (isiF [.bool]) (getv 0)) (bin eqF (bin isF (getv 0) (ret (.bl true))) (bin isF (getv 1) (ret (.bl true)))))))
 (ret .nx))
 (seqM (ifM (tst (un1 (isiF [.int]) (getv 1)))
 (retM (andV (un1 (isiF [.int]) (getv 0)) (andV (notV (un1 (isiF [.bool]) (getv 0))) (bin eqF (getv 0) (peekv 1)))))
 (ret .nx))
 (seqM (ifM (tst (un1 (isiF [.str]) (getv 1)))
 (retM (andV (un1 (isiF [.str]) (getv 0)) (bin eqF (getv 0) (peekv 1))))
 (ret .nx))
 (seqM (ifM (tst (un1 (isiF [.dict]) (getv 1)))
 (retM (andV (un1 (isiF [.dict]) (getv 0)) (andV (bin eqF (un1 lenF (peekv 0)) (un1 lenF (peekv 1))) (bin eqF (frzM (compK 1 [3] (.nm 3) (orT (tst (dop ninK (getv 3) (getv 0))) (notT (tst (callM self (consA (dop subK (getv 0) (getv 3)) (consA (dop subK (getv 1) (getv 3)) (nilA))))))) (getv 3))) (frzM (lstN (nilA)))))))
 (ret .nx))
 (seqM (ifM (orT (notT (tst (un1 (isiF [.list, .tuple]) (getv 1)))) (notT (tst (un1 (isiF [.list, .tuple]) (getv 0)))))
 (retM (ret (.bl false)))
 (ret .nx))
 (seqM (ifM (orT (tst (bin neF (un1 (isiF [.list]) (getv 0)) (un1 (isiF [.list]) (getv 1)))) (tst (bin neF (un1 lenF (peekv 0)) (un1 lenF (peekv 1)))))
 (retM (ret (.bl false)))
 (ret .nx))
 (retM (bin eqF (frzM (compM [2] (noW (rng1 (un1 lenF (peekv 1)))) (.nm 2) (notT (tst (callM self (consA (bin ixA (getv 0) (peekv 2)) (consA (bin ixA (getv 1) (peekv 2)) (nilA)))))) (getv 2))) (frzM (lstN (nilA))))))))))
def d_law_same (fu : Nat) : Nat → Fn
  | 0 => fun _ _ => none
  | j + 1 => runD 4 2 (m_law_same fu (d_law_same fu j))
def m_law_blamed (fu : Nat) : M Fl :=
 seqM (ifM (orT (tst (bin neF (bin ixA (getv 0) (ret (.int 0))) (peekv 1))) (notT (tst (callM (d_law_same fu 12) (consA (bin ixA (getv 0) (ret (.int 1))) (consA (getv 2) (nilA)))))))
 (retM (ret (.bl false)))
 (ret .nx))
 (seqM (ifM (tst (un1 (isiF [.list]) (getv 2)))
 (exprM (mutL 2 appF (consA (ret (.int 7)) (nilA))))
 (ret .nx))
 (seqM (ifM (tst (un1 (isiF [.dict]) (getv 2)))
 (dputM (ret (.int 7)) (getv 2) (ret (.str ("more" : Str))))
 (ret .nx))
 (retM (callM (d_law_same fu 12) (consA (bin ixA (getv 0) (ret (.int 1))) (consA (getv 2) (nilA)))))))
def d_law_blamed (fu : Nat) : Fn := runD 3 3 (m_law_blamed fu)
def m_law_whole (fu : Nat) : M Fl :=
 retM (andV (un1 (isiF [.int]) (getv 0)) (notV (un1 (isiF [.bool]) (getv 0))))
def d_law_whole (fu : Nat) : Fn := runD 1 1 (m_law_whole fu)
def m_law_is_fraction (fu : Nat) : M Fl :=
 seqM (ifM (orT (notT (tst (un1 (isiF [.tuple]) (getv 0)))) (orT (tst (bin neF (un1 lenF (peekv 0)) (ret (.int 2)))) (orT (notT (tst (callM (d_law_whole fu) (consA (bin ixA (getv 0) (ret (.int 0))) (nilA))))) (notT (tst (callM (d_law_whole fu) (consA (bin ixA (getv 0) (ret (.int 1))) (nilA))))))))
 (retM (ret (.bl false)))
 (ret .nx))
 (retM (andV (bin gtF (bin ixA (getv 0) (ret (.int 1))) (ret (.int 0))) (bin eqF (callM (d_law_low fu) (consA (bin ixA (getv 0) (ret (.int 0))) (consA (bin ixA (getv 0) (ret (.int 1))) (nilA)))) (peekv 0))))
def d_law_is_fraction (fu : Nat) : Fn := runD 1 1 (m_law_is_fraction fu)
def m_law_is_place_in (fu : Nat) : M Fl :=
 seqM (ifM (notT (tst (callM (d_law_is_fraction fu) (consA (getv 1) (nilA)))))
 (retM (ret (.bl false)))
 (ret .nx))
 (seqM (ifM (tst (bin eqF (un1 lenF (peekv 0)) (ret (.int 0))))
 (retM (bin eqF (getv 1) (tupM (consA (ret (.int 0)) (consA (ret (.int 1)) (nilA))))))
 (ret .nx))
 (retM (bin neF (frzM (compM [2, 3] (seqW (getv 0)) (.tup [(.nm 2), (.nm 3)]) (andT (notT (tst (callM (d_law_less fu) (consA (getv 1) (consA (getv 2) (nilA)))))) (notT (tst (callM (d_law_less fu) (consA (getv 3) (consA (getv 1) (nilA))))))) (ret (.int 1)))) (frzM (lstN (nilA))))))
def d_law_is_place_in (fu : Nat) : Fn := runD 4 2 (m_law_is_place_in fu)
def m_law_spot (fu : Nat) : M Fl :=
 seqM (ifM (tst (bin eqF (callM (d_law_take fu) (consA (getv 0) (consA (ret (.int 7)) (nilA)))) (ret (.int 0))))
 (seqM (setM 2 (bin addF (bin powF (ret (.int 10)) (ret (.int 18))) (ret (.int 9))))
 (retM (callM (d_law_low fu) (consA (callM (d_law_pick fu) (consA (getv 0) (consA (frzM (lstN (consA (ret (.int 0)) (consA (ret (.int 1)) (consA (bin divF (getv 2) (ret (.int 2))) (consA (bin subF (getv 2) (ret (.int 1))) (consA (bin divF (getv 2) (ret (.int 3))) (nilA)))))))) (nilA)))) (consA (getv 2) (nilA))))))
 (ret .nx))
 (retM (callM (d_law_low fu) (consA (callM (d_law_take fu) (consA (getv 0) (consA (bin addF (getv 1) (ret (.int 1))) (nilA)))) (consA (getv 1) (nilA)))))
def d_law_spot (fu : Nat) : Fn := runD 3 2 (m_law_spot fu)
def m_law_stretches (fu : Nat) : M Fl :=
 seqM (parM [2, 3] (valR (callM (d_law_pick fu) (consA (getv 0) (consA (frzM (lstN (consA (ret (.int 4)) (consA (ret (.int 12)) (consA (ret (.int 12)) (consA (ret (.int 30)) (nilA))))))) (nilA)))) (newR (lstN (nilA)) (nilR))))
 (seqM (forM (rng1 (getv 1)) (setv 4)
 (seqM (parM [5, 6] (valR (callM (d_law_spot fu) (consA (getv 0) (consA (getv 2) (nilA)))) (valR (callM (d_law_spot fu) (consA (getv 0) (consA (getv 2) (nilA)))) (nilR))))
 (seqM (ifM (tst (callM (d_law_less fu) (consA (getv 6) (consA (getv 5) (nilA)))))
 (parM [5, 6] (valR (getv 6) (valR (getv 5) (nilR))))
 (ret .nx))
 (seqM (ifM (tst (bin eqF (callM (d_law_take fu) (consA (getv 0) (consA (ret (.int 6)) (nilA)))) (ret (.int 0))))
 (setM 6 (getv 5))
 (ret .nx))
 (seqM (ifM (andT (tst (binL neF 3 (frzM (lstN (nilA))))) (tst (bin eqF (callM (d_law_take fu) (consA (getv 0) (consA (ret (.int 4)) (nilA)))) (ret (.int 0)))))
 (seqM (setM 5 (bin ixA (binL ixA 3 (un1 negF (ret (.int 1)))) (ret (.int 1))))
 (setM 6 (ifE (tst (callM (d_law_less fu) (consA (getv 6) (consA (getv 5) (nilA))))) (getv 5) (getv 6))))
 (ret .nx))
 (exprM (mutL 3 appF (consA (tupM (consA (getv 5) (consA (getv 6) (nilA)))) (nilA)))))))))
 (retM (getv 3)))
def d_law_stretches (fu : Nat) : Fn := runD 7 2 (m_law_stretches fu)
def m_law_flat (fu : Nat) : M Fl :=
 seqM (setN 1 (lstN (nilA)))
 (seqM (forM (seqI (getv 0)) (setv 2)
 (exprM (mutL 1 extF (consA (frzM (un1N itemsS (peekv 2))) (nilA)))))
 (retM (getv 1)))
def d_law_flat (fu : Nat) : Fn := runD 3 1 (m_law_flat fu)
def m_law_marks (fu : Nat) : M Fl :=
 seqM (setN 1 (lstN (consA (tupM (consA (ret (.int 0)) (consA (ret (.int 1)) (nilA)))) (nilA))))
 (seqM (forM (seqI (callM (d_law_flat fu) (consA (getv 0) (nilA)))) (tupG 2 (consG (setv 2) (consG (setv 3) (nilG))))
 (forM (seqI (tupM (consA (getv 2) (consA (getv 3) (nilA))))) (setv 4)
 (ifM (tst (bin notInF (getv 4) (peekv 1)))
 (exprM (mutL 1 insF (consA (un1 lenF (frzM (compM [5] (ownI 1) (.nm 5) (tst (callM (d_law_less fu) (consA (getv 5) (consA (getv 4) (nilA))))) (getv 5)))) (consA (getv 4) (nilA)))))
 (ret .nx))))
 (retM (ifE (tst (bin inF (tupM (consA (ret (.int 1)) (consA (ret (.int 1)) (nilA)))) (peekv 1))) (getv 1) (binL addF 1 (frzM (lstN (consA (tupM (consA (ret (.int 1)) (consA (ret (.int 1)) (nilA)))) (nilA))))))))
def d_law_marks (fu : Nat) : Fn := runD 6 1 (m_law_marks fu)
def m_law_covers (fu : Nat) : M Fl :=
 retM (bin neF (frzM (compM [3, 4] (seqW (getv 0)) (.tup [(.nm 3), (.nm 4)]) (andT (notT (tst (callM (d_law_less fu) (consA (getv 1) (consA (getv 3) (nilA)))))) (notT (tst (callM (d_law_less fu) (consA (getv 4) (consA (getv 2) (nilA))))))) (ret (.int 1)))) (frzM (lstN (nilA))))
def d_law_covers (fu : Nat) : Fn := runD 5 3 (m_law_covers fu)
def m_law_cells (fu : Nat) : M Fl :=
 seqM (parM [2, 3] (valR (callM (d_law_marks fu) (consA (getv 0) (nilA))) (newR (lstN (nilA)) (nilR))))
 (seqM (forM (zipI (getv 2) (sl3 (getv 2) (someO (ret (.int 1))) (noneO))) (tupG 2 (consG (setv 4) (consG (setv 5) (nilG))))
 (ifM (tst (bin inF (frzM (compM [6] (seqW (getv 0)) (.nm 6) (ret true) (callM (d_law_covers fu) (consA (getv 6) (consA (getv 4) (consA (getv 5) (nilA))))))) (peekv 1)))
 (exprM (mutL 3 appF (consA (tupM (consA (getv 4) (consA (getv 5) (nilA)))) (nilA))))
 (ret .nx)))
 (retM (callM (d_law_union fu) (consA (getv 3) (nilA)))))
def d_law_cells (fu : Nat) : Fn := runD 7 2 (m_law_cells fu)
def m_law_met (fu : Nat) : M Fl :=
 tryM
 (seqM (ifM (tst (bin eqF (getv 0) (ret (.int 0))))
 (retM (frzM (lstN (consA (ret (.str ("told" : Str))) (consA (ifE (tst (getv 2)) (callK 1 [0] (d_piece_of fu) (consA (bin ixA (getv 1) (ret (.int 0))) (nilA))) (callM (d_piece_of fu) (consA (bin ixA (getv 1) (ret (.int 0))) (nilA)))) (nilA))))))
 (ret .nx))
 (seqM (ifM (tst (bin eqF (getv 0) (ret (.int 1))))
 (retM (frzM (lstN (consA (ret (.str ("told" : Str))) (consA (ifE (tst (getv 2)) (callK 1 [0] (d_length_of fu) (consA (bin ixA (getv 1) (ret (.int 0))) (nilA))) (callM (d_length_of fu) (consA (bin ixA (getv 1) (ret (.int 0))) (nilA)))) (nilA))))))
 (ret .nx))
 (seqM (ifM (tst (bin eqF (getv 0) (ret (.int 2))))
 (retM (frzM (lstN (consA (ret (.str ("told" : Str))) (consA (ifE (tst (getv 2)) (callK 2 [1, 0] (d_joined_pieces fu) (consA (bin ixA (getv 1) (ret (.int 1))) (consA (bin ixA (getv 1) (ret (.int 0))) (nilA)))) (callM (d_joined_pieces fu) (consA (bin ixA (getv 1) (ret (.int 0))) (consA (bin ixA (getv 1) (ret (.int 1))) (nilA))))) (nilA))))))
 (ret .nx))
 (seqM (ifM (tst (bin eqF (getv 0) (ret (.int 3))))
 (retM (frzM (lstN (consA (ret (.str ("told" : Str))) (consA (ifE (tst (getv 2)) (callK 2 [1, 0] (d_common_piece fu) (consA (bin ixA (getv 1) (ret (.int 1))) (consA (bin ixA (getv 1) (ret (.int 0))) (nilA)))) (callM (d_common_piece fu) (consA (bin ixA (getv 1) (ret (.int 0))) (consA (bin ixA (getv 1) (ret (.int 1))) (nilA))))) (nilA))))))
 (ret .nx))
 (seqM (ifM (tst (bin eqF (getv 0) (ret (.int 4))))
 (retM (frzM (lstN (consA (ret (.str ("told" : Str))) (consA (ifE (tst (getv 2)) (callK 2 [1, 0] (d_rest_piece fu) (consA (bin ixA (getv 1) (ret (.int 1))) (consA (bin ixA (getv 1) (ret (.int 0))) (nilA)))) (callM (d_rest_piece fu) (consA (bin ixA (getv 1) (ret (.int 0))) (consA (bin ixA (getv 1) (ret (.int 1))) (nilA))))) (nilA))))))
 (ret .nx))
 (seqM (ifM (tst (bin eqF (getv 0) (ret (.int 5))))
 (retM (frzM (lstN (consA (ret (.str ("told" : Str))) (consA (ifE (tst (getv 2)) (callK 2 [1, 0] (d_parted fu) (consA (bin ixA (getv 1) (ret (.int 1))) (consA (bin ixA (getv 1) (ret (.int 0))) (nilA)))) (callM (d_parted fu) (consA (bin ixA (getv 1) (ret (.int 0))) (consA (bin ixA (getv 1) (ret (.int 1))) (nilA))))) (nilA))))))
 (ret .nx))
 (seqM (ifM (tst (bin eqF (getv 0) (ret (.int 6))))
 (retM (frzM (lstN (consA (ret (.str ("told" : Str))) (consA (ifE (tst (getv 2)) (callK 2 [1, 0] (d_is_place_of fu) (consA (bin ixA (getv 1) (ret (.int 1))) (consA (bin ixA (getv 1) (ret (.int 0))) (nilA)))) (callM (d_is_place_of fu) (consA (bin ixA (getv 1) (ret (.int 0))) (consA (bin ixA (getv 1) (ret (.int 1))) (nilA))))) (nilA))))))
 (ret .nx))
 (retM (frzM (lstN (consA (ret (.str ("told" : Str))) (consA (ifE (tst (getv 2)) (callK 1 [0] (d_is_piece fu) (consA (bin ixA (getv 1) (ret (.int 0))) (nilA))) (callM (d_is_piece fu) (consA (bin ixA (getv 1) (ret (.int 0))) (nilA)))) (nilA)))))))))))))
 [(is0, hGiv 3 ("piece" : Str)), (is1, hGiv 3 ("place" : Str)), (is2, hGiv 3 ("stretches" : Str))]
def d_law_met (fu : Nat) : Fn := runD 4 3 (m_law_met fu)
def m_law_odd_pieces (fu : Nat) : M Fl :=
 seqM (parM [1, 2] (valR (tupM (consA (tupM (consA (ret (.int 0)) (consA (ret (.int 1)) (nilA)))) (consA (tupM (consA (ret (.int 1)) (consA (ret (.int 2)) (nilA)))) (nilA)))) (valR (tupM (consA (tupM (consA (ret (.int 0)) (consA (ret (.int 1)) (nilA)))) (consA (tupM (consA (ret (.int 1)) (consA (ret (.int 1)) (nilA)))) (nilA)))) (nilR))))
 (seqM (setM 3 (frzM (lstN (consA (ret .non) (consA (ret (.int 5)) (consA (ret (.bl true)) (consA (ret (.str ("piece" : Str))) (consA (labM (lstN (consA (getv 1) (nilA)))) (consA (newDicM) (consA (getv 1) (consA (tupM (consA (getv 1) (consA (tupM (consA (tupM (consA (ret (.int 1)) (consA (ret (.int 2)) (nilA)))) (consA (tupM (consA (ret (.int 1)) (consA (ret (.int 1)) (nilA)))) (nilA)))) (nilA)))) (consA (tupM (consA (tupM (consA (tupM (consA (ret (.int 1)) (consA (ret (.int 2)) (nilA)))) (consA (tupM (consA (ret (.int 1)) (consA (ret (.int 1)) (nilA)))) (nilA)))) (consA (getv 1) (nilA)))) (consA (tupM (consA (getv 2) (consA (getv 2) (nilA)))) (consA (tupM (consA (tupM (consA (tupM (consA (ret (.int 1)) (consA (ret (.int 2)) (nilA)))) (consA (tupM (consA (ret (.int 1)) (consA (ret (.int 2)) (nilA)))) (nilA)))) (nilA))) (nilA)))))))))))))))
 (seqM (setM 3 (bin addF (getv 3) (frzM (lstN (consA (tupM (consA (tupM (consA (tupM (consA (ret (.int 1)) (consA (ret (.int 2)) (nilA)))) (consA (tupM (consA (ret (.int 0)) (consA (ret (.int 1)) (nilA)))) (nilA)))) (nilA))) (consA (tupM (consA (tupM (consA (tupM (consA (ret (.int 0)) (consA (ret (.int 1)) (nilA)))) (consA (tupM (consA (ret (.int 2)) (consA (ret (.int 2)) (nilA)))) (nilA)))) (nilA))) (consA (tupM (consA (tupM (consA (tupM (consA (ret (.int 0)) (consA (ret (.int 1)) (nilA)))) (consA (tupM (consA (ret (.int 3)) (consA (ret (.int 2)) (nilA)))) (nilA)))) (nilA))) (consA (tupM (consA (tupM (consA (tupM (consA (un1 negF (ret (.int 1))) (consA (ret (.int 2)) (nilA)))) (consA (tupM (consA (ret (.int 1)) (consA (ret (.int 2)) (nilA)))) (nilA)))) (nilA))) (consA (tupM (consA (tupM (consA (ret (.int 0)) (consA (ret (.int 1)) (nilA)))) (nilA))) (consA (tupM (consA (tupM (consA (tupM (consA (ret (.int 0)) (consA (ret (.int 1)) (nilA)))) (consA (tupM (consA (ret (.int 1)) (consA (ret (.int 2)) (nilA)))) (consA (tupM (consA (ret (.int 1)) (consA (ret (.int 1)) (nilA)))) (nilA))))) (nilA))) (consA (tupM (consA (frzM (un1N itemsS (peekv 1))) (nilA))) (nilA))))))))))))
 (seqM (setM 3 (bin addF (getv 3) (frzM (lstN (consA (tupM (consA (tupM (consA (ret (.int 0)) (consA (ret (.int 1)) (nilA)))) (consA (tupM (consA (ret (.int 1)) (consA (ret (.int 1)) (nilA)))) (nilA)))) (consA (tupM (consA (tupM (consA (tupM (consA (ret (.int 0)) (consA (ret (.int 1)) (nilA)))) (consA (ret (.int 1)) (nilA)))) (nilA))) (consA (tupM (consA (tupM (consA (tupM (consA (ret (.int 0)) (consA (ret (.bl true)) (nilA)))) (consA (tupM (consA (ret (.int 1)) (consA (ret (.int 1)) (nilA)))) (nilA)))) (nilA))) (consA (tupM (consA (tupM (consA (tupM (consA (ret (.int 0)) (consA (ret (.int 1)) (nilA)))) (consA (tupM (consA (ret (.bl true)) (consA (ret (.int 1)) (nilA)))) (nilA)))) (nilA))) (consA (tupM (consA (tupM (consA (tupM (consA (ret (.int 0)) (consA (ret (.int 1)) (nilA)))) (consA (tupM (consA (ret (.int 1)) (consA (ret (.int 1)) (consA (ret (.int 1)) (nilA))))) (nilA)))) (nilA))) (consA (tupM (consA (ret .non) (nilA))) (consA (tupM (consA (tupM (nilA)) (nilA))) (consA (tupM (consA (getv 1) (consA (ret (.int 7)) (nilA)))) (consA (tupM (consA (tupM (consA (tupM (consA (ret (.int 0)) (consA (ret (.int 1)) (nilA)))) (consA (frzM (lstN (consA (ret (.int 1)) (consA (ret (.int 1)) (nilA))))) (nilA)))) (nilA))) (nilA))))))))))))))
 (seqM (ifM (tst (bin neF (getv 0) (tupM (nilA))))
 (setM 3 (bin addF (getv 3) (frzM (lstN (consA (labM (un1N itemsS (peekv 0))) (consA (bin addF (getv 0) (sl3 (getv 0) (someO (un1 negF (ret (.int 1)))) (noneO))) (consA (bin addF (getv 0) (sl3 (getv 0) (noneO) (someO (ret (.int 1))))) (consA (bin ixA (getv 0) (ret (.int 0))) (nilA)))))))))
 (ret .nx))
 (retM (getv 3))))))
def d_law_odd_pieces (fu : Nat) : Fn := runD 4 1 (m_law_odd_pieces fu)
def m_law_odd_stretches (fu : Nat) : M Fl :=
 seqM (setM 0 (frzM (lstN (consA (ret .non) (consA (ret (.int 5)) (consA (ret (.str ("some" : Str))) (consA (newDicM) (consA (labM (lstN (consA (ret .non) (nilA)))) (consA (labM (lstN (consA (ret (.int 5)) (nilA)))) (consA (labM (lstN (consA (tupM (nilA)) (nilA)))) (consA (labM (lstN (consA (tupM (consA (tupM (consA (ret (.int 0)) (consA (ret (.int 1)) (nilA)))) (nilA))) (nilA)))) (consA (labM (lstN (consA (tupM (consA (tupM (consA (ret (.int 1)) (consA (ret (.int 2)) (nilA)))) (consA (tupM (consA (ret (.int 0)) (consA (ret (.int 1)) (nilA)))) (nilA)))) (nilA)))) (consA (labM (lstN (consA (tupM (consA (tupM (consA (ret (.int 0)) (consA (ret (.int 1)) (nilA)))) (consA (tupM (consA (ret (.int 3)) (consA (ret (.int 2)) (nilA)))) (nilA)))) (nilA)))) (consA (labM (lstN (consA (tupM (consA (tupM (consA (ret (.int 0)) (consA (ret (.int 1)) (nilA)))) (consA (tupM (consA (ret (.int 2)) (consA (ret (.int 4)) (nilA)))) (nilA)))) (nilA)))) (consA (labM (lstN (consA (tupM (consA (tupM (consA (un1 negF (ret (.int 1))) (consA (ret (.int 1)) (nilA)))) (consA (tupM (consA (ret (.int 1)) (consA (ret (.int 1)) (nilA)))) (nilA)))) (nilA)))) (nilA))))))))))))))))
 (retM (bin addF (getv 0) (frzM (lstN (consA (labM (lstN (consA (tupM (consA (tupM (consA (ret (.int 0)) (consA (ret (.int 1)) (nilA)))) (consA (tupM (consA (ret (.int 1)) (consA (ret (.int 1)) (nilA)))) (nilA)))) (consA (ret (.int 7)) (nilA))))) (consA (labM (lstN (consA (frzM (lstN (consA (tupM (consA (ret (.int 0)) (consA (ret (.int 1)) (nilA)))) (consA (tupM (consA (ret (.int 1)) (consA (ret (.int 1)) (nilA)))) (nilA))))) (nilA)))) (consA (labM (lstN (consA (tupM (consA (tupM (consA (ret (.int 0)) (consA (ret (.int 1)) (nilA)))) (consA (tupM (consA (ret (.int 1)) (consA (ret (.int 1)) (nilA)))) (consA (tupM (consA (ret (.int 1)) (consA (ret (.int 1)) (nilA)))) (nilA))))) (nilA)))) (consA (labM (lstN (consA (tupM (consA (tupM (consA (ret (.int 0)) (consA (ret (.bl true)) (nilA)))) (consA (tupM (consA (ret (.int 1)) (consA (ret (.int 1)) (nilA)))) (nilA)))) (nilA)))) (consA (labM (lstN (consA (tupM (consA (tupM (consA (ret (.int 0)) (consA (ret (.int 1)) (nilA)))) (consA (frzM (lstN (consA (ret (.int 1)) (consA (ret (.int 1)) (nilA))))) (nilA)))) (nilA)))) (consA (tupM (consA (tupM (consA (tupM (consA (ret (.int 1)) (consA (ret (.int 2)) (nilA)))) (consA (tupM (consA (ret (.int 0)) (consA (ret (.int 1)) (nilA)))) (nilA)))) (nilA))) (consA (ret (.bl true)) (nilA))))))))))))
def d_law_odd_stretches (fu : Nat) : Fn := runD 1 0 (m_law_odd_stretches fu)
def m_law_one_right (fu : Nat) : M Fl :=
 seqM (setM 3 (callM (d_law_union fu) (consA (getv 1) (nilA))))
 (seqM (setM 4 (frzM (un1N itemsS (peekv 1))))
 (seqM (setM 5 (callM (d_law_met fu) (consA (ret (.int 0)) (consA (frzM (lstN (consA (getv 1) (nilA)))) (consA (getv 2) (nilA))))))
 (seqM (ifM (orT (notT (tst (callM (d_law_same fu 12) (consA (getv 5) (consA (frzM (lstN (consA (ret (.str ("told" : Str))) (consA (getv 3) (nilA))))) (nilA)))))) (orT (notT (tst (callM (d_law_same fu 12) (consA (getv 1) (consA (getv 4) (nilA)))))) (notT (tst (callM (d_law_same fu 12) (consA (callM (d_law_met fu) (consA (ret (.int 0)) (consA (frzM (lstN (consA (un1 tupF (peekv 1)) (nilA)))) (consA (notV (getv 2)) (nilA))))) (consA (frzM (lstN (consA (ret (.str ("told" : Str))) (consA (getv 3) (nilA))))) (nilA))))))))
 (retM (ret (.bl false)))
 (ret .nx))
 (seqM (ifM (orT (notT (tst (callM (d_law_same fu 12) (consA (callM (d_law_met fu) (consA (ret (.int 0)) (consA (frzM (lstN (consA (callM (d_law_mixed fu) (consA (getv 0) (consA (getv 1) (nilA)))) (nilA)))) (consA (getv 2) (nilA))))) (consA (frzM (lstN (consA (ret (.str ("told" : Str))) (consA (getv 3) (nilA))))) (nilA)))))) (notT (tst (callM (d_law_same fu 12) (consA (callM (d_law_met fu) (consA (ret (.int 7)) (consA (frzM (lstN (consA (getv 3) (nilA)))) (consA (getv 2) (nilA))))) (consA (frzM (lstN (consA (ret (.str ("told" : Str))) (consA (ret (.bl true)) (nilA))))) (nilA)))))))
 (retM (ret (.bl false)))
 (ret .nx))
 (seqM (setM 6 (callM (d_law_sum fu) (consA (frzM (compM [12, 13] (seqW (getv 3)) (.tup [(.nm 12), (.nm 13)]) (ret true) (callM (d_law_minus fu) (consA (getv 13) (consA (getv 12) (nilA)))))) (nilA))))
 (seqM (ifM (notT (tst (callM (d_law_same fu 12) (consA (callM (d_law_met fu) (consA (ret (.int 1)) (consA (frzM (lstN (consA (getv 3) (nilA)))) (consA (getv 2) (nilA))))) (consA (frzM (lstN (consA (ret (.str ("told" : Str))) (consA (getv 6) (nilA))))) (nilA))))))
 (retM (ret (.bl false)))
 (ret .nx))
 (seqM (setM 7 (bin addF (callM (d_law_marks fu) (consA (frzM (lstN (consA (getv 3) (nilA)))) (nilA))) (frzM (lstN (consA (callM (d_law_spot fu) (consA (getv 0) (consA (ret (.int 24)) (nilA)))) (consA (callM (d_law_spot fu) (consA (getv 0) (consA (ret (.int 30)) (nilA)))) (nilA)))))))
 (seqM (forM (seqI (getv 7)) (setv 8)
 (seqM (asgM (tupG 2 (consG (setv 9) (consG (setv 10) (nilG)))) (callM (d_law_split fu) (consA (getv 3) (consA (getv 8) (nilA)))))
 (seqM (setM 11 (callM (d_law_is_place_in fu) (consA (getv 3) (consA (getv 8) (nilA)))))
 (seqM (ifM (orT (notT (tst (callM (d_law_same fu 12) (consA (callM (d_law_met fu) (consA (ret (.int 5)) (consA (frzM (lstN (consA (getv 3) (consA (getv 8) (nilA))))) (consA (getv 2) (nilA))))) (consA (frzM (lstN (consA (ret (.str ("told" : Str))) (consA (tupM (consA (getv 9) (consA (getv 10) (nilA)))) (nilA))))) (nilA)))))) (notT (tst (callM (d_law_same fu 12) (consA (callM (d_law_met fu) (consA (ret (.int 6)) (consA (frzM (lstN (consA (getv 3) (consA (getv 8) (nilA))))) (consA (notV (getv 2)) (nilA))))) (consA (frzM (lstN (consA (ret (.str ("told" : Str))) (consA (getv 11) (nilA))))) (nilA)))))))
 (retM (ret (.bl false)))
 (ret .nx))
 (seqM (ifM (orT (notT (tst (callM (d_law_same fu 12) (consA (callM (d_law_met fu) (consA (ret (.int 2)) (consA (frzM (lstN (consA (getv 9) (consA (getv 10) (nilA))))) (consA (getv 2) (nilA))))) (consA (frzM (lstN (consA (ret (.str ("told" : Str))) (consA (getv 3) (nilA))))) (nilA)))))) (notT (tst (callM (d_law_same fu 12) (consA (callM (d_law_met fu) (consA (ret (.int 3)) (consA (frzM (lstN (consA (getv 9) (consA (getv 10) (nilA))))) (consA (getv 2) (nilA))))) (consA (frzM (lstN (consA (ret (.str ("told" : Str))) (consA (tupM (nilA)) (nilA))))) (nilA)))))))
 (retM (ret (.bl false)))
 (ret .nx))
 (setM 2 (notV (getv 2))))))))
 (retM (ret (.bl true)))))))))))
def d_law_one_right (fu : Nat) : Fn := runD 14 3 (m_law_one_right fu)
def m_law_two_right (fu : Nat) : M Fl :=
 seqM (forM (seqI (tupM (consA (tupM (consA (ret (.int 2)) (consA (frzM (lstN (consA (frzM (lstN (consA (ret (.bl true)) (consA (ret (.bl true)) (nilA))))) (consA (frzM (lstN (consA (ret (.bl true)) (consA (ret (.bl false)) (nilA))))) (consA (frzM (lstN (consA (ret (.bl false)) (consA (ret (.bl true)) (nilA))))) (nilA)))))) (nilA)))) (consA (tupM (consA (ret (.int 3)) (consA (frzM (lstN (consA (frzM (lstN (consA (ret (.bl true)) (consA (ret (.bl true)) (nilA))))) (nilA)))) (nilA)))) (consA (tupM (consA (ret (.int 4)) (consA (frzM (lstN (consA (frzM (lstN (consA (ret (.bl true)) (consA (ret (.bl false)) (nilA))))) (nilA)))) (nilA)))) (nilA)))))) (tupG 2 (consG (setv 2) (consG (setv 3) (nilG))))
 (seqM (ifM (notT (tst (callM (d_law_same fu 12) (consA (callM (d_law_met fu) (consA (getv 2) (consA (getv 0) (consA (getv 1) (nilA))))) (consA (frzM (lstN (consA (ret (.str ("told" : Str))) (consA (callM (d_law_cells fu) (consA (getv 0) (consA (getv 3) (nilA)))) (nilA))))) (nilA))))))
 (retM (ret (.bl false)))
 (ret .nx))
 (ifM (notT (tst (callM (d_law_same fu 12) (consA (callM (d_law_met fu) (consA (getv 2) (consA (frzM (lstN (consA (bin ixA (getv 0) (ret (.int 0))) (consA (bin ixA (getv 0) (ret (.int 0))) (nilA))))) (consA (notV (getv 1)) (nilA))))) (consA (frzM (lstN (consA (ret (.str ("told" : Str))) (consA (ifE (tst (bin ltF (getv 2) (ret (.int 4)))) (bin ixA (getv 0) (ret (.int 0))) (tupM (nilA))) (nilA))))) (nilA))))))
 (retM (ret (.bl false)))
 (ret .nx))))
 (retM (andV (callM (d_law_same fu 12) (consA (callM (d_law_met fu) (consA (ret (.int 2)) (consA (frzM (lstN (consA (bin ixA (getv 0) (ret (.int 1))) (consA (tupM (nilA)) (nilA))))) (consA (getv 1) (nilA))))) (consA (frzM (lstN (consA (ret (.str ("told" : Str))) (consA (bin ixA (getv 0) (ret (.int 1))) (nilA))))) (nilA)))) (callM (d_law_same fu 12) (consA (callM (d_law_met fu) (consA (ret (.int 4)) (consA (frzM (lstN (consA (tupM (nilA)) (consA (bin ixA (getv 0) (ret (.int 1))) (nilA))))) (consA (getv 1) (nilA))))) (consA (frzM (lstN (consA (ret (.str ("told" : Str))) (consA (tupM (nilA)) (nilA))))) (nilA))))))
def d_law_two_right (fu : Nat) : Fn := runD 4 2 (m_law_two_right fu)
def m_law_refused (fu : Nat) : M Fl :=
 seqM (forM (seqI (callM (d_law_odd_pieces fu) (consA (getv 1) (nilA)))) (setv 3)
 (seqM (ifM (notT (tst (callM (d_law_same fu 12) (consA (callM (d_law_met fu) (consA (ret (.int 7)) (consA (frzM (lstN (consA (getv 3) (nilA)))) (consA (getv 2) (nilA))))) (consA (frzM (lstN (consA (ret (.str ("told" : Str))) (consA (ret (.bl false)) (nilA))))) (nilA))))))
 (retM (ret (.bl false)))
 (ret .nx))
 (seqM (parM [4, 5] (valR (callM (d_law_pick fu) (consA (getv 0) (consA (frzM (lstN (consA (getv 1) (consA (tupM (nilA)) (consA (ret (.int 5)) (consA (ret .non) (consA (tupM (consA (ret (.int 7)) (nilA))) (nilA)))))))) (nilA)))) (valR (bin addF (ret (.int 1)) (callM (d_law_take fu) (consA (getv 0) (consA (ret (.int 6)) (nilA))))) (nilR))))
 (seqM (ifM (notT (tst (callM (d_law_blamed fu) (consA (callM (d_law_met fu) (consA (getv 5) (consA (frzM (lstN (consA (getv 3) (consA (getv 4) (nilA))))) (consA (getv 2) (nilA))))) (consA (ret (.str ("piece" : Str))) (consA (getv 3) (nilA)))))))
 (retM (ret (.bl false)))
 (ret .nx))
 (setM 2 (notV (getv 2)))))))
 (seqM (forM (seqI (callM (d_law_odd_stretches fu) nilA)) (setv 3)
 (ifM (notT (tst (callM (d_law_blamed fu) (consA (callM (d_law_met fu) (consA (ret (.int 0)) (consA (frzM (lstN (consA (getv 3) (nilA)))) (consA (getv 2) (nilA))))) (consA (ret (.str ("stretches" : Str))) (consA (getv 3) (nilA)))))))
 (retM (ret (.bl false)))
 (ret .nx)))
 (seqM (forM (seqI (frzM (lstN (consA (ret .non) (consA (ret (.int 5)) (consA (ret (.str ("x" : Str))) (consA (tupM (consA (ret (.int 2)) (consA (ret (.int 1)) (nilA)))) (consA (tupM (consA (un1 negF (ret (.int 1))) (consA (ret (.int 2)) (nilA)))) (consA (tupM (consA (ret (.int 2)) (consA (ret (.int 4)) (nilA)))) (consA (labM (lstN (consA (ret (.int 0)) (consA (ret (.int 1)) (nilA))))) (consA (tupM (consA (ret (.int 0)) (consA (ret (.int 1)) (consA (ret (.int 1)) (nilA))))) (consA (tupM (consA (ret (.bl true)) (consA (ret (.int 1)) (nilA)))) (consA (tupM (consA (ret (.int 1)) (nilA))) (consA (newDicM) (nilA))))))))))))))) (setv 3)
 (seqM (ifM (notT (tst (callM (d_law_blamed fu) (consA (callM (d_law_met fu) (consA (ret (.int 5)) (consA (frzM (lstN (consA (getv 1) (consA (getv 3) (nilA))))) (consA (getv 2) (nilA))))) (consA (ret (.str ("place" : Str))) (consA (getv 3) (nilA)))))))
 (retM (ret (.bl false)))
 (ret .nx))
 (ifM (notT (tst (callM (d_law_same fu 12) (consA (callM (d_law_met fu) (consA (ret (.int 6)) (consA (frzM (lstN (consA (getv 1) (consA (getv 3) (nilA))))) (consA (getv 2) (nilA))))) (consA (frzM (lstN (consA (ret (.str ("told" : Str))) (consA (ret (.bl false)) (nilA))))) (nilA))))))
 (retM (ret (.bl false)))
 (ret .nx))))
 (seqM (forM (seqI (frzM (lstN (consA (ret .non) (consA (ret (.int 5)) (consA (labM (lstN (nilA))) (consA (tupM (consA (ret .non) (nilA))) (consA (tupM (consA (tupM (consA (tupM (consA (ret (.int 1)) (consA (ret (.int 2)) (nilA)))) (consA (tupM (consA (ret (.int 1)) (consA (ret (.int 2)) (nilA)))) (nilA)))) (nilA))) (nilA))))))))) (setv 3)
 (ifM (notT (tst (callM (d_law_blamed fu) (consA (callM (d_law_met fu) (consA (bin addF (ret (.int 2)) (callM (d_law_take fu) (consA (getv 0) (consA (ret (.int 3)) (nilA))))) (consA (frzM (lstN (consA (getv 1) (consA (getv 3) (nilA))))) (consA (getv 2) (nilA))))) (consA (ret (.str ("piece" : Str))) (consA (getv 3) (nilA)))))))
 (retM (ret (.bl false)))
 (ret .nx)))
 (retM (ret (.bl true))))))
def d_law_refused (fu : Nat) : Fn := runD 6 3 (m_law_refused fu)
def m_law (fu : Nat) : M Fl :=
 seqM (forM (rng1 (bin maxF (ret (.int 2)) (bin minF (ret (.int 3)) (un1 lenF (peekv 0))))) (setv 1)
 (seqM (setM 2 (callM (d_law_box fu) (consA (callM (d_law_cell fu) (consA (getv 0) (consA (getv 1) (nilA)))) (nilA))))
 (seqM (setM 3 (bin eqF (callM (d_law_take fu) (consA (getv 2) (consA (ret (.int 2)) (nilA)))) (ret (.int 0))))
 (seqM (setM 4 (frzM (compM [9] (noW (rng1 (ret (.int 3)))) (.nm 9) (ret true) (callM (d_law_stretches fu) (consA (getv 2) (consA (callM (d_law_take fu) (consA (getv 2) (consA (ret (.int 7)) (nilA)))) (nilA)))))))
 (seqM (setM 5 (frzM (compM [6] (seqW (getv 4)) (.nm 6) (ret true) (callM (d_law_union fu) (consA (getv 6) (nilA))))))
 (seqM (forM (seqI (getv 4)) (setv 6)
 (ifM (notT (tst (callM (d_law_one_right fu) (consA (getv 2) (consA (getv 6) (consA (getv 3) (nilA)))))))
 (retM (ret (.bl false)))
 (ret .nx)))
 (seqM (forM (seqI (tupM (consA (tupM (consA (ret (.int 0)) (consA (ret (.int 1)) (nilA)))) (consA (tupM (consA (ret (.int 1)) (consA (ret (.int 2)) (nilA)))) (consA (tupM (consA (ret (.int 2)) (consA (ret (.int 0)) (nilA)))) (consA (tupM (consA (ret (.int 1)) (consA (ret (.int 0)) (nilA)))) (nilA))))))) (tupG 2 (consG (setv 7) (consG (setv 8) (nilG))))
 (ifM (notT (tst (callM (d_law_two_right fu) (consA (frzM (lstN (consA (bin ixA (getv 5) (peekv 7)) (consA (bin ixA (getv 5) (peekv 8)) (nilA))))) (consA (getv 3) (nilA))))))
 (retM (ret (.bl false)))
 (ret .nx)))
 (ifM (notT (tst (callM (d_law_refused fu) (consA (getv 2) (consA (bin ixA (getv 5) (ret (.int 0))) (consA (getv 3) (nilA)))))))
 (retM (ret (.bl false)))
 (ret .nx)))))))))
 (retM (ret (.bl true)))
def d_law (fu : Nat) : Fn := runD 10 1 (m_law fu)
end DL
end

section
set_option Elab.async false
set_option linter.all false
set_option maxRecDepth 100000
set_option maxHeartbeats 4000000
/-! k06, the plain side, part a: fractions, places. -/
namespace DL
open PySem PySem.Spec L2

abbrev Q := Int × Int
def frD (p : Q) : D := .tup [.int p.1, .int p.2]
@[simp] theorem fr0 {p : Q} {st : SS} : ixA st (frD p) (.int 0) = some (.int p.1) := s_ix0t
@[simp] theorem fr1 {p : Q} {st : SS} : ixA st (frD p) (.int 1) = some (.int p.2) := s_ix1t
/-- all denominators divide this -/
def LL : Int := 120 * (10 ^ 18 + 9)
/-- a place -/
structure Pl (p : Q) : Prop where
  dp : 0 < p.2
  dv : p.2 ∣ LL
  lo : 0 ≤ p.1
  hi : p.1 ≤ p.2
  co : Nat.gcd p.1.natAbs p.2.natAbs = 1
theorem Pl.le {p : Q} (h : Pl p) : p.2 ≤ LL := Int.le_of_dvd (by decide) h.dv
theorem Pl.s2 {p : Q} (h : Pl p) : Sz 70 p.2 := by
  have h1 := h.le
  have h2 := h.dp
  have e : LL = 120000000000000001080 := by decide
  unfold Sz
  have e2 : (2 : Nat) ^ 70 = 1180591620717411303424 := by decide
  omega
theorem Pl.s1 {p : Q} (h : Pl p) : Sz 70 p.1 := by
  have h1 := h.le
  have h2 := h.lo
  have h3 := h.hi
  have e : LL = 120000000000000001080 := by decide
  unfold Sz
  have e2 : (2 : Nat) ^ 70 = 1180591620717411303424 := by decide
  omega
/-- less, as the program asks it -/
def ltQ (a b : Q) : Bool := decide (a.1 * b.2 < b.1 * a.2)
/-- a place's worth on one scale -/
def vv (p : Q) : Int := p.1 * (LL / p.2)
theorem vv_mul {p : Q} (h : Pl p) : vv p * p.2 = p.1 * LL := by
  unfold vv
  rw [Int.mul_assoc, Int.ediv_mul_cancel h.dv]
theorem LLpos : (0 : Int) < LL := by decide
theorem lt_vv {a b : Q} (ha : Pl a) (hb : Pl b) : a.1 * b.2 < b.1 * a.2 ↔ vv a < vv b := by
  have e1 := vv_mul ha
  have e2 := vv_mul hb
  have p1 := ha.dp
  have p2 := hb.dp
  have key : (a.1 * b.2) * LL = (vv a) * (a.2 * b.2) := by
    rw [Int.mul_right_comm, ← e1, Int.mul_assoc]
  have key2 : (b.1 * a.2) * LL = (vv b) * (a.2 * b.2) := by
    rw [Int.mul_right_comm, ← e2, Int.mul_assoc, Int.mul_comm b.2 a.2]
  have pp : 0 < a.2 * b.2 := Int.mul_pos p1 p2
  constructor
  · intro h
    have h1 : (a.1 * b.2) * LL < (b.1 * a.2) * LL := Int.mul_lt_mul_of_pos_right h LLpos
    rw [key, key2] at h1
    exact Int.lt_of_mul_lt_mul_right h1 (Int.le_of_lt pp)
  · intro h
    have h1 : vv a * (a.2 * b.2) < vv b * (a.2 * b.2) := Int.mul_lt_mul_of_pos_right h pp
    rw [← key, ← key2] at h1
    exact Int.lt_of_mul_lt_mul_right h1 (Int.le_of_lt LLpos)
theorem ltQ_vv {a b : Q} (ha : Pl a) (hb : Pl b) : ltQ a b = decide (vv a < vv b) := by
  unfold ltQ
  rw [Bool.eq_iff_iff, decide_eq_true_iff, decide_eq_true_iff]
  exact lt_vv ha hb
theorem vv_inj {a b : Q} (ha : Pl a) (hb : Pl b) (h : vv a = vv b) : a = b := by
  have e1 := vv_mul ha
  have e2 := vv_mul hb
  have c : a.1 * b.2 = b.1 * a.2 := by
    have h1 : ¬ a.1 * b.2 < b.1 * a.2 := fun z => by
      have := (lt_vv ha hb).mp z
      omega
    have h2 : ¬ b.1 * a.2 < a.1 * b.2 := fun z => by
      have := (lt_vv hb ha).mp z
      omega
    omega
  have cn : a.1.natAbs * b.2.natAbs = b.1.natAbs * a.2.natAbs := by
    rw [← Int.natAbs_mul, ← Int.natAbs_mul, c]
  have d1 : a.2.natAbs ∣ b.2.natAbs := by
    have : a.2.natAbs ∣ a.1.natAbs * b.2.natAbs := ⟨b.1.natAbs, by rw [cn, Nat.mul_comm]⟩
    exact (Nat.Coprime.symm ha.co).dvd_of_dvd_mul_left this
  have d2 : b.2.natAbs ∣ a.2.natAbs := by
    have : b.2.natAbs ∣ b.1.natAbs * a.2.natAbs := ⟨a.1.natAbs, by rw [← cn, Nat.mul_comm]⟩
    exact (Nat.Coprime.symm hb.co).dvd_of_dvd_mul_left this
  have e := Nat.dvd_antisymm d1 d2
  have p1 := ha.dp
  have p2 := hb.dp
  have e2 : a.2 = b.2 := by omega
  have e1 : a.1 = b.1 := by
    rw [e2] at c
    exact Int.eq_of_mul_eq_mul_right (by omega) c
  exact Prod.ext e1 e2
end DL
end

section
set_option Elab.async false
set_option linter.all false
set_option maxRecDepth 100000
set_option maxHeartbeats 4000000
/-! k06, the plain side, part b: the small defs run. -/
namespace DL
open PySem PySem.Spec L2

theorem pl_bits {a b : Q} (ha : Pl a) (hb : Pl b) : bitsOk a.1 b.2 = true ∧ bitsOk b.1 a.2 = true := ⟨bits_of ha.s1 hb.s2 (by decide), bits_of hb.s1 ha.s2 (by decide)⟩
section
variable {fu : Nat} {st : SS} {a b : Q} {d : D}
@[simp] theorem e_less (ha : Pl a) (hb : Pl b) : d_law_less fu [frD a, frD b] st = some (.ret (.bl (ltQ a b)) st) := by
  obtain ⟨h1, h2⟩ := pl_bits ha hb
  refine run_ret rfl (fr := [.val (frD a), .val (frD b)]) ?_
  simp [m_law_less, retM, bnd, bin, getv, ret, op2, h1, h2, ltQ]
/-- as order_of tells -/
def cmpQ (a b : Q) : Int := (if ltQ b a then 1 else 0) - (if ltQ a b then 1 else 0)
@[simp] theorem e_order (ha : Pl a) (hb : Pl b) : d_order_of fu [frD a, frD b] st = some (.ret (.int (cmpQ a b)) st) := by
  obtain ⟨h1, h2⟩ := pl_bits ha hb
  simp [d_order_of, runD, m_order_of, retM, seqM, parM, valR, nilR, asgR, setv, peekv, un1, intF, bnd, bin, getv, ret, op2, h1, h2, cmpQ, ltQ]
theorem cmp_neg (ha : Pl a) (hb : Pl b) : decide (cmpQ a b < 0) = ltQ a b := by
  unfold cmpQ
  rw [ltQ_vv ha hb, ltQ_vv hb ha]
  by_cases h : vv a < vv b
  · have h2 : ¬ vv b < vv a := by omega
    simp [h, h2]
  · by_cases h2 : vv b < vv a
    · simp [h, h2]
    · simp [h, h2]
theorem cmp_pos (ha : Pl a) (hb : Pl b) : decide (0 < cmpQ a b) = ltQ b a := by
  unfold cmpQ
  rw [ltQ_vv ha hb, ltQ_vv hb ha]
  by_cases h : vv a < vv b
  · have h2 : ¬ vv b < vv a := by omega
    simp [h, h2]
  · by_cases h2 : vv b < vv a
    · simp [h, h2]
    · simp [h, h2]
theorem cmp_le (ha : Pl a) (hb : Pl b) : decide (cmpQ a b ≤ 0) = !ltQ b a := by
  rw [← cmp_pos ha hb]
  by_cases h : cmpQ a b ≤ 0
  · have : ¬ 0 < cmpQ a b := by omega
    simp [h, this]
  · have : 0 < cmpQ a b := by omega
    simp [h, this]
@[simp] theorem e_int {i : Int} : d_is_integer fu [.int i] st = some (.ret (.bl true) st) := by
  simp [d_is_integer, runD, m_is_integer, retM, andV, notV, bnd, un1, isiF, kindOf, isK, getv, ret]
@[simp] theorem e_bl {i : Bool} : d_is_integer fu [.bl i] st = some (.ret (.bl false) st) := by
  simp [d_is_integer, runD, m_is_integer, retM, andV, notV, bnd, un1, isiF, kindOf, isK, getv, ret]
theorem tuple_of {l : List D} {n : Nat} : d_is_tuple_of fu [.tup l, .int n] st = some (.ret (.bl (decide ((l.length : Int) = n))) st) := by
  simp [d_is_tuple_of, runD, m_is_tuple_of, retM, andV, notV, bnd, un1, isiF, kindOf, isK, getv, ret, bin, op2, lenF, itemsS, peekv]
@[simp] theorem e_tuple2 {x y : D} : d_is_tuple_of fu [.tup [x, y], .int 2] st = some (.ret (.bl true) st) := by
  have := tuple_of (fu := fu) (st := st) (l := [x, y]) (n := 2)
  simpa using this
theorem gcd_one (h : Pl a) : ((Nat.gcd a.1.natAbs a.2.natAbs : Nat) : Int) = 1 := by rw [h.co]; rfl
@[simp] theorem e_fraction (h : Pl a) : d_is_fraction fu [frD a] st = some (.ret (.bl true) st) := by
  have h1 := h.dp
  have h2 := gcd_one h
  simp [frD, d_is_fraction, runD, m_is_fraction, retM, seqM, ifM, orT, notT, tst, opt, callM, consA, nilA, andV, notV, bnd, un1, getv, ret, bin, op2, gcdF, intOp, h1, h.co]
@[simp] theorem e_place (h : Pl a) : d_is_place fu [frD a] st = some (.ret (.bl true) st) := by
  have h1 := h.lo
  have h2 := h.hi
  simp [h, d_is_place, runD, m_is_place, retM, callM, consA, nilA, andV, notV, bnd, un1, getv, ret, bin, op2, chn, h1, h2]
@[simp] theorem e_chkplace (h : Pl a) : d_check_place fu [frD a] st = some (.ret .non st) := by
  simp [h, d_check_place, runD, m_check_place, ifM, notT, tst, opt, callM, consA, nilA, bnd, getv, ret]
def prD (p : Q × Q) : D := .tup [frD p.1, frD p.2]
@[simp] theorem e_pair {p : Q × Q} (h : Pl p.1) (h2 : Pl p.2) : d_is_pair fu [prD p] st = some (.ret (.bl true) st) := by
  simp [h, h2, prD, d_is_pair, runD, m_is_pair, retM, callM, consA, nilA, andV, notV, bnd, un1, getv, ret, bin, op2]
/-- the less of two -/
def minQ (a b : Q) : Q := if ltQ b a then b else a
def maxQ (a b : Q) : Q := if ltQ a b then b else a
end
end DL
end

section
set_option Elab.async false
set_option linter.all false
set_option maxRecDepth 100000
set_option maxHeartbeats 4000000
/-! k06, the plain side, part c: least, greatest, rises, is_piece. -/
namespace DL
open PySem PySem.Spec L2
section
variable {fu : Nat} {st : SS} {a b : Q} {d : D}
theorem lt0_iff (ha : Pl a) (hb : Pl b) : (cmpQ a b < 0) = (ltQ a b = true) := by
  have := cmp_neg ha hb
  by_cases h : cmpQ a b < 0
  · rw [decide_eq_true h] at this
    rw [← this]
    simp [h]
  · rw [decide_eq_false h] at this
    rw [← this]
    simp [h]
theorem gt0_iff (ha : Pl a) (hb : Pl b) : (0 < cmpQ a b) = (ltQ b a = true) := by
  have := cmp_pos ha hb
  by_cases h : 0 < cmpQ a b
  · rw [decide_eq_true h] at this
    rw [← this]
    simp [h]
  · rw [decide_eq_false h] at this
    rw [← this]
    simp [h]
theorem ltQ_self : ltQ a a = false := by simp [ltQ]
theorem e_least1 (ha : Pl a) : d_least_of fu [.lst [frD a]] st = some (.ret (frD a) st) := by
  simp [ha, d_least_of, runD, m_least_of, retM, seqM, setM, setv, forM, mFor, forB, seqI, items?, opt, ifE, tst, callM, consA, nilA, bnd, getv, ret, bin, op2, lt0_iff ha ha, ltQ_self]
theorem e_least2 (ha : Pl a) (hb : Pl b) : d_least_of fu [.lst [frD a, frD b]] st = some (.ret (frD (minQ a b)) st) := by
  cases h : ltQ b a <;> simp [h, ha, hb, minQ, d_least_of, runD, m_least_of, retM, seqM, setM, setv, forM, mFor, forB, seqI, items?, opt, ifE, tst, callM, consA, nilA, bnd, getv, ret, bin, op2, lt0_iff, ltQ_self]
theorem e_great2 (ha : Pl a) (hb : Pl b) : d_greatest_of fu [.lst [frD a, frD b]] st = some (.ret (frD (maxQ a b)) st) := by
  cases h : ltQ a b <;> simp [h, ha, hb, maxQ, d_greatest_of, runD, m_greatest_of, retM, seqM, setM, setv, forM, mFor, forB, seqI, items?, opt, ifE, tst, callM, consA, nilA, bnd, getv, ret, bin, op2, gt0_iff, ltQ_self]
/-- each below the next -/
def incQ : List Q → Bool
  | [] => true
  | [_] => true
  | a :: b :: r => ltQ a b && incQ (b :: r)
theorem boolsD_map {α : Type} (f : α → Bool) : ∀ l : List α, boolsD (l.map fun x => .bl (f x)) = some (l.map f)
  | [] => rfl
  | x :: xs => by simp [boolsD, boolsD_map f xs]
theorem inc_range : ∀ l : List Q, ((List.range (l.length - 1)).map fun i => ltQ (l.getD i (0, 1)) (l.getD (i + 1) (0, 1))).all _root_.id = incQ l
  | [] => rfl
  | [_] => rfl
  | a :: b :: r => by
    have ih := inc_range (b :: r)
    show ((List.range (r.length + 1)).map _).all _root_.id = _
    rw [List.range_succ_eq_map, List.map_cons, List.all_cons, List.map_map]
    unfold incQ
    rw [← ih]
    rfl
theorem e_rises {l : List Q} (h : ∀ p ∈ l, Pl p) (hl : l.length ≤ 1000000) : d_rises fu [.lst (l.map frD)] st = some (.ret (.bl (incQ l)) st) := by
  refine run_ret rfl (fr := [.val (.lst (l.map frD)), .none]) ?_
  show retM _ [.val (.lst (l.map frD)), .none] st = _
  refine ret_eq (un1_eq (d := .lst ((List.range (l.length - 1)).map fun i => .bl (ltQ (l.getD i (0, 1)) (l.getD (i + 1) (0, 1))))) (frz_eq ?_) ?_)
  · have key : noW (rng2 (ret (.int 1)) (un1 lenF (peekv 0))) [.val (.lst (l.map frD)), .none] st = some (.ok ((List.range (l.length - 1)).map (fun i : Nat => D.int (1 + (i : Int))), .no) [.val (.lst (l.map frD)), .none] st) := by
      refine noW_eq ?_
      have h0 : un1 lenF (peekv 0) [.val (.lst (l.map frD)), .none] st = some (.ok (.int (l.length : Int)) [.val (.lst (l.map frD)), .none] st) := un1_eq (peek_eq rfl) (by simp [lenF, itemsS])
      rw [rng2_eq (i := 1) rfl h0 (by decide) (inRange_of (by omega) (by omega))]
      have h3 : ((l.length : Int) - 1).toNat = l.length - 1 := by omega
      rw [h3]
      rfl
    have hc := compM_pure (f := fun i : Nat => D.int (1 + (i : Int))) (vs := [1]) (g := .nm 1) (t := ret true) (e := bin ltF (callM (d_order_of fu) (consA (bin ixA (getv 0) (bin subF (getv 1) (ret (.int 1)))) (consA (bin ixA (getv 0) (peekv 1)) (nilA)))) (ret (.int 0)))
      (p := fun _ => true) (q := fun i => .bl (ltQ (l.getD i (0, 1)) (l.getD (i + 1) (0, 1)))) key rfl (fun i hi => ?_) (by simp; omega)
    · rw [List.filter_eq_self.mpr (fun _ _ => rfl)] at hc
      exact hc
    · have hi2 : i + 1 < l.length := by
        have := List.mem_range.mp hi
        omega
      have a1 : (l.map frD)[i]? = some (frD (l.getD i (0, 1))) := by
        rw [List.getElem?_map, List.getD_eq_getElem?_getD, List.getElem?_eq_getElem (by omega)]
        rfl
      have a2 : (l.map frD)[i + 1]? = some (frD (l.getD (i + 1) (0, 1))) := by
        rw [List.getElem?_map, List.getD_eq_getElem?_getD, List.getElem?_eq_getElem hi2]
        rfl
      have m1 : Pl (l.getD i (0, 1)) := h _ (by
        rw [List.getD_eq_getElem?_getD, List.getElem?_eq_getElem (by omega)]
        exact List.getElem_mem _)
      have m2 : Pl (l.getD (i + 1) (0, 1)) := h _ (by
        rw [List.getD_eq_getElem?_getD, List.getElem?_eq_getElem hi2]
        exact List.getElem_mem _)
      have e1 : (1 + (i : Int)) - 1 = (i : Int) := by omega
      have e2 : (1 + (i : Int)) = ((i + 1 : Nat) : Int) := by omega
      refine ⟨[.val (.lst (l.map frD)), .val (.int (1 + (i : Int)))], _, rfl, rfl, (fun z => by cases z), fun _ => ⟨[.val (.lst (l.map frD)), .val (.int (1 + (i : Int)))], ?_, rfl⟩⟩
      refine bin_eq (call_eq (cons_eq (bin_eq (get_eq rfl) (bin_eq (get_eq rfl) rfl s_sub) (by rw [e1]; exact ix_nat i (.inr rfl) a1)) (cons_eq (bin_eq (get_eq rfl) (peek_eq rfl) (by rw [e2]; exact ix_nat (i + 1) (.inr rfl) a2)) nil_eq)) (e_order m1 m2)) rfl ?_
      rw [s_lt, cmp_neg m1 m2]
  · rw [← inc_range]
    simp only [allF, boolsD_map]
end
end DL
end

section
set_option Elab.async false
set_option linter.all false
set_option maxRecDepth 100000
set_option maxHeartbeats 4000000
/-! k06, the plain side, part d: is_piece. -/
namespace DL
open PySem PySem.Spec L2
abbrev P2 := Q × Q
def pcD (l : List P2) : D := .tup (l.map prD)
/-- the ends of its stretches, one after another -/
def flatQ (l : List P2) : List Q := l.flatMap fun p => [p.1, p.2]
def PlP (l : List P2) : Prop := ∀ p ∈ l, Pl p.1 ∧ Pl p.2
theorem PlP.flat {l : List P2} (h : PlP l) : ∀ q ∈ flatQ l, Pl q := fun q hq => by
  obtain ⟨p, hp, m⟩ := List.mem_flatMap.mp hq
  rcases List.mem_cons.mp m with rfl | m
  · exact (h p hp).1
  · rw [List.mem_singleton.mp m]; exact (h p hp).2
theorem flat_len (l : List P2) : (flatQ l).length = 2 * l.length := by
  induction l with
  | nil => rfl
  | cons p l ih =>
    show ([p.1, p.2] ++ flatQ l).length = _
    rw [List.length_append, ih]
    simp
    omega
theorem flat_map (l : List P2) : (l.flatMap fun p => [frD p.1, frD p.2]) = (flatQ l).map frD := by
  unfold flatQ
  rw [List.map_flatMap]
  rfl
section
variable {fu : Nat} {st : SS} {l : List P2}
/-- [place for pair in .. for place in pair]: fa, fb are the frames within -/
theorem flat_run {fr : Fr} {i j k : Nat} (fa : D → Fr) (fb : D → D → Fr) (hl : l.length ≤ 100000) (h0 : getv i fr st = some (.ok (pcD l) fr st)) (hw : wipeF fr [j, k] = fr) (hr : restF fr fr [j, k] = fr)
    (ha : ∀ d, stT (.nm j) d fr = some (fa d)) (hb : ∀ d, getv j (fa d) st = some (.ok d (fa d) st)) (hc : ∀ d, wipeF (fa d) [k] = fa d) (hd : ∀ d e, stT (.nm k) e (fa d) = some (fb d e)) (he : ∀ d e, getv k (fb d e) st = some (.ok e (fb d e) st))
    (hf : ∀ d e, wipeF (fb d e) [k] = fa d) (hg : ∀ d, wipeF (fa d) [j, k] = fr) :
    compM2 [j, k] (seqW (getv i)) (.nm j) (ret true) [k] (seqW (getv j)) (.nm k) (ret true) (getv k) fr st = some (.ok ((flatQ l).map frD) fr st) := by
  have h1 : seqW (getv i) fr st = some (.ok (l.map prD, .no) fr st) := seqW_eq h0 (.inl rfl)
  have h2 := compM2_pure (f := prD) (vs := [j, k]) (vs1 := [k]) (g := .nm j) (g1 := .nm k) (t := ret true) (t1 := ret true) (mi1 := seqW (getv j)) (e := getv k) (out := fun p : P2 => [frD p.1, frD p.2]) h1 rfl (fun p hp => ?_) (by rw [flat_map, List.length_map, flat_len]; omega)
  · rw [flat_map, hw, hr] at h2
    exact h2
  · rw [hw]
    refine ⟨_, _, _, fa (prD p), [frD p.1, frD p.2], .no, ha _, rfl, seqW_eq (hb _) (.inl rfl), fun acc hacc => ?_, hg _⟩
    rw [hc]
    have h3 := cLoop_pure (f := _root_.id) (vs := [k]) (g := .nm k) (t := ret true) (e := getv k) (st := st) (fw := fa (prD p)) (p := fun _ => true) (q := _root_.id) (w := .no) (all := [frD p.1, frD p.2]) rfl [frD p.1, frD p.2] acc (fun d _ => ⟨fb (prD p) d, fb (prD p) d, hd _ _, rfl, (fun z => by cases z), fun _ => ⟨fb (prD p) d, he _ _, hf _ _⟩⟩) hacc
    rw [List.filter_eq_self.mpr (fun _ _ => rfl), List.map_id] at h3
    exact h3
theorem all_true {α : Type} (l : List α) : (l.map fun _ => true).all _root_.id = true := by
  induction l with
  | nil => rfl
  | cons a l ih => simpa using ih
/-- is_piece, of a tuple of pairs of places -/
theorem e_ispiece (h : PlP l) (hl : l.length ≤ 100000) : d_is_piece fu [pcD l] st = some (.ret (.bl (incQ (flatQ l))) st) := by
  have a1 : compM [3] (seqW (getv 0)) (.nm 3) (ret true) (callM (d_is_pair fu) (consA (getv 3) nilA)) [.val (pcD l), .none, .none, .none] st = some (.ok (l.map fun _ => .bl true) [.val (pcD l), .none, .none, .none] st) := by
    have h1 : seqW (getv 0) [.val (pcD l), .none, .none, .none] st = some (.ok (l.map prD, .no) [.val (pcD l), .none, .none, .none] st) := seqW_eq (get_eq rfl) (.inl rfl)
    have h2 := compM_pure (f := prD) (vs := [3]) (g := .nm 3) (t := ret true) (e := callM (d_is_pair fu) (consA (getv 3) nilA)) (p := fun _ => true) (q := fun _ => .bl true) h1 rfl (fun p hp => ⟨[.val (pcD l), .none, .none, .val (prD p)], _, rfl, rfl, (fun z => by cases z), fun _ => ⟨_, call_eq (cons_eq (get_eq rfl) nil_eq) (e_pair (h p hp).1 (h p hp).2), rfl⟩⟩) (by omega)
    rw [List.filter_eq_self.mpr (fun _ _ => rfl)] at h2
    exact h2
  have a2 : compM2 [1, 2] (seqW (getv 0)) (.nm 1) (ret true) [2] (seqW (getv 1)) (.nm 2) (ret true) (getv 2) [.val (pcD l), .none, .none, .none] st = some (.ok ((flatQ l).map frD) [.val (pcD l), .none, .none, .none] st) :=
    flat_run (fun d => [.val (pcD l), .val d, .none, .none]) (fun d e => [.val (pcD l), .val d, .val e, .none]) hl (get_eq rfl) rfl rfl (fun _ => rfl) (fun _ => get_eq rfl) (fun _ => rfl) (fun _ _ => rfl) (fun _ _ => get_eq rfl) (fun _ _ => rfl) (fun _ => rfl)
  refine run_ret rfl (fr := [.val (pcD l), .none, .none, .none]) ?_
  show m_is_piece fu [.val (pcD l), .none, .none, .none] st = _
  unfold m_is_piece
  rw [seq_eq (fr1 := [.val (pcD l), .none, .none, .none]) (st1 := st) ?_]
  · exact ret_eq (call_eq (cons_eq (frz_eq a2) nil_eq) (e_rises (h.flat) (by rw [flat_len]; omega)))
  · have t1 : tst (un1 (isiF [.tuple]) (getv 0)) [.val (pcD l), .none, .none, .none] st = some (.ok true [.val (pcD l), .none, .none, .none] st) := tst_eq (un1_eq (get_eq rfl) rfl)
    have t2 : tst (un1 allF (frzM (compM [3] (seqW (getv 0)) (.nm 3) (ret true) (callM (d_is_pair fu) (consA (getv 3) nilA))))) [.val (pcD l), .none, .none, .none] st = some (.ok true [.val (pcD l), .none, .none, .none] st) := by
      refine tst_eq (un1_eq (frz_eq a1) ?_)
      have := boolsD_map (fun _ : P2 => true) l
      simp only [allF, this, all_true]
    unfold ifM orT notT
    simp [bnd, t1, t2, ret]
theorem e_check (h : PlP l) (hl : l.length ≤ 100000) (hi : incQ (flatQ l) = true) : d_check_piece fu [pcD l] st = some (.ret .non st) := by
  refine run_nx rfl (fr := [.val (pcD l)]) ?_
  have t1 : tst (callM (d_is_piece fu) (consA (getv 0) nilA)) [.val (pcD l)] st = some (.ok true [.val (pcD l)] st) := tst_eq (call_eq (cons_eq (get_eq rfl) nil_eq) (by rw [← hi]; exact e_ispiece h hl))
  show m_check_piece fu [.val (pcD l)] st = _
  unfold m_check_piece ifM notT
  simp [bnd, t1, ret]
theorem e_checks {l' : List P2} (h : PlP l) (hl : l.length ≤ 100000) (hi : incQ (flatQ l) = true) (h' : PlP l') (hl' : l'.length ≤ 100000) (hi' : incQ (flatQ l') = true) : d_check_pieces fu [pcD l, pcD l'] st = some (.ret .non st) := by
  refine run_nx rfl (fr := [.val (pcD l), .val (pcD l')]) ?_
  show m_check_pieces fu [.val (pcD l), .val (pcD l')] st = _
  unfold m_check_pieces exprM
  rw [seq_eq (fr1 := [.val (pcD l), .val (pcD l')]) (st1 := st) (by rw [bnd_eq (call_eq (cons_eq (get_eq rfl) nil_eq) (e_check h hl hi))]; rfl), bnd_eq (call_eq (cons_eq (get_eq rfl) nil_eq) (e_check h' hl' hi'))]
  rfl
end
end DL
end

section
set_option Elab.async false
set_option linter.all false
set_option maxRecDepth 100000
set_option maxHeartbeats 4000000
/-! k06, the plain side, part e: two pieces combined, on ends. -/
namespace DL
open PySem PySem.Spec L2

/-- rising -/
abbrev Up (W : List Q) : Prop := W.Pairwise fun a b => vv a < vv b
/-- is x within, b at the start -/
def insQ : List Q → Bool → Int → Bool
  | [], b, _ => b
  | w :: W, b, x => insQ W (b ^^ decide (vv w ≤ x)) x
theorem ins_cons {w : Q} {W : List Q} {b : Bool} {x : Int} : insQ (w :: W) b x = insQ W (b ^^ decide (vv w ≤ x)) x := rfl
theorem ins_lt {x : Int} : ∀ {W : List Q} {b : Bool}, (∀ w ∈ W, x < vv w) → insQ W b x = b
  | [], _, _ => rfl
  | w :: W, b, h => by
    have h1 := h w List.mem_cons_self
    unfold insQ
    rw [decide_eq_false (by omega), Bool.xor_false]
    exact ins_lt fun u hu => h u (List.mem_cons_of_mem _ hu)
theorem ins_xor {x : Int} : ∀ {W : List Q} {b : Bool}, insQ W b x = (b ^^ insQ W false x)
  | [], b => by simp [insQ]
  | w :: W, b => by
    unfold insQ
    rw [ins_xor (W := W) (b := b ^^ decide (vv w ≤ x)), ins_xor (W := W) (b := false ^^ decide (vv w ≤ x))]
    cases b <;> cases decide (vv w ≤ x) <;> simp
/-- rising lists with the same inside are the same -/
theorem up_uniq : ∀ {W W' : List Q} {b : Bool}, Up W → Up W' → (∀ q ∈ W, Pl q) → (∀ q ∈ W', Pl q) → (∀ x, insQ W b x = insQ W' b x) → W = W'
  | [], [], _, _, _, _, _, _ => rfl
  | [], w :: W, b, _, h, _, p, e => by
    exfalso
    have e1 := e (vv w)
    unfold insQ at e1
    rw [decide_eq_true (Int.le_refl _), ins_lt fun u hu => (List.pairwise_cons.mp h).1 u hu] at e1
    cases b <;> simp at e1
  | w :: W, [], b, h, _, p, _, e => by
    exfalso
    have e1 := e (vv w)
    have e2 : insQ [] b (vv w) = b := rfl
    rw [e2] at e1
    unfold insQ at e1
    rw [decide_eq_true (Int.le_refl _), ins_lt fun u hu => (List.pairwise_cons.mp h).1 u hu] at e1
    cases b <;> simp at e1
  | w :: W, w' :: W', b, h, h', p, p', e => by
    obtain ⟨h1, h2⟩ := List.pairwise_cons.mp h
    obtain ⟨h1', h2'⟩ := List.pairwise_cons.mp h'
    have key : vv w = vv w' := by
      rcases Int.lt_trichotomy (vv w) (vv w') with z | z | z
      · exfalso
        have e1 := e (vv w)
        rw [ins_lt (W := w' :: W') (fun u hu => by
          rcases List.mem_cons.mp hu with rfl | hu
          · exact z
          · exact Int.lt_trans z (h1' u hu))] at e1
        unfold insQ at e1
        rw [decide_eq_true (Int.le_refl _), ins_lt fun u hu => h1 u hu] at e1
        cases b <;> simp at e1
      · exact z
      · exfalso
        have e1 := e (vv w')
        rw [ins_lt (W := w :: W) (fun u hu => by
          rcases List.mem_cons.mp hu with rfl | hu
          · exact z
          · exact Int.lt_trans z (h1 u hu))] at e1
        unfold insQ at e1
        rw [decide_eq_true (Int.le_refl _), ins_lt fun u hu => h1' u hu] at e1
        cases b <;> simp at e1
    have ew : w = w' := vv_inj (p w List.mem_cons_self) (p' w' List.mem_cons_self) key
    subst ew
    have rest : ∀ x, insQ W (!b) x = insQ W' (!b) x := fun x => by
      by_cases hx : vv w ≤ x
      · have e1 := e x
        unfold insQ at e1
        rw [decide_eq_true hx] at e1
        simpa using e1
      · rw [ins_lt fun u hu => by have := h1 u hu; omega, ins_lt fun u hu => by have := h1' u hu; omega]
    rw [up_uniq h2 h2' (fun q hq => p q (List.mem_cons_of_mem _ hq)) (fun q hq => p' q (List.mem_cons_of_mem _ hq)) rest]

def placeQ : List Q → List Q → Q
  | a :: _, b :: _ => minQ a b
  | a :: _, [] => a
  | [], b :: _ => b
  | [], [] => (0, 1)
def hitQ (p : Q) : List Q → Bool
  | a :: _ => decide (a = p)
  | [] => false
def advQ (p : Q) (E : List Q) : List Q := if hitQ p E then E.tail else E
def combP (k : Bool → Bool → Bool) : Nat → List Q → List Q → Bool → Bool → Option Q → List P2
  | 0, _, _, _, _, _ => []
  | n + 1, E, O, pa, pb, s => if E.isEmpty && O.isEmpty then [] else
    let p := placeQ E O
    let E' := advQ p E
    let O' := advQ p O
    let pa' := pa ^^ hitQ p E
    let pb' := pb ^^ hitQ p O
    match s, k pa' pb' with
    | none, true => combP k n E' O' pa' pb' (some p)
    | some s0, false => (s0, p) :: combP k n E' O' pa' pb' none
    | none, false => combP k n E' O' pa' pb' none
    | some s0, true => combP k n E' O' pa' pb' (some s0)
section
variable {E O : List Q} {p : Q} {x : Int} {pa : Bool}
theorem adv_len (h : hitQ p E = true) : (advQ p E).length + 1 = E.length := by
  unfold advQ
  rw [if_pos h]
  cases E with
  | nil => cases h
  | cons => rfl
theorem adv_no (h : hitQ p E = false) : advQ p E = E := by
  unfold advQ
  rw [if_neg (by rw [h]; exact Bool.false_ne_true)]
theorem adv_sub : ∀ q ∈ advQ p E, q ∈ E := fun q hq => by
  unfold advQ at hq
  split at hq
  · exact List.mem_of_mem_tail hq
  · exact hq
theorem adv_up (h : Up E) : Up (advQ p E) := by
  unfold advQ
  split
  · exact h.sublist (List.tail_sublist E)
  · exact h
/-- what is behind p is above it -/
theorem adv_gt (h : Up E) (hp : ∀ q ∈ E, vv p ≤ vv q) (pl : ∀ q ∈ E, Pl q) (pp : Pl p) : ∀ q ∈ advQ p E, vv p < vv q := fun q hq => by
  cases E with
  | nil => unfold advQ hitQ at hq; simp at hq
  | cons a E =>
    obtain ⟨h1, h2⟩ := List.pairwise_cons.mp h
    unfold advQ hitQ at hq
    by_cases e : a = p
    · rw [if_pos (decide_eq_true e)] at hq
      rw [← e]
      exact h1 q hq
    · rw [if_neg (by simpa using e)] at hq
      have ha := hp a List.mem_cons_self
      have ne : vv a ≠ vv p := fun z => e (vv_inj (pl a List.mem_cons_self) pp z)
      rcases List.mem_cons.mp hq with rfl | hq
      · omega
      · have := h1 q hq
        omega
theorem ins_adv (hx : vv p ≤ x) : insQ E pa x = insQ (advQ p E) (pa ^^ hitQ p E) x := by
  cases E with
  | nil => unfold advQ hitQ; simp
  | cons a E =>
    by_cases e : a = p
    · have h : hitQ p (a :: E) = true := decide_eq_true e
      unfold advQ
      rw [h, if_pos rfl]
      subst e
      rw [ins_cons, decide_eq_true hx]
      rfl
    · have h : hitQ p (a :: E) = false := decide_eq_false e
      unfold advQ
      rw [h, if_neg Bool.false_ne_true, Bool.xor_false]
theorem par_adv {l : Bool} (h : pa = decide (E.length % 2 = 1)) : (pa ^^ hitQ p E) = decide ((advQ p E).length % 2 = 1) := by
  cases hh : hitQ p E with
  | true =>
    have := adv_len hh
    rw [h]
    by_cases z : E.length % 2 = 1
    · rw [decide_eq_true z, decide_eq_false (by omega)]; rfl
    · rw [decide_eq_false z, decide_eq_true (by omega)]; rfl
  | false => rw [adv_no hh, h, Bool.xor_false]
theorem place_or (h : ¬ (E.isEmpty && O.isEmpty) = true) : placeQ E O ∈ E ∨ placeQ E O ∈ O := by
  cases E with
  | nil =>
    cases O with
    | nil => exact absurd rfl h
    | cons b O => exact .inr List.mem_cons_self
  | cons a E =>
    cases O with
    | nil => exact .inl List.mem_cons_self
    | cons b O =>
      show minQ a b ∈ _ ∨ minQ a b ∈ _
      unfold minQ
      split
      · exact .inr List.mem_cons_self
      · exact .inl List.mem_cons_self
theorem head_le {a : Q} (h : Up (a :: E)) : ∀ q ∈ a :: E, vv a ≤ vv q := fun q hq => by
  rcases List.mem_cons.mp hq with rfl | hq
  · exact Int.le_refl _
  · exact Int.le_of_lt ((List.pairwise_cons.mp h).1 q hq)
theorem place_le (hE : Up E) (hO : Up O) (pE : ∀ q ∈ E, Pl q) (pO : ∀ q ∈ O, Pl q) : (∀ q ∈ E, vv (placeQ E O) ≤ vv q) ∧ ∀ q ∈ O, vv (placeQ E O) ≤ vv q := by
  cases E with
  | nil =>
    cases O with
    | nil => exact ⟨(fun q hq => by cases hq), fun q hq => by cases hq⟩
    | cons b O => exact ⟨(fun q hq => by cases hq), head_le hO⟩
  | cons a E =>
    cases O with
    | nil => exact ⟨head_le hE, fun q hq => by cases hq⟩
    | cons b O =>
      have l1 := head_le hE
      have l2 := head_le hO
      have e := ltQ_vv (pO b List.mem_cons_self) (pE a List.mem_cons_self)
      show (∀ q ∈ a :: E, vv (minQ a b) ≤ vv q) ∧ ∀ q ∈ b :: O, vv (minQ a b) ≤ vv q
      unfold minQ
      rw [e]
      by_cases z : vv b < vv a
      · rw [if_pos (decide_eq_true z)]
        exact ⟨fun q hq => by have := l1 q hq; omega, l2⟩
      · rw [if_neg (by simpa using z)]
        exact ⟨l1, fun q hq => by have := l2 q hq; omega⟩
theorem place_hit (h : ¬ (E.isEmpty && O.isEmpty) = true) : hitQ (placeQ E O) E = true ∨ hitQ (placeQ E O) O = true := by
  cases E with
  | nil =>
    cases O with
    | nil => exact absurd rfl h
    | cons b O => exact .inr (decide_eq_true rfl)
  | cons a E =>
    cases O with
    | nil => exact .inl (decide_eq_true rfl)
    | cons b O =>
      show hitQ (minQ a b) (a :: E) = true ∨ hitQ (minQ a b) (b :: O) = true
      unfold minQ
      split
      · exact .inr (decide_eq_true rfl)
      · exact .inl (decide_eq_true rfl)
end
/-- what the sweep makes -/
def startOk (E O : List Q) : Option Q → Prop
  | none => True
  | some s => Pl s ∧ (∀ q ∈ E, vv s < vv q) ∧ ∀ q ∈ O, vv s < vv q
def fromS (s : Option Q) (x : Int) : Bool := match s with | none => true | some s => decide (vv s ≤ x)
theorem comb_spec {k : Bool → Bool → Bool} (k0 : k false false = false) : ∀ (n : Nat) (E O : List Q) (pa pb : Bool) (s : Option Q), E.length + O.length ≤ n → Up E → Up O → (∀ q ∈ E, Pl q) → (∀ q ∈ O, Pl q) → pa = decide (E.length % 2 = 1) → pb = decide (O.length % 2 = 1) →
    startOk E O s → k pa pb = s.isSome →
    Up (flatQ (combP k n E O pa pb s)) ∧ (∀ q ∈ flatQ (combP k n E O pa pb s), s = some q ∨ q ∈ E ∨ q ∈ O) ∧ ∀ x, insQ (flatQ (combP k n E O pa pb s)) false x = (fromS s x && k (insQ E pa x) (insQ O pb x))
  | 0, E, O, pa, pb, s, hn, _, _, _, _, ha, hb, _, hk => by
    have e1 : E = [] := List.eq_nil_of_length_eq_zero (by omega)
    have e2 : O = [] := List.eq_nil_of_length_eq_zero (by omega)
    subst e1 e2
    have a0 : pa = false := ha
    have b0 : pb = false := hb
    subst a0 b0
    refine ⟨(by unfold combP; exact List.Pairwise.nil), (fun q hq => by unfold combP at hq; cases hq), fun x => ?_⟩
    unfold combP
    show false = (_ && k false false)
    rw [k0, Bool.and_false]
  | n + 1, E, O, pa, pb, s, hn, uE, uO, pE, pO, ha, hb, hs, hk => by
    by_cases em : (E.isEmpty && O.isEmpty) = true
    · have e1 : E = [] := by simpa using (Bool.and_eq_true_iff.mp em).1
      have e2 : O = [] := by simpa using (Bool.and_eq_true_iff.mp em).2
      subst e1 e2
      have a0 : pa = false := ha
      have b0 : pb = false := hb
      subst a0 b0
      refine ⟨(by unfold combP; rw [if_pos em]; exact List.Pairwise.nil), (fun q hq => by unfold combP at hq; rw [if_pos em] at hq; cases hq), fun x => ?_⟩
      unfold combP
      rw [if_pos em]
      show false = (_ && k false false)
      rw [k0, Bool.and_false]
    · have hm := place_or em
      obtain ⟨le1, le2⟩ := place_le uE uO pE pO
      have hh := place_hit em
      generalize hp : placeQ E O = p at hm le1 le2 hh
      have pp : Pl p := by
        rcases hm with h | h
        · exact pE p h
        · exact pO p h
      have gE := adv_gt uE le1 pE pp
      have gO := adv_gt uO le2 pO pp
      have len : (advQ p E).length + (advQ p O).length ≤ n := by
        cases h1 : hitQ p E with
        | true =>
          have := adv_len h1
          cases h2 : hitQ p O with
          | true => have := adv_len h2; omega
          | false => rw [adv_no h2]; omega
        | false =>
          rcases hh with h | h
          · rw [h1] at h; cases h
          · have := adv_len h
            rw [adv_no h1]
            omega
      have pa' := par_adv (p := p) (l := true) ha
      have pb' := par_adv (p := p) (l := true) hb
      have inn : ∀ x, vv p ≤ x → insQ E pa x = insQ (advQ p E) (pa ^^ hitQ p E) x ∧ insQ O pb x = insQ (advQ p O) (pb ^^ hitQ p O) x := fun x hx => ⟨ins_adv hx, ins_adv hx⟩
      have out : ∀ x, x < vv p → insQ E pa x = pa ∧ insQ O pb x = pb ∧ insQ (advQ p E) (pa ^^ hitQ p E) x = (pa ^^ hitQ p E) ∧ insQ (advQ p O) (pb ^^ hitQ p O) x = (pb ^^ hitQ p O) := fun x hx =>
        ⟨ins_lt fun q hq => by have := le1 q hq; omega, ins_lt fun q hq => by have := le2 q hq; omega, ins_lt fun q hq => by have := gE q hq; omega, ins_lt fun q hq => by have := gO q hq; omega⟩
      have sub : ∀ q, q ∈ advQ p E ∨ q ∈ advQ p O → q ∈ E ∨ q ∈ O := fun q h => h.elim (fun h => .inl (adv_sub q h)) fun h => .inr (adv_sub q h)
      have ih := fun s' => comb_spec k0 n (advQ p E) (advQ p O) (pa ^^ hitQ p E) (pb ^^ hitQ p O) s' len (adv_up uE) (adv_up uO) (fun q hq => pE q (adv_sub q hq)) (fun q hq => pO q (adv_sub q hq)) pa' pb'
      cases s with
      | none =>
        have hk0 : k pa pb = false := hk
        cases hk' : k (pa ^^ hitQ p E) (pb ^^ hitQ p O) with
        | true =>
          have ec : combP k (n + 1) E O pa pb none = combP k n (advQ p E) (advQ p O) (pa ^^ hitQ p E) (pb ^^ hitQ p O) (some p) := by
            conv => lhs; unfold combP
            rw [if_neg em, hp]
            simp only [hk']
          obtain ⟨i1, i2, i3⟩ := ih (some p) ⟨pp, gE, gO⟩ hk'
          rw [ec]
          refine ⟨i1, fun q hq => ?_, fun x => ?_⟩
          · rcases i2 q hq with h | h
            · cases h
              exact .inr hm
            · exact .inr (sub q h)
          · rw [i3]
            by_cases hx : vv p ≤ x
            · obtain ⟨o1, o2⟩ := inn x hx
              rw [o1, o2]
              simp [fromS, hx]
            · obtain ⟨o1, o2, _⟩ := out x (by omega)
              rw [o1, o2, hk0]
              simp [fromS, hx]
        | false =>
          have ec : combP k (n + 1) E O pa pb none = combP k n (advQ p E) (advQ p O) (pa ^^ hitQ p E) (pb ^^ hitQ p O) none := by
            conv => lhs; unfold combP
            rw [if_neg em, hp]
            simp only [hk']
          obtain ⟨i1, i2, i3⟩ := ih none trivial hk'
          rw [ec]
          refine ⟨i1, fun q hq => ?_, fun x => ?_⟩
          · rcases i2 q hq with h | h
            · cases h
            · exact .inr (sub q h)
          · rw [i3]
            by_cases hx : vv p ≤ x
            · obtain ⟨o1, o2⟩ := inn x hx
              rw [o1, o2]
            · obtain ⟨o1, o2, o3, o4⟩ := out x (by omega)
              rw [o1, o2, o3, o4, hk0, hk']
      | some s0 =>
        obtain ⟨ps, sE, sO⟩ := hs
        have hk0 : k pa pb = true := hk
        have sp : vv s0 < vv p := by
          rcases hm with h | h
          · exact sE p h
          · exact sO p h
        cases hk' : k (pa ^^ hitQ p E) (pb ^^ hitQ p O) with
        | true =>
          have ec : combP k (n + 1) E O pa pb (some s0) = combP k n (advQ p E) (advQ p O) (pa ^^ hitQ p E) (pb ^^ hitQ p O) (some s0) := by
            conv => lhs; unfold combP
            rw [if_neg em, hp]
            simp only [hk']
          obtain ⟨i1, i2, i3⟩ := ih (some s0) ⟨ps, fun q hq => sE q (adv_sub q hq), fun q hq => sO q (adv_sub q hq)⟩ hk'
          rw [ec]
          refine ⟨i1, fun q hq => ?_, fun x => ?_⟩
          · rcases i2 q hq with h | h
            · exact .inl h
            · exact .inr (sub q h)
          · rw [i3]
            by_cases hx : vv p ≤ x
            · obtain ⟨o1, o2⟩ := inn x hx
              rw [o1, o2]
            · obtain ⟨o1, o2, o3, o4⟩ := out x (by omega)
              rw [o1, o2, o3, o4, hk0, hk']
        | false =>
          have ec : combP k (n + 1) E O pa pb (some s0) = (s0, p) :: combP k n (advQ p E) (advQ p O) (pa ^^ hitQ p E) (pb ^^ hitQ p O) none := by
            conv => lhs; unfold combP
            rw [if_neg em, hp]
            simp only [hk']
          obtain ⟨i1, i2, i3⟩ := ih none trivial hk'
          rw [ec]
          have ef : flatQ ((s0, p) :: combP k n (advQ p E) (advQ p O) (pa ^^ hitQ p E) (pb ^^ hitQ p O) none) = s0 :: p :: flatQ (combP k n (advQ p E) (advQ p O) (pa ^^ hitQ p E) (pb ^^ hitQ p O) none) := rfl
          have above : ∀ q ∈ flatQ (combP k n (advQ p E) (advQ p O) (pa ^^ hitQ p E) (pb ^^ hitQ p O) none), vv p < vv q := fun q hq => by
            rcases i2 q hq with h | h | h
            · cases h
            · exact gE q h
            · exact gO q h
          rw [ef]
          refine ⟨?_, fun q hq => ?_, fun x => ?_⟩
          · refine List.pairwise_cons.mpr ⟨fun q hq => ?_, List.pairwise_cons.mpr ⟨above, i1⟩⟩
            rcases List.mem_cons.mp hq with rfl | hq
            · exact sp
            · exact Int.lt_trans sp (above q hq)
          · rcases List.mem_cons.mp hq with rfl | hq
            · exact .inl rfl
            · rcases List.mem_cons.mp hq with rfl | hq
              · exact .inr hm
              · rcases i2 q hq with h | h
                · cases h
                · exact .inr (sub q h)
          · rw [ins_cons, ins_cons]
            by_cases hx : vv p ≤ x
            · obtain ⟨o1, o2⟩ := inn x hx
              rw [decide_eq_true hx, decide_eq_true (show vv s0 ≤ x by omega)]
              show insQ _ false x = _
              rw [i3, o1, o2]
              simp [fromS, show vv s0 ≤ x by omega]
            · obtain ⟨o1, o2, o3, o4⟩ := out x (by omega)
              rw [decide_eq_false hx, o1, o2, hk0, ins_lt fun q hq => by have := above q hq; omega]
              simp [fromS]
end DL
end

section
set_option Elab.async false
set_option linter.all false
set_option maxRecDepth 100000
set_option maxHeartbeats 4000000
/-! k06, the plain side, part f: combined runs. -/
namespace DL
open PySem PySem.Spec L2
def optD : Option Q → D
  | none => .non
  | some q => frD q
def keptD (k : Bool → Bool → Bool) : D := .tup [.bl (k false false), .bl (k false true), .bl (k true false), .bl (k true true)]
def cF (one other : List P2) (k : Bool → Bool → Bool) (E O : List Q) (fd : List P2) (s : Option Q) (a t : Nat) (pl ik : Slot) : Fr :=
  [.val (pcD one), .val (pcD other), .val (keptD k), .val (.lst (E.map frD)), .val (.lst (O.map frD)), .own (fd.map prD), .val (optD s), .val (.int a), .val (.int t), pl, ik, .none]
theorem cut1 {α : Type} (l : List α) (k : Nat) : cutL l (some (k : Int)) (some ((k : Int) + 1)) = (l.drop k).take 1 := by
  unfold cutL
  have e : ((k : Int) + 1) = ((k + 1 : Nat) : Int) := by omega
  rw [e, HT.sIx_nat, HT.sIx_nat]
  by_cases h : k < l.length
  · rw [Nat.min_eq_left (by omega), Nat.min_eq_left (by omega)]
    congr 1
    omega
  · rw [Nat.min_eq_right (by omega), Nat.min_eq_right (by omega), List.drop_eq_nil_of_le (by omega), List.drop_eq_nil_of_le (by omega)]
    simp
theorem okD_fr {q : Q} : okD 1 (frD q) = true := rfl
theorem same_fr {p q : Q} : sameD (frD p) (frD q) = decide (p = q) := by
  unfold frD sameD sameS sameS sameS
  unfold sameD
  obtain ⟨a, b⟩ := p
  obtain ⟨c, d⟩ := q
  by_cases h1 : a = c <;> by_cases h2 : b = d <;> simp [h1, h2]
theorem eq_hit {E : List Q} {p : Q} {st : SS} : eqF st (.lst ((E.take 1).map frD)) (.lst [frD p]) = some (.bl (hitQ p E)) := by
  unfold eqF
  cases E with
  | nil =>
    rw [eqB_ok (n := 2) (m := 2) rfl rfl (by decide) (by decide)]
    rfl
  | cons a E =>
    rw [eqB_ok (n := 2) (m := 2) rfl rfl (by decide) (by decide)]
    show some (D.bl (sameD (frD a) (frD p) && true)) = some (D.bl (decide (a = p)))
    rw [same_fr, Bool.and_true]
theorem least_run {fu : Nat} {st : SS} {E O : List Q} (pE : ∀ q ∈ E, Pl q) (pO : ∀ q ∈ O, Pl q) (h : ¬ (E.isEmpty && O.isEmpty) = true) : d_least_of fu [.lst ((E.take 1).map frD ++ (O.take 1).map frD)] st = some (.ret (frD (placeQ E O)) st) := by
  cases E with
  | nil =>
    cases O with
    | nil => exact absurd rfl h
    | cons b O => exact e_least1 (pO b List.mem_cons_self)
  | cons a E =>
    cases O with
    | nil => exact e_least1 (pE a List.mem_cons_self)
    | cons b O => exact e_least2 (pE a List.mem_cons_self) (pO b List.mem_cons_self)
theorem sl3_eq {m : M D} {ml mh : M (Option Int)} {fr : Fr} {st : SS} {d r : D} {lo hi : Option Int} (h : m fr st = some (.ok d fr st)) (h1 : ml fr st = some (.ok lo fr st)) (h2 : mh fr st = some (.ok hi fr st)) (e : slD st d lo hi = some r) : sl3 m ml mh fr st = some (.ok r fr st) := by
  unfold sl3
  rw [bnd_eq h, bnd_eq h1, bnd_eq h2]
  simp [e]
theorem some_eq {m : M D} {fr : Fr} {st : SS} {i : Int} (h : m fr st = some (.ok (.int i) fr st)) : someO m fr st = some (.ok (some i) fr st) := by
  unfold someO
  rw [bnd_eq h]
  rfl
/-- xs[k:k+1], xs in slot i, k in slot j -/
theorem cut_run {fr : Fr} {st : SS} {i j : Nat} {E : List Q} {k : Nat} (h1 : fr[i]? = some (.val (.lst (E.map frD)))) (h2 : fr[j]? = some (.val (.int k))) : sl3 (getv i) (someO (getv j)) (someO (bin addF (getv j) (ret (.int 1)))) fr st = some (.ok (.lst (((E.drop k).take 1).map frD)) fr st) := by
  refine sl3_eq (get_eq h1) (some_eq (get_eq h2)) (some_eq (bin_eq (get_eq h2) rfl s_add)) ?_
  show some (D.lst (cutL (E.map frD) _ _)) = _
  rw [cut1, List.map_take, List.map_drop]
/-- k + int(xs[k:k+1] == [p]) -/
theorem hit_run {fr : Fr} {st : SS} {i j l : Nat} {E : List Q} {k : Nat} {p : Q} (h1 : fr[i]? = some (.val (.lst (E.map frD)))) (h2 : fr[j]? = some (.val (.int k))) (h3 : fr[l]? = some (.val (frD p))) :
    bin addF (getv j) (un1 intF (bin eqF (sl3 (getv i) (someO (getv j)) (someO (bin addF (getv j) (ret (.int 1))))) (frzM (lstN (consA (getv l) nilA))))) fr st = some (.ok (.int ((k + (if hitQ p (E.drop k) then 1 else 0) : Nat) : Int)) fr st) := by
  refine bin_eq (get_eq h2) (un1_eq (bin_eq (cut_run h1 h2) (frz_eq (lst_eq (cons_eq (get_eq h3) nil_eq) (by rfl))) eq_hit) rfl) ?_
  rw [s_add]
  cases hitQ p (E.drop k) <;> simp
end DL
end

section
set_option Elab.async false
set_option linter.all false
set_option maxRecDepth 100000
set_option maxHeartbeats 4000000
/-! k06, the plain side, part g: combined runs, the loop. -/
namespace DL
open PySem PySem.Spec L2
section
variable {fu : Nat} {st : SS} {one other : List P2} {k : Bool → Bool → Bool} {E O : List Q} {fd : List P2} {s : Option Q} {a t : Nat} {pl ik : Slot}
/-- what a turn does to what is found and to the start -/
def stepC (fd : List P2) (s : Option Q) (p : Q) (b : Bool) : List P2 × Option Q := match s, b with | none, true => (fd, some p) | some s0, false => (fd ++ [(s0, p)], none) | none, false => (fd, none) | some s0, true => (fd, some s0)
def cCond : M Bool := orT (tst (bin ltF (getv 7) (un1 lenF (peekv 3)))) (tst (bin ltF (getv 8) (un1 lenF (peekv 4))))
def cIf : M Fl := ifM (andT (tst (bin isF (getv 6) (ret .non))) (tst (getv 10)))
 (setM 6 (getv 9))
 (ifM (andT (tst (bin notIsF (getv 6) (ret .non))) (notT (tst (getv 10))))
 (seqM (exprM (mutL 5 appF (consA (tupM (consA (getv 6) (consA (getv 9) (nilA)))) (nilA))))
 (setM 6 (ret .non)))
 (ret .nx))
def cBody (fu : Nat) : M Fl := seqM (setM 9 (callM (d_least_of fu) (consA (bin addF (sl3 (getv 3) (someO (getv 7)) (someO (bin addF (getv 7) (ret (.int 1))))) (sl3 (getv 4) (someO (getv 8)) (someO (bin addF (getv 8) (ret (.int 1)))))) (nilA))))
 (seqM (setM 7 (bin addF (getv 7) (un1 intF (bin eqF (sl3 (getv 3) (someO (getv 7)) (someO (bin addF (getv 7) (ret (.int 1))))) (frzM (lstN (consA (getv 9) (nilA))))))))
 (seqM (setM 8 (bin addF (getv 8) (un1 intF (bin eqF (sl3 (getv 4) (someO (getv 8)) (someO (bin addF (getv 8) (ret (.int 1))))) (frzM (lstN (consA (getv 9) (nilA))))))))
 (seqM (setM 10 (bin ixA (getv 2) (bin addF (bin mulF (bin modF (getv 7) (ret (.int 2))) (ret (.int 2))) (bin modF (getv 8) (ret (.int 2))))))
 cIf)))
theorem cCond_run : cCond (cF one other k E O fd s a t pl ik) st = some (.ok (decide (a < E.length) || decide (t < O.length)) (cF one other k E O fd s a t pl ik) st) := by
  have h1 : tst (bin ltF (getv 7) (un1 lenF (peekv 3))) (cF one other k E O fd s a t pl ik) st = some (.ok (decide (a < E.length)) (cF one other k E O fd s a t pl ik) st) := by
    refine tst_eq (bin_eq (get_eq rfl) (un1_eq (d := .lst (E.map frD)) (r := .int (E.length : Int)) (peek_eq rfl) (by simp [lenF, itemsS])) ?_)
    rw [s_lt]
    congr 2
    rw [Bool.eq_iff_iff, decide_eq_true_iff, decide_eq_true_iff]
    omega
  have h2 : tst (bin ltF (getv 8) (un1 lenF (peekv 4))) (cF one other k E O fd s a t pl ik) st = some (.ok (decide (t < O.length)) (cF one other k E O fd s a t pl ik) st) := by
    refine tst_eq (bin_eq (get_eq rfl) (un1_eq (d := .lst (O.map frD)) (r := .int (O.length : Int)) (peek_eq rfl) (by simp [lenF, itemsS])) ?_)
    rw [s_lt]
    congr 2
    rw [Bool.eq_iff_iff, decide_eq_true_iff, decide_eq_true_iff]
    omega
  unfold cCond orT
  rw [bnd_eq h1]
  cases decide (a < E.length) with
  | true => rfl
  | false =>
    rw [if_neg Bool.false_ne_true, h2, Bool.false_or]
theorem mod2 (a : Nat) : (a : Int).fmod 2 = if a % 2 = 1 then 1 else 0 := by
  rw [Int.fmod_eq_emod_of_nonneg _ (by decide)]
  split <;> omega
theorem kept_at : ixA st (keptD k) (.int ((a : Int).fmod 2 * 2 + (t : Int).fmod 2)) = some (.bl (k (decide (a % 2 = 1)) (decide (t % 2 = 1)))) := by
  rw [mod2, mod2]
  unfold keptD
  by_cases h1 : a % 2 = 1 <;> by_cases h2 : t % 2 = 1 <;> simp [h1, h2]
theorem cIf_run {p : Q} {b : Bool} (hp : pl = .val (frD p)) (hb : ik = .val (.bl b)) (hs : fd.length ≤ 1000000) : ∃ s' fd', cIf (cF one other k E O fd s a t pl ik) st = some (.ok .nx (cF one other k E O fd' s' a t pl ik) st) ∧
    (fd', s') = stepC fd s p b := by
  subst hp hb
  have g6 : getv 6 (cF one other k E O fd s a t (.val (frD p)) (.val (.bl b))) st = some (.ok (optD s) (cF one other k E O fd s a t (.val (frD p)) (.val (.bl b))) st) := get_eq rfl
  have t10 : tst (getv 10) (cF one other k E O fd s a t (.val (frD p)) (.val (.bl b))) st = some (.ok b (cF one other k E O fd s a t (.val (frD p)) (.val (.bl b))) st) := tst_eq (get_eq rfl)
  have e1 : tst (bin isF (getv 6) (ret .non)) (cF one other k E O fd s a t (.val (frD p)) (.val (.bl b))) st = some (.ok s.isNone (cF one other k E O fd s a t (.val (frD p)) (.val (.bl b))) st) := tst_eq (bin_eq g6 rfl (by cases s <;> rfl))
  have e2 : tst (bin notIsF (getv 6) (ret .non)) (cF one other k E O fd s a t (.val (frD p)) (.val (.bl b))) st = some (.ok s.isSome (cF one other k E O fd s a t (.val (frD p)) (.val (.bl b))) st) := tst_eq (bin_eq g6 rfl (by cases s <;> rfl))
  have n10 : notT (tst (getv 10)) (cF one other k E O fd s a t (.val (frD p)) (.val (.bl b))) st = some (.ok (!b) (cF one other k E O fd s a t (.val (frD p)) (.val (.bl b))) st) := by
    unfold notT
    rw [bnd_eq t10]
    rfl
  cases s with
  | none =>
    cases b with
    | true =>
      refine ⟨some p, fd, ?_, rfl⟩
      unfold cIf ifM andT
      rw [bnd_eq (show bnd _ _ _ _ = _ from by rw [bnd_eq e1]; exact t10), if_pos rfl, set_eq (d := frD p) (get_eq rfl) (by show 6 < 12; decide)]
      rfl
    | false =>
      refine ⟨none, fd, ?_, rfl⟩
      unfold cIf ifM andT
      rw [bnd_eq (show bnd _ _ _ _ = _ from by rw [bnd_eq e1]; exact t10), if_neg Bool.false_ne_true, bnd_eq (show bnd _ _ _ _ = _ from by rw [bnd_eq e2]; rfl)]
      rfl
  | some s0 =>
    cases b with
    | true =>
      refine ⟨some s0, fd, ?_, rfl⟩
      unfold cIf ifM andT
      rw [bnd_eq (show bnd _ _ _ _ = _ from by rw [bnd_eq e1]; rfl), if_neg Bool.false_ne_true, bnd_eq (show bnd _ _ _ _ = _ from by rw [bnd_eq e2]; exact n10)]
      rfl
    | false =>
      refine ⟨none, fd ++ [(s0, p)], ?_, rfl⟩
      unfold cIf ifM andT
      rw [bnd_eq (show bnd _ _ _ _ = _ from by rw [bnd_eq e1]; rfl), if_neg Bool.false_ne_true, bnd_eq (show bnd _ _ _ _ = _ from by rw [bnd_eq e2]; exact n10)]
      show seqM _ _ _ _ = _
      have am : mutL 5 appF (consA (tupM (consA (getv 6) (consA (getv 9) nilA))) nilA) (cF one other k E O fd (some s0) a t (.val (frD p)) (.val (.bl false))) st = some (.ok .non (cF one other k E O (fd ++ [(s0, p)]) (some s0) a t (.val (frD p)) (.val (.bl false))) st) := by
        rw [app_run (ds := fd.map prD) rfl (cons_eq (tup_eq (cons_eq g6 (cons_eq (get_eq rfl) nil_eq)) (by rfl)) nil_eq) (by simpa using hs)]
        unfold cF
        rw [List.map_append]
        rfl
      rw [seq_eq (show exprM _ _ _ = _ from by unfold exprM; rw [bnd_eq am]; rfl), set_eq (d := .non) rfl (by show 6 < 12; decide)]
      rfl
theorem drop_adv {p : Q} : E.drop (a + (if hitQ p (E.drop a) then 1 else 0)) = advQ p (E.drop a) := by
  unfold advQ
  split
  · rw [← List.drop_drop, List.drop_one]
  · rfl
theorem par_at {p : Q} : decide ((a + (if hitQ p (E.drop a) then 1 else 0)) % 2 = 1) = (decide (a % 2 = 1) ^^ hitQ p (E.drop a)) := by
  cases hitQ p (E.drop a) with
  | true =>
    rw [if_pos rfl]
    by_cases h : a % 2 = 1
    · rw [decide_eq_true h, decide_eq_false (by omega)]; rfl
    · rw [decide_eq_false h, decide_eq_true (by omega)]; rfl
  | false =>
    rw [if_neg Bool.false_ne_true, Bool.xor_false]
    rfl
theorem cBody_run (pE : ∀ q ∈ E, Pl q) (pO : ∀ q ∈ O, Pl q) (hs : fd.length ≤ 1000000) (h : ¬ ((E.drop a).isEmpty && (O.drop t).isEmpty) = true) : ∃ s' fd' pl' ik', cBody fu (cF one other k E O fd s a t pl ik) st =
      some (.ok .nx (cF one other k E O fd' s' (a + (if hitQ (placeQ (E.drop a) (O.drop t)) (E.drop a) then 1 else 0)) (t + (if hitQ (placeQ (E.drop a) (O.drop t)) (O.drop t) then 1 else 0)) pl' ik') st) ∧
    (fd', s') = stepC fd s (placeQ (E.drop a) (O.drop t)) (k (decide (a % 2 = 1) ^^ hitQ (placeQ (E.drop a) (O.drop t)) (E.drop a)) (decide (t % 2 = 1) ^^ hitQ (placeQ (E.drop a) (O.drop t)) (O.drop t))) := by
  have lr := least_run (fu := fu) (st := st) (fun q hq => pE q (List.mem_of_mem_drop hq)) (fun q hq => pO q (List.mem_of_mem_drop hq)) h
  generalize hp : placeQ (E.drop a) (O.drop t) = p at lr ⊢
  have c1 : setM 9 (callM (d_least_of fu) (consA (bin addF (sl3 (getv 3) (someO (getv 7)) (someO (bin addF (getv 7) (ret (.int 1))))) (sl3 (getv 4) (someO (getv 8)) (someO (bin addF (getv 8) (ret (.int 1)))))) (nilA))) (cF one other k E O fd s a t pl ik) st = some (.ok .nx (cF one other k E O fd s a t (.val (frD p)) ik) st) := by
    rw [set_eq (d := frD p) (call_eq (cons_eq (bin_eq (cut_run rfl rfl) (cut_run rfl rfl) (s_catL (small_of (by simp; omega)))) nil_eq) lr) (by show 9 < 12; decide)]
    rfl
  have c2 : setM 7 (bin addF (getv 7) (un1 intF (bin eqF (sl3 (getv 3) (someO (getv 7)) (someO (bin addF (getv 7) (ret (.int 1))))) (frzM (lstN (consA (getv 9) (nilA))))))) (cF one other k E O fd s a t (.val (frD p)) ik) st = some (.ok .nx (cF one other k E O fd s (a + (if hitQ p (E.drop a) then 1 else 0)) t (.val (frD p)) ik) st) := by
    rw [set_eq (hit_run rfl rfl rfl) (by show 7 < 12; decide)]
    rfl
  have c3 : setM 8 (bin addF (getv 8) (un1 intF (bin eqF (sl3 (getv 4) (someO (getv 8)) (someO (bin addF (getv 8) (ret (.int 1))))) (frzM (lstN (consA (getv 9) (nilA))))))) (cF one other k E O fd s (a + (if hitQ p (E.drop a) then 1 else 0)) t (.val (frD p)) ik) st = some (.ok .nx (cF one other k E O fd s (a + (if hitQ p (E.drop a) then 1 else 0)) (t + (if hitQ p (O.drop t) then 1 else 0)) (.val (frD p)) ik) st) := by
    rw [set_eq (hit_run rfl rfl rfl) (by show 8 < 12; decide)]
    rfl
  generalize ha : a + (if hitQ p (E.drop a) then 1 else 0) = a' at c2 c3 ⊢
  generalize ht : t + (if hitQ p (O.drop t) then 1 else 0) = t' at c3 ⊢
  have c4 : setM 10 (bin ixA (getv 2) (bin addF (bin mulF (bin modF (getv 7) (ret (.int 2))) (ret (.int 2))) (bin modF (getv 8) (ret (.int 2))))) (cF one other k E O fd s a' t' (.val (frD p)) ik) st = some (.ok .nx (cF one other k E O fd s a' t' (.val (frD p)) (.val (.bl (k (decide (a' % 2 = 1)) (decide (t' % 2 = 1)))))) st) := by
    have m1 : bin modF (getv 7) (ret (.int 2)) (cF one other k E O fd s a' t' (.val (frD p)) ik) st = some (.ok (.int ((a' : Int).fmod 2)) (cF one other k E O fd s a' t' (.val (frD p)) ik) st) := bin_eq (get_eq rfl) rfl (by rw [s_mod, if_pos (by decide)])
    have m2 : bin modF (getv 8) (ret (.int 2)) (cF one other k E O fd s a' t' (.val (frD p)) ik) st = some (.ok (.int ((t' : Int).fmod 2)) (cF one other k E O fd s a' t' (.val (frD p)) ik) st) := bin_eq (get_eq rfl) rfl (by rw [s_mod, if_pos (by decide)])
    have bo : bitsOk ((a' : Int).fmod 2) 2 = true := by
      rw [mod2]
      split <;> decide
    rw [set_eq (bin_eq (get_eq rfl) (bin_eq (bin_eq m1 rfl (by rw [s_mul, if_pos bo])) m2 s_add) kept_at) (by show 10 < 12; decide)]
    rfl
  obtain ⟨s', fd', i1, i2⟩ := cIf_run (one := one) (other := other) (k := k) (E := E) (O := O) (fd := fd) (s := s) (a := a') (t := t') (st := st) (pl := .val (frD p)) (ik := .val (.bl (k (decide (a' % 2 = 1)) (decide (t' % 2 = 1))))) rfl rfl hs
  refine ⟨s', fd', .val (frD p), .val (.bl (k (decide (a' % 2 = 1)) (decide (t' % 2 = 1)))), ?_, ?_⟩
  · unfold cBody
    rw [seq_eq c1, seq_eq c2, seq_eq c3, seq_eq c4, i1]
  · rw [i2, ← ha, ← ht, par_at, par_at]
/-- the loop -/
theorem comb_loop (pE : ∀ q ∈ E, Pl q) (pO : ∀ q ∈ O, Pl q) : ∀ (n m : Nat) (fd : List P2) (s : Option Q) (a t : Nat) (pl ik : Slot), (E.drop a).length + (O.drop t).length ≤ n → n ≤ m → fd.length + n ≤ 1000000 →
    ∃ s' a' t' pl' ik', mWhile (m + 1) cCond (cBody fu) (cF one other k E O fd s a t pl ik) st = some (.ok .nx (cF one other k E O (fd ++ combP k n (E.drop a) (O.drop t) (decide (a % 2 = 1)) (decide (t % 2 = 1)) s) s' a' t' pl' ik') st) := by
  intro n
  induction n with
  | zero =>
    intro m fd s a t pl ik hn hm hf
    have l1 : (E.drop a).length = E.length - a := List.length_drop
    have l2 : (O.drop t).length = O.length - t := List.length_drop
    refine ⟨s, a, t, pl, ik, ?_⟩
    unfold mWhile
    rw [bnd_eq cCond_run, decide_eq_false (by omega), decide_eq_false (by omega)]
    show some _ = _
    unfold combP
    rw [List.append_nil]
  | succ n ih =>
    intro m fd s a t pl ik hn hm hf
    have l1 : (E.drop a).length = E.length - a := List.length_drop
    have l2 : (O.drop t).length = O.length - t := List.length_drop
    by_cases em : ((E.drop a).isEmpty && (O.drop t).isEmpty) = true
    · have e1 := (Bool.and_eq_true_iff.mp em).1
      have e2 := (Bool.and_eq_true_iff.mp em).2
      have z1 : (E.drop a).length = 0 := by rw [List.isEmpty_iff.mp e1]; rfl
      have z2 : (O.drop t).length = 0 := by rw [List.isEmpty_iff.mp e2]; rfl
      refine ⟨s, a, t, pl, ik, ?_⟩
      unfold mWhile
      rw [bnd_eq cCond_run, decide_eq_false (by omega), decide_eq_false (by omega)]
      show some _ = _
      unfold combP
      rw [if_pos em, List.append_nil]
    · have hc : (decide (a < E.length) || decide (t < O.length)) = true := by
        rw [Bool.or_eq_true, decide_eq_true_iff, decide_eq_true_iff]
        by_cases z : a < E.length
        · exact .inl z
        · refine .inr ?_
          by_cases z2 : t < O.length
          · exact z2
          · exfalso
            refine em ?_
            rw [List.drop_eq_nil_of_le (by omega), List.drop_eq_nil_of_le (by omega)]
            rfl
      obtain ⟨s1, fd1, pl1, ik1, r1, r2⟩ := cBody_run (fu := fu) (st := st) (one := one) (other := other) (k := k) (fd := fd) (s := s) (pl := pl) (ik := ik) pE pO (by omega) em
      have hh := place_hit em
      generalize hp : placeQ (E.drop a) (O.drop t) = p at r1 r2 hh
      have d1 := drop_adv (E := E) (a := a) (p := p)
      have d2 := drop_adv (E := O) (a := t) (p := p)
      have q1 := par_at (E := E) (a := a) (p := p)
      have q2 := par_at (E := O) (a := t) (p := p)
      generalize ha : a + (if hitQ p (E.drop a) then 1 else 0) = a' at r1 d1 q1
      generalize ht : t + (if hitQ p (O.drop t) then 1 else 0) = t' at r1 d2 q2
      have len : (E.drop a').length + (O.drop t').length ≤ n := by
        rw [d1, d2]
        cases h1 : hitQ p (E.drop a) with
        | true =>
          have := adv_len h1
          cases h2 : hitQ p (O.drop t) with
          | true => have := adv_len h2; omega
          | false => rw [adv_no h2]; omega
        | false =>
          rcases hh with h | h
          · rw [h1] at h; cases h
          · have := adv_len h
            rw [adv_no h1]
            omega
      have lf : fd1.length ≤ fd.length + 1 := by
        have : fd1 = (stepC fd s p (k (decide (a % 2 = 1) ^^ hitQ p (E.drop a)) (decide (t % 2 = 1) ^^ hitQ p (O.drop t)))).1 := by rw [← r2]
        rw [this]
        unfold stepC
        split <;> simp
      obtain ⟨m', rfl⟩ : ∃ m', m = m' + 1 := ⟨m - 1, by omega⟩
      obtain ⟨s2, a2, t2, pl2, ik2, r3⟩ := ih m' fd1 s1 a' t' pl1 ik1 len (by omega) (by omega)
      refine ⟨s2, a2, t2, pl2, ik2, ?_⟩
      conv => lhs; unfold mWhile
      rw [bnd_eq cCond_run, hc, if_pos rfl, bnd_eq r1]
      show mWhile (m' + 1) cCond (cBody fu) _ st = _
      have e : fd1 ++ combP k n (E.drop a') (O.drop t') (decide (a' % 2 = 1)) (decide (t' % 2 = 1)) s1 = fd ++ combP k (n + 1) (E.drop a) (O.drop t) (decide (a % 2 = 1)) (decide (t % 2 = 1)) s := by
        rw [d1, d2, q1, q2]
        unfold stepC at r2
        cases s with
        | none =>
          cases hk : k (decide (a % 2 = 1) ^^ hitQ p (E.drop a)) (decide (t % 2 = 1) ^^ hitQ p (O.drop t)) with
          | true =>
            have ec : combP k (n + 1) (E.drop a) (O.drop t) (decide (a % 2 = 1)) (decide (t % 2 = 1)) none = combP k n (advQ p (E.drop a)) (advQ p (O.drop t)) (decide (a % 2 = 1) ^^ hitQ p (E.drop a)) (decide (t % 2 = 1) ^^ hitQ p (O.drop t)) (some p) := by
              conv => lhs; unfold combP
              rw [if_neg em, hp]
              simp only [hk]
            rw [hk] at r2
            cases r2
            rw [ec]
          | false =>
            have ec : combP k (n + 1) (E.drop a) (O.drop t) (decide (a % 2 = 1)) (decide (t % 2 = 1)) none = combP k n (advQ p (E.drop a)) (advQ p (O.drop t)) (decide (a % 2 = 1) ^^ hitQ p (E.drop a)) (decide (t % 2 = 1) ^^ hitQ p (O.drop t)) none := by
              conv => lhs; unfold combP
              rw [if_neg em, hp]
              simp only [hk]
            rw [hk] at r2
            cases r2
            rw [ec]
        | some s0 =>
          cases hk : k (decide (a % 2 = 1) ^^ hitQ p (E.drop a)) (decide (t % 2 = 1) ^^ hitQ p (O.drop t)) with
          | true =>
            have ec : combP k (n + 1) (E.drop a) (O.drop t) (decide (a % 2 = 1)) (decide (t % 2 = 1)) (some s0) = combP k n (advQ p (E.drop a)) (advQ p (O.drop t)) (decide (a % 2 = 1) ^^ hitQ p (E.drop a)) (decide (t % 2 = 1) ^^ hitQ p (O.drop t)) (some s0) := by
              conv => lhs; unfold combP
              rw [if_neg em, hp]
              simp only [hk]
            rw [hk] at r2
            cases r2
            rw [ec]
          | false =>
            have ec : combP k (n + 1) (E.drop a) (O.drop t) (decide (a % 2 = 1)) (decide (t % 2 = 1)) (some s0) = (s0, p) :: combP k n (advQ p (E.drop a)) (advQ p (O.drop t)) (decide (a % 2 = 1) ^^ hitQ p (E.drop a)) (decide (t % 2 = 1) ^^ hitQ p (O.drop t)) none := by
              conv => lhs; unfold combP
              rw [if_neg em, hp]
              simp only [hk]
            rw [hk] at r2
            cases r2
            rw [ec, List.append_assoc]
            rfl
      rw [r3, e]
end
end DL
end

section
set_option Elab.async false
set_option linter.all false
set_option maxRecDepth 100000
set_option maxHeartbeats 4000000
/-! k06, the plain side, part h: combined. -/
namespace DL
open PySem PySem.Spec L2
/-- a piece as the program holds it: rising ends, all of them places -/
structure Pc (l : List P2) : Prop where
  pl : PlP l
  up : Up (flatQ l)
  len : l.length ≤ 100000
/-- is x within the piece -/
def inP (l : List P2) (x : Int) : Bool := insQ (flatQ l) false x
def combL (k : Bool → Bool → Bool) (one other : List P2) : List P2 := combP k ((flatQ one).length + (flatQ other).length) (flatQ one) (flatQ other) false false none
theorem flat_even (l : List P2) : decide ((flatQ l).length % 2 = 1) = false := by
  rw [flat_len]
  exact decide_eq_false (by omega)
theorem plP_of_flat {l : List P2} (h : ∀ q ∈ flatQ l, Pl q) : PlP l := fun p hp => ⟨h _ (List.mem_flatMap.mpr ⟨p, hp, by simp⟩), h _ (List.mem_flatMap.mpr ⟨p, hp, by simp⟩)⟩
theorem combP_len (k : Bool → Bool → Bool) : ∀ (n : Nat) (E O : List Q) (pa pb : Bool) (s : Option Q), (combP k n E O pa pb s).length ≤ n
  | 0, E, O, pa, pb, s => Nat.le_refl _
  | n + 1, E, O, pa, pb, s => by
    unfold combP
    split
    · exact Nat.zero_le _
    · simp only
      split
      all_goals first
        | exact Nat.le_succ_of_le (combP_len k n _ _ _ _ _)
        | (rw [List.length_cons]; exact Nat.succ_le_succ (combP_len k n _ _ _ _ _))
theorem flat_inj : ∀ {l l' : List P2}, flatQ l = flatQ l' → l = l'
  | [], [], _ => rfl
  | [], p :: l', h => by cases h
  | p :: l, [], h => by cases h
  | p :: l, p' :: l', h => by
    have h' : p.1 :: p.2 :: flatQ l = p'.1 :: p'.2 :: flatQ l' := h
    simp only [List.cons.injEq] at h'
    obtain ⟨h1, h2, h3⟩ := h'
    rw [flat_inj h3, Prod.ext h1 h2]
/-- pieces with the same inside are the same -/
theorem pc_uniq {l l' : List P2} (h : Pc l) (h' : Pc l') (e : ∀ x, inP l x = inP l' x) : l = l' := flat_inj (up_uniq h.up h'.up h.pl.flat h'.pl.flat e)
theorem combL_spec {k : Bool → Bool → Bool} (k0 : k false false = false) {one other : List P2} (h1 : Pc one) (h2 : Pc other) (hl : one.length + other.length ≤ 20000) : Pc (combL k one other) ∧ ∀ x, inP (combL k one other) x = k (inP one x) (inP other x) := by
  obtain ⟨i1, i2, i3⟩ := comb_spec k0 _ (flatQ one) (flatQ other) false false none (Nat.le_refl _) h1.up h2.up h1.pl.flat h2.pl.flat (flat_even one).symm (flat_even other).symm trivial k0
  refine ⟨⟨plP_of_flat fun q hq => ?_, i1, ?_⟩, fun x => ?_⟩
  · rcases i2 q hq with h | h | h
    · cases h
    · exact h1.pl.flat q h
    · exact h2.pl.flat q h
  · have := combP_len k ((flatQ one).length + (flatQ other).length) (flatQ one) (flatQ other) false false none
    rw [flat_len, flat_len] at this
    unfold combL
    rw [flat_len, flat_len]
    omega
  · exact (i3 x).trans (by simp [fromS, inP])
theorem e_combined {fu : Nat} {st : SS} {k : Bool → Bool → Bool} {one other : List P2} (h1 : Pc one) (h2 : Pc other) (hl : one.length + other.length ≤ 20000) (hf : 100000 ≤ fu) : d_combined fu [pcD one, pcD other, keptD k] st = some (.ret (pcD (combL k one other)) st) := by
  have f1 : compM2 [11, 9] (seqW (getv 0)) (.nm 11) (ret true) [9] (seqW (getv 11)) (.nm 9) (ret true) (getv 9) [.val (pcD one), .val (pcD other), .val (keptD k), .none, .none, .none, .none, .none, .none, .none, .none, .none] st = some (.ok ((flatQ one).map frD) [.val (pcD one), .val (pcD other), .val (keptD k), .none, .none, .none, .none, .none, .none, .none, .none, .none] st) :=
    flat_run (fun d => [.val (pcD one), .val (pcD other), .val (keptD k), .none, .none, .none, .none, .none, .none, .none, .none, .val d]) (fun d e => [.val (pcD one), .val (pcD other), .val (keptD k), .none, .none, .none, .none, .none, .none, .val e, .none, .val d]) h1.len (get_eq rfl) rfl rfl (fun _ => rfl) (fun _ => get_eq rfl) (fun _ => rfl) (fun _ _ => rfl) (fun _ _ => get_eq rfl) (fun _ _ => rfl) (fun _ => rfl)
  have f2 : compM2 [11, 9] (seqW (getv 1)) (.nm 11) (ret true) [9] (seqW (getv 11)) (.nm 9) (ret true) (getv 9) [.val (pcD one), .val (pcD other), .val (keptD k), .none, .none, .none, .none, .none, .none, .none, .none, .none] st = some (.ok ((flatQ other).map frD) [.val (pcD one), .val (pcD other), .val (keptD k), .none, .none, .none, .none, .none, .none, .none, .none, .none] st) :=
    flat_run (fun d => [.val (pcD one), .val (pcD other), .val (keptD k), .none, .none, .none, .none, .none, .none, .none, .none, .val d]) (fun d e => [.val (pcD one), .val (pcD other), .val (keptD k), .none, .none, .none, .none, .none, .none, .val e, .none, .val d]) h2.len (get_eq rfl) rfl rfl (fun _ => rfl) (fun _ => get_eq rfl) (fun _ => rfl) (fun _ _ => rfl) (fun _ _ => get_eq rfl) (fun _ _ => rfl) (fun _ => rfl)
  obtain ⟨m, rfl⟩ : ∃ m, fu = m + 1 := ⟨fu - 1, by omega⟩
  obtain ⟨s', a', t', pl', ik', r⟩ := comb_loop (fu := m + 1) (st := st) (one := one) (other := other) (k := k) h1.pl.flat h2.pl.flat ((flatQ one).length + (flatQ other).length) m [] none 0 0 .none .none (Nat.le_refl _) (by rw [flat_len, flat_len]; omega) (by rw [flat_len, flat_len]; simp; omega)
  refine run_ret (fr := cF one other k (flatQ one) (flatQ other) ([] ++ combL k one other) s' a' t' pl' ik') rfl ?_
  show m_combined (m + 1) [.val (pcD one), .val (pcD other), .val (keptD k), .none, .none, .none, .none, .none, .none, .none, .none, .none] st = _
  have p1 : parM [3, 4] (valR (frzM (compM2 [11, 9] (seqW (getv 0)) (.nm 11) (ret true) [9] (seqW (getv 11)) (.nm 9) (ret true) (getv 9))) (valR (frzM (compM2 [11, 9] (seqW (getv 1)) (.nm 11) (ret true) [9] (seqW (getv 11)) (.nm 9) (ret true) (getv 9))) nilR)) [.val (pcD one), .val (pcD other), .val (keptD k), .none, .none, .none, .none, .none, .none, .none, .none, .none] st
      = some (.ok .nx [.val (pcD one), .val (pcD other), .val (keptD k), .val (.lst ((flatQ one).map frD)), .val (.lst ((flatQ other).map frD)), .none, .none, .none, .none, .none, .none, .none] st) := by
    unfold parM valR
    rw [bnd_eq (show bnd _ _ _ st = _ from by rw [bnd_eq (frz_eq f1), bnd_eq (show bnd _ _ _ st = _ from by rw [bnd_eq (frz_eq f2)]; rfl)]; rfl)]
    rfl
  have p2 : parM [5, 6, 7, 8] (newR (lstN nilA) (valR (ret .non) (valR (ret (.int 0)) (valR (ret (.int 0)) nilR)))) [.val (pcD one), .val (pcD other), .val (keptD k), .val (.lst ((flatQ one).map frD)), .val (.lst ((flatQ other).map frD)), .none, .none, .none, .none, .none, .none, .none] st
      = some (.ok .nx (cF one other k (flatQ one) (flatQ other) [] none 0 0 .none .none) st) := rfl
  unfold m_combined
  rw [seq_eq p1, seq_eq p2]
  show seqM (mWhile (m + 1) cCond (cBody (m + 1))) _ _ st = _
  rw [seq_eq r]
  exact ret_eq (un1_eq (d := .lst (([] ++ combL k one other).map prD)) (r := pcD (combL k one other)) (peek_own rfl) rfl)
end DL
end

section
set_option Elab.async false
set_option linter.all false
set_option maxRecDepth 100000
set_option maxHeartbeats 4000000
/-! k06, the plain side, part i: piece_from. -/
namespace DL
open PySem PySem.Spec L2
abbrev kOr : Bool → Bool → Bool := fun a b => a || b
theorem kept_or : keptD kOr = c_EITHER := rfl
/-- is x in the stretch -/
def inS1 (p : P2) (x : Int) : Bool := decide (vv p.1 ≤ x) && decide (x < vv p.2)
def covS (l : List P2) (x : Int) : Bool := l.any fun p => inS1 p x
/-- a stretch as a piece -/
def one1 (p : P2) : List P2 := if ltQ p.1 p.2 then [p] else []
theorem one1_spec {p : P2} (h : Pl p.1) (h2 : Pl p.2) : Pc (one1 p) ∧ ∀ x, inP (one1 p) x = inS1 p x := by
  unfold one1
  rw [ltQ_vv h h2]
  by_cases z : vv p.1 < vv p.2
  · rw [if_pos (decide_eq_true z)]
    refine ⟨⟨fun q hq => ?_, ?_, by simp⟩, fun x => ?_⟩
    · rw [List.mem_singleton.mp hq]
      exact ⟨h, h2⟩
    · show Up [p.1, p.2]
      simp [z]
    · show insQ [p.1, p.2] false x = _
      rw [ins_cons, ins_cons]
      show (false ^^ decide (vv p.1 ≤ x) ^^ decide (vv p.2 ≤ x)) = _
      unfold inS1
      by_cases a : vv p.1 ≤ x <;> by_cases b : vv p.2 ≤ x
      · rw [decide_eq_true a, decide_eq_true b, decide_eq_false (show ¬ x < vv p.2 by omega)]; rfl
      · rw [decide_eq_true a, decide_eq_false b, decide_eq_true (show x < vv p.2 by omega)]; rfl
      · exact absurd b (by omega)
      · rw [decide_eq_false a, decide_eq_false b]; rfl
  · rw [if_neg (by simpa using z)]
    refine ⟨⟨(fun q hq => by cases hq), List.Pairwise.nil, Nat.zero_le _⟩, fun x => ?_⟩
    show false = inS1 p x
    unfold inS1
    by_cases a : vv p.1 ≤ x
    · rw [decide_eq_false (show ¬ x < vv p.2 by omega), Bool.and_false]
    · rw [decide_eq_false a, Bool.false_and]
/-- one round -/
def roundL : List (List P2) → List (List P2)
  | [] => []
  | [a] => [combL kOr a a]
  | a :: b :: r => combL kOr a b :: roundL r
theorem roundL_len : ∀ L : List (List P2), (roundL L).length = (L.length + 1) / 2
  | [] => rfl
  | [a] => by simp [roundL]
  | a :: b :: r => by
    show (roundL r).length + 1 = _
    rw [roundL_len r]
    simp
    omega
def chunk (L : List (List P2)) (i : Nat) : List (List P2) := (L.drop (2 * i)).take 2
def joinC (c : List (List P2)) : List P2 := combL kOr (c.headD []) (c.getLastD [])
theorem round_range : ∀ L : List (List P2), (List.range ((L.length + 1) / 2)).map (fun i => joinC (chunk L i)) = roundL L
  | [] => rfl
  | [a] => by simp [roundL, joinC, chunk, List.range_succ]
  | a :: b :: r => by
    have ih := round_range r
    have e : ((a :: b :: r).length + 1) / 2 = (r.length + 1) / 2 + 1 := by simp; omega
    rw [e, List.range_succ_eq_map, List.map_cons, List.map_map]
    show joinC [a, b] :: _ = combL kOr a b :: roundL r
    rw [← ih]
    rfl
def Small (B : Nat) (L : List (List P2)) : Prop := ∀ l ∈ L, Pc l ∧ l.length ≤ B
theorem combL_len (k : Bool → Bool → Bool) (a b : List P2) : (combL k a b).length ≤ 2 * (a.length + b.length) := by
  have := combP_len k ((flatQ a).length + (flatQ b).length) (flatQ a) (flatQ b) false false none
  rw [flat_len, flat_len] at this
  unfold combL
  rw [flat_len, flat_len]
  omega
theorem round_spec {B : Nat} (hB : B ≤ 5000) : ∀ {L : List (List P2)}, Small B L → Small (4 * B) (roundL L) ∧ ∀ x, (roundL L).any (fun l => inP l x) = L.any fun l => inP l x
  | [], _ => ⟨(fun l hl => by cases hl), fun _ => rfl⟩
  | [a], h => by
    obtain ⟨h1, h2⟩ := h a (List.mem_singleton.mpr rfl)
    obtain ⟨i1, i2⟩ := combL_spec (k := kOr) rfl h1 h1 (by omega)
    refine ⟨fun l hl => ?_, fun x => ?_⟩
    · rw [List.mem_singleton.mp hl]
      have := combL_len kOr a a
      exact ⟨i1, by omega⟩
    · show (inP (combL kOr a a) x || false) = (inP a x || false)
      rw [i2]
      simp
  | a :: b :: r, h => by
    obtain ⟨h1, h2⟩ := h a List.mem_cons_self
    obtain ⟨h3, h4⟩ := h b (List.mem_cons_of_mem _ List.mem_cons_self)
    obtain ⟨i1, i2⟩ := combL_spec (k := kOr) rfl h1 h3 (by omega)
    obtain ⟨j1, j2⟩ := round_spec hB (L := r) fun l hl => h l (List.mem_cons_of_mem _ (List.mem_cons_of_mem _ hl))
    refine ⟨fun l hl => ?_, fun x => ?_⟩
    · rcases List.mem_cons.mp hl with rfl | hl
      · have := combL_len kOr a b
        exact ⟨i1, by omega⟩
      · exact j1 l hl
    · show (inP (combL kOr a b) x || (roundL r).any _) = (inP a x || (inP b x || r.any _))
      rw [i2, j2, Bool.or_assoc]
section
variable {fu : Nat} {st : SS}
def pfF (d : D) (L : List (List P2)) (pr : Slot) : Fr := [.val d, .val (.lst (L.map pcD)), pr, .none, .none, .none, .none]
def pfBody (fu : Nat) : M Fl := seqM (setM 2 (frzM (compM [5] (noW (rng3 (ret (.int 0)) (un1 lenF (peekv 1)) (ret (.int 2)))) (.nm 5) (ret true) (sl3 (getv 1) (someO (getv 5)) (someO (bin addF (getv 5) (ret (.int 2))))))))
 (setM 1 (frzM (compM [6] (seqW (getv 2)) (.nm 6) (ret true) (callM (d_combined fu) (consA (bin ixA (getv 6) (ret (.int 0))) (consA (bin ixA (getv 6) (un1 negF (ret (.int 1)))) (consA (ret c_EITHER) (nilA))))))))
theorem pf_len {d : D} {L : List (List P2)} {pr : Slot} : un1 lenF (peekv 1) (pfF d L pr) st = some (.ok (.int (L.length : Int)) (pfF d L pr) st) := un1_eq (d := .lst (L.map pcD)) (peek_eq rfl) (by simp [lenF, itemsS])
theorem pf_turn {d : D} {L : List (List P2)} {pr : Slot} {B : Nat} (hL : Small B L) (hB : B ≤ 5000) (hn : L.length ≤ 1000000) (hf : 100000 ≤ fu) : ∃ pr', pfBody fu (pfF d L pr) st = some (.ok .nx (pfF d (roundL L) pr') st) := by
  obtain ⟨b1, b2⟩ := range_by2 L.length hn
  have k1 : noW (rng3 (ret (.int 0)) (un1 lenF (peekv 1)) (ret (.int 2))) (pfF d L pr) st = some (.ok ((List.range ((L.length + 1) / 2)).map (fun i : Nat => D.int (0 + (i : Int) * 2)), .no) (pfF d L pr) st) := by
    refine noW_eq ?_
    rw [rng3_eq rfl pf_len rfl (by decide) (by decide) b1, b2]
    rfl
  have c1 := compM_pure (f := fun i : Nat => D.int (0 + (i : Int) * 2)) (vs := [5]) (g := .nm 5) (t := ret true) (e := sl3 (getv 1) (someO (getv 5)) (someO (bin addF (getv 5) (ret (.int 2))))) (p := fun _ => true) (q := fun i => .lst ((chunk L i).map pcD)) k1 rfl (fun i hi =>
    ⟨[.val d, .val (.lst (L.map pcD)), pr, .none, .none, .val (.int (0 + (i : Int) * 2)), .none], _, rfl, rfl, (fun z => by cases z), fun _ => ⟨[.val d, .val (.lst (L.map pcD)), pr, .none, .none, .val (.int (0 + (i : Int) * 2)), .none], ?_, rfl⟩⟩) (by simp; omega)
  · rw [List.filter_eq_self.mpr (fun _ _ => rfl)] at c1
    have s1 : setM 2 (frzM (compM [5] (noW (rng3 (ret (.int 0)) (un1 lenF (peekv 1)) (ret (.int 2)))) (.nm 5) (ret true) (sl3 (getv 1) (someO (getv 5)) (someO (bin addF (getv 5) (ret (.int 2))))))) (pfF d L pr) st = some (.ok .nx (pfF d L (.val (.lst ((List.range ((L.length + 1) / 2)).map fun i => .lst ((chunk L i).map pcD))))) st) := by
      rw [set_eq (frz_eq c1) (by show 2 < 7; decide)]
      rfl
    have k2 : seqW (getv 2) (pfF d L (.val (.lst ((List.range ((L.length + 1) / 2)).map fun i => .lst ((chunk L i).map pcD))))) st = some (.ok ((List.range ((L.length + 1) / 2)).map (fun i => D.lst ((chunk L i).map pcD)), .no) (pfF d L (.val (.lst ((List.range ((L.length + 1) / 2)).map fun i => .lst ((chunk L i).map pcD))))) st) := seqW_eq (get_eq rfl) (.inr rfl)
    generalize hpr : Slot.val (.lst ((List.range ((L.length + 1) / 2)).map fun i => .lst ((chunk L i).map pcD))) = pr2 at s1 k2
    have c2 := compM_pure (f := fun i : Nat => D.lst ((chunk L i).map pcD)) (vs := [6]) (g := .nm 6) (t := ret true) (e := callM (d_combined fu) (consA (bin ixA (getv 6) (ret (.int 0))) (consA (bin ixA (getv 6) (un1 negF (ret (.int 1)))) (consA (ret c_EITHER) (nilA))))) (p := fun _ => true) (q := fun i => pcD (joinC (chunk L i))) k2 rfl (fun i hi =>
      ⟨[.val d, .val (.lst (L.map pcD)), pr2, .none, .none, .none, .val (.lst ((chunk L i).map pcD))], _, rfl, rfl, (fun z => by cases z), fun _ => ⟨[.val d, .val (.lst (L.map pcD)), pr2, .none, .none, .none, .val (.lst ((chunk L i).map pcD))], ?_, rfl⟩⟩) (by simp; omega)
    · rw [List.filter_eq_self.mpr (fun _ _ => rfl)] at c2
      have e2 : (List.range ((L.length + 1) / 2)).map (fun i => pcD (joinC (chunk L i))) = (roundL L).map pcD := by
        rw [← round_range, List.map_map]
        rfl
      rw [e2] at c2
      refine ⟨pr2, ?_⟩
      unfold pfBody
      rw [seq_eq s1, set_eq (frz_eq c2) (by show 1 < 7; decide)]
      rfl
    · -- combined(pair[0], pair[-1], EITHER)
      have hi2 : 2 * i < L.length := by
        have := List.mem_range.mp hi
        omega
      have sub : ∀ l ∈ chunk L i, Pc l ∧ l.length ≤ B := fun l hl => hL l (List.mem_of_mem_drop (List.mem_of_mem_take hl))
      have ne : chunk L i ≠ [] := fun z => by
        have : (chunk L i).length = 0 := by rw [z]; rfl
        unfold chunk at this
        rw [List.length_take, List.length_drop] at this
        omega
      have le : (chunk L i).length ≤ 2 := by
        unfold chunk
        rw [List.length_take]
        omega
      show callM (d_combined fu) _ [.val d, .val (.lst (L.map pcD)), pr2, .none, .none, .none, .val (.lst ((chunk L i).map pcD))] st = some (.ok (pcD (joinC (chunk L i))) [.val d, .val (.lst (L.map pcD)), pr2, .none, .none, .none, .val (.lst ((chunk L i).map pcD))] st)
      generalize chunk L i = c at sub ne le ⊢
      match c, ne, le with
      | [a], _, _ =>
        obtain ⟨h1, h2⟩ := sub a (List.mem_singleton.mpr rfl)
        refine call_eq (cons_eq (bin_eq (get_eq rfl) rfl s_ix0l) (cons_eq (bin_eq (get_eq rfl) (un1_eq rfl s_neg) (ix_last (l := []) (.inr rfl))) (cons_eq rfl nil_eq))) ?_
        exact e_combined (k := kOr) h1 h1 (by omega) hf
      | [a, b], _, _ =>
        obtain ⟨h1, h2⟩ := sub a List.mem_cons_self
        obtain ⟨h3, h4⟩ := sub b (List.mem_cons_of_mem _ List.mem_cons_self)
        refine call_eq (cons_eq (bin_eq (get_eq rfl) rfl s_ix0l) (cons_eq (bin_eq (get_eq rfl) (un1_eq rfl s_neg) (ix_last (l := [pcD a]) (.inr rfl))) (cons_eq rfl nil_eq))) ?_
        exact e_combined (k := kOr) h1 h3 (by omega) hf
  · refine sl3_eq (get_eq rfl) (some_eq (get_eq rfl)) (some_eq (bin_eq (get_eq rfl) rfl s_add)) ?_
    show some (D.lst (cutL (L.map pcD) (some (0 + (i : Int) * 2)) (some (0 + (i : Int) * 2 + 2)))) = some (D.lst (((L.drop (2 * i)).take 2).map pcD))
    have e1 : (0 + (i : Int) * 2) = ((2 * i : Nat) : Int) := by omega
    have e2 := cutN (L.map pcD) (2 * i) 2
    rw [e1]
    rw [show ((2 : Nat) : Int) = 2 from rfl] at e2
    rw [e2, List.map_take, List.map_drop]
end
end DL
end

section
set_option Elab.async false
set_option linter.all false
set_option maxRecDepth 100000
set_option maxHeartbeats 4000000
/-! k06, the plain side, part j: piece_from, piece_of. -/
namespace DL
open PySem PySem.Spec L2
theorem okD_prs : ∀ l : List P2, okDs 3 (l.map prD) = true
  | [] => rfl
  | p :: l => by
    show (okD 3 (prD p) && okDs 3 (l.map prD)) = true
    rw [okD_prs l]
    rfl
theorem okD_pc {l : List P2} : okD 4 (pcD l) = true := okD_prs l
theorem same_prs : ∀ l l' : List P2, sameS (l.map prD) (l'.map prD) = decide (l = l')
  | [], [] => rfl
  | [], _ :: _ => rfl
  | _ :: _, [] => rfl
  | p :: l, p' :: l' => by
    show ((sameD (frD p.1) (frD p'.1) && (sameD (frD p.2) (frD p'.2) && true)) && sameS (l.map prD) (l'.map prD)) = _
    rw [same_fr, same_fr, same_prs l l', Bool.and_true]
    obtain ⟨a, b⟩ := p
    obtain ⟨c, d⟩ := p'
    by_cases h1 : a = c <;> by_cases h2 : b = d <;> by_cases h3 : l = l' <;> simp [h1, h2, h3]
theorem same_pc {l l' : List P2} : sameD (pcD l) (pcD l') = decide (l = l') := same_prs l l'
section
variable {fu : Nat} {st : SS}
def pfCond : M Bool := tst (bin gtF (un1 lenF (peekv 1)) (ret (.int 1)))
theorem pfCond_run {d : D} {L : List (List P2)} {pr : Slot} : pfCond (pfF d L pr) st = some (.ok (decide (1 < L.length)) (pfF d L pr) st) := by
  refine tst_eq (bin_eq pf_len rfl ?_)
  rw [s_gt]
  congr 2
  rw [Bool.eq_iff_iff, decide_eq_true_iff, decide_eq_true_iff]
  omega
theorem pf_loop (d : D) (hf : 100000 ≤ fu) : ∀ (j m : Nat) (L : List (List P2)) (pr : Slot) (B : Nat), L.length ≤ 2 ^ j → B * 4 ^ j ≤ 10000 → L.length ≤ 1000000 → j ≤ m → Small B L →
    ∃ L' pr', mWhile (m + 1) pfCond (pfBody fu) (pfF d L pr) st = some (.ok .nx (pfF d L' pr') st) ∧ L'.length ≤ 1 ∧ Small 10000 L' ∧ ∀ x, L'.any (fun l => inP l x) = L.any fun l => inP l x := by
  intro j
  induction j with
  | zero =>
    intro m L pr B h1 h2 h3 h4 h5
    refine ⟨L, pr, ?_, by simpa using h1, fun l hl => ⟨(h5 l hl).1, by have := (h5 l hl).2; omega⟩, fun _ => rfl⟩
    unfold mWhile
    rw [bnd_eq pfCond_run, decide_eq_false (by simp at h1; omega)]
    rfl
  | succ j ih =>
    intro m L pr B h1 h2 h3 h4 h5
    have e4 : 4 ^ (j + 1) = 4 * 4 ^ j := by rw [Nat.pow_succ]; omega
    have e2 : 2 ^ (j + 1) = 2 * 2 ^ j := by rw [Nat.pow_succ]; omega
    have p4 : 0 < 4 ^ j := Nat.pow_pos (by decide)
    have hB4 : B * (4 * 4 ^ j) = 4 * B * 4 ^ j := by rw [← Nat.mul_assoc, Nat.mul_comm B 4]
    have hB : 4 * B ≤ 10000 := by
      have h6 : 4 * B * 1 ≤ 4 * B * 4 ^ j := Nat.mul_le_mul_left _ p4
      rw [e4, hB4] at h2
      omega
    by_cases z : 1 < L.length
    · obtain ⟨pr1, r1⟩ := pf_turn (fu := fu) (st := st) (d := d) (pr := pr) h5 (by omega) h3 hf
      obtain ⟨i1, i2⟩ := round_spec (by omega) h5
      have ln := roundL_len L
      obtain ⟨m', rfl⟩ : ∃ m', m = m' + 1 := ⟨m - 1, by omega⟩
      obtain ⟨L', pr', r2, r3, r4, r5⟩ := ih m' (roundL L) pr1 (4 * B) (by rw [ln]; omega) (by rw [e4, hB4] at h2; exact h2) (by rw [ln]; omega) (by omega) i1
      refine ⟨L', pr', ?_, r3, r4, fun x => (r5 x).trans (i2 x)⟩
      conv => lhs; unfold mWhile
      rw [bnd_eq pfCond_run, decide_eq_true z, if_pos rfl, bnd_eq r1]
      exact r2
    · refine ⟨L, pr, ?_, by omega, fun l hl => ⟨(h5 l hl).1, by have := (h5 l hl).2; omega⟩, fun _ => rfl⟩
      unfold mWhile
      rw [bnd_eq pfCond_run, decide_eq_false z]
      rfl
/-- stretches: places, each with an order -/
structure Str1 (p : P2) : Prop where
  a : Pl p.1
  b : Pl p.2
  le : vv p.1 ≤ vv p.2
theorem pf_first {ss : List P2} {d : D} (hd : d = .lst (ss.map prD) ∨ d = .tup (ss.map prD)) (h : ∀ p ∈ ss, Str1 p) (hl : ss.length ≤ 1000000) :
    compM [3, 4] (seqW (getv 0)) (.tup [(.nm 3), (.nm 4)]) (ret true) (ifE (tst (bin ltF (callM (d_order_of fu) (consA (getv 3) (consA (getv 4) (nilA)))) (ret (.int 0)))) (tupM (consA (tupM (consA (getv 3) (consA (getv 4) (nilA)))) (nilA))) (tupM (nilA)))
      [.val d, .none, .none, .none, .none, .none, .none] st = some (.ok ((ss.map one1).map pcD) [.val d, .none, .none, .none, .none, .none, .none] st) := by
  have h1 : seqW (getv 0) [.val d, .none, .none, .none, .none, .none, .none] st = some (.ok (ss.map prD, .no) [.val d, .none, .none, .none, .none, .none, .none] st) := seqW_eq (get_eq rfl) hd.symm
  have h2 := compM_pure (f := prD) (vs := [3, 4]) (g := .tup [(.nm 3), (.nm 4)]) (t := ret true) (e := ifE (tst (bin ltF (callM (d_order_of fu) (consA (getv 3) (consA (getv 4) (nilA)))) (ret (.int 0)))) (tupM (consA (tupM (consA (getv 3) (consA (getv 4) (nilA)))) (nilA))) (tupM (nilA))) (p := fun _ => true) (q := fun p => pcD (one1 p)) h1 rfl (fun p hp =>
    ⟨[.val d, .none, .none, .val (frD p.1), .val (frD p.2), .none, .none], _, rfl, rfl, (fun z => by cases z), fun _ => ⟨[.val d, .none, .none, .val (frD p.1), .val (frD p.2), .none, .none], ?_, rfl⟩⟩) hl
  · rw [List.filter_eq_self.mpr (fun _ _ => rfl)] at h2
    rw [List.map_map]
    exact h2
  · have t1 : tst (bin ltF (callM (d_order_of fu) (consA (getv 3) (consA (getv 4) nilA))) (ret (.int 0))) [.val d, .none, .none, .val (frD p.1), .val (frD p.2), .none, .none] st = some (.ok (ltQ p.1 p.2) [.val d, .none, .none, .val (frD p.1), .val (frD p.2), .none, .none] st) :=
      tst_eq (bin_eq (call_eq (cons_eq (get_eq rfl) (cons_eq (get_eq rfl) nil_eq)) (e_order (h p hp).a (h p hp).b)) rfl (by rw [s_lt, cmp_neg (h p hp).a (h p hp).b]))
    rw [ife_eq t1]
    show (if ltQ p.1 p.2 = true then _ else _ : M D) _ st = some (.ok (pcD (one1 p)) [.val d, .none, .none, .val (frD p.1), .val (frD p.2), .none, .none] st)
    unfold one1
    cases ltQ p.1 p.2 with
    | true => exact tup_eq (cons_eq (tup_eq (cons_eq (get_eq rfl) (cons_eq (get_eq rfl) nil_eq)) rfl) nil_eq) rfl
    | false => exact tup_eq nil_eq rfl
theorem covS_any {ss : List P2} (h : ∀ p ∈ ss, Str1 p) (x : Int) : (ss.map one1).any (fun l => inP l x) = covS ss x := by
  unfold covS
  rw [List.any_map]
  induction ss with
  | nil => rfl
  | cons p ss ih =>
    rw [List.any_cons, List.any_cons, ih fun q hq => h q (List.mem_cons_of_mem _ hq)]
    show (inP (one1 p) x || _) = _
    rw [(one1_spec (h p List.mem_cons_self).a (h p List.mem_cons_self).b).2 x]
theorem e_piecefrom {ss : List P2} {d : D} (hd : d = .lst (ss.map prD) ∨ d = .tup (ss.map prD)) (h : ∀ p ∈ ss, Str1 p) (hl : ss.length ≤ 8) (hf : 100000 ≤ fu) : ∃ R, d_piece_from fu [d] st = some (.ret (pcD R) st) ∧ Pc R ∧ ∀ x, inP R x = covS ss x := by
  have c1 := pf_first (fu := fu) (st := st) hd h (by omega)
  have sm : Small 1 (ss.map one1) := fun l hl' => by
    obtain ⟨p, hp, rfl⟩ := List.mem_map.mp hl'
    refine ⟨(one1_spec (h p hp).a (h p hp).b).1, ?_⟩
    unfold one1
    split <;> simp
  obtain ⟨m, rfl⟩ : ∃ m, fu = m + 1 := ⟨fu - 1, by omega⟩
  obtain ⟨L', pr', r1, r2, r3, r4⟩ := pf_loop (st := st) d hf 3 m (ss.map one1) .none 1 (by rw [List.length_map]; omega) (by decide) (by rw [List.length_map]; omega) (by omega) sm
  have s1 : setM 1 (frzM (compM [3, 4] (seqW (getv 0)) (.tup [(.nm 3), (.nm 4)]) (ret true) (ifE (tst (bin ltF (callM (d_order_of (m + 1)) (consA (getv 3) (consA (getv 4) (nilA)))) (ret (.int 0)))) (tupM (consA (tupM (consA (getv 3) (consA (getv 4) (nilA)))) (nilA))) (tupM (nilA))))) [.val d, .none, .none, .none, .none, .none, .none] st = some (.ok .nx (pfF d (ss.map one1) .none) st) := by
    rw [set_eq (frz_eq c1) (by show 1 < 7; decide)]
    rfl
  have done : ∀ R, L' = [] ∧ R = [] ∨ L' = [R] → d_piece_from (m + 1) [d] st = some (.ret (pcD R) st) := fun R hR => by
    refine run_ret (fr := pfF d L' pr') rfl ?_
    show m_piece_from (m + 1) [.val d, .none, .none, .none, .none, .none, .none] st = _
    unfold m_piece_from
    rw [seq_eq s1]
    show seqM (mWhile (m + 1) pfCond (pfBody (m + 1))) _ _ st = _
    rw [seq_eq r1]
    refine ret_eq ?_
    have t : tst (bin neF (getv 1) (frzM (lstN nilA))) (pfF d L' pr') st = some (.ok (!decide (L' = [])) (pfF d L' pr') st) := by
      refine tst_eq (bin_eq (get_eq (d := .lst (L'.map pcD)) rfl) (frz_eq (lst_eq nil_eq rfl)) ?_)
      rcases hR with ⟨rfl, _⟩ | rfl
      · unfold neF
        rw [eqB_ok (n := 1) (m := 1) rfl rfl (by decide) (by decide)]
        rfl
      · unfold neF
        have o : okD 5 (.lst ([R].map pcD)) = true := by
          show (okD 4 (pcD R) && true) = true
          rw [okD_pc]
          rfl
        rw [eqB_ok (n := 5) (m := 1) o rfl (by decide) (by decide)]
        rfl
    rw [ife_eq t]
    rcases hR with ⟨rfl, rfl⟩ | rfl
    · rfl
    · exact bin_eq (get_eq (d := .lst [pcD R]) rfl) rfl s_ix0l
  match L', r2, r3, r4, done with
  | [], _, _, r4, done => exact ⟨[], done [] (.inl ⟨rfl, rfl⟩), ⟨(fun q hq => by cases hq), List.Pairwise.nil, Nat.zero_le _⟩, fun x => by
      rw [← covS_any h, ← r4 x]
      rfl⟩
  | [R], _, r3, r4, done => exact ⟨R, done R (.inr rfl), (r3 R (List.mem_singleton.mpr rfl)).1, fun x => by
      rw [← covS_any h, ← r4 x]
      simp⟩
theorem any_map_b {α : Type} (f : α → Bool) (l : List α) : boolsD (l.map fun p => .bl (f p)) = some (l.map f) := boolsD_map f l
/-- piece_of a list or a tuple of stretches -/
theorem e_pieceof {ss : List P2} {d : D} (hd : d = .lst (ss.map prD) ∨ d = .tup (ss.map prD)) (h : ∀ p ∈ ss, Str1 p) (hl : ss.length ≤ 8) (hf : 100000 ≤ fu) : ∃ R, d_piece_of fu [d] st = some (.ret (pcD R) st) ∧ Pc R ∧ ∀ x, inP R x = covS ss x := by
  obtain ⟨R, r1, r2, r3⟩ := e_piecefrom (fu := fu) (st := st) hd h hl hf
  refine ⟨R, ?_, r2, r3⟩
  have g0 : seqW (getv 0) [.val d, .none, .none, .none] st = some (.ok (ss.map prD, .no) [.val d, .none, .none, .none] st) := seqW_eq (get_eq rfl) hd.symm
  have a1 := compM_pure (f := prD) (vs := [3]) (g := .nm 3) (t := ret true) (e := callM (d_is_pair fu) (consA (getv 3) nilA)) (p := fun _ => true) (q := fun _ => .bl true) g0 rfl (fun p hp => ⟨[.val d, .none, .none, .val (prD p)], _, rfl, rfl, (fun z => by cases z), fun _ => ⟨_, call_eq (cons_eq (get_eq rfl) nil_eq) (e_pair (h p hp).a (h p hp).b), rfl⟩⟩) (by omega)
  rw [List.filter_eq_self.mpr (fun _ _ => rfl)] at a1
  have a2 := compM_pure (f := prD) (vs := [1, 2]) (g := .tup [(.nm 1), (.nm 2)]) (t := ret true) (e := bin gtF (callM (d_order_of fu) (consA (getv 1) (consA (getv 2) nilA))) (ret (.int 0))) (p := fun _ => true) (q := fun _ => .bl false) g0 rfl (fun p hp =>
    ⟨[.val d, .val (frD p.1), .val (frD p.2), .none], _, rfl, rfl, (fun z => by cases z), fun _ => ⟨[.val d, .val (frD p.1), .val (frD p.2), .none], (by
      refine bin_eq (call_eq (cons_eq (get_eq rfl) (cons_eq (get_eq rfl) nil_eq)) (e_order (h p hp).a (h p hp).b)) rfl ?_
      have le := (h p hp).le
      rw [s_gt, cmp_pos (h p hp).a (h p hp).b, ltQ_vv (h p hp).b (h p hp).a, decide_eq_false (by omega)]), rfl⟩⟩) (by omega)
  rw [List.filter_eq_self.mpr (fun _ _ => rfl)] at a2
  have t1 : tst (callM (d_is_list fu) (consA (getv 0) nilA)) [.val d, .none, .none, .none] st = some (.ok true [.val d, .none, .none, .none] st) := by
    refine tst_eq (call_eq (cons_eq (get_eq rfl) nil_eq) (run_ret (fr := [.val d]) rfl ?_))
    refine ret_eq (un1_eq (get_eq (d := d) rfl) ?_)
    rcases hd with rfl | rfl <;> rfl
  have t2 : tst (un1 allF (frzM (compM [3] (seqW (getv 0)) (.nm 3) (ret true) (callM (d_is_pair fu) (consA (getv 3) nilA))))) [.val d, .none, .none, .none] st = some (.ok true [.val d, .none, .none, .none] st) := by
    refine tst_eq (un1_eq (frz_eq a1) ?_)
    simp only [allF, boolsD_map (fun _ : P2 => true) ss, all_true]
  have t3 : tst (un1 anyF (frzM (compM [1, 2] (seqW (getv 0)) (.tup [(.nm 1), (.nm 2)]) (ret true) (bin gtF (callM (d_order_of fu) (consA (getv 1) (consA (getv 2) nilA))) (ret (.int 0)))))) [.val d, .none, .none, .none] st = some (.ok false [.val d, .none, .none, .none] st) := by
    refine tst_eq (un1_eq (frz_eq a2) ?_)
    have : (ss.map fun _ => false).any _root_.id = false := by
      induction ss with
      | nil => rfl
      | cons p ss ih =>
        rw [List.map_cons, List.any_cons]
        simp
    simp only [anyF, boolsD_map (fun _ : P2 => false) ss, this]
  refine run_ret (fr := [.val d, .none, .none, .none]) rfl ?_
  show m_piece_of fu [.val d, .none, .none, .none] st = _
  unfold m_piece_of
  rw [seq_eq (fr1 := [.val d, .none, .none, .none]) (st1 := st) ?_, seq_eq (fr1 := [.val d, .none, .none, .none]) (st1 := st) ?_]
  · exact ret_eq (call_eq (cons_eq (get_eq rfl) nil_eq) r1)
  · rw [if_eq t3]
    rfl
  · have t : orT (notT (tst (callM (d_is_list fu) (consA (getv 0) nilA)))) (notT (tst (un1 allF (frzM (compM [3] (seqW (getv 0)) (.nm 3) (ret true) (callM (d_is_pair fu) (consA (getv 3) nilA))))))) [.val d, .none, .none, .none] st = some (.ok false [.val d, .none, .none, .none] st) := by
      rw [or_f (not_eq t1)]
      exact not_eq t2
    rw [if_eq t]
    rfl
end
end DL
end

section
set_option Elab.async false
set_option linter.all false
set_option maxRecDepth 100000
set_option maxHeartbeats 4000000
/-! k06, the plain side, part k: lowest terms, sums. -/
namespace DL
open PySem PySem.Spec L2
/-- the gcd with the sign of d -/
def sgc (n d : Int) : Int := if d > 0 then (Nat.gcd n.natAbs d.natAbs : Int) else -(Nat.gcd n.natAbs d.natAbs : Int)
def lowQ (n d : Int) : Q := (n.fdiv (sgc n d), d.fdiv (sgc n d))
theorem gcd_pos {n d : Int} (h : d ≠ 0) : 0 < Nat.gcd n.natAbs d.natAbs := Nat.gcd_pos_of_pos_right _ (by omega)
theorem sgc_ne {n d : Int} (h : d ≠ 0) : sgc n d ≠ 0 := by
  have := gcd_pos (n := n) h
  unfold sgc
  split <;> omega
theorem sgc_sz {n d : Int} {k : Nat} (h : d ≠ 0) (hs : Sz k d) : Sz k (sgc n d) := by
  have h1 : Nat.gcd n.natAbs d.natAbs ≤ d.natAbs := Nat.le_of_dvd (by omega) (Nat.gcd_dvd_right _ _)
  unfold Sz sgc at *
  split <;> omega
section
variable {fu : Nat} {st : SS} {n d : Int} {k : Nat}
theorem s_abs : absF st (.int n) = some (.int (n.natAbs : Nat)) := by
  simp only [absF]
  congr 2
  split <;> omega
theorem e_fracof (h : d ≠ 0) (hs : Sz k d) (hk : k < 9000) : d_fraction_of fu [.int n, .int d] st = some (.ret (frD (lowQ n d)) st) := by
  have o1 := divOk_of (i := n) (sgc_ne h) (sgc_sz (n := n) h hs) hk
  have o2 := divOk_of (i := d) (sgc_ne h) (sgc_sz (n := n) h hs) hk
  refine run_ret (fr := [.val (.int n), .val (.int d), .val (.int (sgc n d))]) rfl ?_
  show m_fraction_of fu [.val (.int n), .val (.int d), .none] st = _
  have t1 : tst (bin gtF (getv 1) (ret (.int 0))) [.val (.int n), .val (.int d), .none] st = some (.ok (decide (0 < d)) [.val (.int n), .val (.int d), .none] st) := tst_eq (bin_eq (get_eq rfl) rfl s_gt)
  have g1 : bin gcdF (getv 0) (peekv 1) [.val (.int n), .val (.int d), .none] st = some (.ok (.int (Nat.gcd n.natAbs d.natAbs : Nat)) [.val (.int n), .val (.int d), .none] st) := bin_eq (get_eq (d := .int n) rfl) (peek_eq (d := .int d) rfl) (by simp [gcdF, intOp])
  have s1 : setM 2 (ifE (tst (bin gtF (getv 1) (ret (.int 0)))) (bin gcdF (getv 0) (peekv 1)) (un1 negF (bin gcdF (getv 0) (peekv 1)))) [.val (.int n), .val (.int d), .none] st = some (.ok .nx [.val (.int n), .val (.int d), .val (.int (sgc n d))] st) := by
    have e : ifE (tst (bin gtF (getv 1) (ret (.int 0)))) (bin gcdF (getv 0) (peekv 1)) (un1 negF (bin gcdF (getv 0) (peekv 1))) [.val (.int n), .val (.int d), .none] st = some (.ok (.int (sgc n d)) [.val (.int n), .val (.int d), .none] st) := by
      rw [ife_eq t1]
      unfold sgc
      by_cases z : 0 < d
      · rw [if_pos (decide_eq_true z), if_pos z]
        exact g1
      · rw [if_neg (by simpa using z), if_neg z]
        exact un1_eq g1 s_neg
    rw [set_eq e (by show 2 < 3; decide)]
    rfl
  unfold m_fraction_of
  rw [seq_eq s1]
  refine ret_eq (tup_eq (cons_eq (bin_eq (get_eq rfl) (peek_eq rfl) ?_) (cons_eq (bin_eq (get_eq rfl) (peek_eq rfl) ?_) nil_eq)) rfl)
  · rw [s_div, if_pos o1]
    rfl
  · rw [s_div, if_pos o2]
    rfl
def lowC : M Bool := tst (bin gtF (getv 3) (ret (.int 0)))
def lowB : M Fl := parM [2, 3] (valR (getv 3) (valR (bin modF (un1 intF (peekv 2)) (peekv 3)) nilR))
theorem low_loop : ∀ (b a m : Nat), b ≤ m → mWhile (m + 1) lowC lowB [.val (.int n), .val (.int d), .val (.int (a : Nat)), .val (.int (b : Nat))] st = some (.ok .nx [.val (.int n), .val (.int d), .val (.int (Nat.gcd a b : Nat)), .val (.int 0)] st) := by
  intro b
  induction b using Nat.strongRecOn with
  | ind b ih =>
    intro a m hm
    have c1 : lowC [.val (.int n), .val (.int d), .val (.int (a : Nat)), .val (.int (b : Nat))] st = some (.ok (decide ((0 : Int) < (b : Nat))) [.val (.int n), .val (.int d), .val (.int (a : Nat)), .val (.int (b : Nat))] st) := tst_eq (bin_eq (get_eq rfl) rfl s_gt)
    conv => lhs; unfold mWhile
    rw [bnd_eq c1]
    by_cases z : b = 0
    · subst z
      rw [decide_eq_false (by omega), Nat.gcd_zero_right]
      rfl
    · rw [decide_eq_true (by omega), if_pos rfl]
      have e : bin modF (un1 intF (peekv 2)) (peekv 3) [.val (.int n), .val (.int d), .val (.int (a : Nat)), .val (.int (b : Nat))] st = some (.ok (.int ((a % b : Nat) : Int)) [.val (.int n), .val (.int d), .val (.int (a : Nat)), .val (.int (b : Nat))] st) := by
        refine bin_eq (un1_eq (peek_eq (d := .int (a : Nat)) rfl) rfl) (peek_eq (d := .int (b : Nat)) rfl) ?_
        rw [s_mod, if_pos (by omega), Int.fmod_eq_emod_of_nonneg _ (by omega)]
        rfl
      have b1 : lowB [.val (.int n), .val (.int d), .val (.int (a : Nat)), .val (.int (b : Nat))] st = some (.ok .nx [.val (.int n), .val (.int d), .val (.int (b : Nat)), .val (.int ((a % b : Nat) : Int))] st) := by
        unfold lowB parM valR
        rw [bnd_eq (show bnd _ _ _ st = _ from by rw [bnd_eq (get_eq rfl), bnd_eq (show bnd _ _ _ st = _ from by rw [bnd_eq e]; rfl)]; rfl)]
        rfl
      rw [bnd_eq b1]
      obtain ⟨m', rfl⟩ : ∃ m', m = m' + 1 := ⟨m - 1, by omega⟩
      have lt : a % b < b := Nat.mod_lt _ (by omega)
      show mWhile (m' + 1) lowC lowB _ st = _
      rw [ih (a % b) lt b m' (by omega)]
      have eg : Nat.gcd b (a % b) = Nat.gcd a b := by
        rw [Nat.gcd_comm a b, Nat.gcd_rec b a, Nat.gcd_comm]
      rw [eg]
theorem e_low (h : d ≠ 0) (hs : Sz k d) (hk : k < 9000) (hf : 2 ^ k ≤ fu) : d_law_low fu [.int n, .int d] st = some (.ret (frD (lowQ n d)) st) := by
  have o1 := divOk_of (i := n) (sgc_ne h) (sgc_sz (n := n) h hs) hk
  have o2 := divOk_of (i := d) (sgc_ne h) (sgc_sz (n := n) h hs) hk
  obtain ⟨m, rfl⟩ : ∃ m, fu = m + 1 := ⟨fu - 1, by have := Nat.pow_pos (n := k) (show 0 < 2 by decide); omega⟩
  refine run_ret (fr := [.val (.int n), .val (.int d), .val (.int (sgc n d)), .val (.int 0)]) rfl ?_
  show m_law_low (m + 1) [.val (.int n), .val (.int d), .none, .none] st = _
  have p1 : parM [2, 3] (valR (un1 absF (peekv 0)) (valR (un1 absF (peekv 1)) nilR)) [.val (.int n), .val (.int d), .none, .none] st = some (.ok .nx [.val (.int n), .val (.int d), .val (.int (n.natAbs : Nat)), .val (.int (d.natAbs : Nat))] st) := by
    have a1 : un1 absF (peekv 0) [.val (.int n), .val (.int d), .none, .none] st = some (.ok (.int (n.natAbs : Nat)) [.val (.int n), .val (.int d), .none, .none] st) := un1_eq (peek_eq rfl) s_abs
    have a2 : un1 absF (peekv 1) [.val (.int n), .val (.int d), .none, .none] st = some (.ok (.int (d.natAbs : Nat)) [.val (.int n), .val (.int d), .none, .none] st) := un1_eq (peek_eq rfl) s_abs
    unfold parM valR
    rw [bnd_eq (show bnd _ _ _ st = _ from by rw [bnd_eq a1, bnd_eq (show bnd _ _ _ st = _ from by rw [bnd_eq a2]; rfl)]; rfl)]
    rfl
  have hs' : d.natAbs < 2 ^ k := hs
  have l1 := low_loop (n := n) (d := d) (st := st) d.natAbs n.natAbs m (by omega)
  unfold m_law_low
  rw [seq_eq p1]
  show seqM (mWhile (m + 1) lowC lowB) _ _ st = _
  rw [seq_eq l1]
  have i1 : ifM (tst (bin ltF (getv 1) (ret (.int 0)))) (setM 2 (un1 negF (peekv 2))) (ret .nx) [.val (.int n), .val (.int d), .val (.int (Nat.gcd n.natAbs d.natAbs : Nat)), .val (.int 0)] st = some (.ok .nx [.val (.int n), .val (.int d), .val (.int (sgc n d)), .val (.int 0)] st) := by
    have t1 : tst (bin ltF (getv 1) (ret (.int 0))) [.val (.int n), .val (.int d), .val (.int (Nat.gcd n.natAbs d.natAbs : Nat)), .val (.int 0)] st = some (.ok (decide (d < 0)) [.val (.int n), .val (.int d), .val (.int (Nat.gcd n.natAbs d.natAbs : Nat)), .val (.int 0)] st) := tst_eq (bin_eq (get_eq rfl) rfl s_lt)
    rw [if_eq t1]
    unfold sgc
    by_cases z : d < 0
    · rw [if_pos (decide_eq_true z), if_neg (by omega), set_eq (un1_eq (peek_eq rfl) s_neg) (by show 2 < 4; decide)]
      rfl
    · rw [if_neg (by simpa using z), if_pos (by omega)]
      rfl
  rw [seq_eq i1]
  refine ret_eq (tup_eq (cons_eq (bin_eq (get_eq rfl) (peek_eq rfl) ?_) (cons_eq (bin_eq (get_eq rfl) (peek_eq rfl) ?_) nil_eq)) rfl)
  · rw [s_div, if_pos o1]
    rfl
  · rw [s_div, if_pos o2]
    rfl
end
end DL
end

section
set_option Elab.async false
set_option linter.all false
set_option maxRecDepth 100000
set_option maxHeartbeats 4000000
/-! k06, the plain side, part l: sums of lengths. -/
namespace DL
open PySem PySem.Spec L2
/-- a fraction of bounded size -/
structure Fq (k : Nat) (q : Q) : Prop where
  ne : q.2 ≠ 0
  s1 : Sz k q.1
  s2 : Sz k q.2
theorem Fq.mono {k l : Nat} {q : Q} (h : Fq k q) (hl : k ≤ l) : Fq l q := ⟨h.ne, h.s1.mono hl, h.s2.mono hl⟩
theorem Pl.fq {q : Q} (h : Pl q) : Fq 70 q := ⟨by have := h.dp; omega, h.s1, h.s2⟩
theorem sgc_dvd1 {n d : Int} : sgc n d ∣ n := by
  have h : ((Nat.gcd n.natAbs d.natAbs : Nat) : Int) ∣ n := Int.natAbs_dvd_natAbs.mp (by simpa using Nat.gcd_dvd_left _ _)
  unfold sgc
  split
  · exact h
  · exact Int.neg_dvd.mpr h
theorem sgc_dvd2 {n d : Int} : sgc n d ∣ d := by
  have h : ((Nat.gcd n.natAbs d.natAbs : Nat) : Int) ∣ d := Int.natAbs_dvd_natAbs.mp (by simpa using Nat.gcd_dvd_right _ _)
  unfold sgc
  split
  · exact h
  · exact Int.neg_dvd.mpr h
theorem fdiv_sz {n g : Int} {k : Nat} (hg : g ≠ 0) (hd : g ∣ n) (hs : Sz k n) : Sz k (n.fdiv g) := by
  obtain ⟨c, rfl⟩ := hd
  rw [Int.mul_fdiv_cancel_left _ hg]
  unfold Sz at *
  rw [Int.natAbs_mul] at hs
  have : c.natAbs * 1 ≤ c.natAbs * g.natAbs := Nat.mul_le_mul_left _ (by omega)
  rw [Nat.mul_comm g.natAbs] at hs
  omega
theorem low_F {n d : Int} {k : Nat} (h : d ≠ 0) (h1 : Sz k n) (h2 : Sz k d) : Fq k (lowQ n d) := by
  refine ⟨?_, fdiv_sz (sgc_ne h) sgc_dvd1 h1, fdiv_sz (sgc_ne h) sgc_dvd2 h2⟩
  show d.fdiv (sgc n d) ≠ 0
  obtain ⟨c, hc⟩ := sgc_dvd2 (n := n) (d := d)
  intro z
  have e : d.fdiv (sgc n d) = c := by
    conv => lhs; lhs; rw [hc]
    exact Int.mul_fdiv_cancel_left _ (sgc_ne h)
  rw [e] at z
  rw [z, Int.mul_zero] at hc
  exact h hc
def addQ (a b : Q) : Q := lowQ (a.1 * b.2 + b.1 * a.2) (a.2 * b.2)
def subQ (a b : Q) : Q := lowQ (a.1 * b.2 - b.1 * a.2) (a.2 * b.2)
theorem add_F {a b : Q} {k l : Nat} (ha : Fq k a) (hb : Fq l b) : Fq (k + l + 1) (addQ a b) :=
  low_F (Int.mul_ne_zero ha.ne hb.ne) ((ha.s1.mul hb.s2).add ((hb.s1.mul ha.s2).mono (by omega))) ((ha.s2.mul hb.s2).mono (by omega))
theorem sub_F {a b : Q} {k l : Nat} (ha : Fq k a) (hb : Fq l b) : Fq (k + l + 1) (subQ a b) :=
  low_F (Int.mul_ne_zero ha.ne hb.ne) ((ha.s1.mul hb.s2).sub ((hb.s1.mul ha.s2).mono (by omega))) ((ha.s2.mul hb.s2).mono (by omega))
section
variable {fu : Nat} {st : SS} {a b : Q} {k l : Nat}
theorem args4 (fr : Fr) (st : SS) {op : SS → D → D → Option D} {r : Int} (h0 : fr[0]? = some (.val (frD a))) (h1 : fr[1]? = some (.val (frD b))) (b1 : bitsOk a.1 b.2 = true) (b2 : bitsOk b.1 a.2 = true) (b3 : bitsOk a.2 b.2 = true) (ho : op st (.int (a.1 * b.2)) (.int (b.1 * a.2)) = some (.int r)) :
    consA (bin op (bin mulF (bin ixA (getv 0) (ret (.int 0))) (bin ixA (getv 1) (ret (.int 1)))) (bin mulF (bin ixA (getv 1) (ret (.int 0))) (bin ixA (getv 0) (ret (.int 1))))) (consA (bin mulF (bin ixA (getv 0) (ret (.int 1))) (bin ixA (getv 1) (ret (.int 1)))) nilA) fr st
      = some (.ok [.int r, .int (a.2 * b.2)] fr st) := by
  have x0 : bin ixA (getv 0) (ret (.int 0)) fr st = some (.ok (.int a.1) fr st) := bin_eq (get_eq h0) rfl fr0
  have x1 : bin ixA (getv 0) (ret (.int 1)) fr st = some (.ok (.int a.2) fr st) := bin_eq (get_eq h0) rfl fr1
  have y0 : bin ixA (getv 1) (ret (.int 0)) fr st = some (.ok (.int b.1) fr st) := bin_eq (get_eq h1) rfl fr0
  have y1 : bin ixA (getv 1) (ret (.int 1)) fr st = some (.ok (.int b.2) fr st) := bin_eq (get_eq h1) rfl fr1
  exact cons_eq (bin_eq (bin_eq x0 y1 (by rw [s_mul, if_pos b1])) (bin_eq y0 x1 (by rw [s_mul, if_pos b2])) ho) (cons_eq (bin_eq x1 y1 (by rw [s_mul, if_pos b3])) nil_eq)
theorem bits3 (ha : Fq k a) (hb : Fq l b) (h : k + l < 8000) : bitsOk a.1 b.2 = true ∧ bitsOk b.1 a.2 = true ∧ bitsOk a.2 b.2 = true :=
  ⟨bits_of ha.s1 hb.s2 (by omega), bits_of hb.s1 ha.s2 (by omega), bits_of ha.s2 hb.s2 (by omega)⟩
theorem e_sumof (ha : Fq k a) (hb : Fq l b) (h : k + l < 8000) : d_sum_of fu [frD a, frD b] st = some (.ret (frD (addQ a b)) st) := by
  obtain ⟨b1, b2, b3⟩ := bits3 ha hb h
  exact run_ret (fr := [.val (frD a), .val (frD b)]) rfl (ret_eq (call_eq (args4 [.val (frD a), .val (frD b)] st rfl rfl b1 b2 b3 s_add) (e_fracof (Int.mul_ne_zero ha.ne hb.ne) (ha.s2.mul hb.s2) (by omega))))
theorem e_diffof (ha : Fq k a) (hb : Fq l b) (h : k + l < 8000) : d_difference_of fu [frD a, frD b] st = some (.ret (frD (subQ a b)) st) := by
  obtain ⟨b1, b2, b3⟩ := bits3 ha hb h
  exact run_ret (fr := [.val (frD a), .val (frD b)]) rfl (ret_eq (call_eq (args4 [.val (frD a), .val (frD b)] st rfl rfl b1 b2 b3 s_sub) (e_fracof (Int.mul_ne_zero ha.ne hb.ne) (ha.s2.mul hb.s2) (by omega))))
theorem e_plus (ha : Fq k a) (hb : Fq l b) (h : k + l < 8000) (hf : 2 ^ (k + l) ≤ fu) : d_law_plus fu [frD a, frD b] st = some (.ret (frD (addQ a b)) st) := by
  obtain ⟨b1, b2, b3⟩ := bits3 ha hb h
  exact run_ret (fr := [.val (frD a), .val (frD b)]) rfl (ret_eq (call_eq (args4 [.val (frD a), .val (frD b)] st rfl rfl b1 b2 b3 s_add) (e_low (Int.mul_ne_zero ha.ne hb.ne) (ha.s2.mul hb.s2) (by omega) hf)))
theorem e_minus (ha : Fq k a) (hb : Fq l b) (h : k + l < 8000) (hf : 2 ^ (k + l) ≤ fu) : d_law_minus fu [frD a, frD b] st = some (.ret (frD (subQ a b)) st) := by
  obtain ⟨b1, b2, b3⟩ := bits3 ha hb h
  exact run_ret (fr := [.val (frD a), .val (frD b)]) rfl (ret_eq (call_eq (args4 [.val (frD a), .val (frD b)] st rfl rfl b1 b2 b3 s_sub) (e_low (Int.mul_ne_zero ha.ne hb.ne) (ha.s2.mul hb.s2) (by omega) hf)))
end
end DL
end

section
set_option Elab.async false
set_option linter.all false
set_option maxRecDepth 100000
set_option maxHeartbeats 4000000
/-! k06, the plain side, part m: totals, lengths. -/
namespace DL
open PySem PySem.Spec L2
section
variable {fu : Nat} {st : SS}
theorem tot_loop {g : Fn} {L : D} (hg : ∀ a b k l st, Fq k a → Fq l b → k + l < 8000 → g [frD a, frD b] st = some (.ret (frD (addQ a b)) st)) : ∀ (xs : List Q) (acc : Q) (k : Nat) (sl : Slot), (∀ x ∈ xs, Fq 141 x) → Fq k acc → k + 142 * xs.length < 7000 →
    ∃ sl', mFor (xs.map frD) (forB (setv 2) (setM 1 (callM g (consA (getv 1) (consA (getv 2) nilA))))) [.val L, .val (frD acc), sl] st = some (.ok .nx [.val L, .val (frD (xs.foldl addQ acc)), sl'] st)
  | [], acc, k, sl, _, _, _ => ⟨sl, rfl⟩
  | x :: xs, acc, k, sl, hx, ha, hk => by
    have h1 := hx x List.mem_cons_self
    rw [List.length_cons] at hk
    obtain ⟨sl', r⟩ := tot_loop hg xs (addQ acc x) (k + 141 + 1) (.val (frD x)) (fun y hy => hx y (List.mem_cons_of_mem _ hy)) (add_F ha h1) (by omega)
    refine ⟨sl', ?_⟩
    rw [List.map_cons]
    unfold mFor
    have b1 : forB (setv 2) (setM 1 (callM g (consA (getv 1) (consA (getv 2) nilA)))) (frD x) [.val L, .val (frD acc), sl] st = some (.ok .nx [.val L, .val (frD (addQ acc x)), .val (frD x)] st) := by
      unfold forB
      rw [bnd_eq (show setv 2 (frD x) _ st = some (.ok .nx [.val L, .val (frD acc), .val (frD x)] st) from rfl)]
      show setM 1 _ _ st = _
      rw [set_eq (call_eq (cons_eq (get_eq rfl) (cons_eq (get_eq rfl) nil_eq)) (hg acc x k 141 st ha h1 (by omega))) (by show 1 < 3; decide)]
      rfl
    rw [bnd_eq b1]
    exact r
def totQ (xs : List Q) : Q := xs.foldl addQ (0, 1)
theorem zero_F : Fq 1 ((0, 1) : Q) := ⟨by decide, by unfold Sz; decide, by unfold Sz; decide⟩
theorem e_total {xs : List Q} (h : ∀ x ∈ xs, Fq 141 x) (hl : xs.length ≤ 40) : d_total_of fu [.lst (xs.map frD)] st = some (.ret (frD (totQ xs)) st) := by
  obtain ⟨sl', r⟩ := tot_loop (g := d_sum_of fu) (L := .lst (xs.map frD)) (st := st) (fun a b k l st ha hb h => e_sumof ha hb h) xs (0, 1) 1 .none h zero_F (by omega)
  refine run_ret (fr := [.val (.lst (xs.map frD)), .val (frD (totQ xs)), sl']) rfl ?_
  show m_total_of fu [.val (.lst (xs.map frD)), .none, .none] st = _
  unfold m_total_of
  rw [seq_eq (show setM 1 (ret c_ZERO) _ st = some (.ok .nx [.val (.lst (xs.map frD)), .val (frD (0, 1)), .none] st) from rfl), seq_eq (for_eq (seqI_eq (get_eq rfl) (.inr rfl)) r)]
  exact ret_eq (get_eq rfl)
theorem e_lawsum {xs : List Q} (h : ∀ x ∈ xs, Fq 141 x) (hl : xs.length ≤ 40) (hf : 2 ^ 8000 ≤ fu) : d_law_sum fu [.lst (xs.map frD)] st = some (.ret (frD (totQ xs)) st) := by
  obtain ⟨sl', r⟩ := tot_loop (g := d_law_plus fu) (L := .lst (xs.map frD)) (st := st) (fun a b k l st ha hb h => e_plus ha hb h (Nat.le_trans (Nat.pow_le_pow_right (by decide) (by omega)) hf)) xs (0, 1) 1 .none h zero_F (by omega)
  refine run_ret (fr := [.val (.lst (xs.map frD)), .val (frD (totQ xs)), sl']) rfl ?_
  show m_law_sum fu [.val (.lst (xs.map frD)), .none, .none] st = _
  unfold m_law_sum
  rw [seq_eq (show setM 1 (tupM (consA (ret (.int 0)) (consA (ret (.int 1)) nilA))) _ st = some (.ok .nx [.val (.lst (xs.map frD)), .val (frD (0, 1)), .none] st) from rfl), seq_eq (for_eq (seqI_eq (get_eq rfl) (.inr rfl)) r)]
  exact ret_eq (get_eq rfl)
def lensQ (l : List P2) : List Q := l.map fun p => subQ p.2 p.1
theorem lens_F {l : List P2} (h : PlP l) : ∀ x ∈ lensQ l, Fq 141 x := fun x hx => by
  obtain ⟨p, hp, rfl⟩ := List.mem_map.mp hx
  exact sub_F (h p hp).2.fq (h p hp).1.fq
/-- length_of -/
theorem e_length {l : List P2} (h : Pc l) (hi : incQ (flatQ l) = true) (hl : l.length ≤ 40) : d_length_of fu [pcD l] st = some (.ret (frD (totQ (lensQ l))) st) := by
  have g0 : seqW (getv 0) [.val (pcD l), .none, .none] st = some (.ok (l.map prD, .no) [.val (pcD l), .none, .none] st) := seqW_eq (get_eq rfl) (.inl rfl)
  have c1 := compM_pure (f := prD) (vs := [1, 2]) (g := .tup [(.nm 1), (.nm 2)]) (t := ret true) (e := callM (d_difference_of fu) (consA (getv 2) (consA (getv 1) nilA))) (p := fun _ => true) (q := fun p => frD (subQ p.2 p.1)) g0 rfl (fun p hp =>
    ⟨[.val (pcD l), .val (frD p.1), .val (frD p.2)], _, rfl, rfl, (fun z => by cases z), fun _ => ⟨_, call_eq (cons_eq (get_eq rfl) (cons_eq (get_eq rfl) nil_eq)) (e_diffof (h.pl p hp).2.fq (h.pl p hp).1.fq (by decide)), rfl⟩⟩) (by omega)
  rw [List.filter_eq_self.mpr (fun _ _ => rfl)] at c1
  have e1 : (l.map fun p => frD (subQ p.2 p.1)) = (lensQ l).map frD := by
    unfold lensQ
    rw [List.map_map]
    rfl
  rw [e1] at c1
  refine run_ret (fr := [.val (pcD l), .none, .none]) rfl ?_
  show m_length_of fu [.val (pcD l), .none, .none] st = _
  unfold m_length_of
  rw [seq_eq (expr_eq (call_eq (cons_eq (get_eq rfl) nil_eq) (e_check h.pl h.len hi)))]
  exact ret_eq (call_eq (cons_eq (frz_eq c1) nil_eq) (e_total (lens_F h.pl) (by unfold lensQ; rw [List.length_map]; omega)))
end
theorem inc_up {W : List Q} (h : ∀ q ∈ W, Pl q) (u : Up W) : incQ W = true := by
  induction W with
  | nil => rfl
  | cons a W ih =>
    cases W with
    | nil => rfl
    | cons b W =>
      unfold incQ
      obtain ⟨h1, h2⟩ := List.pairwise_cons.mp u
      rw [ltQ_vv (h a List.mem_cons_self) (h b (List.mem_cons_of_mem _ List.mem_cons_self)), decide_eq_true (h1 b List.mem_cons_self), ih (fun q hq => h q (List.mem_cons_of_mem _ hq)) h2]
      rfl
theorem Pc.inc {l : List P2} (h : Pc l) : incQ (flatQ l) = true := inc_up h.pl.flat h.up
section
variable {fu : Nat} {st : SS} {one other : List P2}
theorem e_joined (h1 : Pc one) (h2 : Pc other) (hl : one.length + other.length ≤ 20000) (hf : 100000 ≤ fu) : d_joined_pieces fu [pcD one, pcD other] st = some (.ret (pcD (combL kOr one other)) st) := by
  refine run_ret (fr := [.val (pcD one), .val (pcD other)]) rfl ?_
  show m_joined_pieces fu [.val (pcD one), .val (pcD other)] st = _
  unfold m_joined_pieces
  rw [seq_eq (expr_eq (call_eq (cons_eq (get_eq rfl) (cons_eq (get_eq rfl) nil_eq)) (e_checks h1.pl h1.len h1.inc h2.pl h2.len h2.inc)))]
  exact ret_eq (call_eq (cons_eq (get_eq rfl) (cons_eq (get_eq rfl) (cons_eq rfl nil_eq))) (e_combined (k := kOr) h1 h2 hl hf))
abbrev kAnd : Bool → Bool → Bool := fun a b => a && b
abbrev kBut : Bool → Bool → Bool := fun a b => a && !b
theorem e_common (h1 : Pc one) (h2 : Pc other) (hl : one.length + other.length ≤ 20000) (hf : 100000 ≤ fu) : d_common_piece fu [pcD one, pcD other] st = some (.ret (pcD (combL kAnd one other)) st) := by
  refine run_ret (fr := [.val (pcD one), .val (pcD other)]) rfl ?_
  show m_common_piece fu [.val (pcD one), .val (pcD other)] st = _
  unfold m_common_piece
  rw [seq_eq (expr_eq (call_eq (cons_eq (get_eq rfl) (cons_eq (get_eq rfl) nil_eq)) (e_checks h1.pl h1.len h1.inc h2.pl h2.len h2.inc)))]
  exact ret_eq (call_eq (cons_eq (get_eq rfl) (cons_eq (get_eq rfl) (cons_eq rfl nil_eq))) (e_combined (k := kAnd) h1 h2 hl hf))
theorem e_rest (h1 : Pc one) (h2 : Pc other) (hl : one.length + other.length ≤ 20000) (hf : 100000 ≤ fu) : d_rest_piece fu [pcD one, pcD other] st = some (.ret (pcD (combL kBut one other)) st) := by
  refine run_ret (fr := [.val (pcD one), .val (pcD other)]) rfl ?_
  show m_rest_piece fu [.val (pcD one), .val (pcD other)] st = _
  unfold m_rest_piece
  rw [seq_eq (expr_eq (call_eq (cons_eq (get_eq rfl) (cons_eq (get_eq rfl) nil_eq)) (e_checks h1.pl h1.len h1.inc h2.pl h2.len h2.inc)))]
  exact ret_eq (call_eq (cons_eq (get_eq rfl) (cons_eq (get_eq rfl) (cons_eq rfl nil_eq))) (e_combined (k := kBut) h1 h2 hl hf))
end
end DL
end

section
set_option Elab.async false
set_option linter.all false
set_option maxRecDepth 100000
set_option maxHeartbeats 4000000
/-! k06, the plain side, part n: parted. -/
namespace DL
open PySem PySem.Spec L2
def leftQ (l : List P2) (q : Q) : List P2 := (l.filter fun p => ltQ p.1 q).map fun p => (p.1, minQ p.2 q)
def rightQ (l : List P2) (q : Q) : List P2 := (l.filter fun p => ltQ q p.2).map fun p => (maxQ p.1 q, p.2)
section
variable {fu : Nat} {st : SS} {l : List P2} {q : Q}
theorem e_left (h : PlP l) (hq : Pl q) (hl : l.length ≤ 100000) : d_left_piece fu [pcD l, frD q] st = some (.ret (pcD (leftQ l q)) st) := by
  have g0 : seqW (getv 0) [.val (pcD l), .val (frD q), .none, .none] st = some (.ok (l.map prD, .no) [.val (pcD l), .val (frD q), .none, .none] st) := seqW_eq (get_eq rfl) (.inl rfl)
  have c1 := compM_pure (f := prD) (vs := [2, 3]) (g := .tup [(.nm 2), (.nm 3)]) (t := tst (bin ltF (callM (d_order_of fu) (consA (getv 2) (consA (getv 1) (nilA)))) (ret (.int 0)))) (e := tupM (consA (getv 2) (consA (callM (d_least_of fu) (consA (frzM (lstN (consA (getv 3) (consA (getv 1) (nilA))))) (nilA))) (nilA)))) (p := fun p => ltQ p.1 q) (q := fun p => prD (p.1, minQ p.2 q)) g0 rfl (fun p hp =>
    ⟨[.val (pcD l), .val (frD q), .val (frD p.1), .val (frD p.2)], [.val (pcD l), .val (frD q), .val (frD p.1), .val (frD p.2)], rfl, tst_eq (bin_eq (call_eq (cons_eq (get_eq rfl) (cons_eq (get_eq rfl) nil_eq)) (e_order (h p hp).1 hq)) rfl (by rw [s_lt, cmp_neg (h p hp).1 hq])), (fun _ => rfl), fun _ =>
      ⟨_, tup_eq (cons_eq (get_eq rfl) (cons_eq (call_eq (cons_eq (frz_eq (lst_eq (cons_eq (get_eq rfl) (cons_eq (get_eq rfl) nil_eq)) rfl)) nil_eq) (e_least2 (h p hp).2 hq)) nil_eq)) rfl, rfl⟩⟩) (by omega)
  refine run_ret (fr := [.val (pcD l), .val (frD q), .none, .none]) rfl ?_
  show retM _ [.val (pcD l), .val (frD q), .none, .none] st = _
  refine ret_eq (un1_eq (frz_eq c1) ?_)
  unfold leftQ pcD
  rw [List.map_map]
  rfl
theorem e_right (h : PlP l) (hq : Pl q) (hl : l.length ≤ 100000) : d_right_piece fu [pcD l, frD q] st = some (.ret (pcD (rightQ l q)) st) := by
  have g0 : seqW (getv 0) [.val (pcD l), .val (frD q), .none, .none] st = some (.ok (l.map prD, .no) [.val (pcD l), .val (frD q), .none, .none] st) := seqW_eq (get_eq rfl) (.inl rfl)
  have c1 := compM_pure (f := prD) (vs := [2, 3]) (g := .tup [(.nm 2), (.nm 3)]) (t := tst (bin ltF (callM (d_order_of fu) (consA (getv 1) (consA (getv 3) (nilA)))) (ret (.int 0)))) (e := tupM (consA (callM (d_greatest_of fu) (consA (frzM (lstN (consA (getv 2) (consA (getv 1) (nilA))))) (nilA))) (consA (getv 3) (nilA)))) (p := fun p => ltQ q p.2) (q := fun p => prD (maxQ p.1 q, p.2)) g0 rfl (fun p hp =>
    ⟨[.val (pcD l), .val (frD q), .val (frD p.1), .val (frD p.2)], [.val (pcD l), .val (frD q), .val (frD p.1), .val (frD p.2)], rfl, tst_eq (bin_eq (call_eq (cons_eq (get_eq rfl) (cons_eq (get_eq rfl) nil_eq)) (e_order hq (h p hp).2)) rfl (by rw [s_lt, cmp_neg hq (h p hp).2])), (fun _ => rfl), fun _ =>
      ⟨_, tup_eq (cons_eq (call_eq (cons_eq (frz_eq (lst_eq (cons_eq (get_eq rfl) (cons_eq (get_eq rfl) nil_eq)) rfl)) nil_eq) (e_great2 (h p hp).1 hq)) (cons_eq (get_eq rfl) nil_eq)) rfl, rfl⟩⟩) (by omega)
  refine run_ret (fr := [.val (pcD l), .val (frD q), .none, .none]) rfl ?_
  show retM _ [.val (pcD l), .val (frD q), .none, .none] st = _
  refine ret_eq (un1_eq (frz_eq c1) ?_)
  unfold rightQ pcD
  rw [List.map_map]
  rfl
theorem e_parted (h : Pc l) (hq : Pl q) : d_parted fu [pcD l, frD q] st = some (.ret (.tup [pcD (leftQ l q), pcD (rightQ l q)]) st) := by
  refine run_ret (fr := [.val (pcD l), .val (frD q)]) rfl ?_
  show m_parted fu [.val (pcD l), .val (frD q)] st = _
  unfold m_parted
  rw [seq_eq (expr_eq (call_eq (cons_eq (get_eq rfl) nil_eq) (e_check h.pl h.len h.inc))), seq_eq (expr_eq (call_eq (cons_eq (get_eq rfl) nil_eq) (e_chkplace hq)))]
  exact ret_eq (tup_eq (cons_eq (call_eq (cons_eq (get_eq rfl) (cons_eq (get_eq rfl) nil_eq)) (e_left h.pl hq h.len)) (cons_eq (call_eq (cons_eq (get_eq rfl) (cons_eq (get_eq rfl) nil_eq)) (e_right h.pl hq h.len)) nil_eq)) rfl)
/-! ### the law's own split -/
def spL (q : Q) (p : P2) : List P2 := if ltQ q p.2 then (if ltQ p.1 q then [(p.1, q)] else []) else [p]
def spR (q : Q) (p : P2) : List P2 := if ltQ q p.2 then (if ltQ p.1 q then [(q, p.2)] else [p]) else []
theorem left_sp : ∀ {l : List P2}, PlP l → Pl q → (∀ p ∈ l, vv p.1 < vv p.2) → l.flatMap (spL q) = leftQ l q
  | [], _, _, _ => rfl
  | p :: l, h, hq, hs => by
    have ih := left_sp (l := l) (fun r hr => h r (List.mem_cons_of_mem _ hr)) hq fun r hr => hs r (List.mem_cons_of_mem _ hr)
    obtain ⟨h1, h2⟩ := h p List.mem_cons_self
    have lt := hs p List.mem_cons_self
    rw [List.flatMap_cons, ih]
    unfold spL leftQ minQ
    rw [List.filter_cons, ltQ_vv hq h2, ltQ_vv h1 hq]
    by_cases a : vv q < vv p.2 <;> by_cases b : vv p.1 < vv q
    · simp [a, b, ltQ_vv hq h2]
    · simp [a, b]
    · simp [a, b, ltQ_vv hq h2]
    · omega
theorem right_sp : ∀ {l : List P2}, PlP l → Pl q → (∀ p ∈ l, vv p.1 < vv p.2) → l.flatMap (spR q) = rightQ l q
  | [], _, _, _ => rfl
  | p :: l, h, hq, hs => by
    have ih := right_sp (l := l) (fun r hr => h r (List.mem_cons_of_mem _ hr)) hq fun r hr => hs r (List.mem_cons_of_mem _ hr)
    obtain ⟨h1, h2⟩ := h p List.mem_cons_self
    have lt := hs p List.mem_cons_self
    rw [List.flatMap_cons, ih]
    unfold spR rightQ maxQ
    rw [List.filter_cons, ltQ_vv hq h2, ltQ_vv h1 hq]
    by_cases a : vv q < vv p.2 <;> by_cases b : vv p.1 < vv q
    · simp [a, b, ltQ_vv h1 hq]
    · simp [a, b, ltQ_vv h1 hq]
    · simp [a, b]
    · omega
end
end DL
end

section
set_option Elab.async false
set_option linter.all false
set_option maxRecDepth 100000
set_option maxHeartbeats 4000000
/-! k06, the plain side, part o: the law's split. -/
namespace DL
open PySem PySem.Spec L2
section
variable {fu : Nat} {st : SS} {q : Q} {d : D}
def spF (d : D) (q : Q) (L R : List P2) (s4 s5 : Slot) : Fr := [.val d, .val (frD q), .own (L.map prD), .own (R.map prD), s4, s5]
def spBody (fu : Nat) : M Fl := ifM (notT (tst (callM (d_law_less fu) (consA (getv 1) (consA (getv 5) (nilA))))))
 (exprM (mutL 2 appF (consA (tupM (consA (getv 4) (consA (getv 5) (nilA)))) (nilA))))
 (ifM (notT (tst (callM (d_law_less fu) (consA (getv 4) (consA (getv 1) (nilA))))))
 (exprM (mutL 3 appF (consA (tupM (consA (getv 4) (consA (getv 5) (nilA)))) (nilA))))
 (seqM (exprM (mutL 2 appF (consA (tupM (consA (getv 4) (consA (getv 1) (nilA)))) (nilA))))
 (exprM (mutL 3 appF (consA (tupM (consA (getv 1) (consA (getv 5) (nilA)))) (nilA))))))
theorem spApp {L R : List P2} {p : P2} {s4 s5 : Slot} {m n : M D} {a b : Q} (hm : m (spF d q L R s4 s5) st = some (.ok (frD a) (spF d q L R s4 s5) st)) (hn : n (spF d q L R s4 s5) st = some (.ok (frD b) (spF d q L R s4 s5) st)) (hl : L.length ≤ 1000000) (hr : R.length ≤ 1000000) :
    exprM (mutL 2 appF (consA (tupM (consA m (consA n nilA))) nilA)) (spF d q L R s4 s5) st = some (.ok .nx (spF d q (L ++ [(a, b)]) R s4 s5) st) ∧
    exprM (mutL 3 appF (consA (tupM (consA m (consA n nilA))) nilA)) (spF d q L R s4 s5) st = some (.ok .nx (spF d q L (R ++ [(a, b)]) s4 s5) st) := by
  have args : consA (tupM (consA m (consA n nilA))) nilA (spF d q L R s4 s5) st = some (.ok [prD (a, b)] (spF d q L R s4 s5) st) := cons_eq (tup_eq (cons_eq hm (cons_eq hn nil_eq)) rfl) nil_eq
  constructor
  · rw [expr_eq (app_run (ds := L.map prD) rfl args (by simpa using hl))]
    unfold spF
    rw [List.map_append]
    rfl
  · rw [expr_eq (app_run (ds := R.map prD) rfl args (by simpa using hr))]
    unfold spF
    rw [List.map_append]
    rfl
theorem spBody_run {L R : List P2} {p : P2} (h1 : Pl p.1) (h2 : Pl p.2) (hq : Pl q) (hl : L.length ≤ 900000) (hr : R.length ≤ 900000) :
    spBody fu (spF d q L R (.val (frD p.1)) (.val (frD p.2))) st = some (.ok .nx (spF d q (L ++ spL q p) (R ++ spR q p) (.val (frD p.1)) (.val (frD p.2))) st) := by
  have t1 : notT (tst (callM (d_law_less fu) (consA (getv 1) (consA (getv 5) nilA)))) (spF d q L R (.val (frD p.1)) (.val (frD p.2))) st = some (.ok (!ltQ q p.2) (spF d q L R (.val (frD p.1)) (.val (frD p.2))) st) := not_eq (tst_eq (call_eq (cons_eq (get_eq rfl) (cons_eq (get_eq rfl) nil_eq)) (e_less hq h2)))
  have t2 : notT (tst (callM (d_law_less fu) (consA (getv 4) (consA (getv 1) nilA)))) (spF d q L R (.val (frD p.1)) (.val (frD p.2))) st = some (.ok (!ltQ p.1 q) (spF d q L R (.val (frD p.1)) (.val (frD p.2))) st) := not_eq (tst_eq (call_eq (cons_eq (get_eq rfl) (cons_eq (get_eq rfl) nil_eq)) (e_less h1 hq)))
  unfold spBody spL spR
  cases e1 : ltQ q p.2 with
  | false =>
    rw [e1] at t1
    rw [if_t t1, (spApp (p := p) (m := getv 4) (n := getv 5) (get_eq rfl) (get_eq rfl) (by omega) (by omega)).1]
    simp
  | true =>
    rw [e1] at t1
    rw [if_f t1]
    cases e2 : ltQ p.1 q with
    | false =>
      rw [e2] at t2
      rw [if_t t2, (spApp (p := p) (m := getv 4) (n := getv 5) (get_eq rfl) (get_eq rfl) (by omega) (by omega)).2]
      simp
    | true =>
      rw [e2] at t2
      rw [if_f t2, seq_eq (spApp (p := p) (m := getv 4) (n := getv 1) (get_eq rfl) (get_eq rfl) (by omega) (by omega)).1, (spApp (p := p) (m := getv 1) (n := getv 5) (get_eq rfl) (get_eq rfl) (by rw [List.length_append]; simp; omega) (by omega)).2]
      simp
theorem sp_len : (spL q p).length ≤ 1 ∧ (spR q p).length ≤ 1 := by
  unfold spL spR
  constructor <;> split <;> (try split) <;> simp
theorem sp_loop (hq : Pl q) : ∀ (l L R : List P2) (s4 s5 : Slot), PlP l → L.length + l.length ≤ 900000 → R.length + l.length ≤ 900000 → ∃ s4' s5', mFor (l.map prD) (forB (tupG 2 (consG (setv 4) (consG (setv 5) nilG))) (spBody fu)) (spF d q L R s4 s5) st = some (.ok .nx (spF d q (L ++ l.flatMap (spL q)) (R ++ l.flatMap (spR q)) s4' s5') st)
  | [], L, R, s4, s5, _, _, _ => ⟨s4, s5, by simp [mFor, ret]⟩
  | p :: l, L, R, s4, s5, h, hl, hr => by
    obtain ⟨h1, h2⟩ := h p List.mem_cons_self
    obtain ⟨n1, n2⟩ := sp_len (q := q) (p := p)
    rw [List.length_cons] at hl hr
    obtain ⟨s4', s5', r⟩ := sp_loop hq l (L ++ spL q p) (R ++ spR q p) (.val (frD p.1)) (.val (frD p.2)) (fun x hx => h x (List.mem_cons_of_mem _ hx)) (by rw [List.length_append]; omega) (by rw [List.length_append]; omega)
    refine ⟨s4', s5', ?_⟩
    rw [List.map_cons, List.flatMap_cons, List.flatMap_cons, ← List.append_assoc, ← List.append_assoc]
    unfold mFor
    have b : forB (tupG 2 (consG (setv 4) (consG (setv 5) nilG))) (spBody fu) (prD p) (spF d q L R s4 s5) st = some (.ok .nx (spF d q (L ++ spL q p) (R ++ spR q p) (.val (frD p.1)) (.val (frD p.2))) st) := by
      unfold forB
      rw [bnd_eq (show tupG 2 (consG (setv 4) (consG (setv 5) nilG)) (prD p) (spF d q L R s4 s5) st = some (.ok .nx (spF d q L R (.val (frD p.1)) (.val (frD p.2))) st) from rfl)]
      exact spBody_run h1 h2 hq (by omega) (by omega)
    rw [bnd_eq b]
    exact r
theorem e_split {l : List P2} (h : PlP l) (hq : Pl q) (hs : ∀ p ∈ l, vv p.1 < vv p.2) (hl : l.length ≤ 100000) : d_law_split fu [pcD l, frD q] st = some (.ret (.tup [pcD (leftQ l q), pcD (rightQ l q)]) st) := by
  obtain ⟨s4', s5', r⟩ := sp_loop (fu := fu) (st := st) (d := pcD l) hq l [] [] .none .none h (by simp; omega) (by simp; omega)
  refine run_ret (fr := spF (pcD l) q (leftQ l q) (rightQ l q) s4' s5') rfl ?_
  show m_law_split fu [.val (pcD l), .val (frD q), .none, .none, .none, .none] st = _
  unfold m_law_split
  rw [seq_eq (show parM [2, 3] (newR (lstN nilA) (newR (lstN nilA) nilR)) _ st = some (.ok .nx (spF (pcD l) q [] [] .none .none) st) from rfl)]
  show seqM (forM (seqI (getv 0)) (tupG 2 (consG (setv 4) (consG (setv 5) nilG))) (spBody fu)) _ _ st = _
  rw [seq_eq (for_eq (seqI_eq (get_eq rfl) (.inl rfl)) r), List.nil_append, List.nil_append, left_sp h hq hs, right_sp h hq hs]
  exact ret_eq (tup_eq (cons_eq (un1_eq (d := .lst ((leftQ l q).map prD)) (peek_own rfl) rfl) (cons_eq (un1_eq (d := .lst ((rightQ l q).map prD)) (peek_own rfl) rfl) nil_eq)) rfl)
end
end DL
end

section
set_option Elab.async false
set_option linter.all false
set_option maxRecDepth 100000
set_option maxHeartbeats 4000000
/-! k06, the plain side, part p: pieces as rising stretches. -/
namespace DL
open PySem PySem.Spec L2
theorem mem_flat {l : List P2} {q : Q} : q ∈ flatQ l ↔ ∃ p ∈ l, q = p.1 ∨ q = p.2 := by
  unfold flatQ
  rw [List.mem_flatMap]
  constructor
  · rintro ⟨p, hp, m⟩
    exact ⟨p, hp, by simpa using m⟩
  · rintro ⟨p, hp, m⟩
    exact ⟨p, hp, by simpa using m⟩
theorem up_iff : ∀ {l : List P2}, Up (flatQ l) ↔ (∀ p ∈ l, vv p.1 < vv p.2) ∧ l.Pairwise fun p r => vv p.2 < vv r.1
  | [] => ⟨fun _ => ⟨(fun _ h => by cases h), List.Pairwise.nil⟩, fun _ => List.Pairwise.nil⟩
  | p :: l => by
    have ih := up_iff (l := l)
    have e : flatQ (p :: l) = p.1 :: p.2 :: flatQ l := rfl
    rw [e]
    constructor
    · intro h
      obtain ⟨h1, h2⟩ := List.pairwise_cons.mp h
      obtain ⟨h3, h4⟩ := List.pairwise_cons.mp h2
      obtain ⟨i1, i2⟩ := ih.mp h4
      refine ⟨fun r hr => ?_, List.pairwise_cons.mpr ⟨fun r hr => h3 r.1 (mem_flat.mpr ⟨r, hr, .inl rfl⟩), i2⟩⟩
      rcases List.mem_cons.mp hr with rfl | hr
      · exact h1 _ List.mem_cons_self
      · exact i1 r hr
    · rintro ⟨h1, h2⟩
      obtain ⟨h3, h4⟩ := List.pairwise_cons.mp h2
      have lt := h1 p List.mem_cons_self
      have ab : ∀ q ∈ flatQ l, vv p.2 < vv q := fun q hq => by
        obtain ⟨r, hr, m⟩ := mem_flat.mp hq
        have a := h3 r hr
        have b := h1 r (List.mem_cons_of_mem _ hr)
        rcases m with rfl | rfl
        · exact a
        · exact Int.lt_trans a b
      refine List.pairwise_cons.mpr ⟨fun q hq => ?_, List.pairwise_cons.mpr ⟨ab, ih.mpr ⟨fun r hr => h1 r (List.mem_cons_of_mem _ hr), h4⟩⟩⟩
      rcases List.mem_cons.mp hq with rfl | hq
      · exact lt
      · exact Int.lt_trans lt (ab q hq)
/-- inside is being in a stretch -/
theorem pc_cov : ∀ {l : List P2}, Up (flatQ l) → ∀ x, inP l x = covS l x
  | [], _, _ => rfl
  | p :: l, h, x => by
    obtain ⟨h1, h2⟩ := up_iff.mp h
    obtain ⟨h3, h4⟩ := List.pairwise_cons.mp h2
    have ih := pc_cov (l := l) (up_iff.mpr ⟨fun r hr => h1 r (List.mem_cons_of_mem _ hr), h4⟩) x
    have lt := h1 p List.mem_cons_self
    show insQ (p.1 :: p.2 :: flatQ l) false x = (inS1 p x || covS l x)
    rw [ins_cons, ins_cons, ins_xor]
    have ih' : insQ (flatQ l) false x = covS l x := ih
    rw [ih']
    unfold inS1
    by_cases a : vv p.1 ≤ x <;> by_cases b : vv p.2 ≤ x
    · rw [decide_eq_true a, decide_eq_true b, decide_eq_false (show ¬ x < vv p.2 by omega)]
      simp
    · rw [decide_eq_true a, decide_eq_false b, decide_eq_true (show x < vv p.2 by omega)]
      have : covS l x = false := by
        rw [← ih']
        refine ins_lt fun q hq => ?_
        obtain ⟨r, hr, m⟩ := mem_flat.mp hq
        have c := h3 r hr
        have d := h1 r (List.mem_cons_of_mem _ hr)
        rcases m with rfl | rfl <;> omega
      rw [this]
      rfl
    · exact absurd b (by omega)
    · rw [decide_eq_false a, decide_eq_false b]
      simp
theorem Pc.lt {l : List P2} (h : Pc l) : ∀ p ∈ l, vv p.1 < vv p.2 := (up_iff.mp h.up).1
theorem Pc.cov {l : List P2} (h : Pc l) (x : Int) : inP l x = covS l x := pc_cov h.up x
theorem vv_min {a b : Q} (ha : Pl a) (hb : Pl b) : vv (minQ a b) = min (vv a) (vv b) := by
  unfold minQ
  rw [ltQ_vv hb ha]
  by_cases h : vv b < vv a
  · rw [if_pos (decide_eq_true h)]; omega
  · rw [if_neg (by simpa using h)]; omega
theorem vv_max {a b : Q} (ha : Pl a) (hb : Pl b) : vv (maxQ a b) = max (vv a) (vv b) := by
  unfold maxQ
  rw [ltQ_vv ha hb]
  by_cases h : vv a < vv b
  · rw [if_pos (decide_eq_true h)]; omega
  · rw [if_neg (by simpa using h)]; omega
theorem pl_min {a b : Q} (ha : Pl a) (hb : Pl b) : Pl (minQ a b) := by
  unfold minQ
  split
  · exact hb
  · exact ha
theorem pl_max {a b : Q} (ha : Pl a) (hb : Pl b) : Pl (maxQ a b) := by
  unfold maxQ
  split
  · exact hb
  · exact ha
theorem left_spec {l : List P2} {q : Q} (h : Pc l) (hq : Pl q) : Pc (leftQ l q) ∧ ∀ x, inP (leftQ l q) x = (inP l x && decide (x < vv q)) := by
  obtain ⟨h1, h2⟩ := up_iff.mp h.up
  have m : ∀ r ∈ leftQ l q, ∃ p ∈ l, vv p.1 < vv q ∧ r = (p.1, minQ p.2 q) := fun r hr => by
    obtain ⟨p, hp, rfl⟩ := List.mem_map.mp hr
    obtain ⟨hp1, hp2⟩ := List.mem_filter.mp hp
    refine ⟨p, hp1, ?_, rfl⟩
    rw [ltQ_vv (h.pl p hp1).1 hq] at hp2
    exact of_decide_eq_true hp2
  have up : Up (flatQ (leftQ l q)) := by
    refine up_iff.mpr ⟨fun r hr => ?_, ?_⟩
    · obtain ⟨p, hp, lt, rfl⟩ := m r hr
      have := h1 p hp
      show vv p.1 < vv (minQ p.2 q)
      rw [vv_min (h.pl p hp).2 hq]
      omega
    · unfold leftQ
      rw [List.pairwise_map]
      refine List.Pairwise.imp_of_mem (fun {a b} ha hb hab => ?_) (h2.sublist List.filter_sublist)
      show vv (minQ a.2 q) < vv b.1
      rw [vv_min (h.pl a (List.mem_filter.mp ha).1).2 hq]
      omega
  refine ⟨⟨fun r hr => ?_, up, ?_⟩, fun x => ?_⟩
  · obtain ⟨p, hp, _, rfl⟩ := m r hr
    exact ⟨(h.pl p hp).1, pl_min (h.pl p hp).2 hq⟩
  · unfold leftQ
    rw [List.length_map]
    exact Nat.le_trans (List.length_filter_le _ _) h.len
  · rw [pc_cov up, h.cov]
    unfold covS leftQ
    rw [Bool.eq_iff_iff]
    simp only [List.any_eq_true, List.mem_map, List.mem_filter, Bool.and_eq_true, decide_eq_true_iff, inS1]
    constructor
    · rintro ⟨r, ⟨p, ⟨hp, _⟩, rfl⟩, a, b⟩
      rw [vv_min (h.pl p hp).2 hq] at b
      have a' : vv p.1 ≤ x := a
      exact ⟨⟨p, hp, a', by omega⟩, by omega⟩
    · rintro ⟨⟨p, hp, a, b⟩, c⟩
      refine ⟨_, ⟨p, ⟨hp, ?_⟩, rfl⟩, a, ?_⟩
      · rw [ltQ_vv (h.pl p hp).1 hq]
        exact decide_eq_true (by omega)
      · show x < vv (minQ p.2 q)
        rw [vv_min (h.pl p hp).2 hq]
        omega
theorem right_spec {l : List P2} {q : Q} (h : Pc l) (hq : Pl q) : Pc (rightQ l q) ∧ ∀ x, inP (rightQ l q) x = (inP l x && decide (vv q ≤ x)) := by
  obtain ⟨h1, h2⟩ := up_iff.mp h.up
  have m : ∀ r ∈ rightQ l q, ∃ p ∈ l, vv q < vv p.2 ∧ r = (maxQ p.1 q, p.2) := fun r hr => by
    obtain ⟨p, hp, rfl⟩ := List.mem_map.mp hr
    obtain ⟨hp1, hp2⟩ := List.mem_filter.mp hp
    refine ⟨p, hp1, ?_, rfl⟩
    rw [ltQ_vv hq (h.pl p hp1).2] at hp2
    exact of_decide_eq_true hp2
  have up : Up (flatQ (rightQ l q)) := by
    refine up_iff.mpr ⟨fun r hr => ?_, ?_⟩
    · obtain ⟨p, hp, lt, rfl⟩ := m r hr
      have := h1 p hp
      show vv (maxQ p.1 q) < vv p.2
      rw [vv_max (h.pl p hp).1 hq]
      omega
    · unfold rightQ
      rw [List.pairwise_map]
      refine List.Pairwise.imp_of_mem (fun {a b} ha hb hab => ?_) (h2.sublist List.filter_sublist)
      show vv a.2 < vv (maxQ b.1 q)
      rw [vv_max (h.pl b (List.mem_filter.mp hb).1).1 hq]
      omega
  refine ⟨⟨fun r hr => ?_, up, ?_⟩, fun x => ?_⟩
  · obtain ⟨p, hp, _, rfl⟩ := m r hr
    exact ⟨pl_max (h.pl p hp).1 hq, (h.pl p hp).2⟩
  · unfold rightQ
    rw [List.length_map]
    exact Nat.le_trans (List.length_filter_le _ _) h.len
  · rw [pc_cov up, h.cov]
    unfold covS rightQ
    rw [Bool.eq_iff_iff]
    simp only [List.any_eq_true, List.mem_map, List.mem_filter, Bool.and_eq_true, decide_eq_true_iff, inS1]
    constructor
    · rintro ⟨r, ⟨p, ⟨hp, _⟩, rfl⟩, a, b⟩
      rw [vv_max (h.pl p hp).1 hq] at a
      have b' : x < vv p.2 := b
      exact ⟨⟨p, hp, by omega, b'⟩, by omega⟩
    · rintro ⟨⟨p, hp, a, b⟩, c⟩
      refine ⟨_, ⟨p, ⟨hp, ?_⟩, rfl⟩, ?_, b⟩
      · rw [ltQ_vv hq (h.pl p hp).2]
        exact decide_eq_true (by omega)
      · show vv (maxQ p.1 q) ≤ x
        rw [vv_max (h.pl p hp).1 hq]
        omega
/-- the two parts together, and what is common to them -/
theorem parts_join {l : List P2} {q : Q} (h : Pc l) (hq : Pl q) (hl : l.length ≤ 5000) : combL kOr (leftQ l q) (rightQ l q) = l := by
  obtain ⟨a1, a2⟩ := left_spec h hq
  obtain ⟨b1, b2⟩ := right_spec h hq
  have la : (leftQ l q).length ≤ l.length := by unfold leftQ; rw [List.length_map]; exact List.length_filter_le _ _
  have lb : (rightQ l q).length ≤ l.length := by unfold rightQ; rw [List.length_map]; exact List.length_filter_le _ _
  obtain ⟨c1, c2⟩ := combL_spec (k := kOr) rfl a1 b1 (by omega)
  refine pc_uniq c1 h fun x => ?_
  rw [c2, a2, b2]
  show (inP l x && decide (x < vv q) || inP l x && decide (vv q ≤ x)) = inP l x
  by_cases z : x < vv q
  · rw [decide_eq_true z, decide_eq_false (by omega)]; simp
  · rw [decide_eq_false z, decide_eq_true (by omega)]; simp
theorem pc_nil : Pc [] := ⟨(fun q hq => by cases hq), List.Pairwise.nil, Nat.zero_le _⟩
theorem parts_apart {l : List P2} {q : Q} (h : Pc l) (hq : Pl q) (hl : l.length ≤ 5000) : combL kAnd (leftQ l q) (rightQ l q) = [] := by
  obtain ⟨a1, a2⟩ := left_spec h hq
  obtain ⟨b1, b2⟩ := right_spec h hq
  have la : (leftQ l q).length ≤ l.length := by unfold leftQ; rw [List.length_map]; exact List.length_filter_le _ _
  have lb : (rightQ l q).length ≤ l.length := by unfold rightQ; rw [List.length_map]; exact List.length_filter_le _ _
  obtain ⟨c1, c2⟩ := combL_spec (k := kAnd) rfl a1 b1 (by omega)
  refine pc_uniq c1 pc_nil fun x => ?_
  rw [c2, a2, b2]
  show (inP l x && decide (x < vv q) && (inP l x && decide (vv q ≤ x))) = false
  by_cases z : x < vv q
  · rw [decide_eq_true z, decide_eq_false (show ¬ vv q ≤ x by omega)]; simp
  · rw [decide_eq_false z]; simp
end DL
end

section
set_option Elab.async false
set_option linter.all false
set_option maxRecDepth 100000
set_option maxHeartbeats 4000000
/-! k06, the plain side, part q: the law's union. -/
namespace DL
open PySem PySem.Spec L2
theorem mut_run {fr : Fr} {st st1 : SS} {i : Nat} {f : List D → List D → Option (D × List D)} {ms : M (List D)} {ds args ds' : List D} {d : D} (h : fr[i]? = some (.own ds)) (ha : ms fr st = some (.ok args fr st1)) (e : f ds args = some (d, ds')) :
    mutL i f ms fr st = some (.ok d (fr.set i (.own ds')) st1) := by
  unfold mutL
  have c : chkL i fr st = some (.ok () fr st) := by unfold chkL; rw [h]
  rw [bnd_eq c, bnd_eq ha]
  unfold mutI
  rw [h]
  simp only [e]
/-- a turn of the first loop -/
def insU (rows : List P2) (p : P2) : List P2 := rows.take (rows.filter fun r => !ltQ p.1 r.1).length ++ [p] ++ rows.drop (rows.filter fun r => !ltQ p.1 r.1).length
theorem filt_sort {rows : List P2} {P : P2 → Bool} (s : rows.Pairwise fun a b => P b = true → P a = true) : rows.take (rows.filter P).length = rows.filter P ∧ ∀ r ∈ rows.drop (rows.filter P).length, P r = false := by
  induction rows with
  | nil => exact ⟨rfl, fun r h => by cases h⟩
  | cons a rows ih =>
    obtain ⟨s1, s2⟩ := List.pairwise_cons.mp s
    obtain ⟨i1, i2⟩ := ih s2
    cases e : P a with
    | true =>
      rw [List.filter_cons_of_pos e, List.length_cons, List.take_succ_cons, i1]
      exact ⟨rfl, i2⟩
    | false =>
      have z : rows.filter P = [] := by
        rw [List.filter_eq_nil_iff]
        intro r hr hp
        rw [s1 r hr hp] at e
        cases e
      rw [List.filter_cons_of_neg (by simp [e]), z]
      refine ⟨rfl, fun r hr => ?_⟩
      rcases List.mem_cons.mp hr with rfl | hr
      · exact e
      · cases f : P r with
        | true => rw [s1 r hr f] at e; cases e
        | false => rfl
def SrtU (l : List P2) : Prop := l.Pairwise fun a b => vv a.1 ≤ vv b.1
theorem insU_mem {rows : List P2} {p r : P2} : r ∈ insU rows p ↔ r = p ∨ r ∈ rows := by
  unfold insU
  rw [List.append_assoc, List.mem_append, List.mem_append, List.mem_singleton]
  conv => rhs; rw [← List.take_append_drop (rows.filter fun r => !ltQ p.1 r.1).length rows, List.mem_append]
  constructor
  · rintro (h | h | h)
    · exact .inr (.inl h)
    · exact .inl h
    · exact .inr (.inr h)
  · rintro (h | h | h)
    · exact .inr (.inl h)
    · exact .inl h
    · exact .inr (.inr h)
theorem insU_len {rows : List P2} {p : P2} : (insU rows p).length = rows.length + 1 := by
  unfold insU
  rw [List.length_append, List.length_append, List.length_singleton]
  have := congrArg List.length (List.take_append_drop (rows.filter fun r => !ltQ p.1 r.1).length rows)
  rw [List.length_append] at this
  omega
theorem insU_srt {rows : List P2} {p : P2} (h : SrtU rows) (hp : Pl p.1) (hr : ∀ r ∈ rows, Pl r.1) : SrtU (insU rows p) := by
  have s : rows.Pairwise fun a b => (!ltQ p.1 b.1) = true → (!ltQ p.1 a.1) = true := by
    refine List.Pairwise.imp_of_mem (fun {a b} ha hb hab => ?_) h
    rw [ltQ_vv hp (hr b hb), ltQ_vv hp (hr a ha)]
    simp only [Bool.not_eq_true', decide_eq_false_iff_not]
    omega
  obtain ⟨f1, f2⟩ := filt_sort s
  have t1 : ∀ r ∈ rows.take (rows.filter fun r => !ltQ p.1 r.1).length, vv r.1 ≤ vv p.1 := fun r m => by
    rw [f1] at m
    obtain ⟨m1, m2⟩ := List.mem_filter.mp m
    rw [ltQ_vv hp (hr r m1)] at m2
    simpa using m2
  have t2 : ∀ r ∈ rows.drop (rows.filter fun r => !ltQ p.1 r.1).length, vv p.1 ≤ vv r.1 := fun r m => by
    have := f2 r m
    rw [ltQ_vv hp (hr r (List.mem_of_mem_drop m))] at this
    have : vv p.1 < vv r.1 := by simpa using this
    omega
  unfold insU SrtU
  rw [List.append_assoc, List.pairwise_append]
  refine ⟨h.sublist (List.take_sublist _ _), List.pairwise_cons.mpr ⟨t2, h.sublist (List.drop_sublist _ _)⟩, fun a ha b hb => ?_⟩
  have a1 := t1 a ha
  rcases List.mem_cons.mp hb with rfl | hb
  · exact a1
  · exact Int.le_trans a1 (t2 b hb)
theorem covS_mem {l l' : List P2} (h : ∀ r, r ∈ l ↔ r ∈ l') (x : Int) : covS l x = covS l' x := by
  unfold covS
  rw [Bool.eq_iff_iff, List.any_eq_true, List.any_eq_true]
  constructor
  · rintro ⟨p, hp, e⟩; exact ⟨p, (h p).mp hp, e⟩
  · rintro ⟨p, hp, e⟩; exact ⟨p, (h p).mpr hp, e⟩
theorem rows_spec : ∀ (ss rows : List P2), (∀ p ∈ ss, Str1 p) → (∀ p ∈ rows, Str1 p) → SrtU rows → SrtU (ss.foldl insU rows) ∧ (ss.foldl insU rows).length = rows.length + ss.length ∧ ∀ r, r ∈ ss.foldl insU rows ↔ r ∈ rows ∨ r ∈ ss
  | [], rows, _, _, s => ⟨s, rfl, fun r => by simp⟩
  | p :: ss, rows, h, hr, s => by
    have hp := h p List.mem_cons_self
    obtain ⟨i1, i2, i3⟩ := rows_spec ss (insU rows p) (fun q hq => h q (List.mem_cons_of_mem _ hq)) (fun q hq => by
      rcases insU_mem.mp hq with rfl | m
      · exact hp
      · exact hr q m) (insU_srt s hp.a fun r m => (hr r m).a)
    refine ⟨i1, ?_, fun r => ?_⟩
    · rw [List.foldl_cons, i2, insU_len, List.length_cons]; omega
    · rw [List.foldl_cons, i3, insU_mem, List.mem_cons]
      constructor
      · rintro ((h | h) | h)
        · exact .inr (.inl h)
        · exact .inl h
        · exact .inr (.inr h)
      · rintro (h | h | h)
        · exact .inl (.inr h)
        · exact .inl (.inl h)
        · exact .inr h
/-- a turn of the second loop -/
def merU (fd : List P2) (p : P2) : List P2 := match fd.getLast? with
  | some z => if ltQ z.2 p.1 then (if ltQ p.1 p.2 then fd ++ [p] else fd) else if ltQ z.2 p.2 then fd.dropLast ++ [(z.1, p.2)] else fd
  | none => if ltQ p.1 p.2 then fd ++ [p] else fd
theorem covS_app (a b : List P2) (x : Int) : covS (a ++ b) x = (covS a x || covS b x) := by unfold covS; rw [List.any_append]
theorem covS_one (p : P2) (x : Int) : covS [p] x = inS1 p x := by unfold covS; simp
/-- what a turn keeps -/
structure UI (fd done : List P2) : Prop where
  pl : PlP fd
  lt : ∀ p ∈ fd, vv p.1 < vv p.2
  ap : fd.Pairwise fun p r => vv p.2 < vv r.1
  len : fd.length ≤ done.length
  cov : ∀ x, covS fd x = covS done x
  low : ∀ z ∈ fd, ∃ r ∈ done, vv z.1 = vv r.1
theorem mer_spec {fd done : List P2} {p : P2} (h : UI fd done) (hp : Str1 p) (hs : ∀ r ∈ done, vv r.1 ≤ vv p.1) : UI (merU fd p) (done ++ [p]) := by
  have grow : (∀ z ∈ fd, vv z.2 < vv p.1) → vv p.1 < vv p.2 → UI (fd ++ [p]) (done ++ [p]) := fun a b => by
    refine ⟨fun r hr => ?_, fun r hr => ?_, ?_, ?_, fun x => ?_, fun z hz => ?_⟩
    · rcases List.mem_append.mp hr with m | m
      · exact h.pl r m
      · rw [List.mem_singleton.mp m]; exact ⟨hp.a, hp.b⟩
    · rcases List.mem_append.mp hr with m | m
      · exact h.lt r m
      · rw [List.mem_singleton.mp m]; exact b
    · rw [List.pairwise_append]
      exact ⟨h.ap, List.pairwise_singleton _ _, fun z hz r hr => by rw [List.mem_singleton.mp hr]; exact a z hz⟩
    · have := h.len
      simp; omega
    · rw [covS_app, covS_app, h.cov]
    · rcases List.mem_append.mp hz with m | m
      · obtain ⟨r, hr, e⟩ := h.low z m
        exact ⟨r, List.mem_append.mpr (.inl hr), e⟩
      · exact ⟨p, List.mem_append.mpr (.inr (List.mem_singleton.mpr rfl)), by rw [List.mem_singleton.mp m]⟩
  have stay : (∀ x, inS1 p x = true → covS fd x = true) → UI fd (done ++ [p]) := fun a => by
    refine ⟨h.pl, h.lt, h.ap, by have := h.len; simp; omega, fun x => ?_, fun z hz => ?_⟩
    · rw [covS_app, ← h.cov, covS_one]
      cases e : inS1 p x with
      | true => rw [a x e]; rfl
      | false => rw [Bool.or_false]
    · obtain ⟨r, hr, e⟩ := h.low z hz
      exact ⟨r, List.mem_append.mpr (.inl hr), e⟩
  have le := hp.le
  have emp : ¬ vv p.1 < vv p.2 → UI fd (done ++ [p]) := fun a => stay fun x e => by
    unfold inS1 at e
    rw [Bool.and_eq_true, decide_eq_true_iff, decide_eq_true_iff] at e
    omega
  unfold merU
  rw [ltQ_vv hp.a hp.b]
  cases e : fd.getLast? with
  | none =>
    have : fd = [] := List.getLast?_eq_none_iff.mp e
    subst this
    simp only
    split
    · rename_i c
      exact grow (fun z hz => by cases hz) (of_decide_eq_true c)
    · rename_i c
      exact emp (by simpa using c)
  | some z =>
    obtain ⟨l, rfl⟩ : ∃ l, fd = l ++ [z] := by
      rw [List.getLast?_eq_some_iff] at e
      exact e
    simp only
    have mz : z ∈ l ++ [z] := List.mem_append.mpr (.inr (List.mem_singleton.mpr rfl))
    obtain ⟨pz1, pz2⟩ := h.pl z mz
    obtain ⟨a1, a2, a3⟩ := List.pairwise_append.mp h.ap
    have zl := h.lt z mz
    obtain ⟨r0, hr0, er0⟩ := h.low z mz
    have zp : vv z.1 ≤ vv p.1 := by have := hs r0 hr0; omega
    rw [ltQ_vv pz2 hp.a, ltQ_vv pz2 hp.b]
    split
    · rename_i c
      have c := of_decide_eq_true c
      split
      · rename_i d
        refine grow (fun y hy => ?_) (of_decide_eq_true d)
        rcases List.mem_append.mp hy with m | m
        · have := a3 y m z (List.mem_singleton.mpr rfl)
          omega
        · rw [List.mem_singleton.mp m]; exact c
      · rename_i d
        exact emp (by simpa using d)
    · rename_i c
      have c : ¬ vv z.2 < vv p.1 := by simpa using c
      split
      · rename_i d
        have d := of_decide_eq_true d
        rw [List.dropLast_concat]
        refine ⟨fun r hr => ?_, fun r hr => ?_, ?_, ?_, fun x => ?_, fun y hy => ?_⟩
        · rcases List.mem_append.mp hr with m | m
          · exact h.pl r (List.mem_append.mpr (.inl m))
          · rw [List.mem_singleton.mp m]; exact ⟨pz1, hp.b⟩
        · rcases List.mem_append.mp hr with m | m
          · exact h.lt r (List.mem_append.mpr (.inl m))
          · rw [List.mem_singleton.mp m]
            show vv z.1 < vv p.2
            omega
        · rw [List.pairwise_append]
          refine ⟨a1, List.pairwise_singleton _ _, fun y hy r hr => ?_⟩
          rw [List.mem_singleton.mp hr]
          exact a3 y hy z (List.mem_singleton.mpr rfl)
        · have := h.len
          simp at this ⊢
          omega
        · rw [covS_app, covS_app, ← h.cov, covS_app, covS_one, covS_one, covS_one, Bool.or_assoc]
          congr 1
          unfold inS1
          rw [Bool.eq_iff_iff]
          simp only [Bool.or_eq_true, Bool.and_eq_true, decide_eq_true_iff]
          omega
        · rcases List.mem_append.mp hy with m | m
          · obtain ⟨r, hr, e⟩ := h.low y (List.mem_append.mpr (.inl m))
            exact ⟨r, List.mem_append.mpr (.inl hr), e⟩
          · rw [List.mem_singleton.mp m]
            exact ⟨r0, List.mem_append.mpr (.inl hr0), er0⟩
      · rename_i d
        have d : ¬ vv z.2 < vv p.2 := by simpa using d
        refine stay fun x e => ?_
        rw [covS_app, covS_one]
        unfold inS1 at e ⊢
        simp only [Bool.or_eq_true, Bool.and_eq_true, decide_eq_true_iff] at e ⊢
        right
        omega
theorem mers_spec : ∀ (rows fd done : List P2), UI fd done → (∀ p ∈ rows, Str1 p) → SrtU (done ++ rows) → UI (rows.foldl merU fd) (done ++ rows)
  | [], fd, done, h, _, _ => by rw [List.append_nil]; exact h
  | p :: rows, fd, done, h, hr, s => by
    have s' : SrtU (done ++ [p] ++ rows) := by rw [List.append_assoc]; exact s
    have i := mers_spec rows (merU fd p) (done ++ [p]) (mer_spec h (hr p List.mem_cons_self) fun r m => (List.pairwise_append.mp s).2.2 r m p List.mem_cons_self) (fun q hq => hr q (List.mem_cons_of_mem _ hq)) s'
    rw [List.append_assoc] at i
    exact i
def unionQ (ss : List P2) : List P2 := (ss.foldl insU []).foldl merU []
theorem union_spec {ss : List P2} (h : ∀ p ∈ ss, Str1 p) (hl : ss.length ≤ 1000) : Pc (unionQ ss) ∧ (∀ x, inP (unionQ ss) x = covS ss x) ∧ (unionQ ss).length ≤ ss.length := by
  obtain ⟨r1, r2, r3⟩ := rows_spec ss [] h (fun p hp => by cases hp) List.Pairwise.nil
  have u := mers_spec (ss.foldl insU []) [] [] ⟨(fun p hp => by cases hp), (fun p hp => by cases hp), List.Pairwise.nil, Nat.le_refl _, (fun x => rfl), (fun z hz => by cases hz)⟩ (fun p hp => by
    rcases (r3 p).mp hp with m | m
    · cases m
    · exact h p m) r1
  have len : (unionQ ss).length ≤ ss.length := by
    have := u.len
    rw [List.nil_append, r2] at this
    rw [List.length_nil, Nat.zero_add] at this
    exact this
  have pc : Pc (unionQ ss) := ⟨u.pl, up_iff.mpr ⟨u.lt, u.ap⟩, by omega⟩
  refine ⟨pc, fun x => ?_, len⟩
  rw [pc.cov]
  have := u.cov x
  rw [List.nil_append] at this
  rw [show covS (unionQ ss) x = _ from this]
  exact covS_mem (fun r => by rw [r3]; simp) x
end DL
end

section
set_option Elab.async false
set_option linter.all false
set_option maxRecDepth 100000
set_option maxHeartbeats 4000000
/-! k06, the plain side, part r: the law's union, the walk. -/
namespace DL
open PySem PySem.Spec L2
theorem binL_own {f : SS → D → D → Option D} {i : Nat} {mb : M D} {ds : List D} {y r : D} {fr fr1 : Fr} {st st1 : SS} (h : fr[i]? = some (.own ds)) (h2 : mb fr st = some (.ok y fr1 st1)) (h3 : fr1[i]? = some (.own ds)) (e : f st1 (.lst ds) y = some r) :
    binL f i mb fr st = some (.ok r fr1 st1) := by
  unfold binL
  rw [bnd_eq (peek_own h), bnd_eq h2, bnd_eq (peek_own h3)]
  unfold op2
  rw [e]
  rfl
theorem set_run {i j : Nat} {mi me : M D} {ds : List D} {d : D} {k : Int} {fr : Fr} {st : SS} (h : me fr st = some (.ok d fr st)) (hi : fr[i]? = some (.own ds)) (hk : mi fr st = some (.ok (.int k) fr st)) (e : ixN ds.length k = some j) :
    setIt i mi me fr st = some (.ok .nx (fr.set i (.own (ds.set j d))) st) := by
  unfold setIt
  have c : chkL i fr st = some (.ok () fr st) := by unfold chkL; rw [hi]
  have m : mutI i setF [.int k, d] fr st = some (.ok .non (fr.set i (.own (ds.set j d))) st) := by
    unfold mutI
    rw [hi]
    simp only [setF, e]
  rw [bnd_eq h, bnd_eq c, bnd_eq hk, bnd_eq m]
  rfl
theorem insF_eq {ds : List D} {n : Nat} {y : D} (hl : ds.length ≤ 1000000) (hn : n ≤ 1000000) : insF ds [.int (n : Nat), y] = some (.non, ds.take n ++ [y] ++ ds.drop n) := by
  have c : (small ds.length && decide ((0 : Int) ≤ (n : Int) ∧ (n : Int) < 2 ^ 63)) = true := by
    rw [Bool.and_eq_true]
    exact ⟨small_of hl, decide_eq_true (by omega)⟩
  simp only [insF, c, if_true, Int.toNat_natCast]
section
variable {fu : Nat} {st : SS} {d : D}
def unF (d : D) (R F : List P2) (s3 s4 : Slot) : Fr := [.val d, .own (R.map prD), .own (F.map prD), s3, s4, .none]
def unB1 (fu : Nat) : M Fl := exprM (mutL 1 insF (consA (un1 lenF (frzM (compM [5] (ownI 1) (.nm 5) (notT (tst (callM (d_law_less fu) (consA (getv 3) (consA (bin ixA (getv 5) (ret (.int 0))) (nilA)))))) (getv 5)))) (consA (tupM (consA (getv 3) (consA (getv 4) (nilA)))) (nilA))))
theorem unB1_run {R F : List P2} {p : P2} (hp : Pl p.1) (hr : ∀ r ∈ R, Pl r.1) (hl : R.length ≤ 100000) :
    unB1 fu (unF d R F (.val (frD p.1)) (.val (frD p.2))) st = some (.ok .nx (unF d (insU R p) F (.val (frD p.1)) (.val (frD p.2))) st) := by
  have c := compM_pure (f := prD) (vs := [5]) (w := .own 1) (g := .nm 5) (t := notT (tst (callM (d_law_less fu) (consA (getv 3) (consA (bin ixA (getv 5) (ret (.int 0))) (nilA)))))) (e := getv 5) (p := fun r : P2 => !ltQ p.1 r.1) (q := prD) (mi := ownI 1) (xs := R)
    (fr := unF d R F (.val (frD p.1)) (.val (frD p.2))) (fr1 := unF d R F (.val (frD p.1)) (.val (frD p.2))) (st := st) (st1 := st) rfl
    (by show (true && sameS (R.map prD) (R.map prD)) = true; rw [same_prs]; simp)
    (fun x hx => ⟨[.val d, .own (R.map prD), .own (F.map prD), .val (frD p.1), .val (frD p.2), .val (prD x)], [.val d, .own (R.map prD), .own (F.map prD), .val (frD p.1), .val (frD p.2), .val (prD x)], rfl,
      not_eq (tst_eq (call_eq (cons_eq (get_eq rfl) (cons_eq (bin_eq (get_eq rfl) rfl (ix_nat 0 (.inl rfl) rfl)) nil_eq)) (e_less hp (hr x hx)))), (fun _ => rfl), fun _ => ⟨_, get_eq rfl, rfl⟩⟩) (by omega)
  have n : (R.filter fun r => !ltQ p.1 r.1).length ≤ R.length := List.length_filter_le _ _
  have a : consA (un1 lenF (frzM (compM [5] (ownI 1) (.nm 5) (notT (tst (callM (d_law_less fu) (consA (getv 3) (consA (bin ixA (getv 5) (ret (.int 0))) (nilA)))))) (getv 5)))) (consA (tupM (consA (getv 3) (consA (getv 4) (nilA)))) (nilA)) (unF d R F (.val (frD p.1)) (.val (frD p.2))) st
      = some (.ok [.int ((R.filter fun r => !ltQ p.1 r.1).length : Nat), prD p] (unF d R F (.val (frD p.1)) (.val (frD p.2))) st) :=
    cons_eq (un1_eq (frz_eq c) (by simp [lenF, itemsS])) (cons_eq (tup_eq (cons_eq (get_eq rfl) (cons_eq (get_eq rfl) nil_eq)) rfl) nil_eq)
  have e : insF (R.map prD) [.int ((R.filter fun r => !ltQ p.1 r.1).length : Nat), prD p] = some (.non, (insU R p).map prD) := by
    rw [insF_eq (by rw [List.length_map]; omega) (by omega)]
    simp only [insU, List.map_append, List.map_take, List.map_drop, List.map_cons, List.map_nil]
  unfold unB1
  rw [expr_eq (mut_run (ds := R.map prD) rfl a e)]
  rfl
theorem un_loop1 : ∀ (ss R : List P2) (s3 s4 : Slot), (∀ p ∈ ss, Str1 p) → (∀ r ∈ R, Pl r.1) → R.length + ss.length ≤ 100000 → ∃ s3' s4', mFor (ss.map prD) (forB (tupG 2 (consG (setv 3) (consG (setv 4) nilG))) (unB1 fu)) (unF d R [] s3 s4) st = some (.ok .nx (unF d (ss.foldl insU R) [] s3' s4') st)
  | [], R, s3, s4, _, _, _ => ⟨s3, s4, rfl⟩
  | p :: ss, R, s3, s4, h, hr, hl => by
    have h1 := h p List.mem_cons_self
    rw [List.length_cons] at hl
    obtain ⟨s3', s4', r⟩ := un_loop1 ss (insU R p) (.val (frD p.1)) (.val (frD p.2)) (fun x hx => h x (List.mem_cons_of_mem _ hx)) (fun r hx => by
      rcases insU_mem.mp hx with rfl | m
      · exact h1.a
      · exact hr r m) (by rw [insU_len]; omega)
    refine ⟨s3', s4', ?_⟩
    rw [List.map_cons, List.foldl_cons]
    unfold mFor
    have b : forB (tupG 2 (consG (setv 3) (consG (setv 4) nilG))) (unB1 fu) (prD p) (unF d R [] s3 s4) st = some (.ok .nx (unF d (insU R p) [] (.val (frD p.1)) (.val (frD p.2))) st) := by
      unfold forB
      rw [bnd_eq (show tupG 2 (consG (setv 3) (consG (setv 4) nilG)) (prD p) (unF d R [] s3 s4) st = some (.ok .nx (unF d R [] (.val (frD p.1)) (.val (frD p.2))) st) from rfl)]
      exact unB1_run h1.a hr (by omega)
    rw [bnd_eq b]
    exact r
/-! ### the second loop -/
def unG (d : D) (R F : List P2) (s3 s4 : Slot) : Fr := [.val d, .val (.lst (R.map prD)), .own (F.map prD), s3, s4, .none]
def unL : M D := binL ixA 2 (un1 negF (ret (.int 1)))
def unB2 (fu : Nat) : M Fl := ifM (andT (tst (binL neF 2 (frzM (lstN (nilA))))) (notT (tst (callM (d_law_less fu) (consA (bin ixA (binL ixA 2 (un1 negF (ret (.int 1)))) (ret (.int 1))) (consA (getv 3) (nilA)))))))
 (ifM (tst (callM (d_law_less fu) (consA (bin ixA (binL ixA 2 (un1 negF (ret (.int 1)))) (ret (.int 1))) (consA (getv 4) (nilA)))))
 (setIt 2 (un1 negF (ret (.int 1))) (tupM (consA (bin ixA (binL ixA 2 (un1 negF (ret (.int 1)))) (ret (.int 0))) (consA (getv 4) (nilA)))))
 (ret .nx))
 (ifM (tst (callM (d_law_less fu) (consA (getv 3) (consA (getv 4) (nilA)))))
 (exprM (mutL 2 appF (consA (tupM (consA (getv 3) (consA (getv 4) (nilA)))) (nilA))))
 (ret .nx))
theorem un_ne {R F : List P2} {s3 s4 : Slot} : tst (binL neF 2 (frzM (lstN (nilA)))) (unG d R F s3 s4) st = some (.ok (!decide (F = [])) (unG d R F s3 s4) st) := by
  refine tst_eq (binL_own (ds := F.map prD) rfl rfl rfl ?_)
  unfold neF
  rw [eqB_ok (n := 4) (m := 4) (show okD 4 (.lst (F.map prD)) = true from okD_prs F) rfl (by decide) (by decide)]
  have : sameD (.lst (F.map prD)) (.lst []) = decide (F = []) := same_prs F []
  simp only [this]
theorem un_last {R F : List P2} {z : P2} {s3 s4 : Slot} : binL ixA 2 (un1 negF (ret (.int 1))) (unG d R (F ++ [z]) s3 s4) st = some (.ok (prD z) (unG d R (F ++ [z]) s3 s4) st) :=
  binL_own (ds := (F ++ [z]).map prD) rfl rfl rfl (ix_last (l := F.map prD) (.inr (by rw [List.map_append]; rfl)))
theorem un_add {R F : List P2} {p : P2} (h : Str1 p) (hl : F.length ≤ 100000) : ifM (tst (callM (d_law_less fu) (consA (getv 3) (consA (getv 4) (nilA)))))
    (exprM (mutL 2 appF (consA (tupM (consA (getv 3) (consA (getv 4) (nilA)))) (nilA)))) (ret .nx) (unG d R F (.val (frD p.1)) (.val (frD p.2))) st = some (.ok .nx (unG d R (if ltQ p.1 p.2 then F ++ [p] else F) (.val (frD p.1)) (.val (frD p.2))) st) := by
  have t1 : tst (callM (d_law_less fu) (consA (getv 3) (consA (getv 4) (nilA)))) (unG d R F (.val (frD p.1)) (.val (frD p.2))) st = some (.ok (ltQ p.1 p.2) (unG d R F (.val (frD p.1)) (.val (frD p.2))) st) :=
    tst_eq (call_eq (cons_eq (get_eq rfl) (cons_eq (get_eq rfl) nil_eq)) (e_less h.a h.b))
  rw [if_eq t1]
  cases ltQ p.1 p.2 with
  | false => rfl
  | true =>
    simp only [if_true]
    rw [expr_eq (app_run (ds := F.map prD) (y := prD p) rfl (cons_eq (tup_eq (cons_eq (get_eq rfl) (cons_eq (get_eq rfl) nil_eq)) rfl) nil_eq) (by rw [List.length_map]; omega))]
    unfold unG
    rw [List.map_append]
    rfl
theorem unB2_run {R F : List P2} {p : P2} (h : Str1 p) (hz : ∀ z ∈ F, Pl z.1 ∧ Pl z.2) (hl : F.length ≤ 100000) :
    unB2 fu (unG d R F (.val (frD p.1)) (.val (frD p.2))) st = some (.ok .nx (unG d R (merU F p) (.val (frD p.1)) (.val (frD p.2))) st) := by
  unfold unB2
  rcases List.eq_nil_or_concat F with rfl | ⟨F', z, rfl⟩
  · rw [if_f (and_f un_ne), un_add h hl]
    rfl
  · rw [List.concat_eq_append] at hz hl ⊢
    obtain ⟨z1, z2⟩ := hz z (by simp)
    have e : merU (F' ++ [z]) p = if ltQ z.2 p.1 then (if ltQ p.1 p.2 then F' ++ [z] ++ [p] else F' ++ [z]) else if ltQ z.2 p.2 then F' ++ [(z.1, p.2)] else F' ++ [z] := by
      unfold merU
      rw [List.getLast?_append, List.dropLast_concat]
      rfl
    have n : tst (binL neF 2 (frzM (lstN (nilA)))) (unG d R (F' ++ [z]) (.val (frD p.1)) (.val (frD p.2))) st = some (.ok true (unG d R (F' ++ [z]) (.val (frD p.1)) (.val (frD p.2))) st) := by
      rw [un_ne]; simp
    have t1 : notT (tst (callM (d_law_less fu) (consA (bin ixA (binL ixA 2 (un1 negF (ret (.int 1)))) (ret (.int 1))) (consA (getv 3) (nilA))))) (unG d R (F' ++ [z]) (.val (frD p.1)) (.val (frD p.2))) st = some (.ok (!ltQ z.2 p.1) (unG d R (F' ++ [z]) (.val (frD p.1)) (.val (frD p.2))) st) :=
      not_eq (tst_eq (call_eq (cons_eq (bin_eq un_last rfl (ix_nat 1 (.inl rfl) rfl)) (cons_eq (get_eq rfl) nil_eq)) (e_less z2 h.a)))
    have t2 : tst (callM (d_law_less fu) (consA (bin ixA (binL ixA 2 (un1 negF (ret (.int 1)))) (ret (.int 1))) (consA (getv 4) (nilA)))) (unG d R (F' ++ [z]) (.val (frD p.1)) (.val (frD p.2))) st = some (.ok (ltQ z.2 p.2) (unG d R (F' ++ [z]) (.val (frD p.1)) (.val (frD p.2))) st) :=
      tst_eq (call_eq (cons_eq (bin_eq un_last rfl (ix_nat 1 (.inl rfl) rfl)) (cons_eq (get_eq rfl) nil_eq)) (e_less z2 h.b))
    rw [e]
    cases e1 : ltQ z.2 p.1 with
    | true =>
      rw [e1] at t1
      rw [if_f (by rw [and_t n]; exact t1), un_add h hl]
      rfl
    | false =>
      rw [e1] at t1
      rw [if_t (by rw [and_t n]; exact t1), if_eq t2]
      cases ltQ z.2 p.2 with
      | false => rfl
      | true =>
        have s := set_run (i := 2) (j := F'.length) (mi := un1 negF (ret (.int 1))) (me := tupM (consA (bin ixA (binL ixA 2 (un1 negF (ret (.int 1)))) (ret (.int 0))) (consA (getv 4) (nilA)))) (ds := (F' ++ [z]).map prD) (d := prD (z.1, p.2)) (k := -1) (fr := unG d R (F' ++ [z]) (.val (frD p.1)) (.val (frD p.2))) (st := st)
          (tup_eq (cons_eq (bin_eq un_last rfl (ix_nat 0 (.inl rfl) rfl)) (cons_eq (get_eq rfl) nil_eq)) rfl) rfl rfl (by
            unfold ixN
            rw [List.length_map, List.length_append, List.length_singleton, if_neg (by omega), if_pos (by omega)]
            congr 1
            omega)
        simp only [if_true, Bool.false_eq_true, if_false]
        rw [s]
        unfold unG
        have q : ((F' ++ [z]).map prD).set F'.length (prD (z.1, p.2)) = (F' ++ [(z.1, p.2)]).map prD := by
          rw [List.map_append, List.map_append, List.set_append_right _ _ (by rw [List.length_map]; exact Nat.le_refl _)]
          simp
        rw [q]
        rfl
theorem un_loop2 {R : List P2} : ∀ (rows F done : List P2) (s3 s4 : Slot), UI F done → (∀ p ∈ rows, Str1 p) → SrtU (done ++ rows) → done.length + rows.length ≤ 100000 → ∃ s3' s4', mFor (rows.map prD) (forB (tupG 2 (consG (setv 3) (consG (setv 4) nilG))) (unB2 fu)) (unG d R F s3 s4) st = some (.ok .nx (unG d R (rows.foldl merU F) s3' s4') st)
  | [], F, done, s3, s4, _, _, _, _ => ⟨s3, s4, rfl⟩
  | p :: rows, F, done, s3, s4, u, hr, s, hl => by
    have h1 := hr p List.mem_cons_self
    rw [List.length_cons] at hl
    obtain ⟨s3', s4', r⟩ := un_loop2 rows (merU F p) (done ++ [p]) (.val (frD p.1)) (.val (frD p.2)) (mer_spec u h1 fun r m => (List.pairwise_append.mp s).2.2 r m p List.mem_cons_self) (fun x hx => hr x (List.mem_cons_of_mem _ hx)) (by rw [List.append_assoc]; exact s) (by rw [List.length_append, List.length_singleton]; omega)
    refine ⟨s3', s4', ?_⟩
    rw [List.map_cons, List.foldl_cons]
    unfold mFor
    have b : forB (tupG 2 (consG (setv 3) (consG (setv 4) nilG))) (unB2 fu) (prD p) (unG d R F s3 s4) st = some (.ok .nx (unG d R (merU F p) (.val (frD p.1)) (.val (frD p.2))) st) := by
      unfold forB
      rw [bnd_eq (show tupG 2 (consG (setv 3) (consG (setv 4) nilG)) (prD p) (unG d R F s3 s4) st = some (.ok .nx (unG d R F (.val (frD p.1)) (.val (frD p.2))) st) from rfl)]
      exact unB2_run h1 u.pl (by have := u.len; omega)
    rw [bnd_eq b]
    exact r
theorem e_union {ss : List P2} (hd : d = .lst (ss.map prD) ∨ d = .tup (ss.map prD)) (h : ∀ p ∈ ss, Str1 p) (hl : ss.length ≤ 1000) : d_law_union fu [d] st = some (.ret (pcD (unionQ ss)) st) := by
  obtain ⟨r1, r2, r3⟩ := rows_spec ss [] h (fun p hp => by cases hp) List.Pairwise.nil
  obtain ⟨a3, a4, l1⟩ := un_loop1 (fu := fu) (st := st) (d := d) ss [] .none .none h (fun r hr => by cases hr) (by simp; omega)
  obtain ⟨b3, b4, l2⟩ := un_loop2 (fu := fu) (st := st) (d := d) (R := ss.foldl insU []) (ss.foldl insU []) [] [] a3 a4 ⟨(fun p hp => by cases hp), (fun p hp => by cases hp), List.Pairwise.nil, Nat.le_refl _, (fun x => rfl), (fun z hz => by cases hz)⟩ (fun p hp => by
    rcases (r3 p).mp hp with m | m
    · cases m
    · exact h p m) r1 (by rw [r2]; simp; omega)
  refine run_ret (fr := unG d (ss.foldl insU []) (unionQ ss) b3 b4) rfl ?_
  show m_law_union fu [.val d, .none, .none, .none, .none, .none] st = _
  unfold m_law_union
  rw [seq_eq (show parM [1, 2] (newR (lstN nilA) (newR (lstN nilA) nilR)) _ st = some (.ok .nx (unF d [] [] .none .none) st) from rfl)]
  show seqM (forM (seqI (getv 0)) (tupG 2 (consG (setv 3) (consG (setv 4) nilG))) (unB1 fu)) (seqM (forM (seqI (getv 1)) (tupG 2 (consG (setv 3) (consG (setv 4) nilG))) (unB2 fu)) _) _ st = _
  rw [seq_eq (for_eq (seqI_eq (get_eq rfl) hd.symm) l1)]
  rw [seq_eq (for_eq (seqI_eq (show getv 1 (unF d (ss.foldl insU []) [] a3 a4) st = some (.ok (.lst ((ss.foldl insU []).map prD)) (unG d (ss.foldl insU []) [] a3 a4) st) from rfl) (.inr rfl)) l2)]
  exact ret_eq (un1_eq (d := .lst ((unionQ ss).map prD)) (peek_own rfl) rfl)
end
end DL
end

section
set_option Elab.async false
set_option linter.all false
set_option maxRecDepth 100000
set_option maxHeartbeats 4000000
/-! k06, the plain side, part s: places of a piece, by the program and by the law. -/
namespace DL
open PySem PySem.Spec L2
theorem pc_of {ss : List P2} {R : List P2} (hR : Pc R) (hc : ∀ x, inP R x = covS ss x) (h : ∀ p ∈ ss, Str1 p) (hl : ss.length ≤ 1000) : R = unionQ ss :=
  pc_uniq hR (union_spec h hl).1 fun x => (hc x).trans ((union_spec h hl).2.1 x).symm
section
variable {fu : Nat} {st : SS} {q : Q} {l : List P2}
def holdQ (l : List P2) (q : Q) : Bool := if l = [] then decide (q = (0, 1)) else l.any fun p => !ltQ q p.1 && !ltQ p.2 q
theorem eq_nil : eqF st (pcD l) (.tup []) = some (.bl (decide (l = []))) := by
  unfold eqF
  rw [eqB_ok (n := 4) (m := 4) (okD_pc (l := l)) rfl (by decide) (by decide), show sameD (pcD l) (.tup []) = decide (l = []) from same_pc (l := l) (l' := [])]
theorem eq_fr {a b : Q} : eqF st (frD a) (frD b) = some (.bl (decide (a = b))) := by
  unfold eqF
  rw [eqB_ok (n := 1) (m := 1) (okD_fr (q := a)) okD_fr (by decide) (by decide), same_fr]
theorem e_has (h : PlP l) (hq : Pl q) (hl : l.length ≤ 100000) : d_has_place fu [pcD l, frD q] st = some (.ret (.bl (holdQ l q)) st) := by
  refine run_ret (fr := [.val (pcD l), .val (frD q), .none, .none]) rfl ?_
  show m_has_place fu [.val (pcD l), .val (frD q), .none, .none] st = _
  unfold m_has_place
  have t1 : notT (tst (callM (d_is_place fu) (consA (getv 1) nilA))) [.val (pcD l), .val (frD q), .none, .none] st = some (.ok false [.val (pcD l), .val (frD q), .none, .none] st) := not_eq (tst_eq (call_eq (cons_eq (get_eq rfl) nil_eq) (e_place hq)))
  rw [seq_eq (if_nx t1)]
  have t2 : tst (bin eqF (getv 0) (tupM nilA)) [.val (pcD l), .val (frD q), .none, .none] st = some (.ok (decide (l = [])) [.val (pcD l), .val (frD q), .none, .none] st) := tst_eq (bin_eq (get_eq rfl) rfl eq_nil)
  by_cases e : l = []
  · rw [decide_eq_true e] at t2
    refine seq_rt ?_
    rw [if_t t2]
    refine ret_eq (bin_eq (get_eq rfl) rfl ?_)
    rw [show c_ZERO = frD (0, 1) from rfl, eq_fr]
    unfold holdQ
    rw [if_pos e]
  · rw [decide_eq_false e] at t2
    rw [seq_eq (if_nx t2)]
    have c := compM_pure (f := prD) (vs := [2, 3]) (g := .tup [(.nm 2), (.nm 3)]) (t := ret true) (e := andV (bin leF (callM (d_order_of fu) (consA (getv 2) (consA (getv 1) (nilA)))) (ret (.int 0))) (bin leF (callM (d_order_of fu) (consA (getv 1) (consA (getv 3) (nilA)))) (ret (.int 0)))) (p := fun _ => true) (q := fun p : P2 => .bl (!ltQ q p.1 && !ltQ p.2 q)) (xs := l)
      (show seqW (getv 0) [.val (pcD l), .val (frD q), .none, .none] st = some (.ok (l.map prD, .no) [.val (pcD l), .val (frD q), .none, .none] st) from seqW_eq (get_eq rfl) (.inl rfl)) rfl (fun p hp => ⟨[.val (pcD l), .val (frD q), .val (frD p.1), .val (frD p.2)], [.val (pcD l), .val (frD q), .val (frD p.1), .val (frD p.2)], rfl, rfl, (fun z => by cases z), fun _ => ⟨[.val (pcD l), .val (frD q), .val (frD p.1), .val (frD p.2)], (by
        obtain ⟨h1, h2⟩ := h p hp
        have a : bin leF (callM (d_order_of fu) (consA (getv 2) (consA (getv 1) (nilA)))) (ret (.int 0)) [.val (pcD l), .val (frD q), .val (frD p.1), .val (frD p.2)] st = some (.ok (.bl (!ltQ q p.1)) [.val (pcD l), .val (frD q), .val (frD p.1), .val (frD p.2)] st) :=
          bin_eq (call_eq (cons_eq (get_eq rfl) (cons_eq (get_eq rfl) nil_eq)) (e_order h1 hq)) rfl (by rw [s_le, cmp_le h1 hq])
        have b : bin leF (callM (d_order_of fu) (consA (getv 1) (consA (getv 3) (nilA)))) (ret (.int 0)) [.val (pcD l), .val (frD q), .val (frD p.1), .val (frD p.2)] st = some (.ok (.bl (!ltQ p.2 q)) [.val (pcD l), .val (frD q), .val (frD p.1), .val (frD p.2)] st) :=
          bin_eq (call_eq (cons_eq (get_eq rfl) (cons_eq (get_eq rfl) nil_eq)) (e_order hq h2)) rfl (by rw [s_le, cmp_le hq h2])
        show _ = some (Out.ok (D.bl (!ltQ q p.1 && !ltQ p.2 q)) [.val (pcD l), .val (frD q), .val (frD p.1), .val (frD p.2)] st)
        cases e1 : ltQ q p.1 with
        | true =>
          rw [e1] at a
          exact andV_f a
        | false =>
          rw [e1] at a
          rw [andV_t a, b]
          rfl), rfl⟩⟩) (by omega)
    rw [List.filter_eq_self.mpr (fun _ _ => rfl)] at c
    refine ret_eq (un1_eq (frz_eq c) ?_)
    simp only [anyF, boolsD_map (fun p : P2 => !ltQ q p.1 && !ltQ p.2 q) l]
    unfold holdQ
    rw [if_neg e, List.any_map]
    rfl
theorem e_placeof (h : Pc l) (hq : Pl q) : d_is_place_of fu [pcD l, frD q] st = some (.ret (.bl (holdQ l q)) st) := by
  refine run_ret (fr := [.val (pcD l), .val (frD q)]) rfl ?_
  show m_is_place_of fu [.val (pcD l), .val (frD q)] st = _
  unfold m_is_place_of
  have ln := h.len
  rw [seq_eq (expr_eq (call_eq (cons_eq (get_eq rfl) nil_eq) (e_check h.pl (by omega) h.inc)))]
  exact ret_eq (call_eq (cons_eq (get_eq rfl) (cons_eq (get_eq rfl) nil_eq)) (e_has h.pl hq (by omega)))
/-! ### the law's -/
theorem low_pl (h : Pl q) : lowQ q.1 q.2 = q := by
  have := h.dp
  unfold lowQ sgc
  rw [if_pos (by omega), gcd_one h]
  simp
theorem e_lawfrac (hq : Pl q) (hf : 2 ^ 8000 ≤ fu) : d_law_is_fraction fu [frD q] st = some (.ret (.bl true) st) := by
  have dp := hq.dp
  have lw := e_low (fu := fu) (st := st) (n := q.1) (d := q.2) (k := 70) (by omega) hq.s2 (by decide) (Nat.le_trans (Nat.pow_le_pow_right (by decide) (by decide)) hf)
  rw [low_pl hq] at lw
  have w : ∀ (i : Int) st, d_law_whole fu [.int i] st = some (.ret (.bl true) st) := fun i st => by
    simp [d_law_whole, runD, m_law_whole, retM, andV, notV, bnd, un1, isiF, kindOf, isK, getv, ret]
  refine run_ret (fr := [.val (frD q)]) rfl ?_
  show m_law_is_fraction fu [.val (frD q)] st = _
  unfold m_law_is_fraction
  have t' : orT (notT (tst (un1 (isiF [.tuple]) (getv 0)))) (orT (tst (bin neF (un1 lenF (peekv 0)) (ret (.int 2)))) (orT (notT (tst (callM (d_law_whole fu) (consA (bin ixA (getv 0) (ret (.int 0))) (nilA))))) (notT (tst (callM (d_law_whole fu) (consA (bin ixA (getv 0) (ret (.int 1))) (nilA))))))) [.val (frD q)] st = some (.ok false [.val (frD q)] st) := by
    rw [or_f (not_eq (b := true) (tst_eq (un1_eq (get_eq rfl) rfl)))]
    rw [or_f (tst_eq (bin_eq (un1_eq (d := frD q) (peek_eq rfl) (show lenF st (frD q) = some (.int 2) from rfl)) rfl (by rw [s_nei]; rfl)))]
    rw [or_f (not_eq (b := true) (tst_eq (call_eq (cons_eq (bin_eq (get_eq rfl) rfl fr0) nil_eq) (w _ _))))]
    exact not_eq (b := true) (tst_eq (call_eq (cons_eq (bin_eq (get_eq rfl) rfl fr1) nil_eq) (w _ _)))
  rw [seq_eq (if_nx t')]
  have a : bin gtF (bin ixA (getv 0) (ret (.int 1))) (ret (.int 0)) [.val (frD q)] st = some (.ok (.bl true) [.val (frD q)] st) := bin_eq (bin_eq (get_eq rfl) rfl fr1) rfl (by rw [s_gt, decide_eq_true (by omega)])
  have b : bin eqF (callM (d_law_low fu) (consA (bin ixA (getv 0) (ret (.int 0))) (consA (bin ixA (getv 0) (ret (.int 1))) (nilA)))) (peekv 0) [.val (frD q)] st = some (.ok (.bl true) [.val (frD q)] st) :=
    bin_eq (call_eq (cons_eq (bin_eq (get_eq rfl) rfl fr0) (cons_eq (bin_eq (get_eq rfl) rfl fr1) nil_eq)) lw) (peek_eq rfl) (by rw [eq_fr]; simp)
  refine ret_eq ?_
  rw [andV_t a]
  exact b
theorem okD_ones {α : Type} : ∀ l : List α, okDs 3 (l.map fun _ => D.int 1) = true
  | [] => rfl
  | a :: l => by
    show (okD 3 (.int 1) && okDs 3 (l.map fun _ => D.int 1)) = true
    rw [okD_ones l]
    rfl
theorem ne_ones {α : Type} (l : List α) : neF st (.lst (l.map fun _ => D.int 1)) (.lst []) = some (.bl (!l.isEmpty)) := by
  unfold neF
  rw [eqB_ok (n := 4) (m := 4) (show okD 4 (.lst (l.map fun _ => D.int 1)) = true from okD_ones l) rfl (by decide) (by decide)]
  cases l <;> rfl
theorem filt_any {α : Type} (P : α → Bool) : ∀ l : List α, (!(l.filter P).isEmpty) = l.any P
  | [] => rfl
  | a :: l => by
    rw [List.any_cons, List.filter_cons]
    cases P a with
    | true => rfl
    | false => exact filt_any P l
theorem e_lawplace (h : PlP l) (hq : Pl q) (hl : l.length ≤ 100000) (hf : 2 ^ 8000 ≤ fu) : d_law_is_place_in fu [pcD l, frD q] st = some (.ret (.bl (holdQ l q)) st) := by
  refine run_ret (fr := [.val (pcD l), .val (frD q), .none, .none]) rfl ?_
  show m_law_is_place_in fu [.val (pcD l), .val (frD q), .none, .none] st = _
  unfold m_law_is_place_in
  have t1 : notT (tst (callM (d_law_is_fraction fu) (consA (getv 1) nilA))) [.val (pcD l), .val (frD q), .none, .none] st = some (.ok false [.val (pcD l), .val (frD q), .none, .none] st) := not_eq (tst_eq (call_eq (cons_eq (get_eq rfl) nil_eq) (e_lawfrac hq hf)))
  rw [seq_eq (if_nx t1)]
  have t2 : tst (bin eqF (un1 lenF (peekv 0)) (ret (.int 0))) [.val (pcD l), .val (frD q), .none, .none] st = some (.ok (decide (l = [])) [.val (pcD l), .val (frD q), .none, .none] st) := tst_eq (bin_eq (un1_eq (d := pcD l) (r := .int (l.length : Int)) (peek_eq rfl) (by simp [lenF, itemsS, pcD])) rfl (by
    rw [s_eqi]
    cases l with
    | nil => rfl
    | cons p l => simp; omega))
  by_cases e : l = []
  · rw [decide_eq_true e] at t2
    refine seq_rt ?_
    rw [if_t t2]
    refine ret_eq (bin_eq (get_eq rfl) (y := frD (0, 1)) rfl ?_)
    rw [eq_fr]
    unfold holdQ
    rw [if_pos e]
  · rw [decide_eq_false e] at t2
    rw [seq_eq (if_nx t2)]
    have c := compM_pure (f := prD) (vs := [2, 3]) (g := .tup [(.nm 2), (.nm 3)]) (t := andT (notT (tst (callM (d_law_less fu) (consA (getv 1) (consA (getv 2) (nilA)))))) (notT (tst (callM (d_law_less fu) (consA (getv 3) (consA (getv 1) (nilA))))))) (e := ret (.int 1)) (p := fun p : P2 => !ltQ q p.1 && !ltQ p.2 q) (q := fun _ : P2 => .int 1) (xs := l)
      (show seqW (getv 0) [.val (pcD l), .val (frD q), .none, .none] st = some (.ok (l.map prD, .no) [.val (pcD l), .val (frD q), .none, .none] st) from seqW_eq (get_eq rfl) (.inl rfl)) rfl (fun p hp => ⟨[.val (pcD l), .val (frD q), .val (frD p.1), .val (frD p.2)], [.val (pcD l), .val (frD q), .val (frD p.1), .val (frD p.2)], rfl, (by
        obtain ⟨h1, h2⟩ := h p hp
        have a : notT (tst (callM (d_law_less fu) (consA (getv 1) (consA (getv 2) (nilA))))) [.val (pcD l), .val (frD q), .val (frD p.1), .val (frD p.2)] st = some (.ok (!ltQ q p.1) [.val (pcD l), .val (frD q), .val (frD p.1), .val (frD p.2)] st) :=
          not_eq (tst_eq (call_eq (cons_eq (get_eq rfl) (cons_eq (get_eq rfl) nil_eq)) (e_less hq h1)))
        have b : notT (tst (callM (d_law_less fu) (consA (getv 3) (consA (getv 1) (nilA))))) [.val (pcD l), .val (frD q), .val (frD p.1), .val (frD p.2)] st = some (.ok (!ltQ p.2 q) [.val (pcD l), .val (frD q), .val (frD p.1), .val (frD p.2)] st) :=
          not_eq (tst_eq (call_eq (cons_eq (get_eq rfl) (cons_eq (get_eq rfl) nil_eq)) (e_less h2 hq)))
        show _ = some (Out.ok (!ltQ q p.1 && !ltQ p.2 q) [.val (pcD l), .val (frD q), .val (frD p.1), .val (frD p.2)] st)
        cases e1 : ltQ q p.1 with
        | true =>
          rw [e1] at a
          exact and_f a
        | false =>
          rw [e1] at a
          rw [and_t a, b]
          rfl), (fun _ => rfl), fun _ => ⟨_, rfl, rfl⟩⟩) (by omega)
    refine ret_eq (bin_eq (frz_eq c) rfl ?_)
    rw [ne_ones, filt_any]
    unfold holdQ
    rw [if_neg e]
end
end DL
end

section
set_option Elab.async false
set_option linter.all false
set_option maxRecDepth 100000
set_option maxHeartbeats 4000000
/-! k06, the plain side, part t: the law's flat list and marks. -/
namespace DL
open PySem PySem.Spec L2
theorem forB_eq {g : D → M Fl} {b : M Fl} {d : D} {fr fr1 : Fr} {st st1 : SS} (h : g d fr st = some (.ok .nx fr1 st1)) : forB g b d fr st = b fr1 st1 := by
  unfold forB
  rw [bnd_eq h]
theorem mFor_cons {b : D → M Fl} {x : D} {xs : List D} {fr fr1 : Fr} {st st1 : SS} (h : b x fr st = some (.ok .nx fr1 st1)) : mFor (x :: xs) b fr st = mFor xs b fr1 st1 := by
  conv => lhs; unfold mFor
  rw [bnd_eq h]
theorem mFor_rt {b : D → M Fl} {x d : D} {xs : List D} {fr fr1 : Fr} {st st1 : SS} (h : b x fr st = some (.ok (.rt d) fr1 st1)) : mFor (x :: xs) b fr st = some (.ok (.rt d) fr1 st1) := by
  conv => lhs; unfold mFor
  rw [bnd_eq h]
  rfl
/-! ### in a list of fractions -/
def pyFr (q : Q) : PyData := .tuple [.int q.1, .int q.2]
theorem py_fr (q : Q) : toPy (frD q) = some (pyFr q) := rfl
theorem pys_fr : ∀ W : List Q, toPys (W.map frD) = some (W.map pyFr)
  | [] => rfl
  | q :: W => by
    rw [List.map_cons, List.map_cons]
    unfold toPys
    rw [py_fr, pys_fr W]
theorem okD_frs : ∀ W : List Q, okDs 2 (W.map frD) = true
  | [] => rfl
  | q :: W => by
    show (okD 2 (frD q) && okDs 2 (W.map frD)) = true
    rw [okD_frs W]
    rfl
theorem in_fr (q : Q) (W : List Q) : inL (frD q) (.lst (W.map frD)) = some (decide (q ∈ W)) := by
  obtain ⟨p, e1, c1, d1⟩ := okD_py 3 (.lst (W.map frD)) (okD_frs W)
  have e2 : toPy (.lst (W.map frD)) = some (.list (W.map pyFr)) := by
    unfold toPy
    rw [pys_fr W]
  rw [e2] at e1
  cases e1
  have s1 : SeqAt.shaped (pyFr q) = true := by
    obtain ⟨p, e1, c1, d1⟩ := okD_py 1 (frD q) okD_fr
    rw [py_fr] at e1
    cases e1
    unfold SeqAt.shaped; rw [c1, decide_eq_true (by omega)]; rfl
  have s2 : SeqAt.shaped (.list (W.map pyFr)) = true := by unfold SeqAt.shaped; rw [c1, decide_eq_true (by omega)]; rfl
  unfold inL
  rw [py_fr, e2]
  simp only [s1, s2, Bool.and_self, if_true]
  congr 1
  rw [List.any_map]
  induction W with
  | nil => rfl
  | cons w W ih =>
    have h : PyData.eqv (pyFr w) (pyFr q) = decide (w = q) := by rw [← same_fr]; exact eqv_same 1 (frD w) (frD q) 1 _ _ okD_fr okD_fr (py_fr w) (py_fr q)
    rw [List.any_cons]
    have ih' : (W.any ((fun z => PyData.eqv z (pyFr q)) ∘ pyFr)) = decide (q ∈ W) := by
      obtain ⟨p, e1, c1', d1'⟩ := okD_py 3 (.lst (W.map frD)) (okD_frs W)
      have e2 : toPy (.lst (W.map frD)) = some (.list (W.map pyFr)) := by
        unfold toPy
        rw [pys_fr W]
      rw [e2] at e1
      cases e1
      exact ih e2 c1' d1' (by unfold SeqAt.shaped; rw [c1', decide_eq_true (by omega)]; rfl)
    rw [ih']
    show (PyData.eqv (pyFr w) (pyFr q) || decide (q ∈ W)) = _
    rw [h]
    simp only [List.mem_cons, Bool.decide_or]
    congr 1
    exact decide_eq_decide.mpr ⟨Eq.symm, Eq.symm⟩
theorem in_frF {st : SS} (q : Q) (W : List Q) : inF st (frD q) (.lst (W.map frD)) = some (.bl (decide (q ∈ W))) := by
  unfold inF liftB
  rw [in_fr]
  rfl
theorem nin_frF {st : SS} (q : Q) (W : List Q) : notInF st (frD q) (.lst (W.map frD)) = some (.bl (!decide (q ∈ W))) := by
  unfold notInF liftB
  rw [in_fr]
  rfl
/-! ### what they are -/
def insM (W : List Q) (q : Q) : List Q := if q ∈ W then W else W.take (W.filter fun r => ltQ r q).length ++ [q] ++ W.drop (W.filter fun r => ltQ r q).length
def marksQ (l : List P2) : List Q := if (1, 1) ∈ (flatQ l).foldl insM [(0, 1)] then (flatQ l).foldl insM [(0, 1)] else (flatQ l).foldl insM [(0, 1)] ++ [(1, 1)]
theorem filt_gen {α : Type} {rows : List α} {P : α → Bool} (s : rows.Pairwise fun a b => P b = true → P a = true) : rows.take (rows.filter P).length = rows.filter P ∧ ∀ r ∈ rows.drop (rows.filter P).length, P r = false := by
  induction rows with
  | nil => exact ⟨rfl, fun r h => by cases h⟩
  | cons a rows ih =>
    obtain ⟨s1, s2⟩ := List.pairwise_cons.mp s
    obtain ⟨i1, i2⟩ := ih s2
    cases e : P a with
    | true =>
      rw [List.filter_cons_of_pos e, List.length_cons, List.take_succ_cons, i1]
      exact ⟨rfl, i2⟩
    | false =>
      have n : rows.filter P = [] := List.filter_eq_nil_iff.mpr fun b hb z => by rw [s1 b hb z] at e; cases e
      rw [List.filter_cons_of_neg (by rw [e]; simp), n]
      refine ⟨rfl, fun r hr => ?_⟩
      rcases List.mem_cons.mp hr with rfl | m
      · exact e
      · cases z : P r with
        | false => rfl
        | true => rw [s1 r m z] at e; cases e
theorem insM_mem {W : List Q} {q r : Q} : r ∈ insM W q ↔ r = q ∨ r ∈ W := by
  unfold insM
  split
  · rename_i h
    constructor
    · exact .inr
    · rintro (rfl | h')
      · exact h
      · exact h'
  · rw [List.append_assoc, List.mem_append, List.mem_append, List.mem_singleton]
    conv => rhs; rw [← List.take_append_drop (W.filter fun r => ltQ r q).length W, List.mem_append]
    constructor
    · rintro (h | h | h)
      · exact .inr (.inl h)
      · exact .inl h
      · exact .inr (.inr h)
    · rintro (h | h | h)
      · exact .inr (.inl h)
      · exact .inl h
      · exact .inr (.inr h)
theorem insM_len {W : List Q} {q : Q} : (insM W q).length ≤ W.length + 1 := by
  unfold insM
  split
  · omega
  · rw [List.length_append, List.length_append, List.length_singleton]
    have := congrArg List.length (List.take_append_drop (W.filter fun r => ltQ r q).length W)
    rw [List.length_append] at this
    omega
theorem insM_up {W : List Q} {q : Q} (h : Up W) (hq : Pl q) (hw : ∀ r ∈ W, Pl r) : Up (insM W q) := by
  unfold insM
  split
  · exact h
  · rename_i nq
    have s : W.Pairwise fun a b => ltQ b q = true → ltQ a q = true := by
      refine List.Pairwise.imp_of_mem (fun {a b} ha hb hab => ?_) h
      rw [ltQ_vv (hw b hb) hq, ltQ_vv (hw a ha) hq, decide_eq_true_iff, decide_eq_true_iff]
      omega
    obtain ⟨f1, f2⟩ := filt_gen s
    have h0 : Up (W.take (W.filter fun r => ltQ r q).length ++ W.drop (W.filter fun r => ltQ r q).length) := by rw [List.take_append_drop]; exact h
    obtain ⟨p1, p2, p3⟩ := List.pairwise_append.mp h0
    have lo : ∀ a ∈ W.take (W.filter fun r => ltQ r q).length, vv a < vv q := fun a ha => by
      rw [f1] at ha
      obtain ⟨m, z⟩ := List.mem_filter.mp ha
      rw [ltQ_vv (hw a m) hq, decide_eq_true_iff] at z
      exact z
    have hi : ∀ b ∈ W.drop (W.filter fun r => ltQ r q).length, vv q < vv b := fun b hb => by
      have m := List.mem_of_mem_drop hb
      have z := f2 b hb
      rw [ltQ_vv (hw b m) hq, decide_eq_false_iff_not] at z
      have ne : vv b ≠ vv q := fun e => by
        rw [vv_inj (hw b m) hq e] at m
        exact nq m
      omega
    rw [List.append_assoc]
    refine List.pairwise_append.mpr ⟨p1, List.pairwise_append.mpr ⟨List.pairwise_singleton _ _, p2, fun a ha b hb => ?_⟩, fun a ha b hb => ?_⟩
    · rw [List.mem_singleton.mp ha]
      exact hi b hb
    · rcases List.mem_append.mp hb with m | m
      · rw [List.mem_singleton.mp m]
        exact lo a ha
      · exact p3 a ha b m
theorem insMs : ∀ (qs W : List Q), (∀ q ∈ qs, Pl q) → (∀ q ∈ W, Pl q) → Up W → Up (qs.foldl insM W) ∧ (∀ q, q ∈ qs.foldl insM W ↔ q ∈ W ∨ q ∈ qs) ∧ (qs.foldl insM W).length ≤ W.length + qs.length
  | [], W, _, _, h => ⟨h, (fun q => by simp), by simp⟩
  | a :: qs, W, h1, h2, h => by
    have ha := h1 a List.mem_cons_self
    obtain ⟨i1, i2, i3⟩ := insMs qs (insM W a) (fun q hq => h1 q (List.mem_cons_of_mem _ hq)) (fun q hq => by
      rcases insM_mem.mp hq with rfl | m
      · exact ha
      · exact h2 q m) (insM_up h ha h2)
    refine ⟨i1, fun q => ?_, ?_⟩
    · rw [List.foldl_cons, i2, insM_mem, List.mem_cons]
      constructor
      · rintro ((h | h) | h)
        · exact .inr (.inl h)
        · exact .inl h
        · exact .inr (.inr h)
      · rintro (h | h | h)
        · exact .inl (.inr h)
        · exact .inl (.inl h)
        · exact .inr h
    · have := insM_len (W := W) (q := a)
      rw [List.foldl_cons, List.length_cons]
      omega
theorem pl01 : Pl ((0, 1) : Q) := ⟨by decide, ⟨LL, by simp⟩, by decide, by decide, by decide⟩
theorem pl11 : Pl ((1, 1) : Q) := ⟨by decide, ⟨LL, by simp⟩, by decide, by decide, by decide⟩
theorem vv01 : vv ((0, 1) : Q) = 0 := by unfold vv; simp
theorem vv11 : vv ((1, 1) : Q) = LL := by unfold vv; simp
theorem vv_lo {q : Q} (h : Pl q) : 0 ≤ vv q := Int.mul_nonneg h.lo (Int.ediv_nonneg (by decide) (by have := h.dp; omega))
theorem vv_hi {q : Q} (h : Pl q) : vv q ≤ LL := by
  have e := vv_mul h
  have p := h.dp
  have hi := h.hi
  have m : q.1 * LL ≤ q.2 * LL := Int.mul_le_mul_of_nonneg_right hi (by decide)
  rw [← e, Int.mul_comm q.2 LL] at m
  exact Int.le_of_mul_le_mul_right m p
theorem marks_spec {l : List P2} (h : PlP l) : Up (marksQ l) ∧ (∀ q, q ∈ marksQ l ↔ q = (0, 1) ∨ q = (1, 1) ∨ q ∈ flatQ l) ∧ (marksQ l).length ≤ 2 * l.length + 2 := by
  obtain ⟨i1, i2, i3⟩ := insMs (flatQ l) [(0, 1)] h.flat (fun q hq => by rw [List.mem_singleton.mp hq]; exact pl01) (List.pairwise_singleton _ _)
  rw [flat_len, List.length_singleton] at i3
  unfold marksQ
  split
  · rename_i m
    refine ⟨i1, fun q => ?_, by omega⟩
    rw [i2, List.mem_singleton]
    constructor
    · rintro (h | h)
      · exact .inl h
      · exact .inr (.inr h)
    · rintro (h | h | h)
      · exact .inl h
      · rw [h, ← List.mem_singleton, ← i2]; exact m
      · exact .inr h
  · rename_i m
    refine ⟨List.pairwise_append.mpr ⟨i1, List.pairwise_singleton _ _, fun a ha b hb => ?_⟩, fun q => ?_, by rw [List.length_append, List.length_singleton]; omega⟩
    · rw [List.mem_singleton.mp hb, vv11]
      have pa : Pl a := by
        rcases (i2 a).mp ha with z | z
        · rw [List.mem_singleton.mp z]; exact pl01
        · exact h.flat a z
      have hi := vv_hi pa
      have ne : vv a ≠ LL := fun e => by
        rw [vv_inj pa pl11 (e.trans vv11.symm)] at ha
        exact m ha
      omega
    · rw [List.mem_append, i2, List.mem_singleton, List.mem_singleton]
      constructor
      · rintro ((h | h) | h)
        · exact .inl h
        · exact .inr (.inr h)
        · exact .inr (.inl h)
      · rintro (h | h | h)
        · exact .inl (.inl h)
        · exact .inr h
        · exact .inl (.inr h)
theorem marks_pl {l : List P2} (h : PlP l) : ∀ q ∈ marksQ l, Pl q := fun q hq => by
  rcases ((marks_spec h).2.1 q).mp hq with rfl | rfl | m
  · exact pl01
  · exact pl11
  · exact h.flat q m
/-! ### the walks -/
section
variable {fu : Nat} {st : SS} {d : D}
def flF (d : D) (F : List P2) (s : Slot) : Fr := [.val d, .own (F.map prD), s]
theorem fl_loop : ∀ (ls : List (List P2)) (F : List P2) (s : Slot), F.length + ls.flatten.length ≤ 100000 → ∃ s', mFor (ls.map pcD) (forB (setv 2) (exprM (mutL 1 extF (consA (frzM (un1N itemsS (peekv 2))) (nilA))))) (flF d F s) st = some (.ok .nx (flF d (F ++ ls.flatten) s') st)
  | [], F, s, _ => ⟨s, by simp [mFor, ret]⟩
  | l :: ls, F, s, hl => by
    rw [List.flatten_cons, List.length_append] at hl
    obtain ⟨s', r⟩ := fl_loop ls (F ++ l) (.val (pcD l)) (by rw [List.length_append]; omega)
    refine ⟨s', ?_⟩
    rw [List.map_cons, List.flatten_cons, ← List.append_assoc]
    have b : forB (setv 2) (exprM (mutL 1 extF (consA (frzM (un1N itemsS (peekv 2))) (nilA)))) (pcD l) (flF d F s) st = some (.ok .nx (flF d (F ++ l) (.val (pcD l))) st) := by
      rw [forB_eq (show setv 2 (pcD l) (flF d F s) st = some (.ok .nx (flF d F (.val (pcD l))) st) from rfl)]
      rw [expr_eq (mut_run (fr := flF d F (.val (pcD l))) (st := st) (st1 := st) (ms := consA (frzM (un1N itemsS (peekv 2))) (nilA)) (ds := F.map prD) (args := [.lst (l.map prD)]) (d := .non) (ds' := F.map prD ++ l.map prD) rfl rfl (by
        have c : small ((F.map prD).length + (l.map prD).length) = true := small_of (by rw [List.length_map, List.length_map]; omega)
        simp only [extF, c, if_true]))]
      unfold flF
      rw [List.map_append]
      rfl
    rw [mFor_cons b]
    exact r
theorem e_flat {ls : List (List P2)} (hl : ls.flatten.length ≤ 100000) : d_law_flat fu [.lst (ls.map pcD)] st = some (.ret (.lst (ls.flatten.map prD)) st) := by
  obtain ⟨s', r⟩ := fl_loop (st := st) (d := .lst (ls.map pcD)) ls [] .none (by simpa using hl)
  refine run_ret (fr := [.val (.lst (ls.map pcD)), .val (.lst (ls.flatten.map prD)), s']) rfl ?_
  show m_law_flat fu [.val (.lst (ls.map pcD)), .none, .none] st = _
  unfold m_law_flat
  rw [seq_eq (show setN 1 (lstN nilA) _ st = some (.ok .nx (flF (.lst (ls.map pcD)) [] .none) st) from rfl)]
  rw [seq_eq (for_eq (seqI_eq (get_eq rfl) (.inr rfl)) r), List.nil_append]
  rfl
def mkF (d : D) (W : List Q) (s2 s3 s4 : Slot) : Fr := [.val d, .own (W.map frD), s2, s3, s4, .none]
def mkB (fu : Nat) : M Fl := ifM (tst (bin notInF (getv 4) (peekv 1)))
 (exprM (mutL 1 insF (consA (un1 lenF (frzM (compM [5] (ownI 1) (.nm 5) (tst (callM (d_law_less fu) (consA (getv 5) (consA (getv 4) (nilA))))) (getv 5)))) (consA (getv 4) (nilA)))))
 (ret .nx)
theorem same_frs : ∀ l l' : List Q, sameS (l.map frD) (l'.map frD) = decide (l = l')
  | [], [] => rfl
  | [], _ :: _ => rfl
  | _ :: _, [] => rfl
  | p :: l, p' :: l' => by
    show (sameD (frD p) (frD p') && sameS (l.map frD) (l'.map frD)) = _
    rw [same_fr, same_frs l l']
    by_cases h1 : p = p' <;> by_cases h3 : l = l' <;> simp [h1, h3]
theorem mkB_run {W : List Q} {q : Q} {s2 s3 : Slot} (hq : Pl q) (hw : ∀ r ∈ W, Pl r) (hl : W.length ≤ 100000) : mkB fu (mkF d W s2 s3 (.val (frD q))) st = some (.ok .nx (mkF d (insM W q) s2 s3 (.val (frD q))) st) := by
  have t : tst (bin notInF (getv 4) (peekv 1)) (mkF d W s2 s3 (.val (frD q))) st = some (.ok (!decide (q ∈ W)) (mkF d W s2 s3 (.val (frD q))) st) := tst_eq (bin_eq (get_eq rfl) (peek_own rfl) (nin_frF q W))
  unfold mkB insM
  rw [if_eq t]
  by_cases e : q ∈ W
  · rw [if_pos e, decide_eq_true e]
    rfl
  · rw [if_neg e, decide_eq_false e]
    have c := compM_pure (f := frD) (vs := [5]) (w := .own 1) (g := .nm 5) (t := tst (callM (d_law_less fu) (consA (getv 5) (consA (getv 4) (nilA))))) (e := getv 5) (p := fun r : Q => ltQ r q) (q := frD) (mi := ownI 1) (xs := W)
      (fr := mkF d W s2 s3 (.val (frD q))) (fr1 := mkF d W s2 s3 (.val (frD q))) (st := st) (st1 := st) rfl
      (by show (true && sameS (W.map frD) (W.map frD)) = true; rw [same_frs]; simp)
      (fun x hx => ⟨[.val d, .own (W.map frD), s2, s3, .val (frD q), .val (frD x)], [.val d, .own (W.map frD), s2, s3, .val (frD q), .val (frD x)], rfl,
        tst_eq (call_eq (cons_eq (get_eq rfl) (cons_eq (get_eq rfl) nil_eq)) (e_less (hw x hx) hq)), (fun _ => rfl), fun _ => ⟨_, get_eq rfl, rfl⟩⟩) (by omega)
    have n : (W.filter fun r => ltQ r q).length ≤ W.length := List.length_filter_le _ _
    have a : consA (un1 lenF (frzM (compM [5] (ownI 1) (.nm 5) (tst (callM (d_law_less fu) (consA (getv 5) (consA (getv 4) (nilA))))) (getv 5)))) (consA (getv 4) (nilA)) (mkF d W s2 s3 (.val (frD q))) st
        = some (.ok [.int ((W.filter fun r => ltQ r q).length : Nat), frD q] (mkF d W s2 s3 (.val (frD q))) st) :=
      cons_eq (un1_eq (frz_eq c) (by simp [lenF, itemsS])) (cons_eq (get_eq rfl) nil_eq)
    have e : insF (W.map frD) [.int ((W.filter fun r => ltQ r q).length : Nat), frD q] = some (.non, (W.take (W.filter fun r => ltQ r q).length ++ [q] ++ W.drop (W.filter fun r => ltQ r q).length).map frD) := by
      rw [insF_eq (by rw [List.length_map]; omega) (by omega)]
      simp only [List.map_append, List.map_take, List.map_drop, List.map_cons, List.map_nil]
    show exprM (mutL 1 insF _) _ st = _
    rw [expr_eq (mut_run (ds := W.map frD) rfl a e)]
    rfl
theorem mk_loop : ∀ (l : List P2) (W : List Q) (s2 s3 s4 : Slot), PlP l → (∀ r ∈ W, Pl r) → W.length + 2 * l.length ≤ 100000 → ∃ s2' s3' s4', mFor (l.map prD) (forB (tupG 2 (consG (setv 2) (consG (setv 3) (nilG)))) (forM (seqI (tupM (consA (getv 2) (consA (getv 3) (nilA))))) (setv 4) (mkB fu))) (mkF d W s2 s3 s4) st
    = some (.ok .nx (mkF d ((flatQ l).foldl insM W) s2' s3' s4') st)
  | [], W, s2, s3, s4, _, _, _ => ⟨s2, s3, s4, rfl⟩
  | p :: l, W, s2, s3, s4, h, hw, hl => by
    obtain ⟨h1, h2⟩ := h p List.mem_cons_self
    rw [List.length_cons] at hl
    have w1 : ∀ r ∈ insM W p.1, Pl r := fun r hr => by
      rcases insM_mem.mp hr with rfl | m
      · exact h1
      · exact hw r m
    have w2 : ∀ r ∈ insM (insM W p.1) p.2, Pl r := fun r hr => by
      rcases insM_mem.mp hr with rfl | m
      · exact h2
      · exact w1 r m
    have n1 := insM_len (W := W) (q := p.1)
    have n2 := insM_len (W := insM W p.1) (q := p.2)
    obtain ⟨s2', s3', s4', r⟩ := mk_loop l (insM (insM W p.1) p.2) (.val (frD p.1)) (.val (frD p.2)) (.val (frD p.2)) (fun x hx => h x (List.mem_cons_of_mem _ hx)) w2 (by omega)
    refine ⟨s2', s3', s4', ?_⟩
    rw [List.map_cons, show flatQ (p :: l) = p.1 :: p.2 :: flatQ l from rfl, List.foldl_cons, List.foldl_cons]
    have b : forB (tupG 2 (consG (setv 2) (consG (setv 3) (nilG)))) (forM (seqI (tupM (consA (getv 2) (consA (getv 3) (nilA))))) (setv 4) (mkB fu)) (prD p) (mkF d W s2 s3 s4) st = some (.ok .nx (mkF d (insM (insM W p.1) p.2) (.val (frD p.1)) (.val (frD p.2)) (.val (frD p.2))) st) := by
      rw [forB_eq (show tupG 2 (consG (setv 2) (consG (setv 3) nilG)) (prD p) (mkF d W s2 s3 s4) st = some (.ok .nx (mkF d W (.val (frD p.1)) (.val (frD p.2)) s4) st) from rfl)]
      refine for_eq (seqI_eq (tup_eq (cons_eq (get_eq rfl) (cons_eq (get_eq rfl) nil_eq)) rfl) (.inl rfl)) ?_
      have f1 : forB (setv 4) (mkB fu) (frD p.1) (mkF d W (.val (frD p.1)) (.val (frD p.2)) s4) st = some (.ok .nx (mkF d (insM W p.1) (.val (frD p.1)) (.val (frD p.2)) (.val (frD p.1))) st) := by
        rw [forB_eq (show setv 4 (frD p.1) (mkF d W (.val (frD p.1)) (.val (frD p.2)) s4) st = some (.ok .nx (mkF d W (.val (frD p.1)) (.val (frD p.2)) (.val (frD p.1))) st) from rfl)]
        exact mkB_run h1 hw (by omega)
      have f2 : forB (setv 4) (mkB fu) (frD p.2) (mkF d (insM W p.1) (.val (frD p.1)) (.val (frD p.2)) (.val (frD p.1))) st = some (.ok .nx (mkF d (insM (insM W p.1) p.2) (.val (frD p.1)) (.val (frD p.2)) (.val (frD p.2))) st) := by
        rw [forB_eq (show setv 4 (frD p.2) (mkF d (insM W p.1) (.val (frD p.1)) (.val (frD p.2)) (.val (frD p.1))) st = some (.ok .nx (mkF d (insM W p.1) (.val (frD p.1)) (.val (frD p.2)) (.val (frD p.2))) st) from rfl)]
        exact mkB_run h2 w1 (by omega)
      rw [mFor_cons f1, mFor_cons f2]
      rfl
    rw [mFor_cons b]
    exact r
theorem e_marks {ls : List (List P2)} (h : PlP ls.flatten) (hl : ls.flatten.length ≤ 10000) : d_law_marks fu [.lst (ls.map pcD)] st = some (.ret (.lst ((marksQ ls.flatten).map frD)) st) := by
  obtain ⟨s2, s3, s4, r⟩ := mk_loop (fu := fu) (st := st) (d := .lst (ls.map pcD)) ls.flatten [(0, 1)] .none .none .none h (fun q hq => by rw [List.mem_singleton.mp hq]; exact pl01) (by rw [List.length_singleton]; omega)
  have run : ∀ fr1, retM (ifE (tst (bin inF (tupM (consA (ret (.int 1)) (consA (ret (.int 1)) (nilA)))) (peekv 1))) (getv 1) (binL addF 1 (frzM (lstN (consA (tupM (consA (ret (.int 1)) (consA (ret (.int 1)) (nilA)))) (nilA)))))) (mkF (.lst (ls.map pcD)) ((flatQ ls.flatten).foldl insM [(0, 1)]) s2 s3 s4) st = some (.ok (.rt (.lst ((marksQ ls.flatten).map frD))) fr1 st) →
      d_law_marks fu [.lst (ls.map pcD)] st = some (.ret (.lst ((marksQ ls.flatten).map frD)) st) := fun fr1 e => by
    refine run_ret (fr := fr1) rfl ?_
    show m_law_marks fu [.val (.lst (ls.map pcD)), .none, .none, .none, .none, .none] st = _
    unfold m_law_marks
    rw [seq_eq (show setN 1 (lstN (consA (tupM (consA (ret (.int 0)) (consA (ret (.int 1)) (nilA)))) (nilA))) _ st = some (.ok .nx (mkF (.lst (ls.map pcD)) [(0, 1)] .none .none .none) st) from rfl)]
    show seqM (forM _ _ (forM _ _ (mkB fu))) _ _ st = _
    rw [seq_eq (for_eq (seqI_eq (call_eq (cons_eq (get_eq rfl) nil_eq) (e_flat (by omega))) (.inr rfl)) r)]
    exact e
  have t : tst (bin inF (tupM (consA (ret (.int 1)) (consA (ret (.int 1)) (nilA)))) (peekv 1)) (mkF (.lst (ls.map pcD)) ((flatQ ls.flatten).foldl insM [(0, 1)]) s2 s3 s4) st = some (.ok (decide ((1, 1) ∈ (flatQ ls.flatten).foldl insM [(0, 1)])) (mkF (.lst (ls.map pcD)) ((flatQ ls.flatten).foldl insM [(0, 1)]) s2 s3 s4) st) :=
    tst_eq (bin_eq (x := frD (1, 1)) rfl (peek_own rfl) (in_frF _ _))
  have ln := (insMs (flatQ ls.flatten) [(0, 1)] h.flat (fun q hq => by rw [List.mem_singleton.mp hq]; exact pl01) (List.pairwise_singleton _ _)).2.2
  rw [flat_len, List.length_singleton] at ln
  by_cases e : (1, 1) ∈ (flatQ ls.flatten).foldl insM [(0, 1)]
  · rw [decide_eq_true e] at t
    refine run [.val (.lst (ls.map pcD)), .val (.lst (((flatQ ls.flatten).foldl insM [(0, 1)]).map frD)), s2, s3, s4, .none] (ret_eq ?_)
    · rw [ife_eq t]
      unfold marksQ
      rw [if_pos e]
      rfl
  · rw [decide_eq_false e] at t
    refine run (mkF (.lst (ls.map pcD)) ((flatQ ls.flatten).foldl insM [(0, 1)]) s2 s3 s4) (ret_eq ?_)
    · rw [ife_eq t]
      unfold marksQ
      rw [if_neg e, List.map_append]
      exact binL_own (ds := ((flatQ ls.flatten).foldl insM [(0, 1)]).map frD) (y := .lst [frD (1, 1)]) rfl rfl rfl (s_catL (small_of (by rw [List.length_map]; simp; omega)))
end
end DL
end

section
set_option Elab.async false
set_option linter.all false
set_option maxRecDepth 100000
set_option maxHeartbeats 4000000
/-! k06, the plain side, part u: the law's cells. -/
namespace DL
open PySem PySem.Spec L2
theorem valR_eq {m : M D} {ms : M (List Rv)} {fr fr1 fr2 : Fr} {st st1 st2 : SS} {d : D} {rs : List Rv} (h : m fr st = some (.ok d fr1 st1)) (h2 : ms fr1 st1 = some (.ok rs fr2 st2)) : valR m ms fr st = some (.ok (.val d :: rs) fr2 st2) := by
  unfold valR
  rw [bnd_eq h, bnd_eq h2]
  rfl
theorem newR_eq {m : M (List D)} {ms : M (List Rv)} {fr fr1 fr2 : Fr} {st st1 st2 : SS} {d : List D} {rs : List Rv} (h : m fr st = some (.ok d fr1 st1)) (h2 : ms fr1 st1 = some (.ok rs fr2 st2)) : newR m ms fr st = some (.ok (.new d :: rs) fr2 st2) := by
  unfold newR
  rw [bnd_eq h, bnd_eq h2]
  rfl
theorem par_eq {is : List Nat} {m : M (List Rv)} {fr fr1 : Fr} {st st1 : SS} {rs : List Rv} (h : m fr st = some (.ok rs fr1 st1)) : parM is m fr st = asgR is rs fr1 st1 := by
  unfold parM
  rw [bnd_eq h]
/-! ### what they are -/
def pairsQ : List Q → List P2
  | a :: b :: t => (a, b) :: pairsQ (b :: t)
  | _ => []
def coverQ (l : List P2) (a b : Q) : Bool := l.any fun p => !ltQ a p.1 && !ltQ p.2 b
def cellsQ (k : Bool → Bool → Bool) (l0 l1 : List P2) : List P2 := (pairsQ (marksQ (l0 ++ l1))).filter fun p => k (coverQ l0 p.1 p.2) (coverQ l1 p.1 p.2)
theorem pairs_spec : ∀ {W : List Q}, Up W → (∀ q ∈ W, Pl q) → ∀ p ∈ pairsQ W, p.1 ∈ W ∧ p.2 ∈ W ∧ vv p.1 < vv p.2 ∧ ∀ w ∈ W, vv w ≤ vv p.1 ∨ vv p.2 ≤ vv w
  | [], _, _, p, hp => by cases hp
  | [a], _, _, p, hp => by cases hp
  | a :: b :: t, u, h, p, hp => by
    obtain ⟨u1, u2⟩ := List.pairwise_cons.mp u
    obtain ⟨u3, u4⟩ := List.pairwise_cons.mp u2
    rcases List.mem_cons.mp hp with rfl | m
    · refine ⟨List.mem_cons_self, List.mem_cons_of_mem _ List.mem_cons_self, u1 b List.mem_cons_self, fun w hw => ?_⟩
      rcases List.mem_cons.mp hw with rfl | hw
      · exact .inl (Int.le_refl _)
      · rcases List.mem_cons.mp hw with rfl | hw
        · exact .inr (Int.le_refl _)
        · exact .inr (by have := u3 w hw; show vv b ≤ vv w; omega)
    · obtain ⟨i1, i2, i3, i4⟩ := pairs_spec u2 (fun q hq => h q (List.mem_cons_of_mem _ hq)) p m
      refine ⟨List.mem_cons_of_mem _ i1, List.mem_cons_of_mem _ i2, i3, fun w hw => ?_⟩
      rcases List.mem_cons.mp hw with rfl | hw
      · exact .inl (by have := u1 p.1 i1; omega)
      · exact i4 w hw
theorem pairs_cover {x : Int} : ∀ {W : List Q} {a : Q}, vv a ≤ x → (∃ z ∈ a :: W, x < vv z) → ∃ p ∈ pairsQ (a :: W), vv p.1 ≤ x ∧ x < vv p.2
  | [], a, h, ⟨z, hz, lt⟩ => by
    rw [List.mem_singleton.mp hz] at lt
    omega
  | b :: t, a, h, ⟨z, hz, lt⟩ => by
    by_cases c : x < vv b
    · exact ⟨(a, b), List.mem_cons_self, h, c⟩
    · obtain ⟨p, m, r⟩ := pairs_cover (W := t) (a := b) (x := x) (by omega) ⟨z, (by
        rcases List.mem_cons.mp hz with rfl | m
        · omega
        · exact m), lt⟩
      exact ⟨p, List.mem_cons_of_mem _ m, r⟩
theorem pairs_len : ∀ W : List Q, (pairsQ W).length ≤ W.length
  | [] => Nat.le_refl _
  | [a] => by simp [pairsQ]
  | a :: b :: t => by
    have := pairs_len (b :: t)
    simp only [pairsQ, List.length_cons] at *
    omega
theorem cover_in {l : List P2} {W : List Q} {p : P2} {x : Int} (h : Pc l) (hw : ∀ q ∈ flatQ l, q ∈ W) (pl : Pl p.1) (pl2 : Pl p.2) (ap : ∀ w ∈ W, vv w ≤ vv p.1 ∨ vv p.2 ≤ vv w) (h1 : vv p.1 ≤ x) (h2 : x < vv p.2) : coverQ l p.1 p.2 = inP l x := by
  rw [h.cov]
  unfold coverQ covS
  have key : ∀ r ∈ l, (!ltQ p.1 r.1 && !ltQ r.2 p.2) = inS1 r x := fun r hr => by
    obtain ⟨r1, r2⟩ := h.pl r hr
    have m1 := ap r.1 (hw _ (mem_flat.mpr ⟨r, hr, .inl rfl⟩))
    have m2 := ap r.2 (hw _ (mem_flat.mpr ⟨r, hr, .inr rfl⟩))
    rw [ltQ_vv pl r1, ltQ_vv r2 pl2]
    unfold inS1
    rw [Bool.eq_iff_iff]
    simp only [Bool.and_eq_true, Bool.not_eq_true', decide_eq_false_iff_not, decide_eq_true_iff]
    omega
  clear h hw ap
  induction l with
  | nil => rfl
  | cons r l ih => rw [List.any_cons, List.any_cons, key r List.mem_cons_self, ih fun s hs => key s (List.mem_cons_of_mem _ hs)]
theorem cells_spec {k : Bool → Bool → Bool} (k0 : k false false = false) {l0 l1 : List P2} (h0 : Pc l0) (h1 : Pc l1) (hl : l0.length + l1.length ≤ 400) : (∀ p ∈ cellsQ k l0 l1, Str1 p) ∧ (cellsQ k l0 l1).length ≤ 1000 ∧ unionQ (cellsQ k l0 l1) = combL k l0 l1 := by
  have pl : PlP (l0 ++ l1) := fun p hp => by
    rcases List.mem_append.mp hp with m | m
    · exact h0.pl p m
    · exact h1.pl p m
  obtain ⟨u, me, ln⟩ := marks_spec pl
  have mp := marks_pl pl
  have sp := pairs_spec u mp
  have str : ∀ p ∈ cellsQ k l0 l1, Str1 p := fun p hp => by
    obtain ⟨m, _⟩ := List.mem_filter.mp hp
    obtain ⟨a, b, c, _⟩ := sp p m
    exact ⟨mp _ a, mp _ b, by omega⟩
  have len : (cellsQ k l0 l1).length ≤ 1000 := by
    have a := List.length_filter_le (fun p : P2 => k (coverQ l0 p.1 p.2) (coverQ l1 p.1 p.2)) (pairsQ (marksQ (l0 ++ l1)))
    have b := pairs_len (marksQ (l0 ++ l1))
    rw [List.length_append] at ln
    show (List.filter _ _).length ≤ _
    omega
  refine ⟨str, len, ?_⟩
  obtain ⟨s1, s2, s3⟩ := union_spec str len
  obtain ⟨c1, c2⟩ := combL_spec k0 h0 h1 (by omega)
  refine pc_uniq s1 c1 fun x => ?_
  rw [s2, c2]
  have w0 : ∀ q ∈ flatQ l0, q ∈ marksQ (l0 ++ l1) := fun q hq => (me q).mpr (.inr (.inr (by
    obtain ⟨p, hp, e⟩ := mem_flat.mp hq
    exact mem_flat.mpr ⟨p, List.mem_append_left _ hp, e⟩)))
  have w1 : ∀ q ∈ flatQ l1, q ∈ marksQ (l0 ++ l1) := fun q hq => (me q).mpr (.inr (.inr (by
    obtain ⟨p, hp, e⟩ := mem_flat.mp hq
    exact mem_flat.mpr ⟨p, List.mem_append_right _ hp, e⟩)))
  rw [Bool.eq_iff_iff]
  constructor
  · intro h
    obtain ⟨p, hp, hx⟩ := List.any_eq_true.mp h
    obtain ⟨m, z⟩ := List.mem_filter.mp hp
    obtain ⟨a, b, c, d⟩ := sp p m
    unfold inS1 at hx
    rw [Bool.and_eq_true, decide_eq_true_iff, decide_eq_true_iff] at hx
    rw [cover_in h0 w0 (mp _ a) (mp _ b) d hx.1 hx.2, cover_in h1 w1 (mp _ a) (mp _ b) d hx.1 hx.2] at z
    exact z
  · intro h
    have some_in : ∃ r ∈ l0 ++ l1, vv r.1 ≤ x ∧ x < vv r.2 := by
      have : inP l0 x = true ∨ inP l1 x = true := by
        cases e0 : inP l0 x with
        | true => exact .inl rfl
        | false =>
          cases e1 : inP l1 x with
          | true => exact .inr rfl
          | false => rw [e0, e1, k0] at h; cases h
      rcases this with e | e
      · rw [h0.cov] at e
        obtain ⟨r, hr, hx⟩ := List.any_eq_true.mp e
        unfold inS1 at hx
        rw [Bool.and_eq_true, decide_eq_true_iff, decide_eq_true_iff] at hx
        exact ⟨r, List.mem_append_left _ hr, hx⟩
      · rw [h1.cov] at e
        obtain ⟨r, hr, hx⟩ := List.any_eq_true.mp e
        unfold inS1 at hx
        rw [Bool.and_eq_true, decide_eq_true_iff, decide_eq_true_iff] at hx
        exact ⟨r, List.mem_append_right _ hr, hx⟩
    obtain ⟨r, hr, x1, x2⟩ := some_in
    have ex : ∃ p ∈ pairsQ (marksQ (l0 ++ l1)), vv p.1 ≤ x ∧ x < vv p.2 := by
      have z0 : (0, 1) ∈ marksQ (l0 ++ l1) := (me _).mpr (.inl rfl)
      have zz : r.2 ∈ marksQ (l0 ++ l1) := (me _).mpr (.inr (.inr (mem_flat.mpr ⟨r, hr, .inr rfl⟩)))
      have r0 := vv_lo (pl r hr).1
      generalize e : marksQ (l0 ++ l1) = W at z0 zz u mp ⊢
      cases W with
      | nil => cases z0
      | cons a W =>
        have le : vv a ≤ 0 := by
          rcases List.mem_cons.mp z0 with z | z
          · rw [← z, vv01]; exact Int.le_refl _
          · have := (List.pairwise_cons.mp u).1 _ z
            rw [vv01] at this
            omega
        exact pairs_cover (by omega) ⟨r.2, zz, x2⟩
    obtain ⟨p, m, hx⟩ := ex
    obtain ⟨a, b, c, d⟩ := sp p m
    refine List.any_eq_true.mpr ⟨p, List.mem_filter.mpr ⟨m, ?_⟩, ?_⟩
    · show k (coverQ l0 p.1 p.2) (coverQ l1 p.1 p.2) = true
      rw [cover_in h0 w0 (mp _ a) (mp _ b) d hx.1 hx.2, cover_in h1 w1 (mp _ a) (mp _ b) d hx.1 hx.2]
      exact h
    · unfold inS1
      rw [decide_eq_true hx.1, decide_eq_true hx.2]
      rfl
/-! ### the walks -/
section
variable {fu : Nat} {st : SS} {d w : D}
theorem e_covers {l : List P2} {a b : Q} (h : PlP l) (ha : Pl a) (hb : Pl b) (hl : l.length ≤ 100000) : d_law_covers fu [pcD l, frD a, frD b] st = some (.ret (.bl (coverQ l a b)) st) := by
  refine run_ret (fr := [.val (pcD l), .val (frD a), .val (frD b), .none, .none]) rfl ?_
  show m_law_covers fu [.val (pcD l), .val (frD a), .val (frD b), .none, .none] st = _
  unfold m_law_covers
  have c := compM_pure (f := prD) (vs := [3, 4]) (g := .tup [(.nm 3), (.nm 4)]) (t := andT (notT (tst (callM (d_law_less fu) (consA (getv 1) (consA (getv 3) (nilA)))))) (notT (tst (callM (d_law_less fu) (consA (getv 4) (consA (getv 2) (nilA))))))) (e := ret (.int 1)) (p := fun p : P2 => !ltQ a p.1 && !ltQ p.2 b) (q := fun _ : P2 => .int 1) (xs := l)
    (show seqW (getv 0) [.val (pcD l), .val (frD a), .val (frD b), .none, .none] st = some (.ok (l.map prD, .no) [.val (pcD l), .val (frD a), .val (frD b), .none, .none] st) from seqW_eq (get_eq rfl) (.inl rfl)) rfl (fun p hp => ⟨[.val (pcD l), .val (frD a), .val (frD b), .val (frD p.1), .val (frD p.2)], [.val (pcD l), .val (frD a), .val (frD b), .val (frD p.1), .val (frD p.2)], rfl, (by
      obtain ⟨h1, h2⟩ := h p hp
      have ta : notT (tst (callM (d_law_less fu) (consA (getv 1) (consA (getv 3) (nilA))))) [.val (pcD l), .val (frD a), .val (frD b), .val (frD p.1), .val (frD p.2)] st = some (.ok (!ltQ a p.1) [.val (pcD l), .val (frD a), .val (frD b), .val (frD p.1), .val (frD p.2)] st) :=
        not_eq (tst_eq (call_eq (cons_eq (get_eq rfl) (cons_eq (get_eq rfl) nil_eq)) (e_less ha h1)))
      have tb : notT (tst (callM (d_law_less fu) (consA (getv 4) (consA (getv 2) (nilA))))) [.val (pcD l), .val (frD a), .val (frD b), .val (frD p.1), .val (frD p.2)] st = some (.ok (!ltQ p.2 b) [.val (pcD l), .val (frD a), .val (frD b), .val (frD p.1), .val (frD p.2)] st) :=
        not_eq (tst_eq (call_eq (cons_eq (get_eq rfl) (cons_eq (get_eq rfl) nil_eq)) (e_less h2 hb)))
      show _ = some (Out.ok (!ltQ a p.1 && !ltQ p.2 b) [.val (pcD l), .val (frD a), .val (frD b), .val (frD p.1), .val (frD p.2)] st)
      cases e1 : ltQ a p.1 with
      | true =>
        rw [e1] at ta
        exact and_f ta
      | false =>
        rw [e1] at ta
        rw [and_t ta, tb]
        rfl), (fun _ => rfl), fun _ => ⟨_, rfl, rfl⟩⟩) (by omega)
  refine ret_eq (bin_eq (frz_eq c) rfl ?_)
  rw [ne_ones, filt_any]
  rfl
theorem cut_tail {α : Type} (a : α) (l : List α) : cutL (a :: l) (some 1) none = l := by
  show ((a :: l).drop (HT.sIx (l.length + 1) 0 (some ((1 : Nat) : Int)))).take (HT.sIx (l.length + 1) (l.length + 1) none - HT.sIx (l.length + 1) 0 (some ((1 : Nat) : Int))) = l
  rw [HT.sIx_nat, show HT.sIx (l.length + 1) (l.length + 1) none = l.length + 1 from rfl, Nat.min_eq_left (show 1 ≤ l.length + 1 by omega)]
  simp
theorem zip_pairs : ∀ W : List Q, zipD (W.map frD) (W.tail.map frD) = (pairsQ W).map prD
  | [] => rfl
  | [a] => rfl
  | a :: b :: t => by
    have := zip_pairs (b :: t)
    simp only [List.map_cons, List.tail_cons, zipD, pairsQ] at *
    rw [this]
    rfl
def ceF (d w : D) (W : List Q) (F : List P2) (s4 s5 : Slot) : Fr := [.val d, .val w, .val (.lst (W.map frD)), .own (F.map prD), s4, s5, .none]
def ceB (fu : Nat) : M Fl := ifM (tst (bin inF (frzM (compM [6] (seqW (getv 0)) (.nm 6) (ret true) (callM (d_law_covers fu) (consA (getv 6) (consA (getv 4) (consA (getv 5) (nilA))))))) (peekv 1)))
 (exprM (mutL 3 appF (consA (tupM (consA (getv 4) (consA (getv 5) (nilA)))) (nilA))))
 (ret .nx)
theorem ceB_run {k : Bool → Bool → Bool} {l0 l1 F : List P2} {W : List Q} {p : P2} (hk : ∀ a b, inF st (.lst [.bl a, .bl b]) w = some (.bl (k a b))) (h0 : PlP l0) (h1 : PlP l1) (hl0 : l0.length ≤ 100000) (hl1 : l1.length ≤ 100000) (hp : Pl p.1) (hp2 : Pl p.2) (hF : F.length ≤ 100000) :
    ceB fu (ceF (.lst [pcD l0, pcD l1]) w W F (.val (frD p.1)) (.val (frD p.2))) st = some (.ok .nx (ceF (.lst [pcD l0, pcD l1]) w W (F ++ [p].filter fun p => k (coverQ l0 p.1 p.2) (coverQ l1 p.1 p.2)) (.val (frD p.1)) (.val (frD p.2))) st) := by
  have c := compM_pure (f := pcD) (vs := [6]) (g := .nm 6) (t := ret true) (e := callM (d_law_covers fu) (consA (getv 6) (consA (getv 4) (consA (getv 5) (nilA))))) (p := fun _ => true) (q := fun l : List P2 => .bl (coverQ l p.1 p.2)) (xs := [l0, l1])
    (show seqW (getv 0) (ceF (.lst [pcD l0, pcD l1]) w W F (.val (frD p.1)) (.val (frD p.2))) st = some (.ok ([l0, l1].map pcD, .no) (ceF (.lst [pcD l0, pcD l1]) w W F (.val (frD p.1)) (.val (frD p.2))) st) from seqW_eq (get_eq rfl) (.inr rfl)) rfl
    (fun l hl => ⟨[.val (.lst [pcD l0, pcD l1]), .val w, .val (.lst (W.map frD)), .own (F.map prD), .val (frD p.1), .val (frD p.2), .val (pcD l)], [.val (.lst [pcD l0, pcD l1]), .val w, .val (.lst (W.map frD)), .own (F.map prD), .val (frD p.1), .val (frD p.2), .val (pcD l)], rfl, rfl, (fun z => by cases z), fun _ => ⟨_, call_eq (cons_eq (get_eq rfl) (cons_eq (get_eq rfl) (cons_eq (get_eq rfl) nil_eq))) (by
      rcases List.mem_cons.mp hl with rfl | hl
      · exact e_covers h0 hp hp2 hl0
      · rw [List.mem_singleton.mp hl]
        exact e_covers h1 hp hp2 hl1), rfl⟩⟩) (by simp)
  have t : tst (bin inF (frzM (compM [6] (seqW (getv 0)) (.nm 6) (ret true) (callM (d_law_covers fu) (consA (getv 6) (consA (getv 4) (consA (getv 5) (nilA))))))) (peekv 1)) (ceF (.lst [pcD l0, pcD l1]) w W F (.val (frD p.1)) (.val (frD p.2))) st = some (.ok (k (coverQ l0 p.1 p.2) (coverQ l1 p.1 p.2)) (ceF (.lst [pcD l0, pcD l1]) w W F (.val (frD p.1)) (.val (frD p.2))) st) :=
    tst_eq (bin_eq (frz_eq c) (peek_eq rfl) (hk _ _))
  unfold ceB
  rw [if_eq t, List.filter_cons, List.filter_nil]
  cases k (coverQ l0 p.1 p.2) (coverQ l1 p.1 p.2) with
  | false =>
    simp only [Bool.false_eq_true, if_false, List.append_nil]
    rfl
  | true =>
    simp only [if_true]
    rw [expr_eq (app_run (ds := F.map prD) (y := prD p) rfl (cons_eq (tup_eq (cons_eq (get_eq rfl) (cons_eq (get_eq rfl) nil_eq)) rfl) nil_eq) (by rw [List.length_map]; omega))]
    unfold ceF
    rw [List.map_append]
    rfl
theorem ce_loop {k : Bool → Bool → Bool} {l0 l1 : List P2} {W : List Q} (hk : ∀ a b, inF st (.lst [.bl a, .bl b]) w = some (.bl (k a b))) (h0 : PlP l0) (h1 : PlP l1) (hl0 : l0.length ≤ 100000) (hl1 : l1.length ≤ 100000) : ∀ (ps F : List P2) (s4 s5 : Slot), (∀ p ∈ ps, Pl p.1 ∧ Pl p.2) → F.length + ps.length ≤ 100000 →
    ∃ s4' s5', mFor (ps.map prD) (forB (tupG 2 (consG (setv 4) (consG (setv 5) (nilG)))) (ceB fu)) (ceF (.lst [pcD l0, pcD l1]) w W F s4 s5) st = some (.ok .nx (ceF (.lst [pcD l0, pcD l1]) w W (F ++ ps.filter fun p => k (coverQ l0 p.1 p.2) (coverQ l1 p.1 p.2)) s4' s5') st)
  | [], F, s4, s5, _, _ => ⟨s4, s5, by simp [mFor, ret]⟩
  | p :: ps, F, s4, s5, h, hl => by
    obtain ⟨p1, p2⟩ := h p List.mem_cons_self
    rw [List.length_cons] at hl
    have fl := List.length_filter_le (fun p : P2 => k (coverQ l0 p.1 p.2) (coverQ l1 p.1 p.2)) [p]
    rw [List.length_singleton] at fl
    obtain ⟨s4', s5', r⟩ := ce_loop hk h0 h1 hl0 hl1 ps (F ++ [p].filter fun p => k (coverQ l0 p.1 p.2) (coverQ l1 p.1 p.2)) (.val (frD p.1)) (.val (frD p.2)) (fun x hx => h x (List.mem_cons_of_mem _ hx)) (by rw [List.length_append]; omega)
    refine ⟨s4', s5', ?_⟩
    have e : F ++ (p :: ps).filter (fun p => k (coverQ l0 p.1 p.2) (coverQ l1 p.1 p.2)) = F ++ [p].filter (fun p => k (coverQ l0 p.1 p.2) (coverQ l1 p.1 p.2)) ++ ps.filter (fun p => k (coverQ l0 p.1 p.2) (coverQ l1 p.1 p.2)) := by
      rw [List.append_assoc, ← List.filter_append]
      rfl
    rw [e, List.map_cons]
    unfold mFor
    have b : forB (tupG 2 (consG (setv 4) (consG (setv 5) nilG))) (ceB fu) (prD p) (ceF (.lst [pcD l0, pcD l1]) w W F s4 s5) st = some (.ok .nx (ceF (.lst [pcD l0, pcD l1]) w W (F ++ [p].filter fun p => k (coverQ l0 p.1 p.2) (coverQ l1 p.1 p.2)) (.val (frD p.1)) (.val (frD p.2))) st) := by
      unfold forB
      rw [bnd_eq (show tupG 2 (consG (setv 4) (consG (setv 5) nilG)) (prD p) (ceF (.lst [pcD l0, pcD l1]) w W F s4 s5) st = some (.ok .nx (ceF (.lst [pcD l0, pcD l1]) w W F (.val (frD p.1)) (.val (frD p.2))) st) from rfl)]
      exact ceB_run hk h0 h1 hl0 hl1 p1 p2 (by omega)
    rw [bnd_eq b]
    exact r
theorem e_cells {k : Bool → Bool → Bool} (k0 : k false false = false) {l0 l1 : List P2} (hk : ∀ a b, inF st (.lst [.bl a, .bl b]) w = some (.bl (k a b))) (h0 : Pc l0) (h1 : Pc l1) (hl : l0.length + l1.length ≤ 400) : d_law_cells fu [.lst [pcD l0, pcD l1], w] st = some (.ret (pcD (combL k l0 l1)) st) := by
  obtain ⟨c1, c2, c3⟩ := cells_spec k0 h0 h1 hl
  have fe : [l0, l1].flatten = l0 ++ l1 := by simp
  have pl : PlP (l0 ++ l1) := fun p hp => by
    rcases List.mem_append.mp hp with m | m
    · exact h0.pl p m
    · exact h1.pl p m
  have em := e_marks (fu := fu) (st := st) (ls := [l0, l1]) (by rw [fe]; exact pl) (by rw [fe, List.length_append]; omega)
  rw [fe] at em
  obtain ⟨u, me, ln⟩ := marks_spec pl
  rw [List.length_append] at ln
  have pp : ∀ p ∈ pairsQ (marksQ (l0 ++ l1)), Pl p.1 ∧ Pl p.2 := fun p hp => by
    obtain ⟨a, b, _, _⟩ := pairs_spec u (marks_pl pl) p hp
    exact ⟨marks_pl pl _ a, marks_pl pl _ b⟩
  have n := pairs_len (marksQ (l0 ++ l1))
  obtain ⟨s4, s5, r⟩ := ce_loop (fu := fu) (W := marksQ (l0 ++ l1)) hk h0.pl h1.pl (by omega) (by omega) (pairsQ (marksQ (l0 ++ l1))) [] .none .none pp (by simp; omega)
  refine run_ret (fr := [.val (.lst [pcD l0, pcD l1]), .val w, .val (.lst ((marksQ (l0 ++ l1)).map frD)), .val (.lst ((cellsQ k l0 l1).map prD)), s4, s5, .none]) rfl ?_
  show m_law_cells fu [.val (.lst [pcD l0, pcD l1]), .val w, .none, .none, .none, .none, .none] st = _
  unfold m_law_cells
  have p1 : parM [2, 3] (valR (callM (d_law_marks fu) (consA (getv 0) (nilA))) (newR (lstN (nilA)) (nilR))) [.val (.lst [pcD l0, pcD l1]), .val w, .none, .none, .none, .none, .none] st = some (.ok .nx (ceF (.lst [pcD l0, pcD l1]) w (marksQ (l0 ++ l1)) [] .none .none) st) := by
    rw [par_eq (valR_eq (call_eq (cons_eq (get_eq rfl) nil_eq) em) (newR_eq rfl rfl))]
    rfl
  have z : zipI (getv 2) (sl3 (getv 2) (someO (ret (.int 1))) (noneO)) (ceF (.lst [pcD l0, pcD l1]) w (marksQ (l0 ++ l1)) [] .none .none) st = some (.ok ((pairsQ (marksQ (l0 ++ l1))).map prD) (ceF (.lst [pcD l0, pcD l1]) w (marksQ (l0 ++ l1)) [] .none .none) st) := by
    unfold zipI
    have tl : slD st (.lst ((marksQ (l0 ++ l1)).map frD)) (some 1) none = some (.lst ((marksQ (l0 ++ l1)).tail.map frD)) := by
      unfold slD
      have z0 : (0, 1) ∈ marksQ (l0 ++ l1) := (me _).mpr (.inl rfl)
      generalize marksQ (l0 ++ l1) = W at z0
      cases W with
      | nil => cases z0
      | cons a W =>
        show some (D.lst (cutL (frD a :: W.map frD) (some 1) none)) = _
        rw [cut_tail]
        rfl
    rw [bnd_eq (get_eq (d := .lst ((marksQ (l0 ++ l1)).map frD)) rfl), bnd_eq (sl3_eq (get_eq rfl) (some_eq rfl) rfl tl), ← zip_pairs]
    rfl
  rw [seq_eq p1]
  show seqM (forM _ (tupG 2 (consG (setv 4) (consG (setv 5) (nilG)))) (ceB fu)) _ _ st = _
  rw [seq_eq (for_eq z r), List.nil_append]
  show retM (callM (d_law_union fu) (consA (getv 3) (nilA))) (ceF (.lst [pcD l0, pcD l1]) w (marksQ (l0 ++ l1)) (cellsQ k l0 l1) s4 s5) st = _
  refine ret_eq (call_eq (ds := [.lst ((cellsQ k l0 l1).map prD)]) (cons_eq rfl nil_eq) ?_)
  rw [e_union (.inl rfl) c1 c2, c3]
end
end DL
end

section
set_option Elab.async false
set_option linter.all false
set_option maxRecDepth 100000
set_option maxHeartbeats 4000000
/-! k06, the plain side, part v: the law's same on one and the same value. -/
namespace DL
open PySem PySem.Spec L2
theorem ixA_at {st : SS} {m a : D} {l : List D} (k : Nat) (hm : itemsS st m = some l) (h : l[k]? = some a) : ixA st m (.int (k : Int)) = some a := by
  have hk : k < l.length := (List.getElem?_eq_some_iff.mp h).1
  have e : atI l (k : Int) = some a := by
    unfold atI ixN
    rw [if_pos (Int.natCast_nonneg k), if_pos (by omega)]
    exact h
  simp [ixA, ixF, hm, e]
theorem isi {cs : List Kc} {st : SS} {d : D} {k : Kd} (hk : kindOf st d = some k) : isiF cs st d = some (.bl (cs.any fun c => isK k c)) := by unfold isiF; rw [hk]
theorem isNone {st : SS} {d : D} (h : isNon d = false) : isF st d .non = some (.bl false) := by
  unfold isF isN
  simp [h]
/-- data of which same says that it is itself -/
inductive OkS (st : SS) : Nat → D → Prop
  | non (n : Nat) : OkS st n .non
  | bl (n : Nat) (b : Bool) : OkS st n (.bl b)
  | int (n : Nat) (i : Int) : OkS st n (.int i)
  | str (n : Nat) (s : Str) : eqB (.str s) (.str s) = some true → OkS st n (.str s)
  | tup (n : Nat) (ds : List D) : ds.length ≤ 10000 → (∀ d ∈ ds, OkS st n d) → OkS st (n + 1) (.tup ds)
  | lst (n : Nat) (ds : List D) : ds.length ≤ 10000 → (∀ d ∈ ds, OkS st n d) → OkS st (n + 1) (.lst ds)
  | ob (n j : Nat) (ds : List D) : st[j]? = some (.lst ds) → ds.length ≤ 10000 → (∀ d ∈ ds, OkS st n d) → OkS st (n + 1) (.obj j)
  | dic0 (n j : Nat) : st[j]? = some (.dic []) → OkS st n (.obj j)
  | dic1 (n j : Nat) (k : Key) (i : Int) : st[j]? = some (.dic [(k, .int i)]) → OkS st (n + 1) (.obj j)
theorem OkS.mono {st : SS} {n : Nat} {d : D} (h : OkS st n d) : ∀ m, n ≤ m → OkS st m d := by
  induction h with
  | non n => exact fun m _ => .non m
  | bl n b => exact fun m _ => .bl m b
  | int n i => exact fun m _ => .int m i
  | str n s e => exact fun m _ => .str m s e
  | tup n ds l h ih =>
    intro m hm
    obtain ⟨m', rfl⟩ : ∃ m', m = m' + 1 := ⟨m - 1, by omega⟩
    exact .tup m' ds l fun d hd => ih d hd m' (by omega)
  | lst n ds l h ih =>
    intro m hm
    obtain ⟨m', rfl⟩ : ∃ m', m = m' + 1 := ⟨m - 1, by omega⟩
    exact .lst m' ds l fun d hd => ih d hd m' (by omega)
  | ob n j ds e l h ih =>
    intro m hm
    obtain ⟨m', rfl⟩ : ∃ m', m = m' + 1 := ⟨m - 1, by omega⟩
    exact .ob m' j ds e l fun d hd => ih d hd m' (by omega)
  | dic0 n j e => exact fun m _ => .dic0 m j e
  | dic1 n j k i e =>
    intro m hm
    obtain ⟨m', rfl⟩ : ∃ m', m = m' + 1 := ⟨m - 1, by omega⟩
    exact .dic1 m' j k i e
section
variable {fu : Nat} {st : SS} {d : D} {self : Fn}
abbrev saF (d : D) : Fr := [.val d, .val d, .none, .none]
theorem sa_isi {cs : List Kc} {k : Kd} (hk : kindOf st d = some k) : tst (un1 (isiF cs) (getv 0)) (saF d) st = some (.ok (cs.any fun c => isK k c) (saF d) st) ∧ tst (un1 (isiF cs) (getv 1)) (saF d) st = some (.ok (cs.any fun c => isK k c) (saF d) st) :=
  ⟨tst_eq (un1_eq (get_eq rfl) (isi hk)), tst_eq (un1_eq (get_eq rfl) (isi hk))⟩
theorem sa_first {k : Kd} {r : M Fl} (hk : kindOf st d = some k) (hn : isNon d = false) (hb : isK k .bool = false) : ifM (orT (tst (bin isF (getv 1) (ret .non))) (tst (un1 (isiF [.bool]) (getv 1)))) r (ret .nx) (saF d) st = some (.ok .nx (saF d) st) := by
  refine if_nx ?_
  rw [or_f (tst_eq (bin_eq (get_eq rfl) rfl (isNone hn))), (sa_isi hk).2]
  simp [hb]
theorem sa_no {k : Kd} {r : M Fl} {c : Kc} (hk : kindOf st d = some k) (hb : isK k c = false) : ifM (tst (un1 (isiF [c]) (getv 1))) r (ret .nx) (saF d) st = some (.ok .nx (saF d) st) := by
  refine if_nx ?_
  rw [(sa_isi hk).2]
  simp [hb]
theorem same_seq {ds : List D} {k : Kd} (hk : kindOf st d = some k) (hkk : k = .tup ∨ k = .lst) (hn : isNon d = false) (hi : itemsS st d = some ds) (hln : lenF st d = some (.int ds.length)) (hl : ds.length ≤ 10000) (h : ∀ x ∈ ds, self [x, x] st = some (.ret (.bl true) st)) :
    runD 4 2 (m_law_same fu self) [d, d] st = some (.ret (.bl true) st) := by
  refine run_ret (fr := saF d) rfl ?_
  show m_law_same fu self (saF d) st = _
  unfold m_law_same
  rw [seq_eq (sa_first hk hn (by rcases hkk with rfl | rfl <;> rfl)), seq_eq (sa_no hk (by rcases hkk with rfl | rfl <;> rfl)), seq_eq (sa_no hk (by rcases hkk with rfl | rfl <;> rfl)), seq_eq (sa_no hk (by rcases hkk with rfl | rfl <;> rfl))]
  have l0 : un1 lenF (peekv 0) (saF d) st = some (.ok (.int ds.length) (saF d) st) := un1_eq (peek_eq rfl) hln
  have l1 : un1 lenF (peekv 1) (saF d) st = some (.ok (.int ds.length) (saF d) st) := un1_eq (peek_eq rfl) hln
  have s5 : orT (notT (tst (un1 (isiF [.list, .tuple]) (getv 1)))) (notT (tst (un1 (isiF [.list, .tuple]) (getv 0)))) (saF d) st = some (.ok false (saF d) st) := by
    have e : ([Kc.list, Kc.tuple].any fun c => isK k c) = true := by rcases hkk with rfl | rfl <;> rfl
    have a := (sa_isi (cs := [.list, .tuple]) hk)
    rw [e] at a
    rw [or_f (not_eq a.2)]
    exact not_eq a.1
  rw [seq_eq (if_nx s5)]
  have s6 : orT (tst (bin neF (un1 (isiF [.list]) (getv 0)) (un1 (isiF [.list]) (getv 1)))) (tst (bin neF (un1 lenF (peekv 0)) (un1 lenF (peekv 1)))) (saF d) st = some (.ok false (saF d) st) := by
    rw [or_f (tst_eq (bin_eq (un1_eq (get_eq rfl) (isi hk)) (un1_eq (get_eq rfl) (isi hk)) (by rw [s_neb]; simp)))]
    exact tst_eq (bin_eq l0 l1 (by rw [s_nei]; simp))
  rw [seq_eq (if_nx s6)]
  have key : noW (rng1 (un1 lenF (peekv 1))) (saF d) st = some (.ok ((List.range ds.length).map (fun i : Nat => D.int (0 + (i : Nat))), .no) (saF d) st) := by
    refine noW_eq ?_
    rw [rng1_eq l1 (inRange_of (by omega) (by omega))]
    rfl
  have c := compM_pure (f := fun i : Nat => D.int (0 + (i : Nat))) (vs := [2]) (g := .nm 2) (t := notT (tst (callM self (consA (bin ixA (getv 0) (peekv 2)) (consA (bin ixA (getv 1) (peekv 2)) (nilA)))))) (e := getv 2) (p := fun _ => false) (q := fun i => D.int (0 + (i : Nat))) key rfl (fun i him => by
    have lt : i < ds.length := List.mem_range.mp him
    have at' : ds[i]? = some ds[i] := List.getElem?_eq_getElem lt
    have e0 : (0 + (i : Int)) = (i : Int) := by omega
    refine ⟨[.val d, .val d, .val (.int (0 + (i : Nat))), .none], [.val d, .val d, .val (.int (0 + (i : Nat))), .none], rfl, ?_, (fun _ => rfl), (fun z => by cases z)⟩
    exact not_eq (b := true) (tst_eq (call_eq (cons_eq (bin_eq (get_eq rfl) (peek_eq rfl) (by rw [e0]; exact ixA_at i hi at')) (cons_eq (bin_eq (get_eq rfl) (peek_eq rfl) (by rw [e0]; exact ixA_at i hi at')) nil_eq)) (h _ (List.getElem_mem lt))))) (by simp; omega)
  have f0 : ((List.range ds.length).filter fun _ => false) = [] := by simp
  rw [f0] at c
  exact ret_eq (bin_eq (frz_eq c) rfl rfl)
theorem fset {st : SS} {j : Nat} {o : Ob} (h : st[j]? = some o) (o' : Ob) : (st.set j o').set j o = st := by
  rw [List.set_set]
  obtain ⟨lt, e⟩ := List.getElem?_eq_some_iff.mp h
  rw [← e]
  exact List.set_getElem_self lt
theorem same_dic {j : Nat} {kvs : List (Key × D)} (hj : st[j]? = some (.dic kvs)) (hl : kvs.length ≤ 10000) (hk : ∀ p ∈ kvs, dkey (keyD p.1) = some p.1) (h : ∀ p ∈ kvs, ∃ v, dlook kvs p.1 = some v ∧ self [v, v] (st.set j (.fdic kvs)) = some (.ret (.bl true) (st.set j (.fdic kvs)))) :
    runD 4 2 (m_law_same fu self) [.obj j, .obj j] st = some (.ret (.bl true) st) := by
  have hkd : kindOf st (.obj j) = some .dic := by simp only [kindOf, hj]
  refine run_ret (fr := saF (.obj j)) rfl ?_
  show m_law_same fu self (saF (.obj j)) st = _
  unfold m_law_same
  rw [seq_eq (sa_first hkd rfl rfl), seq_eq (sa_no hkd rfl), seq_eq (sa_no hkd rfl)]
  refine seq_rt ?_
  have d1 := (sa_isi (cs := [.dict]) hkd).2
  rw [if_t d1]
  have ln : lenF st (.obj j) = some (.int kvs.length) := by simp only [lenF, hj]
  have v0 : un1 (isiF [.dict]) (getv 0) (saF (.obj j)) st = some (.ok (.bl true) (saF (.obj j)) st) := un1_eq (get_eq rfl) (isi hkd)
  have v1 : bin eqF (un1 lenF (peekv 0)) (un1 lenF (peekv 1)) (saF (.obj j)) st = some (.ok (.bl true) (saF (.obj j)) st) := bin_eq (un1_eq (peek_eq rfl) ln) (un1_eq (peek_eq rfl) ln) (by rw [s_eqi]; simp)
  have lt : j < st.length := (List.getElem?_eq_some_iff.mp hj).1
  have at' : (st.set j (.fdic kvs))[j]? = some (.fdic kvs) := by rw [List.getElem?_set_self lt]
  have da : dicAt (st.set j (.fdic kvs)) (.obj j) = some kvs := by simp only [dicAt, at']
  have c := compM_pure (f := fun p : Key × D => keyD p.1) (vs := [3]) (g := .nm 3) (t := orT (tst (dop ninK (getv 3) (getv 0))) (notT (tst (callM self (consA (dop subK (getv 0) (getv 3)) (consA (dop subK (getv 1) (getv 3)) (nilA))))))) (e := getv 3) (p := fun _ => false) (q := fun p => keyD p.1) (xs := kvs)
    (mi := ret (kvs.map (fun p => keyD p.1), Wt.no)) (fr := saF (.obj j)) (fr1 := saF (.obj j)) (st := st.set j (.fdic kvs)) (st1 := st.set j (.fdic kvs)) rfl rfl (fun p hp => by
      obtain ⟨v, hv, hs⟩ := h p hp
      have kp := hk p hp
      refine ⟨[.val (.obj j), .val (.obj j), .none, .val (keyD p.1)], [.val (.obj j), .val (.obj j), .none, .val (keyD p.1)], rfl, ?_, (fun _ => rfl), (fun z => by cases z)⟩
      have n1 : dop ninK (getv 3) (getv 0) [.val (.obj j), .val (.obj j), .none, .val (keyD p.1)] (st.set j (.fdic kvs)) = some (.ok (.bl false) [.val (.obj j), .val (.obj j), .none, .val (keyD p.1)] (st.set j (.fdic kvs))) := by
        unfold dop
        rw [bnd_eq (get_eq rfl), bnd_eq (get_eq rfl)]
        unfold ninK
        rw [da, kp]
        simp only [hv]
        rfl
      have sb : ∀ i, getv i [.val (.obj j), .val (.obj j), .none, .val (keyD p.1)] (st.set j (.fdic kvs)) = some (.ok (.obj j) [.val (.obj j), .val (.obj j), .none, .val (keyD p.1)] (st.set j (.fdic kvs))) →
          dop subK (getv i) (getv 3) [.val (.obj j), .val (.obj j), .none, .val (keyD p.1)] (st.set j (.fdic kvs)) = some (.ok v [.val (.obj j), .val (.obj j), .none, .val (keyD p.1)] (st.set j (.fdic kvs))) := fun i hi => by
        unfold dop
        rw [bnd_eq hi, bnd_eq (get_eq rfl)]
        unfold subK
        rw [da, kp]
        simp only [hv]
        rfl
      rw [or_f (tst_eq n1)]
      exact not_eq (b := true) (tst_eq (call_eq (cons_eq (sb 0 (get_eq rfl)) (cons_eq (sb 1 (get_eq rfl)) nil_eq)) hs))) (by omega)
  have f0 : (kvs.filter fun _ => false) = [] := by simp
  rw [f0] at c
  have ck : compK 1 [3] (.nm 3) (orT (tst (dop ninK (getv 3) (getv 0))) (notT (tst (callM self (consA (dop subK (getv 0) (getv 3)) (consA (dop subK (getv 1) (getv 3)) (nilA))))))) (getv 3) (saF (.obj j)) st = some (.ok [] (saF (.obj j)) st) := by
    unfold compK
    simp only [show (saF (.obj j))[1]? = some (.val (.obj j)) from rfl, hj]
    rw [c]
    simp only [List.map_nil, fset hj]
    rfl
  refine ret_eq ?_
  rw [andV_t v0, andV_t v1]
  exact bin_eq (frz_eq ck) rfl rfl
theorem same_ok {n : Nat} {d : D} (h : OkS st n d) : d_law_same fu (n + 1) [d, d] st = some (.ret (.bl true) st) := by
  induction h with
  | non n => rfl
  | bl n b => cases b <;> rfl
  | int n i =>
    have hk : kindOf st (.int i) = some .int := rfl
    show runD 4 2 (m_law_same fu _) _ _ = _
    refine run_ret (fr := saF (.int i)) rfl ?_
    show m_law_same fu _ (saF (.int i)) st = _
    unfold m_law_same
    rw [seq_eq (sa_first hk rfl rfl)]
    refine seq_rt ?_
    rw [if_t (sa_isi (cs := [.int]) hk).2]
    refine ret_eq ?_
    rw [andV_t (un1_eq (get_eq rfl) (isi hk)), andV_t (notV_eq (b := false) (un1_eq (get_eq rfl) (isi hk)))]
    exact bin_eq (get_eq rfl) (peek_eq rfl) (by rw [s_eqi]; simp)
  | str n s e =>
    have hk : kindOf st (.str s) = some .str := rfl
    show runD 4 2 (m_law_same fu _) _ _ = _
    refine run_ret (fr := saF (.str s)) rfl ?_
    show m_law_same fu _ (saF (.str s)) st = _
    unfold m_law_same
    rw [seq_eq (sa_first hk rfl rfl), seq_eq (sa_no hk rfl)]
    refine seq_rt ?_
    rw [if_t (sa_isi (cs := [.str]) hk).2]
    refine ret_eq ?_
    rw [andV_t (un1_eq (get_eq rfl) (isi hk))]
    exact bin_eq (get_eq rfl) (peek_eq rfl) (by unfold eqF; rw [e])
  | tup n ds l h ih => exact same_seq rfl (.inl rfl) rfl rfl (by unfold lenF itemsS; rfl) l ih
  | lst n ds l h ih => exact same_seq rfl (.inr rfl) rfl rfl (by unfold lenF itemsS; rfl) l ih
  | ob n j ds e l h ih => exact same_seq (k := .lst) (ds := ds) (by simp only [kindOf, e]) (.inr rfl) rfl (by simp only [itemsS, e]) (by simp only [lenF, e]) l ih
  | dic0 n j e => exact same_dic e (by simp) (fun p hp => by cases hp) (fun p hp => by cases hp)
  | dic1 n j k i e =>
    refine same_dic e (by simp) (fun p hp => ?_) (fun p hp => ?_)
    · cases p.1 <;> rfl
    · rw [List.mem_singleton.mp hp]
      refine ⟨.int i, by simp [dlook], ?_⟩
      have hk : kindOf (st.set j (.fdic [(k, .int i)])) (.int i) = some .int := rfl
      show runD 4 2 (m_law_same fu _) _ _ = _
      refine run_ret (fr := saF (.int i)) rfl ?_
      show m_law_same fu _ (saF (.int i)) _ = _
      unfold m_law_same
      rw [seq_eq (sa_first hk rfl rfl)]
      refine seq_rt ?_
      rw [if_t (sa_isi (cs := [.int]) hk).2]
      refine ret_eq ?_
      rw [andV_t (un1_eq (get_eq rfl) (isi hk)), andV_t (notV_eq (b := false) (un1_eq (get_eq rfl) (isi hk)))]
      exact bin_eq (get_eq rfl) (peek_eq rfl) (by rw [s_eqi]; simp)
theorem same12 {d : D} {n : Nat} (h : OkS st n d) (hn : n ≤ 11) : d_law_same fu 12 [d, d] st = some (.ret (.bl true) st) := same_ok (h.mono 11 hn)
end
theorem ok_fr {st : SS} {n : Nat} (q : Q) : OkS st (n + 1) (frD q) := .tup n _ (by simp) fun d hd => by
  rcases List.mem_cons.mp hd with rfl | hd
  · exact .int n _
  · rw [List.mem_singleton.mp hd]; exact .int n _
theorem ok_pr {st : SS} {n : Nat} (p : P2) : OkS st (n + 2) (prD p) := .tup (n + 1) _ (by simp) fun d hd => by
  rcases List.mem_cons.mp hd with rfl | hd
  · exact ok_fr _
  · rw [List.mem_singleton.mp hd]; exact ok_fr _
theorem ok_prs {st : SS} {n : Nat} (l : List P2) : ∀ d ∈ l.map prD, OkS st (n + 2) d := fun d hd => by
  obtain ⟨p, _, rfl⟩ := List.mem_map.mp hd
  exact ok_pr p
theorem ok_pc {st : SS} {n : Nat} {l : List P2} (h : l.length ≤ 10000) : OkS st (n + 3) (pcD l) := .tup (n + 2) _ (by rw [List.length_map]; exact h) (ok_prs l)
theorem ok_told {st : SS} {n : Nat} {d : D} (h : OkS st n d) : OkS st (n + 1) (.lst [.str ("told" : Str), d]) := .lst n _ (by simp) fun x hx => by
  rcases List.mem_cons.mp hx with rfl | hx
  · exact .str n _ (by decide +kernel)
  · rw [List.mem_singleton.mp hx]; exact h
end DL
end

section
set_option Elab.async false
set_option linter.all false
set_option maxRecDepth 100000
set_option maxHeartbeats 4000000
/-! k06, the plain side, part w: the law's draws. -/
namespace DL
open PySem PySem.Spec L2
theorem set_obj {i j n : Nat} {mi me : M D} {ds : List D} {d : D} {k : Int} {fr : Fr} {st : SS} (h : me fr st = some (.ok d fr st)) (hi : fr[i]? = some (.val (.obj n))) (hs : st[n]? = some (.lst ds)) (hk : mi fr st = some (.ok (.int k) fr st)) (e : ixN ds.length k = some j) :
    setIt i mi me fr st = some (.ok .nx fr (st.set n (.lst (ds.set j d)))) := by
  unfold setIt
  have c : chkL i fr st = some (.ok () fr st) := by unfold chkL; rw [hi]; simp only [hs]
  have m : mutI i setF [.int k, d] fr st = some (.ok .non fr (st.set n (.lst (ds.set j d)))) := by
    unfold mutI
    rw [hi]
    simp only [hs, setF, e]
  rw [bnd_eq h, bnd_eq c, bnd_eq hk, bnd_eq m]
  rfl
/-- the box of the draws -/
structure Bx (n : Nat) (st : SS) (m : Nat) : Prop where
  ex : ∃ (a c k : Int) (b : Bool), st[n]? = some (.lst [.int a, .bl b, .int c, .int k]) ∧ 0 ≤ a ∧ a < 10 ^ 64 ∧ 0 ≤ c ∧ c < 2147483629 ∧ 0 ≤ k ∧ k ≤ m
theorem Bx.mono {n m m' : Nat} {st : SS} (h : Bx n st m) (hm : m ≤ m') : Bx n st m' := by
  obtain ⟨a, c, k, b, h1, h2, h3, h4, h5, h6, h7⟩ := h.ex
  exact ⟨a, c, k, b, h1, h2, h3, h4, h5, h6, by omega⟩
/-- only the box is another one -/
def Ch (n : Nat) (st st' : SS) : Prop := ∃ o, st' = st.set n o
theorem Ch.trans {n : Nat} {a b c : SS} (h : Ch n a b) (h2 : Ch n b c) : Ch n a c := by
  obtain ⟨o, rfl⟩ := h
  obtain ⟨o2, rfl⟩ := h2
  exact ⟨o2, List.set_set ..⟩
theorem Ch.refl {n m : Nat} {st : SS} (h : Bx n st m) : Ch n st st := by
  obtain ⟨a, c, k, b, h1, _⟩ := h.ex
  refine ⟨.lst [.int a, .bl b, .int c, .int k], ?_⟩
  obtain ⟨lt, e⟩ := List.getElem?_eq_some_iff.mp h1
  rw [← e]
  exact (List.set_getElem_self lt).symm
theorem Ch.at {n j : Nat} {st st' : SS} (h : Ch n st st') (hj : j ≠ n) : st'[j]? = st[j]? := by
  obtain ⟨o, rfl⟩ := h
  exact List.getElem?_set_ne (Ne.symm hj)
theorem Ch.len {n : Nat} {st st' : SS} (h : Ch n st st') : st'.length = st.length := by
  obtain ⟨o, rfl⟩ := h
  exact List.length_set
section
variable {fu n m : Nat} {st : SS}
theorem e_take {many : Int} (hb : Bx n st m) (hm : m ≤ 100000) (h1 : 0 < many) (h2 : many ≤ 1000000) : ∃ r st', d_law_take fu [.obj n, .int many] st = some (.ret (.int r) st') ∧ 0 ≤ r ∧ r < many ∧ Bx n st' (m + 1) ∧ Ch n st st' := by
  obtain ⟨a, c, k, b, e, a0, a1, c0, c1, k0, k1⟩ := hb.ex
  have hit : itemsS st (.obj n) = some [.int a, .bl b, .int c, .int k] := by simp only [itemsS, e]
  have i0 : ∀ fr : Fr, fr[0]? = some (.val (.obj n)) → bin ixA (getv 0) (ret (.int 0)) fr st = some (.ok (.int a) fr st) := fun fr h => bin_eq (get_eq h) rfl (ixA_at 0 hit rfl)
  have i1 : ∀ fr : Fr, fr[0]? = some (.val (.obj n)) → bin ixA (getv 0) (ret (.int 1)) fr st = some (.ok (.bl b) fr st) := fun fr h => bin_eq (get_eq h) rfl (ixA_at 1 hit rfl)
  have i2 : ∀ fr : Fr, fr[0]? = some (.val (.obj n)) → bin ixA (getv 0) (ret (.int 2)) fr st = some (.ok (.int c) fr st) := fun fr h => bin_eq (get_eq h) rfl (ixA_at 2 hit rfl)
  have i3 : ∀ fr : Fr, fr[0]? = some (.val (.obj n)) → bin ixA (getv 0) (ret (.int 3)) fr st = some (.ok (.int k) fr st) := fun fr h => bin_eq (get_eq h) rfl (ixA_at 3 hit rfl)
  have lt : n < st.length := (List.getElem?_eq_some_iff.mp e).1
  have mz : Sz 20 many := by unfold Sz; omega
  have t : andT (tst (bin ixA (getv 0) (ret (.int 1)))) (tst (bin gtF (bin ixA (getv 0) (ret (.int 0))) (ret (.int 0)))) [.val (.obj n), .val (.int many), .none] st = some (.ok (b && decide (0 < a)) [.val (.obj n), .val (.int many), .none] st) := by
    have u1 := tst_eq (i1 [.val (.obj n), .val (.int many), .none] rfl)
    have u2 : tst (bin gtF (bin ixA (getv 0) (ret (.int 0))) (ret (.int 0))) [.val (.obj n), .val (.int many), .none] st = some (.ok (decide (0 < a)) [.val (.obj n), .val (.int many), .none] st) := tst_eq (bin_eq (i0 _ rfl) rfl s_gt)
    cases b with
    | true => rw [and_t u1, u2]; rfl
    | false => rw [and_f u1]; rfl
  by_cases z : (b && decide (0 < a)) = true
  · rw [z] at t
    refine ⟨a.fmod many, st.set n (.lst [.int (a.fdiv many), .bl b, .int c, .int k]), run_ret (fr := [.val (.obj n), .val (.int many), .val (.int (a.fmod many))]) rfl ?_, Int.fmod_nonneg_of_pos a h1, Int.fmod_lt_of_pos a h1, ⟨a.fdiv many, c, k, b, List.getElem?_set_self lt, ?_, ?_, c0, c1, k0, by omega⟩, ⟨_, rfl⟩⟩
    · show m_law_take fu [.val (.obj n), .val (.int many), .none] st = _
      unfold m_law_take
      refine seq_rt ?_
      rw [if_t t]
      have s1 : setM 2 (bin modF (un1 intF (bin ixA (getv 0) (ret (.int 0)))) (peekv 1)) [.val (.obj n), .val (.int many), .none] st = some (.ok .nx [.val (.obj n), .val (.int many), .val (.int (a.fmod many))] st) :=
        set_eq (bin_eq (un1_eq (i0 _ rfl) rfl) (peek_eq rfl) (by rw [s_mod, if_pos (by omega)])) (by show 2 < 3; decide)
      have s2 : setIt 0 (ret (.int 0)) (bin divF (un1 intF (bin ixA (getv 0) (ret (.int 0)))) (peekv 1)) [.val (.obj n), .val (.int many), .val (.int (a.fmod many))] st = some (.ok .nx [.val (.obj n), .val (.int many), .val (.int (a.fmod many))] (st.set n (.lst [.int (a.fdiv many), .bl b, .int c, .int k]))) :=
        set_obj (j := 0) (bin_eq (un1_eq (i0 _ rfl) rfl) (peek_eq rfl) (by rw [s_div, if_pos (divOk_of (by omega) mz (by decide))])) rfl e rfl rfl
      rw [seq_eq s1, seq_eq s2]
      exact ret_eq (get_eq rfl)
    · rw [Int.fdiv_eq_ediv_of_nonneg _ (by omega)]
      exact Int.ediv_nonneg a0 (by omega)
    · rw [Int.fdiv_eq_ediv_of_nonneg _ (by omega)]
      exact Int.lt_of_le_of_lt (Int.ediv_le_self _ a0) a1
  · rw [Bool.not_eq_true] at z
    rw [z] at t
    have b1 : bitsOk c 69621 = true := bits_of (k := 31) (l := 17) (by unfold Sz; omega) (by unfold Sz; decide) (by decide)
    have b2 : bitsOk 1327 (k + 1) = true := bits_of (k := 11) (l := 17) (by unfold Sz; decide) (by unfold Sz; omega) (by decide)
    generalize ec : (c * 69621 + 1327 * (k + 1) + 31).fmod 2147483629 = c'
    have c0' : 0 ≤ c' := by rw [← ec]; exact Int.fmod_nonneg_of_pos _ (by decide)
    have c1' : c' < 2147483629 := by rw [← ec]; exact Int.fmod_lt_of_pos _ (by decide)
    have e2 : (st.set n (.lst [.int a, .bl b, .int c, .int (k + 1)]))[n]? = some (.lst [.int a, .bl b, .int c, .int (k + 1)]) := List.getElem?_set_self lt
    have lt2 : n < (st.set n (.lst [.int a, .bl b, .int c, .int (k + 1)])).length := by rw [List.length_set]; exact lt
    have e3 : ((st.set n (.lst [.int a, .bl b, .int c, .int (k + 1)])).set n (.lst [.int a, .bl b, .int c', .int (k + 1)]))[n]? = some (.lst [.int a, .bl b, .int c', .int (k + 1)]) := List.getElem?_set_self lt2
    refine ⟨(c'.fdiv 64).fmod many, (st.set n (.lst [.int a, .bl b, .int c, .int (k + 1)])).set n (.lst [.int a, .bl b, .int c', .int (k + 1)]), run_ret (fr := [.val (.obj n), .val (.int many), .none]) rfl ?_, Int.fmod_nonneg_of_pos _ h1, Int.fmod_lt_of_pos _ h1, ⟨a, c', k + 1, b, e3, a0, a1, c0', c1', by omega, by omega⟩, (Ch.trans ⟨_, rfl⟩ ⟨_, rfl⟩)⟩
    show m_law_take fu [.val (.obj n), .val (.int many), .none] st = _
    unfold m_law_take
    rw [seq_eq (if_nx t)]
    have s1 : setIt 0 (ret (.int 3)) (bin addF (bin ixA (getv 0) (ret (.int 3))) (ret (.int 1))) [.val (.obj n), .val (.int many), .none] st = some (.ok .nx [.val (.obj n), .val (.int many), .none] (st.set n (.lst [.int a, .bl b, .int c, .int (k + 1)]))) :=
      set_obj (j := 3) (bin_eq (i3 _ rfl) rfl s_add) rfl e rfl rfl
    have hit2 : itemsS (st.set n (.lst [.int a, .bl b, .int c, .int (k + 1)])) (.obj n) = some [.int a, .bl b, .int c, .int (k + 1)] := by simp only [itemsS, e2]
    have s2 : setIt 0 (ret (.int 2)) (bin modF (bin addF (bin addF (bin mulF (bin ixA (getv 0) (ret (.int 2))) (ret (.int 69621))) (bin mulF (ret (.int 1327)) (bin ixA (getv 0) (ret (.int 3))))) (ret (.int 31))) (ret (.int 2147483629))) [.val (.obj n), .val (.int many), .none] (st.set n (.lst [.int a, .bl b, .int c, .int (k + 1)])) = some (.ok .nx [.val (.obj n), .val (.int many), .none] ((st.set n (.lst [.int a, .bl b, .int c, .int (k + 1)])).set n (.lst [.int a, .bl b, .int c', .int (k + 1)]))) := by
      refine set_obj (j := 2) (ds := [.int a, .bl b, .int c, .int (k + 1)]) (bin_eq (bin_eq (bin_eq (bin_eq (bin_eq (get_eq rfl) rfl (ixA_at 2 hit2 rfl)) rfl (by rw [s_mul, if_pos b1])) (bin_eq rfl (bin_eq (get_eq rfl) rfl (ixA_at 3 hit2 rfl)) (by rw [s_mul, if_pos b2])) s_add) rfl s_add) rfl ?_) rfl e2 rfl rfl
      rw [s_mod, if_pos (by decide), ec]
    rw [seq_eq s1, seq_eq s2]
    have hit3 : itemsS ((st.set n (.lst [.int a, .bl b, .int c, .int (k + 1)])).set n (.lst [.int a, .bl b, .int c', .int (k + 1)])) (.obj n) = some [.int a, .bl b, .int c', .int (k + 1)] := by simp only [itemsS, e3]
    refine ret_eq (bin_eq (x := .int (c'.fdiv 64)) (un1_eq (d := .int (c'.fdiv 64)) (bin_eq (bin_eq (get_eq rfl) rfl (ixA_at 2 hit3 rfl)) rfl ?_) rfl) (peek_eq rfl) (by rw [s_mod, if_pos (by omega)]))
    rw [s_div, if_pos (divOk_of (k := 7) (by decide) (by unfold Sz; decide) (by decide))]
theorem e_box (x : Int) : ∃ o, d_law_box fu [.int x] st = some (.ret (.obj st.length) (st ++ [o])) ∧ Bx st.length (st ++ [o]) 0 := by
  have p64 : bin powF (ret (.int 10)) (ret (.int 64)) = fun fr (st : SS) => some (.ok (.int (10 ^ 64)) fr st) := rfl
  have p18 : bin powF (ret (.int 10)) (ret (.int 18)) = fun fr (st : SS) => some (.ok (.int (10 ^ 18)) fr st) := rfl
  have a0 : 0 ≤ (x.natAbs : Int).fmod (10 ^ 64) := Int.fmod_nonneg_of_pos _ (by decide)
  have a1 : (x.natAbs : Int).fmod (10 ^ 64) < 10 ^ 64 := Int.fmod_lt_of_pos _ (by decide)
  generalize ea : (x.natAbs : Int).fmod (10 ^ 64) = a at a0 a1
  refine ⟨.lst [.int a, .bl (decide ((10 : Int) ^ 18 ≤ (x.natAbs : Int))), .int (a.fmod 2147483629), .int 0], run_ret (fr := [.val (.int x), .val (.int a)]) rfl ?_, ⟨a, a.fmod 2147483629, 0, decide ((10 : Int) ^ 18 ≤ (x.natAbs : Int)), by simp, a0, a1, Int.fmod_nonneg_of_pos _ (by decide), Int.fmod_lt_of_pos _ (by decide), by decide, by decide⟩⟩
  show m_law_box fu [.val (.int x), .none] st = _
  unfold m_law_box
  have s1 : setM 1 (bin modF (un1 intF (un1 absF (peekv 0))) (bin powF (ret (.int 10)) (ret (.int 64)))) [.val (.int x), .none] st = some (.ok .nx [.val (.int x), .val (.int a)] st) := by
    rw [p64]
    refine set_eq (d := .int a) (fr1 := [.val (.int x), .none]) (st1 := st) (bin_eq (x := .int (x.natAbs : Int)) (y := .int (10 ^ 64)) (fr1 := [.val (.int x), .none]) (st1 := st) (un1_eq (d := .int (x.natAbs : Int)) (un1_eq (d := .int x) (peek_eq rfl) s_abs) rfl) rfl ?_) (by show 1 < 2; decide)
    rw [s_mod, if_pos (by decide), ea]
  rw [seq_eq s1]
  refine ret_eq ?_
  unfold labM
  rw [bnd_eq (lst_eq (cons_eq (get_eq rfl) (cons_eq (bin_eq (un1_eq (peek_eq rfl) s_abs) (by rw [p18]) s_ge) (cons_eq (bin_eq (get_eq rfl) rfl (by rw [s_mod, if_pos (by decide)])) (cons_eq rfl nil_eq)))) rfl)]
theorem e_cell (ns : List Int) (k : Int) (h0 : 0 ≤ k) (h1 : k ≤ 10) : ∃ x, d_law_cell fu [.scr ns, .int k] st = some (.ret (.int x) st) := by
  have ln : un1 lenF (peekv 0) [.val (.scr ns), .val (.int k)] st = some (.ok (.int (ns.length : Nat)) [.val (.scr ns), .val (.int k)] st) := un1_eq (peek_eq rfl) (by simp [lenF, itemsS])
  have t : tst (bin ltF (getv 1) (un1 lenF (peekv 0))) [.val (.scr ns), .val (.int k)] st = some (.ok (decide (k < (ns.length : Nat))) [.val (.scr ns), .val (.int k)] st) := tst_eq (bin_eq (get_eq rfl) ln s_lt)
  by_cases z : k < (ns.length : Nat)
  · obtain ⟨j, rfl⟩ : ∃ j : Nat, k = (j : Int) := ⟨k.toNat, by omega⟩
    have lt : j < ns.length := by omega
    refine ⟨ns[j], run_ret (fr := [.val (.scr ns), .val (.int j)]) rfl ?_⟩
    show m_law_cell fu [.val (.scr ns), .val (.int j)] st = _
    unfold m_law_cell
    refine ret_eq ?_
    rw [ife_eq t, if_pos (decide_eq_true z)]
    refine bin_eq (get_eq rfl) (peek_eq rfl) (ixA_at j (l := ns.map .int) rfl ?_)
    rw [List.getElem?_map, List.getElem?_eq_getElem lt]
    rfl
  · obtain ⟨is, eis⟩ : ∃ is, intsD (cutL (ns.map D.int) none (some 1)) = some is := by
      have : ∀ l : List Int, ∃ is, intsD (l.map D.int) = some is := fun l => by
        induction l with
        | nil => exact ⟨[], rfl⟩
        | cons a l ih =>
          obtain ⟨is, e⟩ := ih
          exact ⟨a :: is, by rw [List.map_cons]; simp only [intsD, e]⟩
      obtain ⟨is, e⟩ := this (cutL ns none (some 1))
      refine ⟨is, ?_⟩
      rw [← e]
      unfold cutL
      rw [List.map_take, List.map_drop, List.length_map]
    refine ⟨6173 * k + is.sum.fmod 1000033, run_ret (fr := [.val (.scr ns), .val (.int k)]) rfl ?_⟩
    show m_law_cell fu [.val (.scr ns), .val (.int k)] st = _
    unfold m_law_cell
    refine ret_eq ?_
    rw [ife_eq t, if_neg (by simpa using z)]
    have b1 : bitsOk 6173 k = true := bits_of (k := 13) (l := 5) (by unfold Sz; decide) (by unfold Sz; omega) (by decide)
    have sl : sl3 (getv 0) (noneO) (someO (ret (.int 1))) [.val (.scr ns), .val (.int k)] st = some (.ok (.lst (cutL (ns.map .int) none (some 1))) [.val (.scr ns), .val (.int k)] st) := sl3_eq (get_eq rfl) rfl (some_eq rfl) rfl
    refine bin_eq (bin_eq rfl (peek_eq rfl) (by rw [s_mul, if_pos b1])) (bin_eq (un1_eq (un1_eq sl (show sumF st _ = some (.int is.sum) by unfold sumF; simp only [eis])) rfl) rfl (by rw [s_mod, if_pos (by decide)])) s_add
theorem e_pick {ds : List D} (hb : Bx n st m) (hm : m ≤ 100000) (h1 : 0 < ds.length) (h2 : ds.length ≤ 1000000) : ∃ d st', d_law_pick fu [.obj n, .lst ds] st = some (.ret d st') ∧ d ∈ ds ∧ Bx n st' (m + 1) ∧ Ch n st st' := by
  obtain ⟨r, st', e, r0, r1, hb', hc⟩ := e_take (fu := fu) (many := (ds.length : Nat)) hb hm (by omega) (by omega)
  obtain ⟨j, rfl⟩ : ∃ j : Nat, r = (j : Int) := ⟨r.toNat, by omega⟩
  have lt : j < ds.length := by omega
  refine ⟨ds[j], st', run_ret (fr := [.val (.obj n), .val (.lst ds)]) rfl ?_, List.getElem_mem lt, hb', hc⟩
  show m_law_pick fu [.val (.obj n), .val (.lst ds)] st = _
  unfold m_law_pick
  exact ret_eq (bin_eq (get_eq rfl) (call_eq (cons_eq (get_eq rfl) (cons_eq (un1_eq (d := .lst ds) (r := .int (ds.length : Nat)) (peek_eq rfl) (by simp [lenF, itemsS])) nil_eq)) e) (ixA_at j rfl (List.getElem?_eq_getElem lt)))
/-! ### places -/
theorem low_Pl {t s : Int} (h0 : 0 ≤ t) (h1 : t ≤ s) (hs : 0 < s) (hd : s ∣ LL) : Pl (lowQ t s) := by
  have g1 : sgc t s ∣ t := sgc_dvd1
  have g2 : sgc t s ∣ s := sgc_dvd2
  have e : sgc t s = (Nat.gcd t.natAbs s.natAbs : Nat) := by unfold sgc; rw [if_pos (by omega)]
  have gp : 0 < sgc t s := by rw [e]; have := gcd_pos (n := t) (d := s) (by omega); omega
  have q1 : (lowQ t s).1 = t / sgc t s := by unfold lowQ; exact Int.fdiv_eq_ediv_of_nonneg _ (by omega)
  have q2 : (lowQ t s).2 = s / sgc t s := by unfold lowQ; exact Int.fdiv_eq_ediv_of_nonneg _ (by omega)
  have m1 : t / sgc t s * sgc t s = t := Int.ediv_mul_cancel g1
  have m2 : s / sgc t s * sgc t s = s := Int.ediv_mul_cancel g2
  have p2 : 0 < s / sgc t s := by
    refine Int.lt_of_not_ge fun z => ?_
    have := Int.mul_nonpos_of_nonpos_of_nonneg z (Int.le_of_lt gp)
    rw [m2] at this
    omega
  refine ⟨by rw [q2]; exact p2, ?_, ?_, ?_, ?_⟩
  · rw [q2]
    exact Int.dvd_trans ⟨sgc t s, m2.symm⟩ hd
  · rw [q1]
    exact Int.ediv_nonneg h0 (by omega)
  · rw [q1, q2]
    exact Int.ediv_le_ediv gp h1
  · rw [q1, q2]
    have gn : 0 < Nat.gcd t.natAbs s.natAbs := gcd_pos (by omega)
    have a1 : (t / sgc t s).natAbs = t.natAbs / Nat.gcd t.natAbs s.natAbs := by
      rw [e, Int.natAbs_ediv_of_dvd (by rw [← e]; exact g1)]
      simp
    have a2 : (s / sgc t s).natAbs = s.natAbs / Nat.gcd t.natAbs s.natAbs := by
      rw [e, Int.natAbs_ediv_of_dvd (by rw [← e]; exact g2)]
      simp
    rw [a1, a2]
    rw [Nat.gcd_div (Nat.gcd_dvd_left _ _) (Nat.gcd_dvd_right _ _), Nat.div_self gn]
theorem e_lowt {t s : Int} (h0 : 0 ≤ t) (h1 : t ≤ s) (hs : 0 < s) (hl : s ≤ 2000000000000000000) (hf : 2 ^ 8000 ≤ fu) : d_law_low fu [.int t, .int s] st = some (.ret (frD (lowQ t s)) st) :=
  e_low (k := 62) (by omega) (by unfold Sz; omega) (by decide) (Nat.le_trans (Nat.pow_le_pow_right (by decide) (by decide)) hf)
theorem e_spot {s : Int} (hb : Bx n st m) (hm : m ≤ 90000) (hs : 0 < s) (hl : s ≤ 30) (hd : s ∣ LL) (hf : 2 ^ 8000 ≤ fu) : ∃ q st', d_law_spot fu [.obj n, .int s] st = some (.ret (frD q) st') ∧ Pl q ∧ Bx n st' (m + 2) ∧ Ch n st st' := by
  obtain ⟨r, s1, e1, r0, r1, b1, c1⟩ := e_take (fu := fu) (many := 7) hb (by omega) (by decide) (by decide)
  have t : tst (bin eqF (callM (d_law_take fu) (consA (getv 0) (consA (ret (.int 7)) (nilA)))) (ret (.int 0))) [.val (.obj n), .val (.int s), .none] st = some (.ok (decide (r = 0)) [.val (.obj n), .val (.int s), .none] s1) :=
    tst_eq (bin_eq (call_eq (cons_eq (get_eq rfl) (cons_eq rfl nil_eq)) e1) rfl s_eqi)
  by_cases z : r = 0
  · rw [decide_eq_true z] at t
    obtain ⟨d, s2, e2, md, b2, c2⟩ := e_pick (fu := fu) (ds := [.int 0, .int 1, .int 500000000000000004, .int 1000000000000000008, .int 333333333333333336]) b1 (by omega) (by decide) (by decide)
    have : ∃ t : Int, d = .int t ∧ 0 ≤ t ∧ t ≤ 1000000000000000009 := by
      rcases List.mem_cons.mp md with rfl | md
      · exact ⟨_, rfl, by decide, by decide⟩
      rcases List.mem_cons.mp md with rfl | md
      · exact ⟨_, rfl, by decide, by decide⟩
      rcases List.mem_cons.mp md with rfl | md
      · exact ⟨_, rfl, by decide, by decide⟩
      rcases List.mem_cons.mp md with rfl | md
      · exact ⟨_, rfl, by decide, by decide⟩
      rw [List.mem_singleton.mp md]
      exact ⟨_, rfl, by decide, by decide⟩
    obtain ⟨t', rfl, t0, t1⟩ := this
    refine ⟨lowQ t' 1000000000000000009, s2, run_ret (fr := [.val (.obj n), .val (.int s), .val (.int 1000000000000000009)]) rfl ?_, low_Pl t0 t1 (by decide) ⟨120, by decide⟩, b2, c1.trans c2⟩
    show m_law_spot fu [.val (.obj n), .val (.int s), .none] st = _
    unfold m_law_spot
    refine seq_rt ?_
    rw [if_t t]
    rw [seq_eq (show setM 2 (bin addF (bin powF (ret (.int 10)) (ret (.int 18))) (ret (.int 9))) [.val (.obj n), .val (.int s), .none] s1 = some (.ok .nx [.val (.obj n), .val (.int s), .val (.int 1000000000000000009)] s1) from rfl)]
    exact ret_eq (call_eq (cons_eq (call_eq (cons_eq (get_eq rfl) (cons_eq (show frzM (lstN (consA (ret (.int 0)) (consA (ret (.int 1)) (consA (bin divF (getv 2) (ret (.int 2))) (consA (bin subF (getv 2) (ret (.int 1))) (consA (bin divF (getv 2) (ret (.int 3))) (nilA))))))) [.val (.obj n), .val (.int s), .val (.int 1000000000000000009)] s1 = some (.ok (.lst [.int 0, .int 1, .int 500000000000000004, .int 1000000000000000008, .int 333333333333333336]) [.val (.obj n), .val (.int s), .val (.int 1000000000000000009)] s1) from rfl) nil_eq)) e2) (cons_eq (get_eq rfl) nil_eq)) (e_lowt t0 t1 (by decide) (by decide) hf))
  · rw [decide_eq_false z] at t
    obtain ⟨r2, s2, e2, r20, r21, b2, c2⟩ := e_take (fu := fu) (many := s + 1) b1 (by omega) (by omega) (by omega)
    refine ⟨lowQ r2 s, s2, run_ret (fr := [.val (.obj n), .val (.int s), .none]) rfl ?_, low_Pl r20 (by omega) hs hd, b2, c1.trans c2⟩
    show m_law_spot fu [.val (.obj n), .val (.int s), .none] st = _
    unfold m_law_spot
    rw [seq_eq (if_nx t)]
    exact ret_eq (call_eq (cons_eq (call_eq (cons_eq (get_eq rfl) (cons_eq (bin_eq (get_eq rfl) rfl s_add) nil_eq)) e2) (cons_eq (get_eq rfl) nil_eq)) (e_lowt r20 (by omega) hs (by omega) hf))
end
end DL
end

section
set_option Elab.async false
set_option linter.all false
set_option maxRecDepth 100000
set_option maxHeartbeats 4000000
/-! k06, the plain side, part x: mixed lists, drawn stretches. -/
namespace DL
open PySem PySem.Spec L2
theorem mut_run2 {fr fr1 : Fr} {st st1 : SS} {i : Nat} {f : List D → List D → Option (D × List D)} {ms : M (List D)} {ds0 ds args ds' : List D} {d : D} (h : fr[i]? = some (.own ds0)) (ha : ms fr st = some (.ok args fr1 st1)) (h1 : fr1[i]? = some (.own ds)) (e : f ds args = some (d, ds')) :
    mutL i f ms fr st = some (.ok d (fr1.set i (.own ds')) st1) := by
  unfold mutL
  have c : chkL i fr st = some (.ok () fr st) := by unfold chkL; rw [h]
  rw [bnd_eq c, bnd_eq ha]
  unfold mutI
  rw [h1]
  simp only [e]
theorem erase_map {α β : Type} (f : α → β) : ∀ (l : List α) (j : Nat), (l.map f).eraseIdx j = (l.eraseIdx j).map f
  | [], _ => rfl
  | a :: l, 0 => rfl
  | a :: l, j + 1 => by
    have := erase_map f l j
    simp only [List.map_cons, List.eraseIdx_cons_succ, this]
theorem erase_perm {α : Type} : ∀ {l : List α} {j : Nat} (h : j < l.length), (l[j] :: l.eraseIdx j).Perm l
  | [], _, h => by cases h
  | a :: l, 0, _ => List.Perm.refl _
  | a :: l, j + 1, h => by
    have lt : j < l.length := by rw [List.length_cons] at h; omega
    have i := erase_perm (l := l) (j := j) lt
    show (l[j] :: a :: l.eraseIdx j).Perm (a :: l)
    exact (List.Perm.swap a _ _).trans (i.cons a)
theorem popF_at {ds : List D} {j : Nat} {y : D} (h : ds[j]? = some y) (hl : ds.length ≤ 1000000) : popF ds [.int (j : Nat)] = some (y, ds.eraseIdx j) := by
  have lt := (List.getElem?_eq_some_iff.mp h).1
  have c : decide (-(2 ^ 63) ≤ (j : Int) ∧ (j : Int) < 2 ^ 63) = true := decide_eq_true (by omega)
  have si : seqIndex? (j : Int) ds.length = some j := by
    unfold seqIndex?
    simp only [show ¬ ((j : Int) < 0) by omega, if_false]
    rw [if_pos (by simp; omega)]
    simp
  simp only [popF, c, if_true, si, h]
section
variable {fu n m : Nat} {st : SS}
def mxF (n : Nat) (ss L F : List P2) (s4 : Slot) : Fr := [.val (.obj n), .val (.lst (ss.map prD)), .own (L.map prD), .own (F.map prD), s4]
def mxB (fu : Nat) : M Fl := exprM (mutL 3 appF (consA (mutL 2 popF (consA (callM (d_law_take fu) (consA (getv 0) (consA (un1 lenF (peekv 2)) (nilA)))) (nilA))) (nilA)))
theorem mx_loop {ss : List P2} : ∀ (xs : List D) (L F : List P2) (s4 : Slot) (m : Nat) (st : SS), xs.length = L.length → L.length + F.length ≤ 1000 → Bx n st m → m + L.length ≤ 90000 →
    ∃ (F' : List P2) (s4' : Slot) (st' : SS), mFor xs (forB (setv 4) (mxB fu)) (mxF n ss L F s4) st = some (.ok .nx (mxF n ss [] F' s4') st') ∧ F'.Perm (F ++ L) ∧ Bx n st' (m + L.length) ∧ Ch n st st'
  | [], L, F, s4, m, st, hx, hl, hb, hm => by
    obtain rfl : L = [] := List.length_eq_zero_iff.mp hx.symm
    exact ⟨F, s4, st, rfl, by rw [List.append_nil], hb, Ch.refl hb⟩
  | x :: xs, L, F, s4, m, st, hx, hl, hb, hm => by
    rw [List.length_cons] at hx
    obtain ⟨r, s1, e1, r0, r1, b1, c1⟩ := e_take (fu := fu) (many := (L.length : Nat)) hb (by omega) (by omega) (by omega)
    obtain ⟨j, rfl⟩ : ∃ j : Nat, r = (j : Int) := ⟨r.toNat, by omega⟩
    have lt : j < L.length := by omega
    have at' : (L.map prD)[j]? = some (prD L[j]) := by rw [List.getElem?_map, List.getElem?_eq_getElem lt]; rfl
    have ln : (L.eraseIdx j).length = L.length - 1 := by rw [List.length_eraseIdx, if_pos lt]
    obtain ⟨F', s4', st', r2, pm, b2, c2⟩ := mx_loop (ss := ss) xs (L.eraseIdx j) (F ++ [L[j]]) (.val x) (m + 1) s1 (by omega) (by rw [ln, List.length_append, List.length_singleton]; omega) b1 (by omega)
    refine ⟨F', s4', st', ?_, ?_, b2.mono (by omega), c1.trans c2⟩
    · have b : forB (setv 4) (mxB fu) x (mxF n ss L F s4) st = some (.ok .nx (mxF n ss (L.eraseIdx j) (F ++ [L[j]]) (.val x)) s1) := by
        rw [forB_eq (show setv 4 x (mxF n ss L F s4) st = some (.ok .nx (mxF n ss L F (.val x)) st) from rfl)]
        have a1 : consA (callM (d_law_take fu) (consA (getv 0) (consA (un1 lenF (peekv 2)) (nilA)))) (nilA) (mxF n ss L F (.val x)) st = some (.ok [.int (j : Nat)] (mxF n ss L F (.val x)) s1) :=
          cons_eq (call_eq (cons_eq (get_eq rfl) (cons_eq (un1_eq (r := .int (L.length : Nat)) (peek_own (ds := L.map prD) rfl) (by simp [lenF, itemsS])) nil_eq)) e1) nil_eq
        have a2 := mut_run2 (f := popF) (i := 2) (ds0 := L.map prD) (ds := L.map prD) (fr := mxF n ss L F (.val x)) (st := st) rfl a1 rfl (popF_at at' (by rw [List.length_map]; omega))
        have a3 := mut_run2 (f := appF) (i := 3) (ds0 := F.map prD) (ds := F.map prD) (d := .non) (ds' := F.map prD ++ [prD L[j]]) (fr := mxF n ss L F (.val x)) (st := st) rfl (cons_eq a2 nil_eq) rfl (by
          have c : small (F.map prD).length = true := small_of (by rw [List.length_map]; omega)
          simp only [appF, c, if_true])
        unfold mxB
        rw [expr_eq a3, erase_map]
        unfold mxF
        rw [List.map_append]
        rfl
      rw [mFor_cons b]
      exact r2
    · refine pm.trans ?_
      rw [List.append_assoc]
      exact List.Perm.append_left F (erase_perm lt)
theorem e_mixed {ss : List P2} (hb : Bx n st m) (hl : ss.length ≤ 500) (hm : m ≤ 80000) : ∃ (ss' : List P2) (st' : SS), d_law_mixed fu [.obj n, .lst (ss.map prD)] st = some (.ret (.lst (ss'.map prD)) st') ∧ ss'.Perm ss ∧ Bx n st' (m + ss.length) ∧ Ch n st st' := by
  have rl : (rangeD 0 ss.length).length = ss.length := by simp [rangeD]
  obtain ⟨F', s4', st', r, pm, b, c⟩ := mx_loop (fu := fu) (n := n) (ss := ss) (rangeD 0 ss.length) ss [] .none m st rl (by simp; omega) hb (by omega)
  refine ⟨F', st', run_ret (fr := [.val (.obj n), .val (.lst (ss.map prD)), .own [], .val (.lst (F'.map prD)), s4']) rfl ?_, by simpa using pm, b, c⟩
  show m_law_mixed fu [.val (.obj n), .val (.lst (ss.map prD)), .none, .none, .none] st = _
  unfold m_law_mixed
  rw [seq_eq (show parM [2, 3] (newR (un1N itemsS (peekv 1)) (newR (lstN (nilA)) (nilR))) [.val (.obj n), .val (.lst (ss.map prD)), .none, .none, .none] st = some (.ok .nx (mxF n ss ss [] .none) st) from rfl)]
  have rg : rng1 (un1 lenF (peekv 1)) (mxF n ss ss [] .none) st = some (.ok (rangeD 0 ss.length) (mxF n ss ss [] .none) st) := by
    rw [rng1_eq (un1_eq (r := .int (ss.length : Nat)) (peek_eq (d := .lst (ss.map prD)) rfl) (by simp [lenF, itemsS])) (inRange_of (by omega) (by omega))]
    simp
  show seqM (forM _ (setv 4) (mxB fu)) _ _ st = _
  rw [seq_eq (for_eq rg r)]
  rfl
/-! ### drawn stretches -/
def stF (n : Nat) (many s : Int) (F : List P2) (s4 : Slot) (a b : Q) : Fr := [.val (.obj n), .val (.int many), .val (.int s), .own (F.map prD), s4, .val (frD a), .val (frD b)]
variable {many s : Int} {F : List P2} {s4 : Slot}
theorem st_A {s5 s6 : Slot} (hb : Bx n st m) (hm : m ≤ 80000) (hs : 0 < s) (hl : s ≤ 30) (hd : s ∣ LL) (hf : 2 ^ 8000 ≤ fu) :
    ∃ a b st', parM [5, 6] (valR (callM (d_law_spot fu) (consA (getv 0) (consA (getv 2) (nilA)))) (valR (callM (d_law_spot fu) (consA (getv 0) (consA (getv 2) (nilA)))) (nilR))) [.val (.obj n), .val (.int many), .val (.int s), .own (F.map prD), s4, s5, s6] st = some (.ok .nx (stF n many s F s4 a b) st') ∧ Pl a ∧ Pl b ∧ Bx n st' (m + 4) ∧ Ch n st st' := by
  obtain ⟨a, s1, e1, pa, b1, c1⟩ := e_spot (fu := fu) hb (by omega) hs hl hd hf
  obtain ⟨b, s2, e2, pb, b2, c2⟩ := e_spot (fu := fu) b1 (by omega) hs hl hd hf
  refine ⟨a, b, s2, ?_, pa, pb, b2.mono (by omega), c1.trans c2⟩
  rw [par_eq (valR_eq (call_eq (cons_eq (get_eq rfl) (cons_eq (get_eq rfl) nil_eq)) e1) (valR_eq (call_eq (cons_eq (get_eq rfl) (cons_eq (get_eq rfl) nil_eq)) e2) rfl))]
  rfl
theorem st_B {a b : Q} (pa : Pl a) (pb : Pl b) : ∃ p : P2, ifM (tst (callM (d_law_less fu) (consA (getv 6) (consA (getv 5) (nilA))))) (parM [5, 6] (valR (getv 6) (valR (getv 5) (nilR)))) (ret .nx) (stF n many s F s4 a b) st = some (.ok .nx (stF n many s F s4 p.1 p.2) st) ∧ Str1 p := by
  have t : tst (callM (d_law_less fu) (consA (getv 6) (consA (getv 5) (nilA)))) (stF n many s F s4 a b) st = some (.ok (ltQ b a) (stF n many s F s4 a b) st) := tst_eq (call_eq (cons_eq (get_eq rfl) (cons_eq (get_eq rfl) nil_eq)) (e_less pb pa))
  have lv := ltQ_vv pb pa
  cases z : ltQ b a with
  | true =>
    rw [z] at t lv
    refine ⟨(b, a), ?_, pb, pa, by have := of_decide_eq_true lv.symm; show vv b ≤ vv a; omega⟩
    rw [if_t t]
    rfl
  | false =>
    rw [z] at t lv
    refine ⟨(a, b), ?_, pa, pb, by have := of_decide_eq_false lv.symm; show vv a ≤ vv b; omega⟩
    rw [if_nx t]
theorem st_t {a b : Q} {k : Int} (hb : Bx n st m) (hm : m ≤ 80000) (hk : 0 < k) (hk2 : k ≤ 100) : ∃ z st', tst (bin eqF (callM (d_law_take fu) (consA (getv 0) (consA (ret (.int k)) (nilA)))) (ret (.int 0))) (stF n many s F s4 a b) st = some (.ok z (stF n many s F s4 a b) st') ∧ Bx n st' (m + 1) ∧ Ch n st st' := by
  obtain ⟨r, s1, e1, r0, r1, b1, c1⟩ := e_take (fu := fu) (many := k) hb (by omega) hk (by omega)
  exact ⟨decide (r = 0), s1, tst_eq (bin_eq (call_eq (cons_eq (get_eq rfl) (cons_eq rfl nil_eq)) e1) rfl s_eqi), b1, c1⟩
theorem st_C {p : P2} (hp : Str1 p) (hb : Bx n st m) (hm : m ≤ 80000) : ∃ (q : P2) (st' : SS), ifM (tst (bin eqF (callM (d_law_take fu) (consA (getv 0) (consA (ret (.int 6)) (nilA)))) (ret (.int 0)))) (setM 6 (getv 5)) (ret .nx) (stF n many s F s4 p.1 p.2) st = some (.ok .nx (stF n many s F s4 q.1 q.2) st') ∧ Str1 q ∧ Bx n st' (m + 1) ∧ Ch n st st' := by
  obtain ⟨z, s1, t, b1, c1⟩ := st_t (fu := fu) (many := many) (s := s) (F := F) (s4 := s4) (a := p.1) (b := p.2) (k := 6) hb hm (by decide) (by decide)
  cases z with
  | true =>
    refine ⟨(p.1, p.1), s1, ?_, ⟨hp.a, hp.a, Int.le_refl _⟩, b1, c1⟩
    rw [if_t t]
    rfl
  | false =>
    refine ⟨p, s1, ?_, hp, b1, c1⟩
    rw [if_nx t]
theorem st_D {p : P2} (hF : ∀ r ∈ F, Str1 r) (hp : Str1 p) (hb : Bx n st m) (hm : m ≤ 80000) : ∃ (q : P2) (st' : SS), ifM (andT (tst (binL neF 3 (frzM (lstN (nilA))))) (tst (bin eqF (callM (d_law_take fu) (consA (getv 0) (consA (ret (.int 4)) (nilA)))) (ret (.int 0)))))
 (seqM (setM 5 (bin ixA (binL ixA 3 (un1 negF (ret (.int 1)))) (ret (.int 1))))
 (setM 6 (ifE (tst (callM (d_law_less fu) (consA (getv 6) (consA (getv 5) (nilA))))) (getv 5) (getv 6))))
 (ret .nx) (stF n many s F s4 p.1 p.2) st = some (.ok .nx (stF n many s F s4 q.1 q.2) st') ∧ Str1 q ∧ Bx n st' (m + 1) ∧ Ch n st st' := by
  have ne : tst (binL neF 3 (frzM (lstN (nilA)))) (stF n many s F s4 p.1 p.2) st = some (.ok (!decide (F = [])) (stF n many s F s4 p.1 p.2) st) := by
    refine tst_eq (binL_own (ds := F.map prD) rfl rfl rfl ?_)
    unfold neF
    rw [eqB_ok (n := 4) (m := 4) (show okD 4 (.lst (F.map prD)) = true from okD_prs F) rfl (by decide) (by decide)]
    have : sameD (.lst (F.map prD)) (.lst []) = decide (F = []) := same_prs F []
    simp only [this]
  rcases List.eq_nil_or_concat F with rfl | ⟨F', z, rfl⟩
  · refine ⟨p, st, ?_, hp, hb.mono (by omega), Ch.refl hb⟩
    rw [if_nx (and_f ne)]
  · rw [List.concat_eq_append] at *
    obtain ⟨w, s1, t, b1, c1⟩ := st_t (fu := fu) (many := many) (s := s) (F := F' ++ [z]) (s4 := s4) (a := p.1) (b := p.2) (k := 4) hb hm (by decide) (by decide)
    have ne' : tst (binL neF 3 (frzM (lstN (nilA)))) (stF n many s (F' ++ [z]) s4 p.1 p.2) st = some (.ok true (stF n many s (F' ++ [z]) s4 p.1 p.2) st) := by rw [ne]; simp
    cases w with
    | false =>
      refine ⟨p, s1, ?_, hp, b1, c1⟩
      rw [if_nx (by rw [and_t ne']; exact t)]
    | true =>
      have hz := hF z (by simp)
      have last : binL ixA 3 (un1 negF (ret (.int 1))) (stF n many s (F' ++ [z]) s4 p.1 p.2) s1 = some (.ok (prD z) (stF n many s (F' ++ [z]) s4 p.1 p.2) s1) :=
        binL_own (ds := (F' ++ [z]).map prD) rfl rfl rfl (ix_last (l := F'.map prD) (.inr (by rw [List.map_append]; rfl)))
      have a5 : setM 5 (bin ixA (binL ixA 3 (un1 negF (ret (.int 1)))) (ret (.int 1))) (stF n many s (F' ++ [z]) s4 p.1 p.2) s1 = some (.ok .nx (stF n many s (F' ++ [z]) s4 z.2 p.2) s1) :=
        set_eq (d := frD z.2) (fr1 := stF n many s (F' ++ [z]) s4 p.1 p.2) (st1 := s1) (bin_eq last rfl (ix_nat 1 (.inl rfl) rfl)) (by show 5 < 7; decide)
      have tl : tst (callM (d_law_less fu) (consA (getv 6) (consA (getv 5) (nilA)))) (stF n many s (F' ++ [z]) s4 z.2 p.2) s1 = some (.ok (ltQ p.2 z.2) (stF n many s (F' ++ [z]) s4 z.2 p.2) s1) := tst_eq (call_eq (cons_eq (get_eq rfl) (cons_eq (get_eq rfl) nil_eq)) (e_less hp.b hz.b))
      have lv := ltQ_vv hp.b hz.b
      cases y : ltQ p.2 z.2 with
      | true =>
        rw [y] at tl lv
        refine ⟨(z.2, z.2), s1, ?_, ⟨hz.b, hz.b, Int.le_refl _⟩, b1, c1⟩
        rw [if_t (by rw [and_t ne']; exact t), seq_eq a5, set_eq (d := frD z.2) (fr1 := stF n many s (F' ++ [z]) s4 z.2 p.2) (st1 := s1) (by rw [ife_eq tl]; rfl) (by show 6 < 7; decide)]
        rfl
      | false =>
        rw [y] at tl lv
        refine ⟨(z.2, p.2), s1, ?_, ⟨hz.b, hp.b, by have := of_decide_eq_false lv.symm; show vv z.2 ≤ vv p.2; omega⟩, b1, c1⟩
        rw [if_t (by rw [and_t ne']; exact t), seq_eq a5, set_eq (d := frD p.2) (fr1 := stF n many s (F' ++ [z]) s4 z.2 p.2) (st1 := s1) (by rw [ife_eq tl]; rfl) (by show 6 < 7; decide)]
        rfl
def stB (fu : Nat) : M Fl := seqM (parM [5, 6] (valR (callM (d_law_spot fu) (consA (getv 0) (consA (getv 2) (nilA)))) (valR (callM (d_law_spot fu) (consA (getv 0) (consA (getv 2) (nilA)))) (nilR))))
 (seqM (ifM (tst (callM (d_law_less fu) (consA (getv 6) (consA (getv 5) (nilA)))))
 (parM [5, 6] (valR (getv 6) (valR (getv 5) (nilR))))
 (ret .nx))
 (seqM (ifM (tst (bin eqF (callM (d_law_take fu) (consA (getv 0) (consA (ret (.int 6)) (nilA)))) (ret (.int 0))))
 (setM 6 (getv 5))
 (ret .nx))
 (seqM (ifM (andT (tst (binL neF 3 (frzM (lstN (nilA))))) (tst (bin eqF (callM (d_law_take fu) (consA (getv 0) (consA (ret (.int 4)) (nilA)))) (ret (.int 0)))))
 (seqM (setM 5 (bin ixA (binL ixA 3 (un1 negF (ret (.int 1)))) (ret (.int 1))))
 (setM 6 (ifE (tst (callM (d_law_less fu) (consA (getv 6) (consA (getv 5) (nilA))))) (getv 5) (getv 6))))
 (ret .nx))
 (exprM (mutL 3 appF (consA (tupM (consA (getv 5) (consA (getv 6) (nilA)))) (nilA)))))))
theorem st_loop (hs : 0 < s) (hl : s ≤ 30) (hd : s ∣ LL) (hf : 2 ^ 8000 ≤ fu) : ∀ (xs : List D) (F : List P2) (s4 s5 s6 : Slot) (m : Nat) (st : SS), xs.length + F.length ≤ 1000 → (∀ r ∈ F, Str1 r) → Bx n st m → m + 6 * xs.length ≤ 70000 →
    ∃ (F' : List P2) (s4' s5' s6' : Slot) (st' : SS), mFor xs (forB (setv 4) (stB fu)) [.val (.obj n), .val (.int many), .val (.int s), .own (F.map prD), s4, s5, s6] st = some (.ok .nx [.val (.obj n), .val (.int many), .val (.int s), .own (F'.map prD), s4', s5', s6'] st') ∧ F'.length = F.length + xs.length ∧ (∀ r ∈ F', Str1 r) ∧ Bx n st' (m + 6 * xs.length) ∧ Ch n st st'
  | [], F, s4, s5, s6, m, st, _, hF, hb, _ => ⟨F, s4, s5, s6, st, rfl, rfl, hF, hb, Ch.refl hb⟩
  | x :: xs, F, s4, s5, s6, m, st, hn, hF, hb, hm => by
    rw [List.length_cons] at hn hm
    obtain ⟨a, b, st1, eA, pa, pb, b1, c1⟩ := st_A (fu := fu) (many := many) (F := F) (s4 := .val x) (s5 := s5) (s6 := s6) hb (by omega) hs hl hd hf
    obtain ⟨p, eB, sp⟩ := st_B (fu := fu) (n := n) (many := many) (s := s) (F := F) (s4 := .val x) (st := st1) pa pb
    obtain ⟨q, st2, eC, sq, b2, c2⟩ := st_C (fu := fu) (many := many) (s := s) (F := F) (s4 := .val x) sp b1 (by omega)
    obtain ⟨r, st3, eD, sr, b3, c3⟩ := st_D (fu := fu) (many := many) (s := s) (s4 := .val x) hF sq b2 (by omega)
    have eE : exprM (mutL 3 appF (consA (tupM (consA (getv 5) (consA (getv 6) (nilA)))) (nilA))) (stF n many s F (.val x) r.1 r.2) st3 = some (.ok .nx (stF n many s (F ++ [r]) (.val x) r.1 r.2) st3) := by
      rw [expr_eq (app_run (ds := F.map prD) (y := prD r) rfl (cons_eq (tup_eq (cons_eq (get_eq rfl) (cons_eq (get_eq rfl) nil_eq)) rfl) nil_eq) (by rw [List.length_map]; omega))]
      unfold stF
      rw [List.map_append]
      rfl
    obtain ⟨F', s4', s5', s6', st', e, ln, str, b4, c4⟩ := st_loop hs hl hd hf xs (F ++ [r]) (.val x) (.val (frD r.1)) (.val (frD r.2)) (m + 6) st3 (by rw [List.length_append, List.length_singleton]; omega) (fun y hy => by
      rcases List.mem_append.mp hy with h | h
      · exact hF y h
      · rw [List.mem_singleton.mp h]; exact sr) (b3.mono (by omega)) (by omega)
    refine ⟨F', s4', s5', s6', st', ?_, by rw [ln, List.length_append, List.length_singleton, List.length_cons]; omega, str, b4.mono (by rw [List.length_cons]; omega), c1.trans (c2.trans (c3.trans c4))⟩
    have bd : forB (setv 4) (stB fu) x [.val (.obj n), .val (.int many), .val (.int s), .own (F.map prD), s4, s5, s6] st = some (.ok .nx (stF n many s (F ++ [r]) (.val x) r.1 r.2) st3) := by
      rw [forB_eq (show setv 4 x [.val (.obj n), .val (.int many), .val (.int s), .own (F.map prD), s4, s5, s6] st = some (.ok .nx [.val (.obj n), .val (.int many), .val (.int s), .own (F.map prD), .val x, s5, s6] st) from rfl)]
      unfold stB
      rw [seq_eq eA, seq_eq eB, seq_eq eC, seq_eq eD, eE]
    rw [mFor_cons bd]
    exact e
theorem e_stretches (hb : Bx n st m) (hm : m ≤ 10000) (h0 : 0 ≤ many) (h1 : many ≤ 6) (hf : 2 ^ 8000 ≤ fu) : ∃ (ss : List P2) (st' : SS), d_law_stretches fu [.obj n, .int many] st = some (.ret (.lst (ss.map prD)) st') ∧ (∀ p ∈ ss, Str1 p) ∧ ss.length ≤ 6 ∧ Bx n st' (m + 37) ∧ Ch n st st' := by
  obtain ⟨d, s1, e1, md, b1, c1⟩ := e_pick (fu := fu) (ds := [.int 4, .int 12, .int 12, .int 30]) hb (by omega) (by decide) (by decide)
  have : ∃ s : Int, d = .int s ∧ 0 < s ∧ s ≤ 30 ∧ s ∣ LL := by
    rcases List.mem_cons.mp md with rfl | md
    · exact ⟨4, rfl, by decide, by decide, by decide⟩
    rcases List.mem_cons.mp md with rfl | md
    · exact ⟨12, rfl, by decide, by decide, by decide⟩
    rcases List.mem_cons.mp md with rfl | md
    · exact ⟨12, rfl, by decide, by decide, by decide⟩
    rw [List.mem_singleton.mp md]
    exact ⟨30, rfl, by decide, by decide, by decide⟩
  obtain ⟨s, rfl, s0, s1', sd⟩ := this
  have rl : (rangeD 0 many.toNat).length = many.toNat := by simp [rangeD]
  obtain ⟨F', s4', s5', s6', st', e, ln, str, b2, c2⟩ := st_loop (fu := fu) (n := n) (many := many) s0 s1' sd hf (rangeD 0 many.toNat) [] .none .none .none (m + 1) s1 (by rw [rl]; simp; omega) (fun r hr => by cases hr) b1 (by rw [rl]; omega)
  rw [rl] at ln b2
  refine ⟨F', st', run_ret (fr := [.val (.obj n), .val (.int many), .val (.int s), .val (.lst (F'.map prD)), s4', s5', s6']) rfl ?_, str, by rw [ln, List.length_nil]; omega, b2.mono (by omega), c1.trans c2⟩
  show m_law_stretches fu [.val (.obj n), .val (.int many), .none, .none, .none, .none, .none] st = _
  unfold m_law_stretches
  have p1 : parM [2, 3] (valR (callM (d_law_pick fu) (consA (getv 0) (consA (frzM (lstN (consA (ret (.int 4)) (consA (ret (.int 12)) (consA (ret (.int 12)) (consA (ret (.int 30)) (nilA))))))) (nilA)))) (newR (lstN (nilA)) (nilR))) [.val (.obj n), .val (.int many), .none, .none, .none, .none, .none] st = some (.ok .nx [.val (.obj n), .val (.int many), .val (.int s), .own [], .none, .none, .none] s1) := by
    rw [par_eq (valR_eq (call_eq (cons_eq (get_eq rfl) (cons_eq rfl nil_eq)) e1) (newR_eq rfl rfl))]
    rfl
  have rg : rng1 (getv 1) [.val (.obj n), .val (.int many), .val (.int s), .own [], .none, .none, .none] s1 = some (.ok (rangeD 0 many.toNat) [.val (.obj n), .val (.int many), .val (.int s), .own [], .none, .none, .none] s1) :=
    rng1_eq (get_eq rfl) (inRange_of (by omega) (by omega))
  rw [seq_eq p1]
  show seqM (forM _ (setv 4) (stB fu)) _ _ s1 = _
  rw [seq_eq (for_eq rg e)]
  rfl
end
end DL
end

section
set_option Elab.async false
set_option linter.all false
set_option maxRecDepth 100000
set_option maxHeartbeats 4000000
/-! k06, the plain side, part ya: what the law meets by the ways. -/
namespace DL
open PySem PySem.Spec L2
section
variable {fu : Nat} {st st1 st' : SS} {fr fr1 : Fr}
theorem ifK {g : Fn} {msK msP : M (List D)} {ds ks : List D} {nk : Nat} {is : List Nat} {nm : Bool} (hP : msP fr st = some (.ok ds fr st)) (hK : msK fr st = some (.ok ks fr st)) (hp : perm is ks = ds) (hk : ks.length = nk) (hn : fr[2]? = some (.val (.bl nm))) :
    ifE (tst (getv 2)) (callK nk is g msK) (callM g msP) fr st = callM g (ret ds) fr st := by
  rw [ife_eq (tst_eq (get_eq hn))]
  cases nm with
  | false =>
    simp only [Bool.false_eq_true, if_false]
    unfold callM
    rw [bnd_eq hP, bnd_eq (show ret ds fr st = some (.ok ds fr st) from rfl)]
  | true =>
    simp only [if_true]
    unfold callK callM
    rw [bnd_eq (show bnd msK _ fr st = some (.ok ds fr st) by rw [bnd_eq hK, if_pos hk, hp]; rfl), bnd_eq (show ret ds fr st = some (.ok ds fr st) from rfl)]
def metB (c : M D) : M Fl := retM (frzM (lstN (consA (ret (.str ("told" : Str))) (consA c (nilA)))))
theorem metB_ok {c : M D} {r : D} (h : c fr st = some (.ok r fr1 st1)) : metB c fr st = some (.ok (.rt (.lst [.str ("told" : Str), r])) fr1 st1) :=
  ret_eq (frz_eq (lst_eq (cons_eq rfl (cons_eq h nil_eq)) rfl))
theorem metB_ex {c : M D} {k : Nat} {v : D} (h : c fr st = some (.exn k v fr1 st1)) : metB c fr st = some (.exn k v fr1 st1) := by
  unfold metB retM frzM lstN consA bnd
  simp only [ret, consA, bnd, h]
def chainM : List (Int × M D) → M D → M Fl
  | [], last => metB last
  | p :: ps, last => seqM (ifM (tst (bin eqF (getv 0) (ret (.int p.1)))) (metB p.2) (ret .nx)) (chainM ps last)
def getC (w : Int) : List (Int × M D) → M D → M D
  | [], last => last
  | p :: ps, last => if w = p.1 then p.2 else getC w ps last
theorem chain_ok {w : Int} {d : D} (h0 : fr[0]? = some (.val (.int w))) {last : M D} : ∀ {ps : List (Int × M D)}, metB (getC w ps last) fr st = some (.ok (.rt d) fr1 st1) → chainM ps last fr st = some (.ok (.rt d) fr1 st1)
  | [], h => h
  | p :: ps, h => by
    have t : tst (bin eqF (getv 0) (ret (.int p.1))) fr st = some (.ok (decide (w = p.1)) fr st) := tst_eq (bin_eq (get_eq h0) rfl s_eqi)
    unfold getC at h
    unfold chainM
    by_cases e : w = p.1
    · rw [if_pos e] at h
      rw [decide_eq_true e] at t
      exact seq_rt (by rw [if_t t]; exact h)
    · rw [if_neg e] at h
      rw [decide_eq_false e] at t
      rw [seq_eq (if_nx t)]
      exact chain_ok h0 h
theorem chain_ex {w : Int} {d : D} {k : Nat} (h0 : fr[0]? = some (.val (.int w))) {last : M D} : ∀ {ps : List (Int × M D)}, metB (getC w ps last) fr st = some (.exn k d fr1 st1) → chainM ps last fr st = some (.exn k d fr1 st1)
  | [], h => h
  | p :: ps, h => by
    have t : tst (bin eqF (getv 0) (ret (.int p.1))) fr st = some (.ok (decide (w = p.1)) fr st) := tst_eq (bin_eq (get_eq h0) rfl s_eqi)
    unfold getC at h
    unfold chainM
    by_cases e : w = p.1
    · rw [if_pos e] at h
      rw [decide_eq_true e] at t
      exact seq_ex (by rw [if_t t]; exact h)
    · rw [if_neg e] at h
      rw [decide_eq_false e] at t
      rw [seq_eq (if_nx t)]
      exact chain_ex h0 h
def w1 (g : Fn) : M D := ifE (tst (getv 2)) (callK 1 [0] g (consA (bin ixA (getv 1) (ret (.int 0))) (nilA))) (callM g (consA (bin ixA (getv 1) (ret (.int 0))) (nilA)))
def w2 (g : Fn) : M D := ifE (tst (getv 2)) (callK 2 [1, 0] g (consA (bin ixA (getv 1) (ret (.int 1))) (consA (bin ixA (getv 1) (ret (.int 0))) (nilA)))) (callM g (consA (bin ixA (getv 1) (ret (.int 0))) (consA (bin ixA (getv 1) (ret (.int 1))) (nilA))))
def waysM (fu : Nat) : List (Int × M D) := [(0, w1 (d_piece_of fu)), (1, w1 (d_length_of fu)), (2, w2 (d_joined_pieces fu)), (3, w2 (d_common_piece fu)), (4, w2 (d_rest_piece fu)), (5, w2 (d_parted fu)), (6, w2 (d_is_place_of fu))]
theorem met_is (fu : Nat) : m_law_met fu = tryM (chainM (waysM fu) (w1 (d_is_piece fu))) [(is0, hGiv 3 ("piece" : Str)), (is1, hGiv 3 ("place" : Str)), (is2, hGiv 3 ("stretches" : Str))] := rfl
abbrev meF (w : Int) (args : List D) (nm : Bool) : Fr := [.val (.int w), .val (.lst args), .val (.bl nm), .none]
theorem w1_is {g : Fn} {w : Int} {a : D} {l : List D} {nm : Bool} : w1 g (meF w (a :: l) nm) st = callM g (ret [a]) (meF w (a :: l) nm) st :=
  ifK (cons_eq (bin_eq (get_eq rfl) rfl s_ix0l) nil_eq) (cons_eq (bin_eq (get_eq rfl) rfl s_ix0l) nil_eq) rfl rfl rfl
theorem w2_is {g : Fn} {w : Int} {a b : D} {l : List D} {nm : Bool} : w2 g (meF w (a :: b :: l) nm) st = callM g (ret [a, b]) (meF w (a :: b :: l) nm) st :=
  ifK (cons_eq (bin_eq (get_eq rfl) rfl s_ix0l) (cons_eq (bin_eq (get_eq rfl) rfl s_ix1l) nil_eq)) (cons_eq (bin_eq (get_eq rfl) rfl s_ix1l) (cons_eq (bin_eq (get_eq rfl) rfl s_ix0l) nil_eq)) rfl rfl rfl
theorem e_met {w : Int} {args ds : List D} {nm : Bool} {g : Fn} {r : D} (hw : getC w (waysM fu) (w1 (d_is_piece fu)) (meF w args nm) st = callM g (ret ds) (meF w args nm) st) (h : g ds st = some (.ret r st')) : d_law_met fu [.int w, .lst args, .bl nm] st = some (.ret (.lst [.str ("told" : Str), r]) st') := by
  refine run_ret (fr := meF w args nm) rfl ?_
  show m_law_met fu (meF w args nm) st = _
  rw [met_is]
  unfold tryM
  rw [chain_ok (d := .lst [.str ("told" : Str), r]) (fr1 := meF w args nm) (st1 := st') rfl (metB_ok (hw.trans (call_eq rfl h)))]
theorem e_metx {w : Int} {args ds : List D} {nm : Bool} {g : Fn} {v : D} {k : Nat} (hk : k ≤ 2) (hw : getC w (waysM fu) (w1 (d_is_piece fu)) (meF w args nm) st = callM g (ret ds) (meF w args nm) st) (h : g ds st = some (.exn k v st')) :
    d_law_met fu [.int w, .lst args, .bl nm] st = some (.ret (.lst [.str (if k = 0 then ("piece" : Str) else if k = 1 then ("place" : Str) else ("stretches" : Str)), v]) st') := by
  refine run_ret (fr := meF w args nm) rfl ?_
  show m_law_met fu (meF w args nm) st = _
  rw [met_is]
  unfold tryM
  rw [chain_ex (d := v) (k := k) (fr1 := meF w args nm) (st1 := st') rfl (metB_ex (hw.trans (call_ex rfl h)))]
  have : k = 0 ∨ k = 1 ∨ k = 2 := by omega
  rcases this with rfl | rfl | rfl <;> rfl
/-! ### the eight ways, told -/
variable {nm : Bool} {a b r : D}
theorem me0 (h : d_piece_of fu [a] st = some (.ret r st')) : d_law_met fu [.int 0, .lst [a], .bl nm] st = some (.ret (.lst [.str ("told" : Str), r]) st') := e_met (w1_is) h
theorem me1 {l : List D} (h : d_length_of fu [a] st = some (.ret r st')) : d_law_met fu [.int 1, .lst (a :: l), .bl nm] st = some (.ret (.lst [.str ("told" : Str), r]) st') := e_met (w1_is) h
theorem me2 (h : d_joined_pieces fu [a, b] st = some (.ret r st')) : d_law_met fu [.int 2, .lst [a, b], .bl nm] st = some (.ret (.lst [.str ("told" : Str), r]) st') := e_met (w2_is) h
theorem me3 (h : d_common_piece fu [a, b] st = some (.ret r st')) : d_law_met fu [.int 3, .lst [a, b], .bl nm] st = some (.ret (.lst [.str ("told" : Str), r]) st') := e_met (w2_is) h
theorem me4 (h : d_rest_piece fu [a, b] st = some (.ret r st')) : d_law_met fu [.int 4, .lst [a, b], .bl nm] st = some (.ret (.lst [.str ("told" : Str), r]) st') := e_met (w2_is) h
theorem me5 (h : d_parted fu [a, b] st = some (.ret r st')) : d_law_met fu [.int 5, .lst [a, b], .bl nm] st = some (.ret (.lst [.str ("told" : Str), r]) st') := e_met (w2_is) h
theorem me6 (h : d_is_place_of fu [a, b] st = some (.ret r st')) : d_law_met fu [.int 6, .lst [a, b], .bl nm] st = some (.ret (.lst [.str ("told" : Str), r]) st') := e_met (w2_is) h
theorem me7 (h : d_is_piece fu [a] st = some (.ret r st')) : d_law_met fu [.int 7, .lst [a], .bl nm] st = some (.ret (.lst [.str ("told" : Str), r]) st') := e_met (w1_is) h
/-! ### same, not same -/
theorem sm_eq {m1 m2 : M D} {d : D} {n : Nat} (h1 : m1 fr st = some (.ok d fr st1)) (h2 : m2 fr st1 = some (.ok d fr st1)) (hd : OkS st1 n d) (hn : n ≤ 11) : notT (tst (callM (d_law_same fu 12) (consA m1 (consA m2 (nilA))))) fr st = some (.ok false fr st1) :=
  not_eq (b := true) (tst_eq (call_eq (cons_eq h1 (cons_eq h2 nil_eq)) (same12 hd hn)))
theorem mt_eq {mw ml mn : M D} {w l n r : D} (hw : mw fr st = some (.ok w fr st)) (hl : ml fr st = some (.ok l fr st1)) (hn : mn fr st1 = some (.ok n fr st1)) (h : d_law_met fu [w, l, n] st1 = some (.ret r st')) : callM (d_law_met fu) (consA mw (consA ml (consA mn nilA))) fr st = some (.ok r fr st') :=
  call_eq (cons_eq hw (cons_eq hl (cons_eq hn nil_eq))) h
theorem ls1 {m : M D} {d : D} (h : m fr st = some (.ok d fr st1)) : frzM (lstN (consA m nilA)) fr st = some (.ok (.lst [d]) fr st1) := frz_eq (lst_eq (cons_eq h nil_eq) rfl)
theorem ls2 {m m' : M D} {d d' : D} (h : m fr st = some (.ok d fr st1)) (h' : m' fr st1 = some (.ok d' fr st')) : frzM (lstN (consA m (consA m' nilA))) fr st = some (.ok (.lst [d, d']) fr st') := frz_eq (lst_eq (cons_eq h (cons_eq h' nil_eq)) rfl)
end
/-! ### what the ways tell of good values -/
section
variable {fu : Nat} {st : SS} {ss l l' : List P2} {q : Q} {d : D} {nm : Bool}
theorem pieceof_u (hd : d = .lst (ss.map prD) ∨ d = .tup (ss.map prD)) (h : ∀ p ∈ ss, Str1 p) (hl : ss.length ≤ 8) (hf : 100000 ≤ fu) : d_piece_of fu [d] st = some (.ret (pcD (unionQ ss)) st) := by
  obtain ⟨R, r1, r2, r3⟩ := e_pieceof (fu := fu) (st := st) hd h hl hf
  rw [r1, pc_of r2 r3 h (by omega)]
theorem union_perm {ss' : List P2} (h : ∀ p ∈ ss, Str1 p) (hl : ss.length ≤ 1000) (pm : ss'.Perm ss) : unionQ ss' = unionQ ss := by
  have h' : ∀ p ∈ ss', Str1 p := fun p hp => h p (pm.mem_iff.mp hp)
  have hl' : ss'.length ≤ 1000 := by rw [pm.length_eq]; exact hl
  refine pc_uniq (union_spec h' hl').1 (union_spec h hl).1 fun x => ?_
  rw [(union_spec h' hl').2.1, (union_spec h hl).2.1]
  exact covS_mem (fun r => pm.mem_iff) x
theorem left_len : (leftQ l q).length ≤ l.length := by
  unfold leftQ
  rw [List.length_map]
  exact List.length_filter_le _ _
theorem right_len : (rightQ l q).length ≤ l.length := by
  unfold rightQ
  rw [List.length_map]
  exact List.length_filter_le _ _
theorem piece_true (h : Pc l) : d_is_piece fu [pcD l] st = some (.ret (.bl true) st) := by
  rw [e_ispiece h.pl h.len, h.inc]
end
end DL
end

section
set_option Elab.async false
set_option linter.all false
set_option maxRecDepth 100000
set_option maxHeartbeats 4000000
/-! k06, the plain side, part yb: one right, two right. -/
namespace DL
open PySem PySem.Spec L2
section
variable {fu : Nat} {st st1 : SS} {fr : Fr}
theorem told_ok {n : Nat} {d : D} (h : OkS st n d) (hn : n ≤ 10) : OkS st (n + 1) (.lst [.str ("told" : Str), d]) := ok_told h
theorem tl_eq {m : M D} {d : D} (h : m fr st = some (.ok d fr st)) : frzM (lstN (consA (ret (.str ("told" : Str))) (consA m (nilA)))) fr st = some (.ok (.lst [.str ("told" : Str), d]) fr st) := ls2 rfl h
def or3 (t u v : M Bool) : M Bool := orT t (orT u v)
theorem or3_f {t u v : M Bool} {st2 st3 : SS} (h : t fr st = some (.ok false fr st1)) (h2 : u fr st1 = some (.ok false fr st2)) (h3 : v fr st2 = some (.ok false fr st3)) : orT t (orT u v) fr st = some (.ok false fr st3) := by
  rw [or_f h, or_f h2, h3]
theorem or2_f {t u : M Bool} {st2 : SS} (h : t fr st = some (.ok false fr st1)) (h2 : u fr st1 = some (.ok false fr st2)) : orT t u fr st = some (.ok false fr st2) := by
  rw [or_f h, h2]
theorem nott_eq {i : Nat} {b : Bool} (h : fr[i]? = some (.val (.bl b))) : notV (getv i) fr st = some (.ok (.bl (!b)) fr st) := notV_eq (get_eq h)
/-! ### a place after a place -/
def orF (box : D) (ss : List P2) (nm : Bool) (U : List P2) (s5 s6 s7 s8 s9 s10 s11 : Slot) : Fr := [.val box, .val (.lst (ss.map prD)), .val (.bl nm), .val (pcD U), .val (.lst (ss.map prD)), s5, s6, s7, s8, s9, s10, s11, .none, .none]
def orB (fu : Nat) : M Fl := seqM (asgM (tupG 2 (consG (setv 9) (consG (setv 10) (nilG)))) (callM (d_law_split fu) (consA (getv 3) (consA (getv 8) (nilA)))))
 (seqM (setM 11 (callM (d_law_is_place_in fu) (consA (getv 3) (consA (getv 8) (nilA)))))
 (seqM (ifM (orT (notT (tst (callM (d_law_same fu 12) (consA (callM (d_law_met fu) (consA (ret (.int 5)) (consA (frzM (lstN (consA (getv 3) (consA (getv 8) (nilA))))) (consA (getv 2) (nilA))))) (consA (frzM (lstN (consA (ret (.str ("told" : Str))) (consA (tupM (consA (getv 9) (consA (getv 10) (nilA)))) (nilA))))) (nilA)))))) (notT (tst (callM (d_law_same fu 12) (consA (callM (d_law_met fu) (consA (ret (.int 6)) (consA (frzM (lstN (consA (getv 3) (consA (getv 8) (nilA))))) (consA (notV (getv 2)) (nilA))))) (consA (frzM (lstN (consA (ret (.str ("told" : Str))) (consA (getv 11) (nilA))))) (nilA)))))))
 (retM (ret (.bl false)))
 (ret .nx))
 (seqM (ifM (orT (notT (tst (callM (d_law_same fu 12) (consA (callM (d_law_met fu) (consA (ret (.int 2)) (consA (frzM (lstN (consA (getv 9) (consA (getv 10) (nilA))))) (consA (getv 2) (nilA))))) (consA (frzM (lstN (consA (ret (.str ("told" : Str))) (consA (getv 3) (nilA))))) (nilA)))))) (notT (tst (callM (d_law_same fu 12) (consA (callM (d_law_met fu) (consA (ret (.int 3)) (consA (frzM (lstN (consA (getv 9) (consA (getv 10) (nilA))))) (consA (getv 2) (nilA))))) (consA (frzM (lstN (consA (ret (.str ("told" : Str))) (consA (tupM (nilA)) (nilA))))) (nilA)))))))
 (retM (ret (.bl false)))
 (ret .nx))
 (setM 2 (notV (getv 2))))))
theorem orB_run {box : D} {ss U : List P2} {nm : Bool} {q : Q} {s5 s6 s7 s9 s10 s11 : Slot} (h : Pc U) (hq : Pl q) (hl : U.length ≤ 1000) (hf : 2 ^ 8000 ≤ fu) (hf2 : 100000 ≤ fu) :
    orB fu (orF box ss nm U s5 s6 s7 (.val (frD q)) s9 s10 s11) st = some (.ok .nx (orF box ss (!nm) U s5 s6 s7 (.val (frD q)) (.val (pcD (leftQ U q))) (.val (pcD (rightQ U q))) (.val (.bl (holdQ U q)))) st) := by
  obtain ⟨lp, li⟩ := left_spec h hq
  obtain ⟨rp, ri⟩ := right_spec h hq
  have ll := left_len (l := U) (q := q)
  have rl := right_len (l := U) (q := q)
  have sp := e_split (fu := fu) (st := st) h.pl hq h.lt (by omega)
  have a1 : asgM (tupG 2 (consG (setv 9) (consG (setv 10) (nilG)))) (callM (d_law_split fu) (consA (getv 3) (consA (getv 8) (nilA)))) (orF box ss nm U s5 s6 s7 (.val (frD q)) s9 s10 s11) st = some (.ok .nx (orF box ss nm U s5 s6 s7 (.val (frD q)) (.val (pcD (leftQ U q))) (.val (pcD (rightQ U q))) s11) st) := by
    unfold asgM
    rw [bnd_eq (call_eq (cons_eq (get_eq rfl) (cons_eq (get_eq rfl) nil_eq)) sp)]
    rfl
  have a2 : setM 11 (callM (d_law_is_place_in fu) (consA (getv 3) (consA (getv 8) (nilA)))) (orF box ss nm U s5 s6 s7 (.val (frD q)) (.val (pcD (leftQ U q))) (.val (pcD (rightQ U q))) s11) st = some (.ok .nx (orF box ss nm U s5 s6 s7 (.val (frD q)) (.val (pcD (leftQ U q))) (.val (pcD (rightQ U q))) (.val (.bl (holdQ U q)))) st) :=
    set_eq (d := .bl (holdQ U q)) (fr1 := orF box ss nm U s5 s6 s7 (.val (frD q)) (.val (pcD (leftQ U q))) (.val (pcD (rightQ U q))) s11) (st1 := st) (call_eq (cons_eq (get_eq rfl) (cons_eq (get_eq rfl) nil_eq)) (e_lawplace h.pl hq (by omega) hf)) (by show 11 < 14; decide)
  unfold orB
  rw [seq_eq a1, seq_eq a2]
  have okU : ∀ n, OkS st (n + 3) (pcD U) := fun n => ok_pc (by omega)
  have okL : ∀ n, OkS st (n + 3) (pcD (leftQ U q)) := fun n => ok_pc (by omega)
  have okR : ∀ n, OkS st (n + 3) (pcD (rightQ U q)) := fun n => ok_pc (by omega)
  have okP : OkS st 4 (.tup [pcD (leftQ U q), pcD (rightQ U q)]) := .tup 3 _ (by simp) fun d hd => by
    rcases List.mem_cons.mp hd with rfl | hd
    · exact okL 0
    · rw [List.mem_singleton.mp hd]; exact okR 0
  have jn : d_joined_pieces fu [pcD (leftQ U q), pcD (rightQ U q)] st = some (.ret (pcD U) st) := by
    rw [e_joined lp rp (by omega) hf2, parts_join h hq (by omega)]
  have cm : d_common_piece fu [pcD (leftQ U q), pcD (rightQ U q)] st = some (.ret (.tup []) st) := by
    rw [e_common lp rp (by omega) hf2, parts_apart h hq (by omega)]
    rfl
  rw [seq_eq (if_nx (or2_f (sm_eq (mt_eq rfl (ls2 (get_eq rfl) (get_eq rfl)) (get_eq rfl) (me5 (e_parted h hq))) (tl_eq (tup_eq (cons_eq (get_eq rfl) (cons_eq (get_eq rfl) nil_eq)) rfl)) (ok_told okP) (by decide))
    (sm_eq (mt_eq rfl (ls2 (get_eq rfl) (get_eq rfl)) (nott_eq rfl) (me6 (e_placeof h hq))) (tl_eq (get_eq rfl)) (ok_told (.bl 0 _)) (by decide))))]
  rw [seq_eq (if_nx (or2_f (sm_eq (mt_eq rfl (ls2 (get_eq rfl) (get_eq rfl)) (get_eq rfl) (me2 jn)) (tl_eq (get_eq rfl)) (ok_told (okU 0)) (by decide))
    (sm_eq (mt_eq rfl (ls2 (get_eq rfl) (get_eq rfl)) (get_eq rfl) (me3 cm)) (tl_eq rfl) (ok_told (OkS.tup 0 [] (by simp) (fun d hd => by cases hd))) (by decide))))]
  rw [set_eq (nott_eq rfl) (by show 2 < 14; decide)]
  rfl
theorem or_loop {box : D} {ss U : List P2} {s5 s6 s7 : Slot} (h : Pc U) (hl : U.length ≤ 1000) (hf : 2 ^ 8000 ≤ fu) (hf2 : 100000 ≤ fu) : ∀ (qs : List Q) (nm : Bool) (s8 s9 s10 s11 : Slot), (∀ q ∈ qs, Pl q) →
    ∃ (nm' : Bool) (s8' s9' s10' s11' : Slot), mFor (qs.map frD) (forB (setv 8) (orB fu)) (orF box ss nm U s5 s6 s7 s8 s9 s10 s11) st = some (.ok .nx (orF box ss nm' U s5 s6 s7 s8' s9' s10' s11') st)
  | [], nm, s8, s9, s10, s11, _ => ⟨nm, s8, s9, s10, s11, rfl⟩
  | q :: qs, nm, s8, s9, s10, s11, hq => by
    obtain ⟨nm', s8', s9', s10', s11', r⟩ := or_loop h hl hf hf2 qs (!nm) (.val (frD q)) (.val (pcD (leftQ U q))) (.val (pcD (rightQ U q))) (.val (.bl (holdQ U q))) (fun x hx => hq x (List.mem_cons_of_mem _ hx))
    refine ⟨nm', s8', s9', s10', s11', ?_⟩
    have b : forB (setv 8) (orB fu) (frD q) (orF box ss nm U s5 s6 s7 s8 s9 s10 s11) st = some (.ok .nx (orF box ss (!nm) U s5 s6 s7 (.val (frD q)) (.val (pcD (leftQ U q))) (.val (pcD (rightQ U q))) (.val (.bl (holdQ U q)))) st) := by
      rw [forB_eq (show setv 8 (frD q) (orF box ss nm U s5 s6 s7 s8 s9 s10 s11) st = some (.ok .nx (orF box ss nm U s5 s6 s7 (.val (frD q)) s9 s10 s11) st) from rfl)]
      exact orB_run h (hq q List.mem_cons_self) hl hf hf2
    rw [List.map_cons, mFor_cons b]
    exact r
theorem e_one {n m : Nat} {ss : List P2} {nm : Bool} (hb : Bx n st m) (hm : m ≤ 10000) (h : ∀ p ∈ ss, Str1 p) (hl : ss.length ≤ 6) (hf : 2 ^ 8000 ≤ fu) (hf2 : 100000 ≤ fu) : ∃ st', d_law_one_right fu [.obj n, .lst (ss.map prD), .bl nm] st = some (.ret (.bl true) st') ∧ Bx n st' (m + 10) ∧ Ch n st st' := by
  obtain ⟨pc, cov, ul⟩ := union_spec h (by omega)
  obtain ⟨ss', st1, em, pm, b1, c1⟩ := e_mixed (fu := fu) (ss := ss) hb (by omega) (by omega)
  obtain ⟨q1, st2, e1, p1, b2, c2⟩ := e_spot (fu := fu) (s := 24) b1 (by omega) (by decide) (by decide) (by decide) hf
  obtain ⟨q2, st3, e2, p2, b3, c3⟩ := e_spot (fu := fu) (s := 30) b2 (by omega) (by decide) (by decide) (by decide) hf
  refine ⟨st3, ?_, b3.mono (by omega), c1.trans (c2.trans c3)⟩
  have okU : ∀ (st : SS) n, OkS st (n + 3) (pcD (unionQ ss)) := fun st n => ok_pc (by omega)
  have okT : ∀ (st : SS), OkS st 4 (.lst [.str ("told" : Str), pcD (unionQ ss)]) := fun st => ok_told (okU st 0)
  have ms := marks_spec pc.pl
  have pl : ∀ q ∈ marksQ (unionQ ss) ++ [q1, q2], Pl q := fun q hq => by
    rcases List.mem_append.mp hq with m | m
    · exact marks_pl pc.pl q m
    · rcases List.mem_cons.mp m with rfl | m
      · exact p1
      · rw [List.mem_singleton.mp m]; exact p2
  have em' := e_marks (fu := fu) (st := st1) (ls := [unionQ ss]) (by simpa using pc.pl) (by simp; omega)
  have fl : [unionQ ss].flatten = unionQ ss := by simp
  rw [fl] at em'
  obtain ⟨nm', s8, s9, s10, s11, lp⟩ := or_loop (fu := fu) (st := st3) (box := .obj n) (ss := ss) (s5 := .val (.lst [.str ("told" : Str), pcD (unionQ ss)])) (s6 := .val (frD (totQ (lensQ (unionQ ss))))) (s7 := .val (.lst ((marksQ (unionQ ss) ++ [q1, q2]).map frD))) pc (by omega) hf hf2 (marksQ (unionQ ss) ++ [q1, q2]) nm .none .none .none .none pl
  refine run_ret (fr := orF (.obj n) ss nm' (unionQ ss) (.val (.lst [.str ("told" : Str), pcD (unionQ ss)])) (.val (frD (totQ (lensQ (unionQ ss))))) (.val (.lst ((marksQ (unionQ ss) ++ [q1, q2]).map frD))) s8 s9 s10 s11) rfl ?_
  show m_law_one_right fu [.val (.obj n), .val (.lst (ss.map prD)), .val (.bl nm), .none, .none, .none, .none, .none, .none, .none, .none, .none, .none, .none] st = _
  unfold m_law_one_right
  have a3 : setM 3 (callM (d_law_union fu) (consA (getv 1) (nilA))) [.val (.obj n), .val (.lst (ss.map prD)), .val (.bl nm), .none, .none, .none, .none, .none, .none, .none, .none, .none, .none, .none] st = some (.ok .nx [.val (.obj n), .val (.lst (ss.map prD)), .val (.bl nm), .val (pcD (unionQ ss)), .none, .none, .none, .none, .none, .none, .none, .none, .none, .none] st) :=
    set_eq (call_eq (cons_eq (get_eq rfl) nil_eq) (e_union (.inl rfl) h (by omega))) (by show 3 < 14; decide)
  have a4 : setM 4 (frzM (un1N itemsS (peekv 1))) [.val (.obj n), .val (.lst (ss.map prD)), .val (.bl nm), .val (pcD (unionQ ss)), .none, .none, .none, .none, .none, .none, .none, .none, .none, .none] st = some (.ok .nx (orF (.obj n) ss nm (unionQ ss) .none .none .none .none .none .none .none) st) := rfl
  have a5 : setM 5 (callM (d_law_met fu) (consA (ret (.int 0)) (consA (frzM (lstN (consA (getv 1) (nilA)))) (consA (getv 2) (nilA))))) (orF (.obj n) ss nm (unionQ ss) .none .none .none .none .none .none .none) st = some (.ok .nx (orF (.obj n) ss nm (unionQ ss) (.val (.lst [.str ("told" : Str), pcD (unionQ ss)])) .none .none .none .none .none .none) st) :=
    set_eq (d := .lst [.str ("told" : Str), pcD (unionQ ss)]) (fr1 := orF (.obj n) ss nm (unionQ ss) .none .none .none .none .none .none .none) (st1 := st) (mt_eq rfl (ls1 (get_eq rfl)) (get_eq rfl) (me0 (pieceof_u (.inl rfl) h (by omega) hf2))) (by show 5 < 14; decide)
  rw [seq_eq a3, seq_eq a4, seq_eq a5]
  have okS : OkS st 3 (.lst (ss.map prD)) := .lst 2 _ (by rw [List.length_map]; omega) (ok_prs ss)
  rw [seq_eq (if_nx (or3_f (sm_eq (get_eq rfl) (tl_eq (get_eq rfl)) (okT st) (by decide)) (sm_eq (get_eq rfl) (get_eq rfl) okS (by decide))
    (sm_eq (mt_eq rfl (ls1 (un1_eq (d := .lst (ss.map prD)) (peek_eq rfl) rfl)) (nott_eq rfl) (me0 (pieceof_u (ss := ss) (.inr rfl) h (by omega) hf2))) (tl_eq (get_eq rfl)) (okT st) (by decide))))]
  have pm0 : d_piece_of fu [.lst (ss'.map prD)] st1 = some (.ret (pcD (unionQ ss)) st1) := by
    rw [pieceof_u (.inl rfl) (fun p hp => h p (pm.mem_iff.mp hp)) (by rw [pm.length_eq]; omega) hf2, union_perm h (by omega) pm]
  rw [seq_eq (if_nx (or2_f (sm_eq (mt_eq rfl (ls1 (call_eq (cons_eq (get_eq rfl) (cons_eq (get_eq rfl) nil_eq)) em)) (get_eq rfl) (me0 pm0)) (tl_eq (get_eq rfl)) (okT st1) (by decide))
    (sm_eq (mt_eq rfl (ls1 (get_eq rfl)) (get_eq rfl) (me7 (piece_true pc))) (tl_eq rfl) (ok_told (.bl 0 true)) (by decide))))]
  have lf := lens_F pc.pl
  have cc := compM_pure (f := prD) (vs := [12, 13]) (g := .tup [(.nm 12), (.nm 13)]) (t := ret true) (e := callM (d_law_minus fu) (consA (getv 13) (consA (getv 12) (nilA)))) (p := fun _ => true) (q := fun p : P2 => frD (subQ p.2 p.1)) (xs := unionQ ss)
    (show seqW (getv 3) (orF (.obj n) ss nm (unionQ ss) (.val (.lst [.str ("told" : Str), pcD (unionQ ss)])) .none .none .none .none .none .none) st1 = some (.ok ((unionQ ss).map prD, .no) (orF (.obj n) ss nm (unionQ ss) (.val (.lst [.str ("told" : Str), pcD (unionQ ss)])) .none .none .none .none .none .none) st1) from seqW_eq (get_eq rfl) (.inl rfl)) rfl
    (fun p hp => ⟨[.val (.obj n), .val (.lst (ss.map prD)), .val (.bl nm), .val (pcD (unionQ ss)), .val (.lst (ss.map prD)), .val (.lst [.str ("told" : Str), pcD (unionQ ss)]), .none, .none, .none, .none, .none, .none, .val (frD p.1), .val (frD p.2)], [.val (.obj n), .val (.lst (ss.map prD)), .val (.bl nm), .val (pcD (unionQ ss)), .val (.lst (ss.map prD)), .val (.lst [.str ("told" : Str), pcD (unionQ ss)]), .none, .none, .none, .none, .none, .none, .val (frD p.1), .val (frD p.2)], rfl, rfl, (fun z => by cases z),
      fun _ => ⟨_, call_eq (cons_eq (get_eq rfl) (cons_eq (get_eq rfl) nil_eq)) (e_minus (pc.pl p hp).2.fq (pc.pl p hp).1.fq (by decide) (Nat.le_trans (Nat.pow_le_pow_right (by decide) (by decide)) hf)), rfl⟩⟩) (by omega)
  rw [List.filter_eq_self.mpr (fun _ _ => rfl)] at cc
  have mm : (unionQ ss).map (fun p => frD (subQ p.2 p.1)) = (lensQ (unionQ ss)).map frD := by unfold lensQ; rw [List.map_map]; rfl
  rw [mm] at cc
  have a6 : setM 6 (callM (d_law_sum fu) (consA (frzM (compM [12, 13] (seqW (getv 3)) (.tup [(.nm 12), (.nm 13)]) (ret true) (callM (d_law_minus fu) (consA (getv 13) (consA (getv 12) (nilA)))))) (nilA))) (orF (.obj n) ss nm (unionQ ss) (.val (.lst [.str ("told" : Str), pcD (unionQ ss)])) .none .none .none .none .none .none) st1 = some (.ok .nx (orF (.obj n) ss nm (unionQ ss) (.val (.lst [.str ("told" : Str), pcD (unionQ ss)])) (.val (frD (totQ (lensQ (unionQ ss))))) .none .none .none .none .none) st1) :=
    set_eq (d := frD (totQ (lensQ (unionQ ss)))) (fr1 := orF (.obj n) ss nm (unionQ ss) (.val (.lst [.str ("told" : Str), pcD (unionQ ss)])) .none .none .none .none .none .none) (st1 := st1) (call_eq (cons_eq (frz_eq cc) nil_eq) (e_lawsum lf (by unfold lensQ; rw [List.length_map]; omega) hf)) (by show 6 < 14; decide)
  rw [seq_eq a6]
  rw [seq_eq (if_nx (sm_eq (mt_eq rfl (ls1 (get_eq rfl)) (get_eq rfl) (me1 (e_length pc pc.inc (by omega)))) (tl_eq (get_eq rfl)) (ok_told (ok_fr (n := 0) _)) (by decide)))]
  have a7 : setM 7 (bin addF (callM (d_law_marks fu) (consA (frzM (lstN (consA (getv 3) (nilA)))) (nilA))) (frzM (lstN (consA (callM (d_law_spot fu) (consA (getv 0) (consA (ret (.int 24)) (nilA)))) (consA (callM (d_law_spot fu) (consA (getv 0) (consA (ret (.int 30)) (nilA)))) (nilA)))))) (orF (.obj n) ss nm (unionQ ss) (.val (.lst [.str ("told" : Str), pcD (unionQ ss)])) (.val (frD (totQ (lensQ (unionQ ss))))) .none .none .none .none .none) st1 = some (.ok .nx (orF (.obj n) ss nm (unionQ ss) (.val (.lst [.str ("told" : Str), pcD (unionQ ss)])) (.val (frD (totQ (lensQ (unionQ ss))))) (.val (.lst ((marksQ (unionQ ss) ++ [q1, q2]).map frD))) .none .none .none .none) st3) := by
    refine set_eq (d := .lst ((marksQ (unionQ ss) ++ [q1, q2]).map frD)) (fr1 := orF (.obj n) ss nm (unionQ ss) (.val (.lst [.str ("told" : Str), pcD (unionQ ss)])) (.val (frD (totQ (lensQ (unionQ ss))))) .none .none .none .none .none) (st1 := st3) (bin_eq (call_eq (cons_eq (ls1 (get_eq rfl)) nil_eq) em') (ls2 (call_eq (cons_eq (get_eq rfl) (cons_eq rfl nil_eq)) e1) (call_eq (cons_eq (get_eq rfl) (cons_eq rfl nil_eq)) e2)) ?_) (by show 7 < 14; decide)
    rw [s_catL (small_of (by have := ms.2.2; rw [List.length_map]; simp; omega)), List.map_append]
    rfl
  rw [seq_eq a7]
  show seqM (forM (seqI (getv 7)) (setv 8) (orB fu)) _ _ st3 = _
  rw [seq_eq (for_eq (seqI_eq (get_eq rfl) (.inr rfl)) lp)]
  rfl
end
end DL
end

section
set_option Elab.async false
set_option linter.all false
set_option maxRecDepth 100000
set_option maxHeartbeats 4000000
/-! k06, the plain side, part yc: two right. -/
namespace DL
open PySem PySem.Spec L2
section
variable {fu : Nat} {st st1 : SS} {fr : Fr} {l l0 l1 : List P2} {nm : Bool}
theorem or_self (h : Pc l) (hl : l.length ≤ 5000) : combL kOr l l = l := by
  obtain ⟨a, b⟩ := combL_spec (k := kOr) rfl h h (by omega)
  exact pc_uniq a h fun x => by rw [b]; simp
theorem and_self' (h : Pc l) (hl : l.length ≤ 5000) : combL kAnd l l = l := by
  obtain ⟨a, b⟩ := combL_spec (k := kAnd) rfl h h (by omega)
  exact pc_uniq a h fun x => by rw [b]; simp
theorem but_self (h : Pc l) (hl : l.length ≤ 5000) : combL kBut l l = [] := by
  obtain ⟨a, b⟩ := combL_spec (k := kBut) rfl h h (by omega)
  exact pc_uniq a pc_nil fun x => by rw [b]; simp [inP, flatQ, insQ]
theorem or_nil (h : Pc l) (hl : l.length ≤ 5000) : combL kOr l [] = l := by
  obtain ⟨a, b⟩ := combL_spec (k := kOr) rfl h pc_nil (by simp; omega)
  exact pc_uniq a h fun x => by rw [b]; simp [inP, flatQ, insQ]
theorem nil_but (h : Pc l) (hl : l.length ≤ 5000) : combL kBut [] l = [] := by
  obtain ⟨a, b⟩ := combL_spec (k := kBut) rfl pc_nil h (by simp; omega)
  exact pc_uniq a pc_nil fun x => by rw [b]; simp [inP, flatQ, insQ]
theorem comb_len (k : Bool → Bool → Bool) (hl : l0.length + l1.length ≤ 2000) : (combL k l0 l1).length ≤ 4000 := by
  have := combL_len k l0 l1
  omega
def twF (l0 l1 : List P2) (nm : Bool) (s2 s3 : Slot) : Fr := [.val (.lst [pcD l0, pcD l1]), .val (.bl nm), s2, s3]
def twB (fu : Nat) : M Fl := seqM (ifM (notT (tst (callM (d_law_same fu 12) (consA (callM (d_law_met fu) (consA (getv 2) (consA (getv 0) (consA (getv 1) (nilA))))) (consA (frzM (lstN (consA (ret (.str ("told" : Str))) (consA (callM (d_law_cells fu) (consA (getv 0) (consA (getv 3) (nilA)))) (nilA))))) (nilA))))))
 (retM (ret (.bl false)))
 (ret .nx))
 (ifM (notT (tst (callM (d_law_same fu 12) (consA (callM (d_law_met fu) (consA (getv 2) (consA (frzM (lstN (consA (bin ixA (getv 0) (ret (.int 0))) (consA (bin ixA (getv 0) (ret (.int 0))) (nilA))))) (consA (notV (getv 1)) (nilA))))) (consA (frzM (lstN (consA (ret (.str ("told" : Str))) (consA (ifE (tst (bin ltF (getv 2) (ret (.int 4)))) (bin ixA (getv 0) (ret (.int 0))) (tupM (nilA))) (nilA))))) (nilA))))))
 (retM (ret (.bl false)))
 (ret .nx))
theorem twB_run {w : Int} {W : D} {k : Bool → Bool → Bool} (k0 : k false false = false) (h0 : Pc l0) (h1 : Pc l1) (hl : l0.length + l1.length ≤ 400) (hk : ∀ a b, inF st (.lst [.bl a, .bl b]) W = some (.bl (k a b)))
    (hm : ∀ a b nm, Pc a → Pc b → a.length + b.length ≤ 20000 → d_law_met fu [.int w, .lst [pcD a, pcD b], .bl nm] st = some (.ret (.lst [.str ("told" : Str), pcD (combL k a b)]) st)) (hs : combL k l0 l0 = if decide (w < 4) then l0 else []) :
    twB fu (twF l0 l1 nm (.val (.int w)) (.val W)) st = some (.ok .nx (twF l0 l1 nm (.val (.int w)) (.val W)) st) := by
  have cl := combL_len k l0 l1
  have ml : ∀ {d : D} {n : Bool}, notV (getv 1) (twF l0 l1 nm (.val (.int w)) (.val W)) st = some (.ok (.bl (!nm)) (twF l0 l1 nm (.val (.int w)) (.val W)) st) := fun {_ _} => nott_eq rfl
  have ce := e_cells (fu := fu) k0 hk h0 h1 hl
  have c1 : notT (tst (callM (d_law_same fu 12) (consA (callM (d_law_met fu) (consA (getv 2) (consA (getv 0) (consA (getv 1) (nilA))))) (consA (frzM (lstN (consA (ret (.str ("told" : Str))) (consA (callM (d_law_cells fu) (consA (getv 0) (consA (getv 3) (nilA)))) (nilA))))) (nilA))))) (twF l0 l1 nm (.val (.int w)) (.val W)) st = some (.ok false (twF l0 l1 nm (.val (.int w)) (.val W)) st) :=
    sm_eq (mt_eq (get_eq rfl) (get_eq rfl) (get_eq rfl) (hm l0 l1 nm h0 h1 (by omega))) (tl_eq (call_eq (cons_eq (get_eq rfl) (cons_eq (get_eq rfl) nil_eq)) ce)) (ok_told (ok_pc (n := 0) (by omega))) (by decide)
  have i0 : bin ixA (getv 0) (ret (.int 0)) (twF l0 l1 nm (.val (.int w)) (.val W)) st = some (.ok (pcD l0) (twF l0 l1 nm (.val (.int w)) (.val W)) st) := bin_eq (get_eq rfl) rfl s_ix0l
  have t : tst (bin ltF (getv 2) (ret (.int 4))) (twF l0 l1 nm (.val (.int w)) (.val W)) st = some (.ok (decide (w < 4)) (twF l0 l1 nm (.val (.int w)) (.val W)) st) := tst_eq (bin_eq (get_eq rfl) rfl s_lt)
  have due : ifE (tst (bin ltF (getv 2) (ret (.int 4)))) (bin ixA (getv 0) (ret (.int 0))) (tupM (nilA)) (twF l0 l1 nm (.val (.int w)) (.val W)) st = some (.ok (pcD (combL k l0 l0)) (twF l0 l1 nm (.val (.int w)) (.val W)) st) := by
    rw [ife_eq t, hs]
    cases decide (w < 4) with
    | true => exact i0
    | false => rfl
  have c2 := combL_len k l0 l0
  unfold twB
  rw [seq_eq (if_nx c1), if_nx (sm_eq (mt_eq (get_eq rfl) (ls2 i0 i0) (nott_eq rfl) (hm l0 l0 (!nm) h0 h0 (by omega))) (tl_eq due) (ok_told (ok_pc (n := 0) (by omega))) (by decide))]
def wOr : D := .lst [.lst [.bl true, .bl true], .lst [.bl true, .bl false], .lst [.bl false, .bl true]]
def wAnd : D := .lst [.lst [.bl true, .bl true]]
def wBut : D := .lst [.lst [.bl true, .bl false]]
theorem e_two (h0 : Pc l0) (h1 : Pc l1) (hl : l0.length + l1.length ≤ 400) (hf2 : 100000 ≤ fu) : d_law_two_right fu [.lst [pcD l0, pcD l1], .bl nm] st = some (.ret (.bl true) st) := by
  have r2 : twB fu (twF l0 l1 nm (.val (.int 2)) (.val wOr)) st = _ := twB_run (k := kOr) rfl h0 h1 hl (fun a b => by cases a <;> cases b <;> rfl) (fun a b nm pa pb hab => me2 (e_joined pa pb hab hf2)) (or_self h0 (by omega))
  have r3 : twB fu (twF l0 l1 nm (.val (.int 3)) (.val wAnd)) st = _ := twB_run (k := kAnd) rfl h0 h1 hl (fun a b => by cases a <;> cases b <;> rfl) (fun a b nm pa pb hab => me3 (e_common pa pb hab hf2)) (and_self' h0 (by omega))
  have r4 : twB fu (twF l0 l1 nm (.val (.int 4)) (.val wBut)) st = _ := twB_run (k := kBut) rfl h0 h1 hl (fun a b => by cases a <;> cases b <;> rfl) (fun a b nm pa pb hab => me4 (e_rest pa pb hab hf2)) (but_self h0 (by omega))
  have step : ∀ (w : Int) (W : D) (s2 s3 : Slot), twB fu (twF l0 l1 nm (.val (.int w)) (.val W)) st = some (.ok .nx (twF l0 l1 nm (.val (.int w)) (.val W)) st) → forB (tupG 2 (consG (setv 2) (consG (setv 3) (nilG)))) (twB fu) (.tup [.int w, W]) (twF l0 l1 nm s2 s3) st = some (.ok .nx (twF l0 l1 nm (.val (.int w)) (.val W)) st) := fun w W s2 s3 e => by
    rw [forB_eq (show tupG 2 (consG (setv 2) (consG (setv 3) (nilG))) (.tup [.int w, W]) (twF l0 l1 nm s2 s3) st = some (.ok .nx (twF l0 l1 nm (.val (.int w)) (.val W)) st) from rfl)]
    exact e
  have lp : mFor [.tup [.int 2, wOr], .tup [.int 3, wAnd], .tup [.int 4, wBut]] (forB (tupG 2 (consG (setv 2) (consG (setv 3) (nilG)))) (twB fu)) (twF l0 l1 nm .none .none) st = some (.ok .nx (twF l0 l1 nm (.val (.int 4)) (.val wBut)) st) := by
    rw [mFor_cons (step 2 wOr _ _ r2), mFor_cons (step 3 wAnd _ _ r3), mFor_cons (step 4 wBut _ _ r4)]
    rfl
  refine run_ret (fr := twF l0 l1 nm (.val (.int 4)) (.val wBut)) rfl ?_
  show m_law_two_right fu (twF l0 l1 nm .none .none) st = _
  unfold m_law_two_right
  have i1 : bin ixA (getv 0) (ret (.int 1)) (twF l0 l1 nm (.val (.int 4)) (.val wBut)) st = some (.ok (pcD l1) (twF l0 l1 nm (.val (.int 4)) (.val wBut)) st) := bin_eq (get_eq rfl) rfl s_ix1l
  have jn : d_joined_pieces fu [pcD l1, .tup []] st = some (.ret (pcD l1) st) := by
    have := e_joined (fu := fu) (st := st) h1 pc_nil (by simp; omega) hf2
    rw [or_nil h1 (by omega)] at this
    exact this
  have rs : d_rest_piece fu [.tup [], pcD l1] st = some (.ret (.tup []) st) := by
    have := e_rest (fu := fu) (st := st) pc_nil h1 (by simp; omega) hf2
    rw [nil_but h1 (by omega)] at this
    exact this
  show seqM (forM _ (tupG 2 (consG (setv 2) (consG (setv 3) (nilG)))) (twB fu)) _ _ st = _
  rw [seq_eq (for_eq (show seqI _ (twF l0 l1 nm .none .none) st = some (.ok [.tup [.int 2, wOr], .tup [.int 3, wAnd], .tup [.int 4, wBut]] (twF l0 l1 nm .none .none) st) from rfl) lp)]
  refine ret_eq ?_
  have v1 : callM (d_law_same fu 12) (consA (callM (d_law_met fu) (consA (ret (.int 2)) (consA (frzM (lstN (consA (bin ixA (getv 0) (ret (.int 1))) (consA (tupM (nilA)) (nilA))))) (consA (getv 1) (nilA))))) (consA (frzM (lstN (consA (ret (.str ("told" : Str))) (consA (bin ixA (getv 0) (ret (.int 1))) (nilA))))) (nilA))) (twF l0 l1 nm (.val (.int 4)) (.val wBut)) st = some (.ok (.bl true) (twF l0 l1 nm (.val (.int 4)) (.val wBut)) st) :=
    call_eq (cons_eq (mt_eq rfl (ls2 i1 rfl) (get_eq rfl) (me2 jn)) (cons_eq (tl_eq i1) nil_eq)) (same12 (ok_told (ok_pc (n := 0) (by omega))) (by decide))
  rw [andV_t v1]
  exact call_eq (cons_eq (mt_eq rfl (ls2 rfl i1) (get_eq rfl) (me4 rs)) (cons_eq (tl_eq rfl) nil_eq)) (same12 (ok_told (OkS.tup 0 [] (by simp) (fun d hd => by cases hd))) (by decide))
end
end DL
end

section
set_option Elab.async false
set_option linter.all false
set_option maxRecDepth 100000
set_option maxHeartbeats 4000000
/-! k06, the plain side, part yd: values that are blamed. -/
namespace DL
open PySem PySem.Spec L2
theorem mut_obj {fr : Fr} {st : SS} {i j : Nat} {f : List D → List D → Option (D × List D)} {ms : M (List D)} {ds args ds' : List D} {d : D} (h : fr[i]? = some (.val (.obj j))) (hj : st[j]? = some (.lst ds)) (ha : ms fr st = some (.ok args fr st)) (e : f ds args = some (d, ds')) :
    mutL i f ms fr st = some (.ok d fr (st.set j (.lst ds'))) := by
  unfold mutL
  have c : chkL i fr st = some (.ok () fr st) := by unfold chkL; rw [h]; simp only [hj]
  rw [bnd_eq c, bnd_eq ha]
  unfold mutI
  rw [h]
  simp only [hj, e]
/-- a value that is blamed: n is the box -/
inductive Vk (n : Nat) (st : SS) : D → Prop
  | plain (v : D) (k : Kd) : (∀ st, kindOf st v = some k) → isK k .list = false → isK k .dict = false → (∀ st, OkS st 10 v) → (∀ j, v ≠ .obj j) → Vk n st v
  | lst (j : Nat) (ds : List D) : j ≠ n → st[j]? = some (.lst ds) → ds.length ≤ 9000 → (∀ d ∈ ds, ∀ st, OkS st 9 d) → Vk n st (.obj j)
  | dic (j : Nat) : j ≠ n → st[j]? = some (.dic []) → Vk n st (.obj j)
theorem Vk.ok {n : Nat} {st : SS} {v : D} (h : Vk n st v) : OkS st 10 v := by
  cases h with
  | plain _ k a b c d e => exact d st
  | lst j ds a b c d => exact .ob 9 j ds b (by omega) fun x hx => d x hx st
  | dic j a b => exact .dic0 10 j b
theorem Vk.kind {n : Nat} {st : SS} {v : D} (h : Vk n st v) : ∃ k, kindOf st v = some k := by
  cases h with
  | plain _ k a b c d e => exact ⟨k, a st⟩
  | lst j ds a b c d => exact ⟨.lst, by simp only [kindOf, b]⟩
  | dic j a b => exact ⟨.dic, by simp only [kindOf, b]⟩
/-- other places of the heap than n and the value -/
theorem Vk.move {n : Nat} {st st' : SS} {v : D} (h : Vk n st v) (hs : ∀ j, j ≠ n → v = .obj j → st'[j]? = st[j]?) : Vk n st' v := by
  cases h with
  | plain _ k a b c d e => exact .plain v k a b c d e
  | lst j ds a b c d => exact .lst j ds a (by rw [hs j a rfl]; exact b) c d
  | dic j a b => exact .dic j a (by rw [hs j a rfl]; exact b)
section
variable {fu n : Nat} {st : SS} {v : D} {w : Str}
abbrev blF (w : Str) (v : D) : Fr := [.val (.lst [.str w, v]), .val (.str w), .val v]
theorem e_blamed (hv : Vk n st v) (hw : eqB (.str w) (.str w) = some true) : ∃ st', d_law_blamed fu [.lst [.str w, v], .str w, v] st = some (.ret (.bl true) st') ∧ (∃ k, kindOf st' v = some k) ∧ (∀ i, v ≠ .obj i → st'[i]? = st[i]?) ∧ (∀ j, v = .obj j → j ≠ n) := by
  have i0 : ∀ st, bin ixA (getv 0) (ret (.int 0)) (blF w v) st = some (.ok (.str w) (blF w v) st) := fun st => bin_eq (get_eq rfl) rfl s_ix0l
  have i1 : ∀ st, bin ixA (getv 0) (ret (.int 1)) (blF w v) st = some (.ok v (blF w v) st) := fun st => bin_eq (get_eq rfl) rfl s_ix1l
  have sm : ∀ st, OkS st 11 v → callM (d_law_same fu 12) (consA (bin ixA (getv 0) (ret (.int 1))) (consA (getv 2) (nilA))) (blF w v) st = some (.ok (.bl true) (blF w v) st) := fun st ok => call_eq (cons_eq (i1 st) (cons_eq (get_eq rfl) nil_eq)) (same12 ok (by decide))
  have t0 : orT (tst (bin neF (bin ixA (getv 0) (ret (.int 0))) (peekv 1))) (notT (tst (callM (d_law_same fu 12) (consA (bin ixA (getv 0) (ret (.int 1))) (consA (getv 2) (nilA)))))) (blF w v) st = some (.ok false (blF w v) st) :=
    or2_f (tst_eq (bin_eq (i0 st) (peek_eq rfl) (by unfold neF; rw [hw]; rfl))) (not_eq (b := true) (tst_eq (sm st (hv.ok.mono 11 (by decide)))))
  cases hv with
  | plain _ k a b c d e =>
    refine ⟨st, run_ret (fr := blF w v) rfl ?_, ⟨k, a st⟩, fun _ _ => rfl, fun j h => absurd h (e j)⟩
    show m_law_blamed fu (blF w v) st = _
    unfold m_law_blamed
    have t1 : tst (un1 (isiF [.list]) (getv 2)) (blF w v) st = some (.ok false (blF w v) st) := by
      rw [tst_eq (un1_eq (get_eq rfl) (isi (a st)))]
      simp [b]
    have t2 : tst (un1 (isiF [.dict]) (getv 2)) (blF w v) st = some (.ok false (blF w v) st) := by
      rw [tst_eq (un1_eq (get_eq rfl) (isi (a st)))]
      simp [c]
    rw [seq_eq (if_nx t0), seq_eq (if_nx t1), seq_eq (if_nx t2)]
    exact ret_eq (sm st ((d st).mono 11 (by decide)))
  | lst j ds a b c d =>
    have lt : j < st.length := (List.getElem?_eq_some_iff.mp b).1
    have at' : (st.set j (.lst (ds ++ [.int 7])))[j]? = some (.lst (ds ++ [.int 7])) := List.getElem?_set_self lt
    refine ⟨st.set j (.lst (ds ++ [.int 7])), run_ret (fr := blF w (.obj j)) rfl ?_, ⟨.lst, by simp only [kindOf, at']⟩, fun i hi => List.getElem?_set_ne fun z => hi (by rw [z]), fun i hi => by cases hi; exact a⟩
    show m_law_blamed fu (blF w (.obj j)) st = _
    unfold m_law_blamed
    have t1 : tst (un1 (isiF [.list]) (getv 2)) (blF w (.obj j)) st = some (.ok true (blF w (.obj j)) st) := tst_eq (un1_eq (get_eq rfl) (isi (k := .lst) (by simp only [kindOf, b])))
    have t2 : tst (un1 (isiF [.dict]) (getv 2)) (blF w (.obj j)) (st.set j (.lst (ds ++ [.int 7]))) = some (.ok false (blF w (.obj j)) (st.set j (.lst (ds ++ [.int 7])))) := tst_eq (un1_eq (get_eq rfl) (isi (k := .lst) (by simp only [kindOf, at'])))
    have mu : exprM (mutL 2 appF (consA (ret (.int 7)) (nilA))) (blF w (.obj j)) st = some (.ok .nx (blF w (.obj j)) (st.set j (.lst (ds ++ [.int 7])))) := expr_eq (mut_obj (d := .non) rfl b (cons_eq rfl nil_eq) (by
      have c' : small ds.length = true := small_of (by omega)
      simp only [appF, c', if_true]))
    rw [seq_eq (if_nx t0), seq_eq (by rw [if_t t1]; exact mu), seq_eq (if_nx t2)]
    refine ret_eq (sm _ (.ob 10 j _ at' (by rw [List.length_append]; simp; omega) fun x hx => ?_))
    rcases List.mem_append.mp hx with h | h
    · exact (d x h _).mono 10 (by decide)
    · rw [List.mem_singleton.mp h]; exact .int _ _
  | dic j a b =>
    have lt : j < st.length := (List.getElem?_eq_some_iff.mp b).1
    have at' : (st.set j (.dic [(.inr ("more" : Str), .int 7)]))[j]? = some (.dic [(.inr ("more" : Str), .int 7)]) := List.getElem?_set_self lt
    refine ⟨st.set j (.dic [(.inr ("more" : Str), .int 7)]), run_ret (fr := blF w (.obj j)) rfl ?_, ⟨.dic, by simp only [kindOf, at']⟩, fun i hi => List.getElem?_set_ne fun z => hi (by rw [z]), fun i hi => by cases hi; exact a⟩
    show m_law_blamed fu (blF w (.obj j)) st = _
    unfold m_law_blamed
    have t1 : tst (un1 (isiF [.list]) (getv 2)) (blF w (.obj j)) st = some (.ok false (blF w (.obj j)) st) := tst_eq (un1_eq (get_eq rfl) (isi (k := .dic) (by simp only [kindOf, b])))
    have t2 : tst (un1 (isiF [.dict]) (getv 2)) (blF w (.obj j)) st = some (.ok true (blF w (.obj j)) st) := tst_eq (un1_eq (get_eq rfl) (isi (k := .dic) (by simp only [kindOf, b])))
    have mu : dputM (ret (.int 7)) (getv 2) (ret (.str ("more" : Str))) (blF w (.obj j)) st = some (.ok .nx (blF w (.obj j)) (st.set j (.dic [(.inr ("more" : Str), .int 7)]))) := by
      unfold dputM
      rw [bnd_eq (show ret (D.int 7) (blF w (.obj j)) st = some (.ok (.int 7) (blF w (.obj j)) st) from rfl), bnd_eq (get_eq rfl), bnd_eq (show ret (D.str ("more" : Str)) (blF w (.obj j)) st = some (.ok (.str ("more" : Str)) (blF w (.obj j)) st) from rfl)]
      simp only [dkey, b]
      rfl
    rw [seq_eq (if_nx t0), seq_eq (if_nx t1), seq_eq (by rw [if_t t2]; exact mu)]
    exact ret_eq (sm _ (.dic1 10 j _ _ at'))
end
/-! ### the functions on them -/
section
variable {fu : Nat} {st : SS} {v o : D}
/-- wherever it has a kind at all, it is no piece -/
def NoPc (fu : Nat) (v : D) : Prop := ∀ st k, kindOf st v = some k → d_is_piece fu [v] st = some (.ret (.bl false) st)
def NoPl (fu : Nat) (v : D) : Prop := ∀ st k, kindOf st v = some k → d_is_place fu [v] st = some (.ret (.bl false) st)
theorem kind_obj {j : Nat} {k : Kd} (h : kindOf st (.obj j) = some k) : k = .lst ∨ k = .dic := by
  unfold kindOf at h
  simp only at h
  cases e : st[j]? with
  | none => rw [e] at h; cases h
  | some o =>
    rw [e] at h
    cases o with
    | lst ds => cases h; exact .inl rfl
    | dic kvs => cases h; exact .inr rfl
    | fdic kvs => cases h
theorem nopc_obj (j : Nat) : NoPc fu (.obj j) := fun st k h => by
  have i : isiF [.tuple] st (.obj j) = some (.bl false) := by
    rw [isi h]
    rcases kind_obj h with rfl | rfl <;> rfl
  refine run_ret (fr := [.val (.obj j), .none, .none, .none]) rfl ?_
  show m_is_piece fu [.val (.obj j), .none, .none, .none] st = _
  unfold m_is_piece
  refine seq_rt ?_
  rw [if_t (or_t (not_eq (b := false) (tst_eq (un1_eq (get_eq rfl) i))))]
  rfl
theorem nopl_obj (j : Nat) : NoPl fu (.obj j) := fun st k h => by
  have i : isiF [.tuple] st (.obj j) = some (.bl false) := by
    rw [isi h]
    rcases kind_obj h with rfl | rfl <;> rfl
  have tf : d_is_tuple_of fu [.obj j, .int 2] st = some (.ret (.bl false) st) := by
    refine run_ret (fr := [.val (.obj j), .val (.int 2)]) rfl ?_
    show m_is_tuple_of fu [.val (.obj j), .val (.int 2)] st = _
    unfold m_is_tuple_of
    exact ret_eq (andV_f (un1_eq (get_eq rfl) i))
  have fr : d_is_fraction fu [.obj j] st = some (.ret (.bl false) st) := by
    refine run_ret (fr := [.val (.obj j)]) rfl ?_
    show m_is_fraction fu [.val (.obj j)] st = _
    unfold m_is_fraction
    refine seq_rt ?_
    rw [if_t (or_t (not_eq (b := false) (tst_eq (call_eq (cons_eq (get_eq rfl) (cons_eq rfl nil_eq)) tf))))]
    rfl
  refine run_ret (fr := [.val (.obj j)]) rfl ?_
  show m_is_place fu [.val (.obj j)] st = _
  unfold m_is_place
  exact ret_eq (andV_f (call_eq (cons_eq (get_eq rfl) nil_eq) fr))
theorem x_check (h : d_is_piece fu [v] st = some (.ret (.bl false) st)) : d_check_piece fu [v] st = some (.exn 0 v st) := by
  refine run_ex (fr := [.val v]) rfl ?_
  show m_check_piece fu [.val v] st = _
  unfold m_check_piece
  rw [if_t (not_eq (b := false) (tst_eq (call_eq (cons_eq (get_eq rfl) nil_eq) h)))]
  unfold raiseM
  rw [bnd_eq (get_eq rfl)]
theorem exprM_ex {m : M D} {fr fr1 : Fr} {st1 : SS} {c : Nat} {d : D} (h : m fr st = some (.exn c d fr1 st1)) : exprM m fr st = some (.exn c d fr1 st1) := by
  unfold exprM bnd
  rw [h]
theorem x_checks (h : d_is_piece fu [v] st = some (.ret (.bl false) st)) : d_check_pieces fu [v, o] st = some (.exn 0 v st) := by
  refine run_ex (fr := [.val v, .val o]) rfl ?_
  show m_check_pieces fu [.val v, .val o] st = _
  unfold m_check_pieces
  exact seq_ex (exprM_ex (call_ex (cons_eq (get_eq rfl) nil_eq) (x_check h)))
theorem x_checks2 (ho : d_check_piece fu [o] st = some (.ret .non st)) (h : d_is_piece fu [v] st = some (.ret (.bl false) st)) : d_check_pieces fu [o, v] st = some (.exn 0 v st) := by
  refine run_ex (fr := [.val o, .val v]) rfl ?_
  show m_check_pieces fu [.val o, .val v] st = _
  unfold m_check_pieces
  rw [seq_eq (expr_eq (call_eq (cons_eq (get_eq rfl) nil_eq) ho))]
  exact exprM_ex (call_ex (cons_eq (get_eq rfl) nil_eq) (x_check h))
theorem x_length (h : d_is_piece fu [v] st = some (.ret (.bl false) st)) : d_length_of fu [v] st = some (.exn 0 v st) := by
  refine run_ex (fr := [.val v, .none, .none]) rfl ?_
  show m_length_of fu [.val v, .none, .none] st = _
  unfold m_length_of
  exact seq_ex (exprM_ex (call_ex (cons_eq (get_eq rfl) nil_eq) (x_check h)))
theorem x_two (c : d_check_pieces fu [v, o] st = some (.exn 0 x st)) : d_joined_pieces fu [v, o] st = some (.exn 0 x st) ∧ d_common_piece fu [v, o] st = some (.exn 0 x st) ∧ d_rest_piece fu [v, o] st = some (.exn 0 x st) := by
  refine ⟨run_ex (fr := [.val v, .val o]) rfl ?_, run_ex (fr := [.val v, .val o]) rfl ?_, run_ex (fr := [.val v, .val o]) rfl ?_⟩
  · show m_joined_pieces fu [.val v, .val o] st = _
    unfold m_joined_pieces
    exact seq_ex (exprM_ex (call_ex (cons_eq (get_eq rfl) (cons_eq (get_eq rfl) nil_eq)) c))
  · show m_common_piece fu [.val v, .val o] st = _
    unfold m_common_piece
    exact seq_ex (exprM_ex (call_ex (cons_eq (get_eq rfl) (cons_eq (get_eq rfl) nil_eq)) c))
  · show m_rest_piece fu [.val v, .val o] st = _
    unfold m_rest_piece
    exact seq_ex (exprM_ex (call_ex (cons_eq (get_eq rfl) (cons_eq (get_eq rfl) nil_eq)) c))
theorem x_parted (h : d_is_piece fu [v] st = some (.ret (.bl false) st)) : d_parted fu [v, o] st = some (.exn 0 v st) := by
  refine run_ex (fr := [.val v, .val o]) rfl ?_
  show m_parted fu [.val v, .val o] st = _
  unfold m_parted
  exact seq_ex (exprM_ex (call_ex (cons_eq (get_eq rfl) nil_eq) (x_check h)))
theorem x_placeof (h : d_is_piece fu [v] st = some (.ret (.bl false) st)) : d_is_place_of fu [v, o] st = some (.exn 0 v st) := by
  refine run_ex (fr := [.val v, .val o]) rfl ?_
  show m_is_place_of fu [.val v, .val o] st = _
  unfold m_is_place_of
  exact seq_ex (exprM_ex (call_ex (cons_eq (get_eq rfl) nil_eq) (x_check h)))
theorem x_parted2 (ho : d_check_piece fu [o] st = some (.ret .non st)) (h : d_is_place fu [v] st = some (.ret (.bl false) st)) : d_parted fu [o, v] st = some (.exn 1 v st) := by
  have cp : d_check_place fu [v] st = some (.exn 1 v st) := by
    refine run_ex (fr := [.val v]) rfl ?_
    show m_check_place fu [.val v] st = _
    unfold m_check_place
    rw [if_t (not_eq (b := false) (tst_eq (call_eq (cons_eq (get_eq rfl) nil_eq) h)))]
    unfold raiseM
    rw [bnd_eq (get_eq rfl)]
  refine run_ex (fr := [.val o, .val v]) rfl ?_
  show m_parted fu [.val o, .val v] st = _
  unfold m_parted
  rw [seq_eq (expr_eq (call_eq (cons_eq (get_eq rfl) nil_eq) ho))]
  exact seq_ex (exprM_ex (call_ex (cons_eq (get_eq rfl) nil_eq) cp))
theorem x_placeof2 (ho : d_check_piece fu [o] st = some (.ret .non st)) (h : d_is_place fu [v] st = some (.ret (.bl false) st)) : d_is_place_of fu [o, v] st = some (.ret (.bl false) st) := by
  have hp : d_has_place fu [o, v] st = some (.ret (.bl false) st) := by
    refine run_ret (fr := [.val o, .val v, .none, .none]) rfl ?_
    show m_has_place fu [.val o, .val v, .none, .none] st = _
    unfold m_has_place
    refine seq_rt ?_
    rw [if_t (not_eq (b := false) (tst_eq (call_eq (cons_eq (get_eq rfl) nil_eq) h)))]
    rfl
  refine run_ret (fr := [.val o, .val v]) rfl ?_
  show m_is_place_of fu [.val o, .val v] st = _
  unfold m_is_place_of
  rw [seq_eq (expr_eq (call_eq (cons_eq (get_eq rfl) nil_eq) ho))]
  exact ret_eq (call_eq (cons_eq (get_eq rfl) (cons_eq (get_eq rfl) nil_eq)) hp)
/-! ### met -/
variable {nm : Bool}
theorem mx_piece {w : Int} (h1 : 1 ≤ w) (h2 : w ≤ 6) (h : d_is_piece fu [v] st = some (.ret (.bl false) st)) : d_law_met fu [.int w, .lst [v, o], .bl nm] st = some (.ret (.lst [.str ("piece" : Str), v]) st) := by
  obtain ⟨j2, j3, j4⟩ := x_two (x_checks (o := o) h)
  have : w = 1 ∨ w = 2 ∨ w = 3 ∨ w = 4 ∨ w = 5 ∨ w = 6 := by omega
  rcases this with rfl | rfl | rfl | rfl | rfl | rfl
  · exact e_metx (k := 0) (by decide) w1_is (x_length h)
  · exact e_metx (k := 0) (by decide) w2_is j2
  · exact e_metx (k := 0) (by decide) w2_is j3
  · exact e_metx (k := 0) (by decide) w2_is j4
  · exact e_metx (k := 0) (by decide) w2_is (x_parted h)
  · exact e_metx (k := 0) (by decide) w2_is (x_placeof h)
theorem mx_piece2 {w : Int} (h1 : 2 ≤ w) (h2 : w ≤ 4) (ho : d_check_piece fu [o] st = some (.ret .non st)) (h : d_is_piece fu [v] st = some (.ret (.bl false) st)) : d_law_met fu [.int w, .lst [o, v], .bl nm] st = some (.ret (.lst [.str ("piece" : Str), v]) st) := by
  obtain ⟨j2, j3, j4⟩ := x_two (x_checks2 ho h)
  have : w = 2 ∨ w = 3 ∨ w = 4 := by omega
  rcases this with rfl | rfl | rfl
  · exact e_metx (k := 0) (by decide) w2_is j2
  · exact e_metx (k := 0) (by decide) w2_is j3
  · exact e_metx (k := 0) (by decide) w2_is j4
theorem mx_place (ho : d_check_piece fu [o] st = some (.ret .non st)) (h : d_is_place fu [v] st = some (.ret (.bl false) st)) : d_law_met fu [.int 5, .lst [o, v], .bl nm] st = some (.ret (.lst [.str ("place" : Str), v]) st) :=
  e_metx (k := 1) (by decide) w2_is (x_parted2 ho h)
theorem mx_stretches (h : d_piece_of fu [v] st = some (.exn 2 v st)) : d_law_met fu [.int 0, .lst [v], .bl nm] st = some (.ret (.lst [.str ("stretches" : Str), v]) st) :=
  e_metx (k := 2) (by decide) w1_is h
end
end DL
end

section
set_option Elab.async false
set_option linter.all false
set_option maxRecDepth 100000
set_option maxHeartbeats 4000000
/-! k06, the plain side, part ye: what is refused, the loops. -/
namespace DL
open PySem PySem.Spec L2
def objOf : D → Option Nat
  | .obj j => some j
  | _ => none
theorem objOf_eq {v : D} {j : Nat} (h : objOf v = some j) : v = .obj j := by
  cases v with
  | obj i => cases h; rfl
  | _ => cases h
section
variable {fu n m : Nat} {st st1 st' : SS} {l : List P2} {nm : Bool} {s3 s4 s5 : Slot} {v : D} {w : Str}
def rfF (n : Nat) (l : List P2) (nm : Bool) (s3 s4 s5 : Slot) : Fr := [.val (.obj n), .val (pcD l), .val (.bl nm), s3, s4, s5]
theorem rf_gen {body : M Fl} (P : SS → D → Prop) (hP : ∀ st st' v, P st v → (∀ j, v = .obj j → j ≠ n → st'[j]? = st[j]?) → P st' v)
    (hb : ∀ v m st nm s4 s5, P st v → Bx n st m → m ≤ 9000 → ∃ (nm' : Bool) (s4' s5' : Slot) (st' : SS), body (rfF n l nm (.val v) s4 s5) st = some (.ok .nx (rfF n l nm' (.val v) s4' s5') st') ∧ Bx n st' (m + 2) ∧ ∀ i, i ≠ n → v ≠ .obj i → st'[i]? = st[i]?) :
    ∀ (vs : List D) (nm : Bool) (s3 s4 s5 : Slot) (m : Nat) (st : SS), (∀ v ∈ vs, P st v) → (vs.filterMap objOf).Nodup → Bx n st m → m + 2 * vs.length ≤ 9000 →
    ∃ (nm' : Bool) (s3' s4' s5' : Slot) (st' : SS), mFor vs (forB (setv 3) body) (rfF n l nm s3 s4 s5) st = some (.ok .nx (rfF n l nm' s3' s4' s5') st') ∧ Bx n st' (m + 2 * vs.length)
  | [], nm, s3, s4, s5, m, st, _, _, h, _ => ⟨nm, s3, s4, s5, st, rfl, h⟩
  | v :: vs, nm, s3, s4, s5, m, st, hv, nd, h, hm => by
    rw [List.length_cons] at hm
    obtain ⟨nm1, a4, a5, st1, e1, b1, c1⟩ := hb v m st nm s4 s5 (hv v List.mem_cons_self) h (by omega)
    have nd' : (vs.filterMap objOf).Nodup ∧ ∀ j, objOf v = some j → j ∉ vs.filterMap objOf := by
      cases e : objOf v with
      | none => rw [List.filterMap_cons_none e] at nd; exact ⟨nd, fun j h => by cases h⟩
      | some j =>
        rw [List.filterMap_cons_some e] at nd
        obtain ⟨p, q⟩ := List.nodup_cons.mp nd
        exact ⟨q, fun i h => by cases h; exact p⟩
    obtain ⟨nm', s3', s4', s5', st', e2, b2⟩ := rf_gen P hP hb vs nm1 (.val v) a4 a5 (m + 2) st1 (fun u hu => hP st st1 u (hv u (List.mem_cons_of_mem _ hu)) fun j ej nj => c1 j nj fun ev => by
      subst ev ej
      exact nd'.2 j rfl (List.mem_filterMap.mpr ⟨.obj j, hu, rfl⟩)) nd'.1 b1 (by omega)
    refine ⟨nm', s3', s4', s5', st', ?_, b2.mono (by rw [List.length_cons]; omega)⟩
    have b : forB (setv 3) body v (rfF n l nm s3 s4 s5) st = some (.ok .nx (rfF n l nm1 (.val v) a4 a5) st1) := by
      rw [forB_eq (show setv 3 v (rfF n l nm s3 s4 s5) st = some (.ok .nx (rfF n l nm (.val v) s4 s5) st) from rfl)]
      exact e1
    rw [mFor_cons b]
    exact e2
theorem bl_eq {fr : Fr} {mm : M D} (hm : mm fr st = some (.ok (.lst [.str w, v]) fr st1)) (h3 : fr[3]? = some (.val v)) (hb : d_law_blamed fu [.lst [.str w, v], .str w, v] st1 = some (.ret (.bl true) st')) :
    notT (tst (callM (d_law_blamed fu) (consA mm (consA (ret (.str w)) (consA (getv 3) (nilA)))))) fr st = some (.ok false fr st') :=
  not_eq (b := true) (tst_eq (call_eq (cons_eq hm (cons_eq rfl (cons_eq (get_eq h3) nil_eq))) hb))
/-! ### the bodies -/
def rfB1 (fu : Nat) : M Fl := seqM (ifM (notT (tst (callM (d_law_same fu 12) (consA (callM (d_law_met fu) (consA (ret (.int 7)) (consA (frzM (lstN (consA (getv 3) (nilA)))) (consA (getv 2) (nilA))))) (consA (frzM (lstN (consA (ret (.str ("told" : Str))) (consA (ret (.bl false)) (nilA))))) (nilA))))))
 (retM (ret (.bl false)))
 (ret .nx))
 (seqM (parM [4, 5] (valR (callM (d_law_pick fu) (consA (getv 0) (consA (frzM (lstN (consA (getv 1) (consA (tupM (nilA)) (consA (ret (.int 5)) (consA (ret .non) (consA (tupM (consA (ret (.int 7)) (nilA))) (nilA)))))))) (nilA)))) (valR (bin addF (ret (.int 1)) (callM (d_law_take fu) (consA (getv 0) (consA (ret (.int 6)) (nilA))))) (nilR))))
 (seqM (ifM (notT (tst (callM (d_law_blamed fu) (consA (callM (d_law_met fu) (consA (getv 5) (consA (frzM (lstN (consA (getv 3) (consA (getv 4) (nilA))))) (consA (getv 2) (nilA))))) (consA (ret (.str ("piece" : Str))) (consA (getv 3) (nilA)))))))
 (retM (ret (.bl false)))
 (ret .nx))
 (setM 2 (notV (getv 2)))))
def P1 (fu n : Nat) (st : SS) (v : D) : Prop := Vk n st v ∧ NoPc fu v
theorem P1_move : ∀ st st' v, P1 fu n st v → (∀ j, v = .obj j → j ≠ n → st'[j]? = st[j]?) → P1 fu n st' v := fun st st' v h hs => ⟨h.1.move fun j nj e => hs j e nj, h.2⟩
theorem rfB1_run (v : D) (m : Nat) (st : SS) (nm : Bool) (s4 s5 : Slot) (h : P1 fu n st v) (hb : Bx n st m) (hm : m ≤ 9000) : ∃ (nm' : Bool) (s4' s5' : Slot) (st' : SS), rfB1 fu (rfF n l nm (.val v) s4 s5) st = some (.ok .nx (rfF n l nm' (.val v) s4' s5') st') ∧ Bx n st' (m + 2) ∧ ∀ i, i ≠ n → v ≠ .obj i → st'[i]? = st[i]? := by
  obtain ⟨o, st1, e1, mo, b1, c1⟩ := e_pick (fu := fu) (ds := [pcD l, .tup [], .int 5, .non, .tup [.int 7]]) hb (by omega) (by simp) (by simp)
  obtain ⟨r, st2, e2, r0, r1, b2, c2⟩ := e_take (fu := fu) (many := 6) b1 (by omega) (by decide) (by decide)
  have c12 := c1.trans c2
  have v2 : Vk n st2 v := h.1.move fun j nj _ => c12.at nj
  obtain ⟨st3, e3, k3, d3, z3⟩ := e_blamed (fu := fu) (w := ("piece" : Str)) v2 (by decide +kernel)
  obtain ⟨k, hk⟩ := h.1.kind
  obtain ⟨k2, hk2⟩ := v2.kind
  have nv : v ≠ .obj n := fun e => z3 n e rfl
  refine ⟨!nm, .val o, .val (.int (1 + r)), st3, ?_, ?_, fun i hi hv => (d3 i hv).trans (c12.at hi)⟩
  · unfold rfB1
    have p1 : parM [4, 5] (valR (callM (d_law_pick fu) (consA (getv 0) (consA (frzM (lstN (consA (getv 1) (consA (tupM (nilA)) (consA (ret (.int 5)) (consA (ret .non) (consA (tupM (consA (ret (.int 7)) (nilA))) (nilA)))))))) (nilA)))) (valR (bin addF (ret (.int 1)) (callM (d_law_take fu) (consA (getv 0) (consA (ret (.int 6)) (nilA))))) (nilR))) (rfF n l nm (.val v) s4 s5) st = some (.ok .nx (rfF n l nm (.val v) (.val o) (.val (.int (1 + r)))) st2) := by
      rw [par_eq (valR_eq (call_eq (cons_eq (get_eq rfl) (cons_eq rfl nil_eq)) e1) (valR_eq (bin_eq rfl (call_eq (cons_eq (get_eq rfl) (cons_eq rfl nil_eq)) e2) s_add) rfl))]
      rfl
    rw [seq_eq (if_nx (sm_eq (mt_eq rfl (ls1 (get_eq rfl)) (get_eq rfl) (me7 (h.2 st k hk))) (tl_eq rfl) (ok_told (.bl 0 false)) (by decide))), seq_eq p1]
    rw [seq_eq (if_nx (bl_eq (mt_eq (get_eq rfl) (ls2 (get_eq rfl) (get_eq rfl)) (get_eq rfl) (mx_piece (by omega) (by omega) (h.2 st2 k2 hk2))) rfl e3))]
    rw [set_eq (nott_eq rfl) (by show 2 < 6; decide)]
    rfl
  · obtain ⟨a, c, k, b, h1, hh⟩ := b2.ex
    exact Bx.mono ⟨a, c, k, b, by rw [d3 n nv]; exact h1, hh⟩ (by omega)
theorem Bx.keep {st st' : SS} (h : Bx n st m) (e : st'[n]? = st[n]?) : Bx n st' m := by
  obtain ⟨a, c, k, b, h1, hh⟩ := h.ex
  exact ⟨a, c, k, b, by rw [e]; exact h1, hh⟩
def rfB2 (fu : Nat) : M Fl := ifM (notT (tst (callM (d_law_blamed fu) (consA (callM (d_law_met fu) (consA (ret (.int 0)) (consA (frzM (lstN (consA (getv 3) (nilA)))) (consA (getv 2) (nilA))))) (consA (ret (.str ("stretches" : Str))) (consA (getv 3) (nilA)))))))
 (retM (ret (.bl false)))
 (ret .nx)
def P2' (fu n : Nat) (st : SS) (v : D) : Prop := Vk n st v ∧ ∀ st' : SS, (∀ j, v = .obj j → st'[j]? = st[j]?) → d_piece_of fu [v] st' = some (.exn 2 v st')
theorem Vk.ne {n : Nat} {st : SS} {v : D} (h : Vk n st v) : ∀ j, v = .obj j → j ≠ n := fun j e => by
  cases h with
  | plain _ k a b c d z => exact absurd e (z j)
  | lst i ds a b c d => cases e; exact a
  | dic i a b => cases e; exact a
theorem P2_move : ∀ st st' v, P2' fu n st v → (∀ j, v = .obj j → j ≠ n → st'[j]? = st[j]?) → P2' fu n st' v := fun st st' v h hs =>
  ⟨h.1.move fun j nj e => hs j e nj, fun s hs' => h.2 s fun j e => (hs' j e).trans (hs j e (h.1.ne j e))⟩
theorem rfB2_run (v : D) (m : Nat) (st : SS) (nm : Bool) (s4 s5 : Slot) (h : P2' fu n st v) (hb : Bx n st m) (hm : m ≤ 9000) : ∃ (nm' : Bool) (s4' s5' : Slot) (st' : SS), rfB2 fu (rfF n l nm (.val v) s4 s5) st = some (.ok .nx (rfF n l nm' (.val v) s4' s5') st') ∧ Bx n st' (m + 2) ∧ ∀ i, i ≠ n → v ≠ .obj i → st'[i]? = st[i]? := by
  obtain ⟨st3, e3, k3, d3, z3⟩ := e_blamed (fu := fu) (w := ("stretches" : Str)) h.1 (by decide +kernel)
  refine ⟨nm, s4, s5, st3, ?_, (hb.keep (d3 n fun e => z3 n e rfl)).mono (by omega), fun i hi hv => d3 i hv⟩
  unfold rfB2
  rw [if_nx (bl_eq (mt_eq rfl (ls1 (get_eq rfl)) (get_eq rfl) (mx_stretches (h.2 st fun _ _ => rfl))) rfl e3)]
def rfB3 (fu : Nat) : M Fl := seqM (ifM (notT (tst (callM (d_law_blamed fu) (consA (callM (d_law_met fu) (consA (ret (.int 5)) (consA (frzM (lstN (consA (getv 1) (consA (getv 3) (nilA))))) (consA (getv 2) (nilA))))) (consA (ret (.str ("place" : Str))) (consA (getv 3) (nilA)))))))
 (retM (ret (.bl false)))
 (ret .nx))
 (ifM (notT (tst (callM (d_law_same fu 12) (consA (callM (d_law_met fu) (consA (ret (.int 6)) (consA (frzM (lstN (consA (getv 1) (consA (getv 3) (nilA))))) (consA (getv 2) (nilA))))) (consA (frzM (lstN (consA (ret (.str ("told" : Str))) (consA (ret (.bl false)) (nilA))))) (nilA))))))
 (retM (ret (.bl false)))
 (ret .nx))
def P3 (fu n : Nat) (st : SS) (v : D) : Prop := Vk n st v ∧ NoPl fu v
theorem P3_move : ∀ st st' v, P3 fu n st v → (∀ j, v = .obj j → j ≠ n → st'[j]? = st[j]?) → P3 fu n st' v := fun st st' v h hs => ⟨h.1.move fun j nj e => hs j e nj, h.2⟩
theorem rfB3_run (hl : Pc l) (v : D) (m : Nat) (st : SS) (nm : Bool) (s4 s5 : Slot) (h : P3 fu n st v) (hb : Bx n st m) (hm : m ≤ 9000) : ∃ (nm' : Bool) (s4' s5' : Slot) (st' : SS), rfB3 fu (rfF n l nm (.val v) s4 s5) st = some (.ok .nx (rfF n l nm' (.val v) s4' s5') st') ∧ Bx n st' (m + 2) ∧ ∀ i, i ≠ n → v ≠ .obj i → st'[i]? = st[i]? := by
  obtain ⟨st3, e3, ⟨k3, hk3⟩, d3, z3⟩ := e_blamed (fu := fu) (w := ("place" : Str)) h.1 (by decide +kernel)
  obtain ⟨k, hk⟩ := h.1.kind
  refine ⟨nm, s4, s5, st3, ?_, (hb.keep (d3 n fun e => z3 n e rfl)).mono (by omega), fun i hi hv => d3 i hv⟩
  unfold rfB3
  rw [seq_eq (if_nx (bl_eq (mt_eq rfl (ls2 (get_eq rfl) (get_eq rfl)) (get_eq rfl) (mx_place (e_check hl.pl hl.len hl.inc) (h.2 st k hk))) rfl e3))]
  rw [if_nx (sm_eq (mt_eq rfl (ls2 (get_eq rfl) (get_eq rfl)) (get_eq rfl) (me6 (x_placeof2 (e_check hl.pl hl.len hl.inc) (h.2 st3 k3 hk3)))) (tl_eq rfl) (ok_told (.bl 0 false)) (by decide))]
def rfB4 (fu : Nat) : M Fl := ifM (notT (tst (callM (d_law_blamed fu) (consA (callM (d_law_met fu) (consA (bin addF (ret (.int 2)) (callM (d_law_take fu) (consA (getv 0) (consA (ret (.int 3)) (nilA))))) (consA (frzM (lstN (consA (getv 1) (consA (getv 3) (nilA))))) (consA (getv 2) (nilA))))) (consA (ret (.str ("piece" : Str))) (consA (getv 3) (nilA)))))))
 (retM (ret (.bl false)))
 (ret .nx)
theorem rfB4_run (hl : Pc l) (v : D) (m : Nat) (st : SS) (nm : Bool) (s4 s5 : Slot) (h : P1 fu n st v) (hb : Bx n st m) (hm : m ≤ 9000) : ∃ (nm' : Bool) (s4' s5' : Slot) (st' : SS), rfB4 fu (rfF n l nm (.val v) s4 s5) st = some (.ok .nx (rfF n l nm' (.val v) s4' s5') st') ∧ Bx n st' (m + 2) ∧ ∀ i, i ≠ n → v ≠ .obj i → st'[i]? = st[i]? := by
  obtain ⟨r, st2, e2, r0, r1, b2, c2⟩ := e_take (fu := fu) (many := 3) hb (by omega) (by decide) (by decide)
  have v2 : Vk n st2 v := h.1.move fun j nj _ => c2.at nj
  obtain ⟨st3, e3, k3, d3, z3⟩ := e_blamed (fu := fu) (w := ("piece" : Str)) v2 (by decide +kernel)
  obtain ⟨k2, hk2⟩ := v2.kind
  refine ⟨nm, s4, s5, st3, ?_, (b2.keep (d3 n fun e => z3 n e rfl)).mono (by omega), fun i hi hv => (d3 i hv).trans (c2.at hi)⟩
  unfold rfB4
  have me : callM (d_law_met fu) (consA (bin addF (ret (.int 2)) (callM (d_law_take fu) (consA (getv 0) (consA (ret (.int 3)) (nilA))))) (consA (frzM (lstN (consA (getv 1) (consA (getv 3) (nilA))))) (consA (getv 2) (nilA)))) (rfF n l nm (.val v) s4 s5) st = some (.ok (.lst [.str ("piece" : Str), v]) (rfF n l nm (.val v) s4 s5) st2) :=
    call_eq (cons_eq (bin_eq rfl (call_eq (cons_eq (get_eq rfl) (cons_eq rfl nil_eq)) e2) s_add) (cons_eq (ls2 (get_eq rfl) (get_eq rfl)) (cons_eq (get_eq rfl) nil_eq))) (mx_piece2 (by omega) (by omega) (e_check hl.pl hl.len hl.inc) (h.2 st2 k2 hk2))
  rw [if_nx (bl_eq me rfl e3)]
end
end DL
end

section
set_option Elab.async false
set_option linter.all false
set_option maxRecDepth 100000
set_option maxHeartbeats 4000000
/-! k06, the plain side, part yf: odd pieces. -/
namespace DL
open PySem PySem.Spec L2
/-! ### plain data that is the same as itself -/
mutual
def okB : Nat → D → Bool
  | _, .non => true
  | _, .bl _ => true
  | _, .int _ => true
  | _, .str s => eqB (.str s) (.str s) == some true
  | n + 1, .tup ds => decide (ds.length ≤ 9000) && okBs n ds
  | n + 1, .lst ds => decide (ds.length ≤ 9000) && okBs n ds
  | _, _ => false
def okBs : Nat → List D → Bool
  | _, [] => true
  | n, d :: ds => okB n d && okBs n ds
end
mutual
theorem okB_ok {st : SS} : ∀ (n : Nat) (d : D), okB n d = true → OkS st n d
  | n, .non, _ => .non n
  | n, .bl b, _ => .bl n b
  | n, .int i, _ => .int n i
  | n, .str s, h => .str n s (by unfold okB at h; exact eq_of_beq h)
  | n + 1, .tup ds, h => by
    unfold okB at h
    rw [Bool.and_eq_true, decide_eq_true_iff] at h
    exact .tup n ds (by omega) (okBs_ok n ds h.2)
  | n + 1, .lst ds, h => by
    unfold okB at h
    rw [Bool.and_eq_true, decide_eq_true_iff] at h
    exact .lst n ds (by omega) (okBs_ok n ds h.2)
  | 0, .tup _, h => by unfold okB at h; cases h
  | 0, .lst _, h => by unfold okB at h; cases h
  | _, .obj _, h => by unfold okB at h; cases h
  | _, .scr _, h => by unfold okB at h; cases h
theorem okBs_ok {st : SS} : ∀ (n : Nat) (ds : List D), okBs n ds = true → ∀ d ∈ ds, OkS st n d
  | n, [], _ => fun d hd => by cases hd
  | n, x :: ds, h => fun d hd => by
    unfold okBs at h
    rw [Bool.and_eq_true] at h
    rcases List.mem_cons.mp hd with e | hd
    · rw [e]; exact okB_ok n x h.1
    · exact okBs_ok n ds h.2 d hd
end
theorem fc {α : Type} {p : α → Prop} {a : α} {l : List α} (h : p a) (t : ∀ x ∈ l, p x) : ∀ x ∈ a :: l, p x := List.forall_mem_cons.mpr ⟨h, t⟩
theorem fn {α : Type} {p : α → Prop} : ∀ x ∈ ([] : List α), p x := fun x h => by cases h
section
variable {fu n m : Nat} {st st1 st' : SS} {l : List P2} {nm : Bool} {v : D}
theorem vk_plain (k : Kd) (hk : ∀ st, kindOf st v = some k) (h1 : isK k .list = false) (h2 : isK k .dict = false) (ok : okB 10 v = true) (ne : objOf v = none) : Vk n st v :=
  .plain v k hk h1 h2 (fun st => okB_ok 10 v ok) fun j e => by rw [e] at ne; cases ne
theorem p1_plain (k : Kd) (hk : ∀ st, kindOf st v = some k) (h1 : isK k .list = false) (h2 : isK k .dict = false) (ok : okB 10 v = true) (ne : objOf v = none) (hp : ∀ st, d_is_piece fu [v] st = some (.ret (.bl false) st)) : P1 fu n st v :=
  ⟨vk_plain k hk h1 h2 ok ne, fun st _ _ => hp st⟩
theorem p1_lst {j : Nat} {ds : List D} (hj : j ≠ n) (h : st[j]? = some (.lst ds)) (hl : ds.length ≤ 9000) (ok : okBs 9 ds = true) : P1 fu n st (.obj j) := ⟨.lst j ds hj h hl fun d hd st => okBs_ok 9 ds ok d hd, nopc_obj j⟩
theorem p1_dic {j : Nat} (hj : j ≠ n) (h : st[j]? = some (.dic [])) : P1 fu n st (.obj j) := ⟨.dic j hj h, nopc_obj j⟩
/-! ### a piece with a stretch more -/
theorem up_inc : ∀ {W : List Q}, (∀ q ∈ W, Pl q) → incQ W = true → Up W
  | [], _, _ => List.Pairwise.nil
  | [a], _, _ => List.pairwise_singleton _ _
  | a :: b :: W, h, e => by
    unfold incQ at e
    rw [Bool.and_eq_true] at e
    have i := up_inc (fun q hq => h q (List.mem_cons_of_mem _ hq)) e.2
    have lt : vv a < vv b := by
      have z := e.1
      rw [ltQ_vv (h a List.mem_cons_self) (h b (List.mem_cons_of_mem _ List.mem_cons_self))] at z
      exact of_decide_eq_true z
    refine List.pairwise_cons.mpr ⟨fun q hq => ?_, i⟩
    rcases List.mem_cons.mp hq with rfl | hq
    · exact lt
    · have := (List.pairwise_cons.mp i).1 q hq
      omega
theorem dup_not (h : Pc l) {z : P2} (hz : z ∈ l) : incQ (flatQ (l ++ [z])) = false := by
  cases e : incQ (flatQ (l ++ [z])) with
  | false => rfl
  | true =>
    have pl : PlP (l ++ [z]) := fun p hp => by
      rcases List.mem_append.mp hp with m | m
      · exact h.pl p m
      · rw [List.mem_singleton.mp m]; exact h.pl z hz
    have u := (up_iff.mp (up_inc pl.flat e)).2
    have a := (List.pairwise_append.mp u).2.2 z hz z (by simp)
    have b := h.lt z hz
    omega
theorem p1_dup (h : Pc l) {z : P2} (hz : z ∈ l) (hl : l.length ≤ 8000) : P1 fu n st (pcD (l ++ [z])) := by
  have pl : PlP (l ++ [z]) := fun p hp => by
    rcases List.mem_append.mp hp with m | m
    · exact h.pl p m
    · rw [List.mem_singleton.mp m]; exact h.pl z hz
  refine ⟨.plain _ .tup (fun _ => rfl) rfl rfl (fun st => ok_pc (n := 7) (by rw [List.length_append, List.length_singleton]; omega)) (fun j e => by cases e), fun st _ _ => ?_⟩
  rw [e_ispiece pl (by rw [List.length_append, List.length_singleton]; omega), dup_not h hz]
theorem p1_pr (p : P2) : P1 fu n st (prD p) := by
  obtain ⟨⟨a, b⟩, ⟨c, d⟩⟩ := p
  exact p1_plain .tup (fun _ => rfl) rfl rfl rfl rfl fun _ => rfl
/-! ### the list of odd pieces -/
def prX (a b c d : Int) : D := prD ((a, b), (c, d))
def oddX (a b : Nat) : List D := [.non, .int 5, .bl true, .str ("piece" : Str), .obj a, .obj b, prX 0 1 1 2, .tup [prX 0 1 1 2, prX 1 2 1 1], .tup [prX 1 2 1 1, prX 0 1 1 2], .tup [prX 0 1 1 1, prX 0 1 1 1], .tup [prX 1 2 1 2]]
def oddY : List D := [.tup [prX 1 2 0 1], .tup [prX 0 1 2 2], .tup [prX 0 1 3 2], .tup [prX (-1) 2 1 2], .tup [frD (0, 1)], .tup [.tup [frD (0, 1), frD (1, 2), frD (1, 1)]], .tup [.lst [frD (0, 1), frD (1, 2)]]]
def oddZ : List D := [prX 0 1 1 1, .tup [.tup [frD (0, 1), .int 1]], .tup [.tup [.tup [.int 0, .bl true], frD (1, 1)]], .tup [.tup [frD (0, 1), .tup [.bl true, .int 1]]], .tup [.tup [frD (0, 1), .tup [.int 1, .int 1, .int 1]]], .tup [.non], .tup [.tup []], .tup [prX 0 1 1 2, .int 7], .tup [.tup [frD (0, 1), .lst [.int 1, .int 1]]]]
theorem p1_X {a b : Nat} (ha : a ≠ n) (hb : b ≠ n) (h1 : st[a]? = some (.lst [prX 0 1 1 2])) (h2 : st[b]? = some (.dic [])) : ∀ v ∈ oddX a b, P1 fu n st v :=
  (fc (p1_plain .non (fun _ => rfl) rfl rfl rfl rfl fun _ => rfl) (fc (p1_plain .int (fun _ => rfl) rfl rfl rfl rfl fun _ => rfl) (fc (p1_plain .bl (fun _ => rfl) rfl rfl rfl rfl fun _ => rfl) (fc (p1_plain .str (fun _ => rfl) rfl rfl (by decide +kernel) rfl fun _ => rfl) (fc (p1_lst ha h1 (by decide) rfl) (fc (p1_dic hb h2) (fc (p1_plain .tup (fun _ => rfl) rfl rfl rfl rfl fun _ => rfl) (fc (p1_plain .tup (fun _ => rfl) rfl rfl rfl rfl fun _ => rfl) (fc (p1_plain .tup (fun _ => rfl) rfl rfl rfl rfl fun _ => rfl) (fc (p1_plain .tup (fun _ => rfl) rfl rfl rfl rfl fun _ => rfl) (fc (p1_plain .tup (fun _ => rfl) rfl rfl rfl rfl fun _ => rfl) fn)))))))))))
theorem p1_Y : ∀ v ∈ oddY, P1 fu n st v :=
  (fc (p1_plain .tup (fun _ => rfl) rfl rfl rfl rfl fun _ => rfl) (fc (p1_plain .tup (fun _ => rfl) rfl rfl rfl rfl fun _ => rfl) (fc (p1_plain .tup (fun _ => rfl) rfl rfl rfl rfl fun _ => rfl) (fc (p1_plain .tup (fun _ => rfl) rfl rfl rfl rfl fun _ => rfl) (fc (p1_plain .tup (fun _ => rfl) rfl rfl rfl rfl fun _ => rfl) (fc (p1_plain .tup (fun _ => rfl) rfl rfl rfl rfl fun _ => rfl) (fc (p1_plain .tup (fun _ => rfl) rfl rfl rfl rfl fun _ => rfl) fn)))))))
theorem p1_Z : ∀ v ∈ oddZ, P1 fu n st v :=
  (fc (p1_plain .tup (fun _ => rfl) rfl rfl rfl rfl fun _ => rfl) (fc (p1_plain .tup (fun _ => rfl) rfl rfl rfl rfl fun _ => rfl) (fc (p1_plain .tup (fun _ => rfl) rfl rfl rfl rfl fun _ => rfl) (fc (p1_plain .tup (fun _ => rfl) rfl rfl rfl rfl fun _ => rfl) (fc (p1_plain .tup (fun _ => rfl) rfl rfl rfl rfl fun _ => rfl) (fc (p1_plain .tup (fun _ => rfl) rfl rfl rfl rfl fun _ => rfl) (fc (p1_plain .tup (fun _ => rfl) rfl rfl rfl rfl fun _ => rfl) (fc (p1_plain .tup (fun _ => rfl) rfl rfl rfl rfl fun _ => rfl) (fc (p1_plain .tup (fun _ => rfl) rfl rfl rfl rfl fun _ => rfl) fn)))))))))
theorem ne_nil : neF st (pcD l) (.tup []) = some (.bl (!decide (l = []))) := by
  unfold neF
  rw [eqB_ok (n := 4) (m := 4) (okD_pc (l := l)) rfl (by decide) (by decide), show sameD (pcD l) (.tup []) = decide (l = []) from same_pc (l := l) (l' := [])]
theorem cut_last {α : Type} (F : List α) (z : α) : cutL (F ++ [z]) (some (-1)) none = [z] := by
  have ln : (F ++ [z]).length = F.length + 1 := by simp
  have e : HT.sIx (F ++ [z]).length 0 (some (-1)) = F.length := by
    show (if (-1 : Int) < 0 then ((-1 : Int) + ((F ++ [z]).length : Int)).toNat else min (-1 : Int).toNat (F ++ [z]).length) = _
    rw [if_pos (by decide), ln]
    omega
  unfold cutL
  rw [e, show HT.sIx (F ++ [z]).length (F ++ [z]).length none = (F ++ [z]).length from rfl, ln, List.drop_append_of_le_length (Nat.le_refl _), List.drop_length]
  simp
theorem cut_first {α : Type} (a : α) (l : List α) : cutL (a :: l) none (some 1) = [a] := by
  show ((a :: l).drop (HT.sIx (l.length + 1) 0 none)).take (HT.sIx (l.length + 1) (l.length + 1) (some ((1 : Nat) : Int)) - HT.sIx (l.length + 1) 0 none) = [a]
  rw [HT.sIx_nat, show HT.sIx (l.length + 1) 0 none = 0 from rfl, Nat.min_eq_left (show 1 ≤ l.length + 1 by omega)]
  simp
theorem e_oddp (h : Pc l) (hl : l.length ≤ 1000) (hn : n < st.length) : ∃ (vs : List D) (st' : SS), d_law_odd_pieces fu [pcD l] st = some (.ret (.lst vs) st') ∧ (∀ v ∈ vs, P1 fu n st' v) ∧ (vs.filterMap objOf).Nodup ∧ vs.length ≤ 40 ∧ ∀ i, i < st.length → st'[i]? = st[i]? := by
  have key : ∀ (fr1 : Fr) (vs : List D) (st' : SS), ifM (tst (bin neF (getv 0) (tupM (nilA))))
      (setM 3 (bin addF (getv 3) (frzM (lstN (consA (labM (un1N itemsS (peekv 0))) (consA (bin addF (getv 0) (sl3 (getv 0) (someO (un1 negF (ret (.int 1)))) (noneO))) (consA (bin addF (getv 0) (sl3 (getv 0) (noneO) (someO (ret (.int 1))))) (consA (bin ixA (getv 0) (ret (.int 0))) (nilA)))))))))
      (ret .nx) [.val (pcD l), .val (prX 0 1 1 2), .val (prX 0 1 1 1), .val (.lst (oddX st.length (st ++ [Ob.lst [prX 0 1 1 2]]).length ++ oddY ++ oddZ))] ((st ++ [Ob.lst [prX 0 1 1 2]]) ++ [Ob.dic []]) = some (.ok .nx [.val (pcD l), .val (prX 0 1 1 2), .val (prX 0 1 1 1), .val (.lst vs)] st') → d_law_odd_pieces fu [pcD l] st = some (.ret (.lst vs) st') := fun fr1 vs st' e => by
    refine run_ret (fr := [.val (pcD l), .val (prX 0 1 1 2), .val (prX 0 1 1 1), .val (.lst vs)]) rfl ?_
    show m_law_odd_pieces fu [.val (pcD l), .none, .none, .none] st = _
    unfold m_law_odd_pieces
    refine (seq_eq (fr1 := [.val (pcD l), .val (prX 0 1 1 2), .val (prX 0 1 1 1), .none]) (st1 := st) ?_).trans ?_
    · rfl
    refine (seq_eq (fr1 := [.val (pcD l), .val (prX 0 1 1 2), .val (prX 0 1 1 1), .val (.lst (oddX st.length (st ++ [Ob.lst [prX 0 1 1 2]]).length))]) (st1 := (st ++ [Ob.lst [prX 0 1 1 2]]) ++ [Ob.dic []]) ?_).trans ?_
    · rfl
    refine (seq_eq (fr1 := [.val (pcD l), .val (prX 0 1 1 2), .val (prX 0 1 1 1), .val (.lst (oddX st.length (st ++ [Ob.lst [prX 0 1 1 2]]).length ++ oddY))]) (st1 := (st ++ [Ob.lst [prX 0 1 1 2]]) ++ [Ob.dic []]) ?_).trans ?_
    · rfl
    refine (seq_eq (fr1 := [.val (pcD l), .val (prX 0 1 1 2), .val (prX 0 1 1 1), .val (.lst (oddX st.length (st ++ [Ob.lst [prX 0 1 1 2]]).length ++ oddY ++ oddZ))]) (st1 := (st ++ [Ob.lst [prX 0 1 1 2]]) ++ [Ob.dic []]) ?_).trans ?_
    · rfl
    rw [seq_eq e]
    rfl
  have ln1 : (st ++ [Ob.lst [prX 0 1 1 2]]).length = st.length + 1 := by simp
  have g1 : ((st ++ [Ob.lst [prX 0 1 1 2]]) ++ [Ob.dic []])[st.length]? = some (.lst [prX 0 1 1 2]) := by simp
  have g2 : ((st ++ [Ob.lst [prX 0 1 1 2]]) ++ [Ob.dic []])[st.length + 1]? = some (.dic []) := by simp
  have nx : (oddX st.length (st.length + 1)).filterMap objOf = [st.length, st.length + 1] := rfl
  have ny : oddY.filterMap objOf = [] := rfl
  have nz : oddZ.filterMap objOf = [] := rfl
  rw [ln1] at key
  have t : tst (bin neF (getv 0) (tupM (nilA))) [.val (pcD l), .val (prX 0 1 1 2), .val (prX 0 1 1 1), .val (.lst (oddX st.length (st.length + 1) ++ oddY ++ oddZ))] ((st ++ [Ob.lst [prX 0 1 1 2]]) ++ [Ob.dic []]) = some (.ok (!decide (l = [])) [.val (pcD l), .val (prX 0 1 1 2), .val (prX 0 1 1 1), .val (.lst (oddX st.length (st.length + 1) ++ oddY ++ oddZ))] ((st ++ [Ob.lst [prX 0 1 1 2]]) ++ [Ob.dic []])) :=
    tst_eq (bin_eq (get_eq rfl) rfl ne_nil)
  rcases List.eq_nil_or_concat l with rfl | ⟨F, z, rfl⟩
  · refine ⟨_, _, key [] _ _ (if_nx t), fun v hv => ?_, ?_, ?_, fun i hi => ?_⟩
    · rcases List.mem_append.mp hv with hv | hv
      · rcases List.mem_append.mp hv with hv | hv
        · exact p1_X (by omega) (by omega) g1 g2 v hv
        · exact p1_Y v hv
      · exact p1_Z v hv
    · rw [List.filterMap_append, List.filterMap_append, nx, ny, nz]
      simp
    · show 27 ≤ 40
      decide
    · rw [List.getElem?_append_left (by simp; omega), List.getElem?_append_left hi]
  · rw [List.concat_eq_append] at *
    obtain ⟨p0, rest, e0⟩ : ∃ p0 rest, F ++ [z] = p0 :: rest := by
      cases F with
      | nil => exact ⟨z, [], rfl⟩
      | cons a F => exact ⟨a, F ++ [z], rfl⟩
    have t' : tst (bin neF (getv 0) (tupM (nilA))) [.val (pcD (F ++ [z])), .val (prX 0 1 1 2), .val (prX 0 1 1 1), .val (.lst (oddX st.length (st.length + 1) ++ oddY ++ oddZ))] ((st ++ [Ob.lst [prX 0 1 1 2]]) ++ [Ob.dic []]) = some (.ok true [.val (pcD (F ++ [z])), .val (prX 0 1 1 2), .val (prX 0 1 1 1), .val (.lst (oddX st.length (st.length + 1) ++ oddY ++ oddZ))] ((st ++ [Ob.lst [prX 0 1 1 2]]) ++ [Ob.dic []])) := by rw [t]; simp
    have ln2 : ((st ++ [Ob.lst [prX 0 1 1 2]]) ++ [Ob.dic []]).length = st.length + 2 := by simp
    have len6 : (F ++ [z]).length ≤ 1000 := hl
    have sl1 : ∀ fr (st : SS), fr[0]? = some (.val (pcD (F ++ [z]))) → bin addF (getv 0) (sl3 (getv 0) (someO (un1 negF (ret (.int 1)))) (noneO)) fr st = some (.ok (pcD ((F ++ [z]) ++ [z])) fr st) := fun fr st h0 => by
      refine bin_eq (get_eq h0) (sl3_eq (r := .tup [prD z]) (get_eq h0) (some_eq rfl) rfl ?_) ?_
      · show some (D.tup (cutL ((F ++ [z]).map prD) (some (-1)) none)) = _
        rw [List.map_append, List.map_cons, List.map_nil, cut_last]
      · show addF st (.tup ((F ++ [z]).map prD)) (.tup [prD z]) = _
        rw [s_catT (small_of (by rw [List.length_map]; simp at len6 ⊢; omega))]
        unfold pcD
        rw [List.map_append (l₁ := F ++ [z])]
        rfl
    have sl2 : ∀ fr (st : SS), fr[0]? = some (.val (pcD (F ++ [z]))) → bin addF (getv 0) (sl3 (getv 0) (noneO) (someO (ret (.int 1)))) fr st = some (.ok (pcD ((F ++ [z]) ++ [p0])) fr st) := fun fr st h0 => by
      refine bin_eq (get_eq h0) (sl3_eq (r := .tup [prD p0]) (get_eq h0) rfl (some_eq rfl) ?_) ?_
      · show some (D.tup (cutL ((F ++ [z]).map prD) none (some 1))) = _
        rw [e0, List.map_cons, cut_first]
      · show addF st (.tup ((F ++ [z]).map prD)) (.tup [prD p0]) = _
        rw [s_catT (small_of (by rw [List.length_map]; simp at len6 ⊢; omega))]
        unfold pcD
        rw [List.map_append (l₁ := F ++ [z])]
        rfl
    have i0 : ∀ fr (st : SS), fr[0]? = some (.val (pcD (F ++ [z]))) → bin ixA (getv 0) (ret (.int 0)) fr st = some (.ok (prD p0) fr st) := fun fr st h0 => bin_eq (get_eq h0) rfl (ix_nat 0 (l := (F ++ [z]).map prD) (.inl rfl) (by rw [e0]; rfl))
    have lb : ∀ fr (st : SS), fr[0]? = some (.val (pcD (F ++ [z]))) → labM (un1N itemsS (peekv 0)) fr st = some (.ok (.obj st.length) fr (st ++ [Ob.lst ((F ++ [z]).map prD)])) := fun fr st h0 => by
      unfold labM
      rw [bnd_eq (show un1N itemsS (peekv 0) fr st = some (.ok ((F ++ [z]).map prD) fr st) by unfold un1N; rw [bnd_eq (peek_eq h0)]; rfl)]
    have mz : z ∈ F ++ [z] := by simp
    have m0 : p0 ∈ F ++ [z] := by rw [e0]; exact List.mem_cons_self
    refine ⟨oddX st.length (st.length + 1) ++ oddY ++ oddZ ++ [.obj (st.length + 2), pcD ((F ++ [z]) ++ [z]), pcD ((F ++ [z]) ++ [p0]), prD p0], ((st ++ [Ob.lst [prX 0 1 1 2]]) ++ [Ob.dic []]) ++ [Ob.lst ((F ++ [z]).map prD)], key [] _ _ ?_, fun v hv => ?_, ?_, ?_, fun i hi => ?_⟩
    · rw [if_t t']
      refine (set_eq (d := .lst (oddX st.length (st.length + 1) ++ oddY ++ oddZ ++ [.obj (st.length + 2), pcD ((F ++ [z]) ++ [z]), pcD ((F ++ [z]) ++ [p0]), prD p0])) (fr1 := [.val (pcD (F ++ [z])), .val (prX 0 1 1 2), .val (prX 0 1 1 1), .val (.lst (oddX st.length (st.length + 1) ++ oddY ++ oddZ))]) (st1 := ((st ++ [Ob.lst [prX 0 1 1 2]]) ++ [Ob.dic []]) ++ [Ob.lst ((F ++ [z]).map prD)]) ?_ (by show 3 < 4; decide)).trans ?_
      · refine bin_eq (get_eq rfl) (frz_eq (lst_eq (cons_eq (lb _ _ rfl) (cons_eq (sl1 _ _ rfl) (cons_eq (sl2 _ _ rfl) (cons_eq (i0 _ _ rfl) nil_eq)))) rfl)) ?_
        rw [ln2, s_catL rfl]
      · rfl
    · rcases List.mem_append.mp hv with hv | hv
      · have g1' : (((st ++ [Ob.lst [prX 0 1 1 2]]) ++ [Ob.dic []]) ++ [Ob.lst ((F ++ [z]).map prD)])[st.length]? = some (.lst [prX 0 1 1 2]) := by simp
        have g2' : (((st ++ [Ob.lst [prX 0 1 1 2]]) ++ [Ob.dic []]) ++ [Ob.lst ((F ++ [z]).map prD)])[st.length + 1]? = some (.dic []) := by simp
        rcases List.mem_append.mp hv with hv | hv
        · rcases List.mem_append.mp hv with hv | hv
          · exact p1_X (by omega) (by omega) g1' g2' v hv
          · exact p1_Y v hv
        · exact p1_Z v hv
      · have g3' : (((st ++ [Ob.lst [prX 0 1 1 2]]) ++ [Ob.dic []]) ++ [Ob.lst ((F ++ [z]).map prD)])[st.length + 2]? = some (.lst ((F ++ [z]).map prD)) := by simp
        rcases List.mem_cons.mp hv with rfl | hv
        · exact ⟨.lst _ _ (by omega) g3' (by rw [List.length_map]; omega) fun d hd st => ok_prs (n := 7) _ d hd, nopc_obj _⟩
        rcases List.mem_cons.mp hv with rfl | hv
        · exact p1_dup h mz (by omega)
        rcases List.mem_cons.mp hv with rfl | hv
        · exact p1_dup h m0 (by omega)
        rw [List.mem_singleton.mp hv]
        exact p1_pr p0
    · rw [List.filterMap_append, List.filterMap_append, List.filterMap_append, nx, ny, nz]
      have : [D.obj (st.length + 2), pcD ((F ++ [z]) ++ [z]), pcD ((F ++ [z]) ++ [p0]), prD p0].filterMap objOf = [st.length + 2] := rfl
      rw [this]
      simp
    · rw [List.length_append]
      show 27 + 4 ≤ 40
      decide
    · rw [List.getElem?_append_left (by simp; omega), List.getElem?_append_left (by simp; omega), List.getElem?_append_left hi]
end
end DL
end

section
set_option Elab.async false
set_option linter.all false
set_option maxRecDepth 100000
set_option maxHeartbeats 4000000
/-! k06, the plain side, part yg: odd stretches. -/
namespace DL
open PySem PySem.Spec L2
section
variable {fu n m : Nat} {st st1 st' : SS} {v : D}
theorem fr4 (v : D) : [Slot.val v, .none, .none, .none].length = 4 := rfl
/-- some item is no pair -/
theorem po_pair {ds : List D} {w : Wt} {pB : D → Bool} (hi : isiF [.list, .tuple] st v = some (.bl true)) (hW : seqW (getv 0) [.val v, .none, .none, .none] st = some (.ok (ds, w) [.val v, .none, .none, .none] st)) (hk : keep [3] w ds [.val v, .none, .none, .none] st = true)
    (hp : ∀ d ∈ ds, d_is_pair fu [d] st = some (.ret (.bl (pB d)) st)) (ha : (ds.map pB).all _root_.id = false) (hl : ds.length ≤ 1000) : d_piece_of fu [v] st = some (.exn 2 v st) := by
  have c := compM_pure (f := fun d : D => d) (vs := [3]) (g := .nm 3) (t := ret true) (e := callM (d_is_pair fu) (consA (getv 3) nilA)) (p := fun _ => true) (q := fun d => .bl (pB d)) (xs := ds) (w := w) (mi := seqW (getv 0)) (fr := [.val v, .none, .none, .none]) (fr1 := [.val v, .none, .none, .none]) (st := st) (st1 := st)
    (by rw [List.map_id']; exact hW) (by rw [List.map_id']; exact hk) (fun d hd => ⟨[.val v, .none, .none, .val d], _, rfl, rfl, (fun z => by cases z), fun _ => ⟨_, call_eq (cons_eq (get_eq rfl) nil_eq) (hp d hd), rfl⟩⟩) (by omega)
  rw [List.filter_eq_self.mpr (fun _ _ => rfl)] at c
  have t1 : tst (callM (d_is_list fu) (consA (getv 0) nilA)) [.val v, .none, .none, .none] st = some (.ok true [.val v, .none, .none, .none] st) := by
    refine tst_eq (call_eq (cons_eq (get_eq rfl) nil_eq) (run_ret (fr := [.val v]) rfl ?_))
    exact ret_eq (un1_eq (get_eq (d := v) rfl) hi)
  have t2 : tst (un1 allF (frzM (compM [3] (seqW (getv 0)) (.nm 3) (ret true) (callM (d_is_pair fu) (consA (getv 3) nilA))))) [.val v, .none, .none, .none] st = some (.ok false [.val v, .none, .none, .none] st) := by
    refine tst_eq (un1_eq (frz_eq c) ?_)
    simp only [allF, boolsD_map pB ds, ha]
  refine run_ex (fr := [.val v, .none, .none, .none]) rfl ?_
  show m_piece_of fu [.val v, .none, .none, .none] st = _
  unfold m_piece_of
  refine seq_ex ?_
  rw [if_t (show orT _ _ [.val v, .none, .none, .none] st = some (.ok true [.val v, .none, .none, .none] st) by rw [or_f (not_eq t1)]; exact not_eq t2)]
  unfold raiseM
  rw [bnd_eq (get_eq rfl)]
/-- all items are pairs of places, one of them the wrong way -/
theorem po_desc {ds : List P2} {w : Wt} (hi : isiF [.list, .tuple] st v = some (.bl true)) (hW : seqW (getv 0) [.val v, .none, .none, .none] st = some (.ok (ds.map prD, w) [.val v, .none, .none, .none] st)) (hk : keep [3] w (ds.map prD) [.val v, .none, .none, .none] st = true) (hk2 : keep [1, 2] w (ds.map prD) [.val v, .none, .none, .none] st = true)
    (hp : ∀ p ∈ ds, Pl p.1 ∧ Pl p.2) (ha : (ds.map fun p => ltQ p.2 p.1).any _root_.id = true) (hl : ds.length ≤ 1000) : d_piece_of fu [v] st = some (.exn 2 v st) := by
  have c := compM_pure (f := prD) (vs := [3]) (g := .nm 3) (t := ret true) (e := callM (d_is_pair fu) (consA (getv 3) nilA)) (p := fun _ => true) (q := fun _ => .bl true) (xs := ds) hW hk (fun p hpp => ⟨[.val v, .none, .none, .val (prD p)], _, rfl, rfl, (fun z => by cases z), fun _ => ⟨_, call_eq (cons_eq (get_eq rfl) nil_eq) (e_pair (hp p hpp).1 (hp p hpp).2), rfl⟩⟩) (by omega)
  rw [List.filter_eq_self.mpr (fun _ _ => rfl)] at c
  have a2 := compM_pure (f := prD) (vs := [1, 2]) (g := .tup [(.nm 1), (.nm 2)]) (t := ret true) (e := bin gtF (callM (d_order_of fu) (consA (getv 1) (consA (getv 2) nilA))) (ret (.int 0))) (p := fun _ => true) (q := fun p : P2 => .bl (ltQ p.2 p.1)) (xs := ds) hW hk2 (fun p hpp =>
    ⟨[.val v, .val (frD p.1), .val (frD p.2), .none], _, rfl, rfl, (fun z => by cases z), fun _ => ⟨[.val v, .val (frD p.1), .val (frD p.2), .none], (by
      refine bin_eq (call_eq (cons_eq (get_eq rfl) (cons_eq (get_eq rfl) nil_eq)) (e_order (hp p hpp).1 (hp p hpp).2)) rfl ?_
      rw [s_gt, cmp_pos (hp p hpp).1 (hp p hpp).2]), rfl⟩⟩) (by omega)
  rw [List.filter_eq_self.mpr (fun _ _ => rfl)] at a2
  have t1 : tst (callM (d_is_list fu) (consA (getv 0) nilA)) [.val v, .none, .none, .none] st = some (.ok true [.val v, .none, .none, .none] st) := by
    refine tst_eq (call_eq (cons_eq (get_eq rfl) nil_eq) (run_ret (fr := [.val v]) rfl ?_))
    exact ret_eq (un1_eq (get_eq (d := v) rfl) hi)
  have t2 : tst (un1 allF (frzM (compM [3] (seqW (getv 0)) (.nm 3) (ret true) (callM (d_is_pair fu) (consA (getv 3) nilA))))) [.val v, .none, .none, .none] st = some (.ok true [.val v, .none, .none, .none] st) := by
    refine tst_eq (un1_eq (frz_eq c) ?_)
    simp only [allF, boolsD_map (fun _ : P2 => true) ds, all_true]
  have t3 : tst (un1 anyF (frzM (compM [1, 2] (seqW (getv 0)) (.tup [(.nm 1), (.nm 2)]) (ret true) (bin gtF (callM (d_order_of fu) (consA (getv 1) (consA (getv 2) nilA))) (ret (.int 0)))))) [.val v, .none, .none, .none] st = some (.ok true [.val v, .none, .none, .none] st) := by
    refine tst_eq (un1_eq (frz_eq a2) ?_)
    simp only [anyF, boolsD_map (fun p : P2 => ltQ p.2 p.1) ds, ha]
  refine run_ex (fr := [.val v, .none, .none, .none]) rfl ?_
  show m_piece_of fu [.val v, .none, .none, .none] st = _
  unfold m_piece_of
  rw [seq_eq (if_nx (show orT _ _ [.val v, .none, .none, .none] st = some (.ok false [.val v, .none, .none, .none] st) by rw [or_f (not_eq t1)]; exact not_eq t2))]
  refine seq_ex ?_
  rw [if_t t3]
  unfold raiseM
  rw [bnd_eq (get_eq rfl)]
theorem po_dic {j : Nat} (h : kindOf st (.obj j) = some .dic) : d_piece_of fu [.obj j] st = some (.exn 2 (.obj j) st) := by
  have t1 : tst (callM (d_is_list fu) (consA (getv 0) nilA)) [.val (.obj j), .none, .none, .none] st = some (.ok false [.val (.obj j), .none, .none, .none] st) := by
    refine tst_eq (call_eq (cons_eq (get_eq rfl) nil_eq) (run_ret (fr := [.val (.obj j)]) rfl ?_))
    exact ret_eq (un1_eq (get_eq (d := .obj j) rfl) (isi h))
  refine run_ex (fr := [.val (.obj j), .none, .none, .none]) rfl ?_
  show m_piece_of fu [.val (.obj j), .none, .none, .none] st = _
  unfold m_piece_of
  refine seq_ex ?_
  rw [if_t (or_t (not_eq t1))]
  unfold raiseM
  rw [bnd_eq (get_eq rfl)]
theorem obj_W {j : Nat} {ds : List D} (h : st[j]? = some (.lst ds)) : seqW (getv 0) [.val (.obj j), .none, .none, .none] st = some (.ok (ds, .ob j) [.val (.obj j), .none, .none, .none] st) := by
  unfold seqW
  rw [bnd_eq (get_eq rfl)]
  simp only [h]
theorem obj_keep {j : Nat} {ds : List D} {vs : List Nat} {fr : Fr} (h : st[j]? = some (.lst ds)) (hs : sameS ds ds = true) : keep vs (.ob j) ds fr st = true := by
  unfold keep
  simp only [h, hs]
theorem obj_isi {j : Nat} {ds : List D} (h : st[j]? = some (.lst ds)) : isiF [.list, .tuple] st (.obj j) = some (.bl true) := isi (k := .lst) (by simp only [kindOf, h])
/-! ### as the loop wants them -/
theorem p2_plain (k : Kd) (hk : ∀ st, kindOf st v = some k) (h1 : isK k .list = false) (h2 : isK k .dict = false) (ok : okB 10 v = true) (ne : objOf v = none) (hp : ∀ st, d_piece_of fu [v] st = some (.exn 2 v st)) : P2' fu n st v :=
  ⟨vk_plain k hk h1 h2 ok ne, fun st' _ => hp st'⟩
theorem p2_dic {j : Nat} (hj : j ≠ n) (h : st[j]? = some (.dic [])) : P2' fu n st (.obj j) :=
  ⟨.dic j hj h, fun st' hs => po_dic (by simp only [kindOf, hs j rfl, h])⟩
theorem p2_one {j : Nat} {ds : List D} {pB : D → Bool} (hj : j ≠ n) (h : st[j]? = some (.lst ds)) (ok : okBs 9 ds = true) (hs : sameS ds ds = true) (hl : ds.length ≤ 10) (hp : ∀ d ∈ ds, ∀ st, d_is_pair fu [d] st = some (.ret (.bl (pB d)) st)) (ha : (ds.map pB).all _root_.id = false) : P2' fu n st (.obj j) :=
  ⟨.lst j ds hj h (by omega) fun d hd st => okBs_ok 9 ds ok d hd, fun st' e => by
    have h' : st'[j]? = some (.lst ds) := by rw [e j rfl]; exact h
    exact po_pair (obj_isi h') (obj_W h') (obj_keep h' hs) (fun d hd => hp d hd st') ha (by omega)⟩
def back : P2 := ((1, 2), (0, 1))
theorem pl12 : Pl ((1, 2) : Q) := ⟨by decide, by decide, by decide, by decide, by decide⟩
theorem p2_back {j : Nat} (hj : j ≠ n) (h : st[j]? = some (.lst [prX 1 2 0 1])) : P2' fu n st (.obj j) :=
  ⟨.lst j _ hj h (by decide) fun d hd st => okBs_ok 9 [prX 1 2 0 1] rfl d hd, fun st' e => by
    have h' : st'[j]? = some (.lst [prX 1 2 0 1]) := by rw [e j rfl]; exact h
    exact po_desc (ds := [((1, 2), (0, 1))]) (obj_isi h') (obj_W h') (obj_keep h' rfl) (obj_keep h' rfl) (fun p hp => by rw [List.mem_singleton.mp hp]; exact ⟨pl12, pl01⟩) rfl (by decide)⟩
theorem p2_tup : P2' fu n st (.tup [prX 1 2 0 1]) := p2_plain .tup (fun _ => rfl) rfl rfl rfl rfl fun st =>
  po_desc (ds := [((1, 2), (0, 1))]) rfl rfl rfl rfl (fun p hp => by rw [List.mem_singleton.mp hp]; exact ⟨pl12, pl01⟩) rfl (by decide)
def odO : List Ob := [Ob.dic [], Ob.lst [.non], Ob.lst [.int 5], Ob.lst [.tup []], Ob.lst [.tup [frD (0, 1)]], Ob.lst [prX 1 2 0 1], Ob.lst [prX 0 1 3 2], Ob.lst [prX 0 1 2 4], Ob.lst [prX (-1) 1 1 1], Ob.lst [prX 0 1 1 1, .int 7], Ob.lst [.lst [frD (0, 1), frD (1, 1)]], Ob.lst [.tup [frD (0, 1), frD (1, 1), frD (1, 1)]], Ob.lst [.tup [.tup [.int 0, .bl true], frD (1, 1)]], Ob.lst [.tup [frD (0, 1), .lst [.int 1, .int 1]]]]
def odV (a : Nat) : List D := [.non, .int 5, .str ("some" : Str), .obj (a + 0), .obj (a + 1), .obj (a + 2), .obj (a + 3), .obj (a + 4), .obj (a + 5), .obj (a + 6), .obj (a + 7), .obj (a + 8), .obj (a + 9), .obj (a + 10), .obj (a + 11), .obj (a + 12), .obj (a + 13), .tup [prX 1 2 0 1], .bl true]
theorem e_odds0 : d_law_odd_stretches fu [] st = some (.ret (.lst [.non, .int 5, .str ("some" : Str), .obj st.length, .obj (st ++ [Ob.dic []]).length, .obj ((st ++ [Ob.dic []]) ++ [Ob.lst [.non]]).length, .obj (((st ++ [Ob.dic []]) ++ [Ob.lst [.non]]) ++ [Ob.lst [.int 5]]).length, .obj ((((st ++ [Ob.dic []]) ++ [Ob.lst [.non]]) ++ [Ob.lst [.int 5]]) ++ [Ob.lst [.tup []]]).length, .obj (((((st ++ [Ob.dic []]) ++ [Ob.lst [.non]]) ++ [Ob.lst [.int 5]]) ++ [Ob.lst [.tup []]]) ++ [Ob.lst [.tup [frD (0, 1)]]]).length, .obj ((((((st ++ [Ob.dic []]) ++ [Ob.lst [.non]]) ++ [Ob.lst [.int 5]]) ++ [Ob.lst [.tup []]]) ++ [Ob.lst [.tup [frD (0, 1)]]]) ++ [Ob.lst [prX 1 2 0 1]]).length, .obj (((((((st ++ [Ob.dic []]) ++ [Ob.lst [.non]]) ++ [Ob.lst [.int 5]]) ++ [Ob.lst [.tup []]]) ++ [Ob.lst [.tup [frD (0, 1)]]]) ++ [Ob.lst [prX 1 2 0 1]]) ++ [Ob.lst [prX 0 1 3 2]]).length, .obj ((((((((st ++ [Ob.dic []]) ++ [Ob.lst [.non]]) ++ [Ob.lst [.int 5]]) ++ [Ob.lst [.tup []]]) ++ [Ob.lst [.tup [frD (0, 1)]]]) ++ [Ob.lst [prX 1 2 0 1]]) ++ [Ob.lst [prX 0 1 3 2]]) ++ [Ob.lst [prX 0 1 2 4]]).length, .obj (((((((((st ++ [Ob.dic []]) ++ [Ob.lst [.non]]) ++ [Ob.lst [.int 5]]) ++ [Ob.lst [.tup []]]) ++ [Ob.lst [.tup [frD (0, 1)]]]) ++ [Ob.lst [prX 1 2 0 1]]) ++ [Ob.lst [prX 0 1 3 2]]) ++ [Ob.lst [prX 0 1 2 4]]) ++ [Ob.lst [prX (-1) 1 1 1]]).length, .obj ((((((((((st ++ [Ob.dic []]) ++ [Ob.lst [.non]]) ++ [Ob.lst [.int 5]]) ++ [Ob.lst [.tup []]]) ++ [Ob.lst [.tup [frD (0, 1)]]]) ++ [Ob.lst [prX 1 2 0 1]]) ++ [Ob.lst [prX 0 1 3 2]]) ++ [Ob.lst [prX 0 1 2 4]]) ++ [Ob.lst [prX (-1) 1 1 1]]) ++ [Ob.lst [prX 0 1 1 1, .int 7]]).length, .obj (((((((((((st ++ [Ob.dic []]) ++ [Ob.lst [.non]]) ++ [Ob.lst [.int 5]]) ++ [Ob.lst [.tup []]]) ++ [Ob.lst [.tup [frD (0, 1)]]]) ++ [Ob.lst [prX 1 2 0 1]]) ++ [Ob.lst [prX 0 1 3 2]]) ++ [Ob.lst [prX 0 1 2 4]]) ++ [Ob.lst [prX (-1) 1 1 1]]) ++ [Ob.lst [prX 0 1 1 1, .int 7]]) ++ [Ob.lst [.lst [frD (0, 1), frD (1, 1)]]]).length, .obj ((((((((((((st ++ [Ob.dic []]) ++ [Ob.lst [.non]]) ++ [Ob.lst [.int 5]]) ++ [Ob.lst [.tup []]]) ++ [Ob.lst [.tup [frD (0, 1)]]]) ++ [Ob.lst [prX 1 2 0 1]]) ++ [Ob.lst [prX 0 1 3 2]]) ++ [Ob.lst [prX 0 1 2 4]]) ++ [Ob.lst [prX (-1) 1 1 1]]) ++ [Ob.lst [prX 0 1 1 1, .int 7]]) ++ [Ob.lst [.lst [frD (0, 1), frD (1, 1)]]]) ++ [Ob.lst [.tup [frD (0, 1), frD (1, 1), frD (1, 1)]]]).length, .obj (((((((((((((st ++ [Ob.dic []]) ++ [Ob.lst [.non]]) ++ [Ob.lst [.int 5]]) ++ [Ob.lst [.tup []]]) ++ [Ob.lst [.tup [frD (0, 1)]]]) ++ [Ob.lst [prX 1 2 0 1]]) ++ [Ob.lst [prX 0 1 3 2]]) ++ [Ob.lst [prX 0 1 2 4]]) ++ [Ob.lst [prX (-1) 1 1 1]]) ++ [Ob.lst [prX 0 1 1 1, .int 7]]) ++ [Ob.lst [.lst [frD (0, 1), frD (1, 1)]]]) ++ [Ob.lst [.tup [frD (0, 1), frD (1, 1), frD (1, 1)]]]) ++ [Ob.lst [.tup [.tup [.int 0, .bl true], frD (1, 1)]]]).length, .tup [prX 1 2 0 1], .bl true]) ((((((((((((((st ++ [Ob.dic []]) ++ [Ob.lst [.non]]) ++ [Ob.lst [.int 5]]) ++ [Ob.lst [.tup []]]) ++ [Ob.lst [.tup [frD (0, 1)]]]) ++ [Ob.lst [prX 1 2 0 1]]) ++ [Ob.lst [prX 0 1 3 2]]) ++ [Ob.lst [prX 0 1 2 4]]) ++ [Ob.lst [prX (-1) 1 1 1]]) ++ [Ob.lst [prX 0 1 1 1, .int 7]]) ++ [Ob.lst [.lst [frD (0, 1), frD (1, 1)]]]) ++ [Ob.lst [.tup [frD (0, 1), frD (1, 1), frD (1, 1)]]]) ++ [Ob.lst [.tup [.tup [.int 0, .bl true], frD (1, 1)]]]) ++ [Ob.lst [.tup [frD (0, 1), .lst [.int 1, .int 1]]]])) := rfl
theorem e_odds : d_law_odd_stretches fu [] st = some (.ret (.lst (odV st.length)) (st ++ odO)) := by
  rw [e_odds0]
  simp only [List.append_assoc, List.length_append, List.length_cons, List.length_nil, List.cons_append, List.nil_append, odV, odO, Nat.add_zero, Nat.zero_add, Nat.reduceAdd]
theorem od_at {i : Nat} {o : Ob} (h : odO[i]? = some o) : (st ++ odO)[st.length + i]? = some o := by
  rw [List.getElem?_append_right (by omega), Nat.add_sub_cancel_left]
  exact h
theorem p2_all (hn : n < st.length) : ∀ v ∈ odV st.length, P2' fu n (st ++ odO) v :=
    (fc (p2_plain .non (fun _ => rfl) rfl rfl rfl rfl fun _ => rfl)
    (fc (p2_plain .int (fun _ => rfl) rfl rfl rfl rfl fun _ => rfl)
    (fc (p2_plain .str (fun _ => rfl) rfl rfl (by decide +kernel) rfl fun _ => rfl)
    (fc (p2_dic (by omega) (od_at (i := 0) rfl))
    (fc (p2_one (pB := fun _ => false) (by omega) (od_at (i := 1) rfl) rfl rfl (by decide) (fc (fun _ => rfl) fn) rfl)
    (fc (p2_one (pB := fun _ => false) (by omega) (od_at (i := 2) rfl) rfl rfl (by decide) (fc (fun _ => rfl) fn) rfl)
    (fc (p2_one (pB := fun _ => false) (by omega) (od_at (i := 3) rfl) rfl rfl (by decide) (fc (fun _ => rfl) fn) rfl)
    (fc (p2_one (pB := fun _ => false) (by omega) (od_at (i := 4) rfl) rfl rfl (by decide) (fc (fun _ => rfl) fn) rfl)
    (fc (p2_back (by omega) (od_at (i := 5) rfl))
    (fc (p2_one (pB := fun _ => false) (by omega) (od_at (i := 6) rfl) rfl rfl (by decide) (fc (fun _ => rfl) fn) rfl)
    (fc (p2_one (pB := fun _ => false) (by omega) (od_at (i := 7) rfl) rfl rfl (by decide) (fc (fun _ => rfl) fn) rfl)
    (fc (p2_one (pB := fun _ => false) (by omega) (od_at (i := 8) rfl) rfl rfl (by decide) (fc (fun _ => rfl) fn) rfl)
    (fc (p2_one (pB := fun d => match d with | .int _ => false | _ => true) (by omega) (od_at (i := 9) rfl) rfl rfl (by decide) (fc (fun _ => rfl) (fc (fun _ => rfl) fn)) rfl)
    (fc (p2_one (pB := fun _ => false) (by omega) (od_at (i := 10) rfl) rfl rfl (by decide) (fc (fun _ => rfl) fn) rfl)
    (fc (p2_one (pB := fun _ => false) (by omega) (od_at (i := 11) rfl) rfl rfl (by decide) (fc (fun _ => rfl) fn) rfl)
    (fc (p2_one (pB := fun _ => false) (by omega) (od_at (i := 12) rfl) rfl rfl (by decide) (fc (fun _ => rfl) fn) rfl)
    (fc (p2_one (pB := fun _ => false) (by omega) (od_at (i := 13) rfl) rfl rfl (by decide) (fc (fun _ => rfl) fn) rfl)
    (fc (p2_tup)
    (fc (p2_plain .bl (fun _ => rfl) rfl rfl rfl rfl fun _ => rfl) fn)))))))))))))))))))
theorem od_nodup (a : Nat) : ((odV a).filterMap objOf).Nodup := by
  have : (odV a).filterMap objOf = [a + 0, a + 1, a + 2, a + 3, a + 4, a + 5, a + 6, a + 7, a + 8, a + 9, a + 10, a + 11, a + 12, a + 13] := rfl
  rw [this]
  simp
end
end DL
end

section
set_option Elab.async false
set_option linter.all false
set_option maxRecDepth 100000
set_option maxHeartbeats 4000000
/-! k06, the plain side, part yh: refused. -/
namespace DL
open PySem PySem.Spec L2
section
variable {fu n m : Nat} {st st1 st' : SS} {l : List P2} {nm : Bool} {v : D}
theorem p3_plain (k : Kd) (hk : ∀ st, kindOf st v = some k) (h1 : isK k .list = false) (h2 : isK k .dict = false) (ok : okB 10 v = true) (ne : objOf v = none) (hp : ∀ st, d_is_place fu [v] st = some (.ret (.bl false) st)) : P3 fu n st v :=
  ⟨vk_plain k hk h1 h2 ok ne, fun st _ _ => hp st⟩
theorem p3_lst {j : Nat} {ds : List D} (hj : j ≠ n) (h : st[j]? = some (.lst ds)) (hl : ds.length ≤ 9000) (ok : okBs 9 ds = true) : P3 fu n st (.obj j) := ⟨.lst j ds hj h hl fun d hd st => okBs_ok 9 ds ok d hd, nopl_obj j⟩
theorem p3_dic {j : Nat} (hj : j ≠ n) (h : st[j]? = some (.dic [])) : P3 fu n st (.obj j) := ⟨.dic j hj h, nopl_obj j⟩
def plV (a b : Nat) : List D := [.non, .int 5, .str ("x" : Str), frD (2, 1), frD (-1, 2), frD (2, 4), .obj a, .tup [.int 0, .int 1, .int 1], .tup [.bl true, .int 1], .tup [.int 1], .obj b]
theorem p3_all {a b : Nat} (ha : a ≠ n) (hb : b ≠ n) (h1 : st[a]? = some (.lst [.int 0, .int 1])) (h2 : st[b]? = some (.dic [])) : ∀ v ∈ plV a b, P3 fu n st v :=
  fc (p3_plain .non (fun _ => rfl) rfl rfl rfl rfl fun _ => rfl) (fc (p3_plain .int (fun _ => rfl) rfl rfl rfl rfl fun _ => rfl) (fc (p3_plain .str (fun _ => rfl) rfl rfl (by decide +kernel) rfl fun _ => rfl)
    (fc (p3_plain .tup (fun _ => rfl) rfl rfl rfl rfl fun _ => rfl) (fc (p3_plain .tup (fun _ => rfl) rfl rfl rfl rfl fun _ => rfl) (fc (p3_plain .tup (fun _ => rfl) rfl rfl rfl rfl fun _ => rfl) (fc (p3_lst ha h1 (by decide) rfl)
    (fc (p3_plain .tup (fun _ => rfl) rfl rfl rfl rfl fun _ => rfl) (fc (p3_plain .tup (fun _ => rfl) rfl rfl rfl rfl fun _ => rfl) (fc (p3_plain .tup (fun _ => rfl) rfl rfl rfl rfl fun _ => rfl) (fc (p3_dic hb h2) fn))))))))))
def pcV (a : Nat) : List D := [.non, .int 5, .obj a, .tup [.non], .tup [prX 1 2 1 2]]
theorem p1_last {a : Nat} (ha : a ≠ n) (h1 : st[a]? = some (.lst [])) : ∀ v ∈ pcV a, P1 fu n st v :=
  fc (p1_plain .non (fun _ => rfl) rfl rfl rfl rfl fun _ => rfl) (fc (p1_plain .int (fun _ => rfl) rfl rfl rfl rfl fun _ => rfl) (fc (p1_lst ha h1 (by decide) rfl)
    (fc (p1_plain .tup (fun _ => rfl) rfl rfl rfl rfl fun _ => rfl) (fc (p1_plain .tup (fun _ => rfl) rfl rfl rfl rfl fun _ => rfl) fn))))
theorem Bx.lt {n m : Nat} {st : SS} (h : Bx n st m) : n < st.length := by
  obtain ⟨a, c, k, b, h1, _⟩ := h.ex
  exact (List.getElem?_eq_some_iff.mp h1).1
theorem Bx.app (h : Bx n st m) (os : List Ob) : Bx n (st ++ os) m := h.keep (List.getElem?_append_left h.lt)
theorem e_refused (hb : Bx n st m) (hm : m ≤ 1000) (hl : Pc l) (ln : l.length ≤ 1000) : ∃ st', d_law_refused fu [.obj n, pcD l, .bl nm] st = some (.ret (.bl true) st') := by
  obtain ⟨vs, st1, e1, h1, d1, l1, k1⟩ := e_oddp (fu := fu) (n := n) hl ln hb.lt
  obtain ⟨nm2, a3, a4, a5, st2, r1, b2⟩ := rf_gen (l := l) (body := rfB1 fu) (P1 fu n) P1_move (fun v m st nm s4 s5 h hb hm => rfB1_run v m st nm s4 s5 h hb hm) vs nm .none .none .none m st1 h1 d1 (hb.keep (k1 n hb.lt)) (by omega)
  obtain ⟨nm3, b3', b4', b5', st3, r2, b3⟩ := rf_gen (l := l) (body := rfB2 fu) (P2' fu n) P2_move (fun v m st nm s4 s5 h hb hm => rfB2_run v m st nm s4 s5 h hb hm) (odV st2.length) nm2 a3 a4 a5 (m + 2 * vs.length) (st2 ++ odO) (p2_all b2.lt) (od_nodup _) (b2.app _) (by show _ + 2 * 19 ≤ 9000; omega)
  have lt3 := b3.lt
  have ne3 : st3.length ≠ n := by omega
  have ln3 : (st3 ++ [Ob.lst [.int 0, .int 1]]).length = st3.length + 1 := by simp
  obtain ⟨nm4, c3', c4', c5', st4, r3, b4⟩ := rf_gen (l := l) (body := rfB3 fu) (P3 fu n) P3_move (fun v m st nm s4 s5 h hb hm => rfB3_run hl v m st nm s4 s5 h hb hm) (plV st3.length (st3 ++ [Ob.lst [.int 0, .int 1]]).length) nm3 b3' b4' b5' (m + 2 * vs.length + 2 * (odV st2.length).length) ((st3 ++ [Ob.lst [.int 0, .int 1]]) ++ [Ob.dic []])
    (p3_all ne3 (by omega) (by simp) (by rw [ln3]; simp)) (by
      rw [ln3, show (plV st3.length (st3.length + 1)).filterMap objOf = [st3.length, st3.length + 1] from rfl]
      simp) ((b3.app _).app _) (by show _ + 2 * 19 + 2 * 11 ≤ 9000; omega)
  have lt4 := b4.lt
  obtain ⟨nm5, d3', d4', d5', st5, r4, b5⟩ := rf_gen (l := l) (body := rfB4 fu) (P1 fu n) P1_move (fun v m st nm s4 s5 h hb hm => rfB4_run hl v m st nm s4 s5 h hb hm) (pcV st4.length) nm4 c3' c4' c5' _ (st4 ++ [Ob.lst []]) (p1_last (by omega) (by simp)) (by
      rw [show (pcV st4.length).filterMap objOf = [st4.length] from rfl]
      simp) (b4.app _) (by show _ + 2 * 19 + 2 * 11 + 2 * 5 ≤ 9000; omega)
  refine ⟨st5, run_ret (fr := rfF n l nm5 d3' d4' d5') rfl ?_⟩
  show m_law_refused fu (rfF n l nm .none .none .none) st = _
  unfold m_law_refused
  refine (seq_eq (fr1 := rfF n l nm2 a3 a4 a5) (st1 := st2) (for_eq (seqI_eq (call_eq (cons_eq (get_eq rfl) nil_eq) e1) (.inr rfl)) r1)).trans ?_
  refine (seq_eq (fr1 := rfF n l nm3 b3' b4' b5') (st1 := st3) (for_eq (seqI_eq (call_eq nil_eq e_odds) (.inr rfl)) r2)).trans ?_
  refine (seq_eq (fr1 := rfF n l nm4 c3' c4' c5') (st1 := st4) (for_eq (seqI_eq (fr1 := rfF n l nm3 b3' b4' b5') (st1 := (st3 ++ [Ob.lst [.int 0, .int 1]]) ++ [Ob.dic []]) (d := .lst (plV st3.length (st3 ++ [Ob.lst [.int 0, .int 1]]).length)) rfl (.inr rfl)) r3)).trans ?_
  refine (seq_eq (fr1 := rfF n l nm5 d3' d4' d5') (st1 := st5) (for_eq (seqI_eq (fr1 := rfF n l nm4 c3' c4' c5') (st1 := st4 ++ [Ob.lst []]) (d := .lst (pcV st4.length)) rfl (.inr rfl)) r4)).trans ?_
  rfl
end
end DL
end

section
set_option Elab.async false
set_option linter.all false
set_option maxRecDepth 100000
set_option maxHeartbeats 4000000
/-! k06, the plain side, the end: the law. -/
namespace DL
open PySem PySem.Spec L2
theorem cLoop_no {all : List D} {vs : List Nat} {g : Tg} {t : M Bool} {e : M D} {d q : D} {ds acc : List D} {fw fra frb frc : Fr} {st st1 : SS} (h1 : stT g d fw = some fra) (h2 : t fra st = some (.ok true frb st)) (h5 : e frb st = some (.ok q frc st1)) (h6 : wipeF frc vs = fw) (hl : acc.length ≤ 1000) :
    cLoop .no all vs g t e (d :: ds) acc fw st = cLoop .no all vs g t e ds (acc ++ [q]) fw st1 := by
  conv => lhs; unfold cLoop
  rw [if_pos (show keep vs .no all fw st = true from rfl), h1]
  simp only
  rw [bnd_eq h2, if_pos rfl, bnd_eq h5, if_pos (small_of (by omega)), h6]
section
variable {fu : Nat} {st : SS}
def laF (d : D) (s1 s2 s3 s4 s5 s6 s7 s8 : Slot) : Fr := [.val d, s1, s2, s3, s4, s5, s6, s7, s8, .none]
def laB (fu : Nat) : M Fl := seqM (setM 2 (callM (d_law_box fu) (consA (callM (d_law_cell fu) (consA (getv 0) (consA (getv 1) (nilA)))) (nilA))))
 (seqM (setM 3 (bin eqF (callM (d_law_take fu) (consA (getv 2) (consA (ret (.int 2)) (nilA)))) (ret (.int 0))))
 (seqM (setM 4 (frzM (compM [9] (noW (rng1 (ret (.int 3)))) (.nm 9) (ret true) (callM (d_law_stretches fu) (consA (getv 2) (consA (callM (d_law_take fu) (consA (getv 2) (consA (ret (.int 7)) (nilA)))) (nilA)))))))
 (seqM (setM 5 (frzM (compM [6] (seqW (getv 4)) (.nm 6) (ret true) (callM (d_law_union fu) (consA (getv 6) (nilA))))))
 (seqM (forM (seqI (getv 4)) (setv 6)
 (ifM (notT (tst (callM (d_law_one_right fu) (consA (getv 2) (consA (getv 6) (consA (getv 3) (nilA)))))))
 (retM (ret (.bl false)))
 (ret .nx)))
 (seqM (forM (seqI (tupM (consA (tupM (consA (ret (.int 0)) (consA (ret (.int 1)) (nilA)))) (consA (tupM (consA (ret (.int 1)) (consA (ret (.int 2)) (nilA)))) (consA (tupM (consA (ret (.int 2)) (consA (ret (.int 0)) (nilA)))) (consA (tupM (consA (ret (.int 1)) (consA (ret (.int 0)) (nilA)))) (nilA))))))) (tupG 2 (consG (setv 7) (consG (setv 8) (nilG))))
 (ifM (notT (tst (callM (d_law_two_right fu) (consA (frzM (lstN (consA (bin ixA (getv 5) (peekv 7)) (consA (bin ixA (getv 5) (peekv 8)) (nilA))))) (consA (getv 3) (nilA))))))
 (retM (ret (.bl false)))
 (ret .nx)))
 (ifM (notT (tst (callM (d_law_refused fu) (consA (getv 2) (consA (bin ixA (getv 5) (ret (.int 0))) (consA (getv 3) (nilA)))))))
 (retM (ret (.bl false)))
 (ret .nx)))))))
def slv : Slot → Slot
  | .val d => .val d
  | _ => .none
def ssD (ss : List P2) : D := .lst (ss.map prD)
theorem one_st {n m : Nat} {d k : D} {nm : Bool} {s4 s5 s6 s7 s8 : Slot} (hb : Bx n st m) (hm : m ≤ 5000) (hf : 2 ^ 8000 ≤ fu) : ∃ (ss : List P2) (st' : SS), callM (d_law_stretches fu) (consA (getv 2) (consA (callM (d_law_take fu) (consA (getv 2) (consA (ret (.int 7)) (nilA)))) (nilA))) [.val d, .val k, .val (.obj n), .val (.bl nm), s4, s5, s6, s7, s8, .val (.int 0)] st = some (.ok (ssD ss) [.val d, .val k, .val (.obj n), .val (.bl nm), s4, s5, s6, s7, s8, .val (.int 0)] st') ∧ (∀ p ∈ ss, Str1 p) ∧ ss.length ≤ 6 ∧ Bx n st' (m + 38) := by
  obtain ⟨r, s1, e1, r0, r1, b1, c1⟩ := e_take (fu := fu) (many := 7) hb (by omega) (by decide) (by decide)
  obtain ⟨ss, s2, e2, str, ln, b2, c2⟩ := e_stretches (fu := fu) (many := r) b1 (by omega) r0 (by omega) hf
  exact ⟨ss, s2, call_eq (cons_eq (get_eq rfl) (cons_eq (call_eq (cons_eq (get_eq rfl) (cons_eq rfl nil_eq)) e1) nil_eq)) e2, str, ln, b2.mono (by omega)⟩
theorem draws {n : Nat} {d k : D} {nm : Bool} {s4 s5 s6 s7 s8 : Slot} {all : List D} (hf : 2 ^ 8000 ≤ fu) : ∀ (xs acc : List D) (m : Nat) (st : SS), Bx n st m → m + 38 * xs.length ≤ 5000 → acc.length + xs.length ≤ 100 →
    ∃ (sss : List (List P2)) (st' : SS), cLoop .no all [9] (.nm 9) (ret true) (callM (d_law_stretches fu) (consA (getv 2) (consA (callM (d_law_take fu) (consA (getv 2) (consA (ret (.int 7)) (nilA)))) (nilA)))) xs acc (laF d (.val k) (.val (.obj n)) (.val (.bl nm)) s4 s5 s6 s7 s8) st = some (.ok (acc ++ sss.map ssD) (laF d (.val k) (.val (.obj n)) (.val (.bl nm)) s4 s5 s6 s7 s8) st') ∧ sss.length = xs.length ∧ (∀ ss ∈ sss, (∀ p ∈ ss, Str1 p) ∧ ss.length ≤ 6) ∧ Bx n st' (m + 38 * xs.length)
  | [], acc, m, st, hb, _, _ => ⟨[], st, by unfold cLoop; rw [if_pos (show keep [9] .no all _ st = true from rfl), List.map_nil, List.append_nil], rfl, (fun x h => by cases h), hb⟩
  | x :: xs, acc, m, st, hb, hm, hl => by
    rw [List.length_cons] at hm hl
    obtain ⟨r, s1, e1, r0, r1, b1, c1⟩ := e_take (fu := fu) (many := 7) hb (by omega) (by decide) (by decide)
    obtain ⟨ss, s2, e2, str, ln, b2, c2⟩ := e_stretches (fu := fu) (many := r) b1 (by omega) r0 (by omega) hf
    obtain ⟨sss, st', e3, l3, h3, b3⟩ := draws (all := all) hf xs (acc ++ [ssD ss]) (m + 38) s2 (b2.mono (by omega)) (by omega) (by rw [List.length_append, List.length_singleton]; omega)
    refine ⟨ss :: sss, st', ?_, by rw [List.length_cons, List.length_cons, l3], fun y hy => ?_, b3.mono (by rw [List.length_cons]; omega)⟩
    · have ev : callM (d_law_stretches fu) (consA (getv 2) (consA (callM (d_law_take fu) (consA (getv 2) (consA (ret (.int 7)) (nilA)))) (nilA))) [.val d, .val k, .val (.obj n), .val (.bl nm), s4, s5, s6, s7, s8, .val x] st = some (.ok (ssD ss) [.val d, .val k, .val (.obj n), .val (.bl nm), s4, s5, s6, s7, s8, .val x] s2) :=
        call_eq (cons_eq (get_eq rfl) (cons_eq (call_eq (cons_eq (get_eq rfl) (cons_eq rfl nil_eq)) e1) nil_eq)) e2
      rw [cLoop_no (all := all) (vs := [9]) (g := .nm 9) (t := ret true) (d := x) (ds := xs) (acc := acc) (st := st) (fw := laF d (.val k) (.val (.obj n)) (.val (.bl nm)) s4 s5 s6 s7 s8) (fra := [.val d, .val k, .val (.obj n), .val (.bl nm), s4, s5, s6, s7, s8, .val x]) (frb := [.val d, .val k, .val (.obj n), .val (.bl nm), s4, s5, s6, s7, s8, .val x]) (frc := [.val d, .val k, .val (.obj n), .val (.bl nm), s4, s5, s6, s7, s8, .val x]) rfl rfl ev rfl (by omega), e3, List.map_cons, List.append_assoc]
      rfl
    · rcases List.mem_cons.mp hy with rfl | hy
      · exact ⟨str, ln⟩
      · exact h3 y hy
theorem one_loop {n : Nat} {d k dd : D} {nm : Bool} {s5 s7 s8 : Slot} (hf : 2 ^ 8000 ≤ fu) (hf2 : 100000 ≤ fu) : ∀ (sss : List (List P2)) (s6 : Slot) (m : Nat) (st : SS), Bx n st m → m + 10 * sss.length ≤ 5000 → (∀ ss ∈ sss, (∀ p ∈ ss, Str1 p) ∧ ss.length ≤ 6) →
    ∃ (s6' : Slot) (st' : SS), mFor (sss.map ssD) (forB (setv 6) (ifM (notT (tst (callM (d_law_one_right fu) (consA (getv 2) (consA (getv 6) (consA (getv 3) (nilA))))))) (retM (ret (.bl false))) (ret .nx))) (laF d (.val k) (.val (.obj n)) (.val (.bl nm)) (.val dd) s5 s6 s7 s8) st = some (.ok .nx (laF d (.val k) (.val (.obj n)) (.val (.bl nm)) (.val dd) s5 s6' s7 s8) st') ∧ Bx n st' (m + 10 * sss.length)
  | [], s6, m, st, hb, _, _ => ⟨s6, st, rfl, hb⟩
  | ss :: sss, s6, m, st, hb, hm, h => by
    rw [List.length_cons] at hm
    obtain ⟨str, ln⟩ := h ss List.mem_cons_self
    obtain ⟨s1, e1, b1, c1⟩ := e_one (fu := fu) (nm := nm) hb (by omega) str ln hf hf2
    obtain ⟨s6', st', e2, b2⟩ := one_loop (d := d) (k := k) (dd := dd) (s5 := s5) (s7 := s7) (s8 := s8) hf hf2 sss (.val (ssD ss)) (m + 10) s1 b1 (by omega) fun x hx => h x (List.mem_cons_of_mem _ hx)
    refine ⟨s6', st', ?_, b2.mono (by rw [List.length_cons]; omega)⟩
    have b : forB (setv 6) (ifM (notT (tst (callM (d_law_one_right fu) (consA (getv 2) (consA (getv 6) (consA (getv 3) (nilA))))))) (retM (ret (.bl false))) (ret .nx)) (ssD ss) (laF d (.val k) (.val (.obj n)) (.val (.bl nm)) (.val dd) s5 s6 s7 s8) st = some (.ok .nx (laF d (.val k) (.val (.obj n)) (.val (.bl nm)) (.val dd) s5 (.val (ssD ss)) s7 s8) s1) := by
      rw [forB_eq (show setv 6 (ssD ss) (laF d (.val k) (.val (.obj n)) (.val (.bl nm)) (.val dd) s5 s6 s7 s8) st = some (.ok .nx (laF d (.val k) (.val (.obj n)) (.val (.bl nm)) (.val dd) s5 (.val (ssD ss)) s7 s8) st) from rfl)]
      exact if_nx (not_eq (b := true) (tst_eq (call_eq (cons_eq (get_eq rfl) (cons_eq (get_eq rfl) (cons_eq (get_eq rfl) nil_eq))) e1)))
    rw [List.map_cons, mFor_cons b]
    exact e2
theorem two_step {d k dd : D} {n : Nat} {nm : Bool} {s6 s7 s8 : Slot} {us : List (List P2)} {i j : Nat} {a b : List P2} (hi : us[i]? = some a) (hj : us[j]? = some b) (ha : Pc a) (hb : Pc b) (hl : a.length + b.length ≤ 400) (hf2 : 100000 ≤ fu) :
    forB (tupG 2 (consG (setv 7) (consG (setv 8) (nilG)))) (ifM (notT (tst (callM (d_law_two_right fu) (consA (frzM (lstN (consA (bin ixA (getv 5) (peekv 7)) (consA (bin ixA (getv 5) (peekv 8)) (nilA))))) (consA (getv 3) (nilA)))))) (retM (ret (.bl false))) (ret .nx)) (.tup [.int (i : Nat), .int (j : Nat)]) (laF d (.val k) (.val (.obj n)) (.val (.bl nm)) (.val dd) (.val (.lst (us.map pcD))) s6 s7 s8) st
      = some (.ok .nx (laF d (.val k) (.val (.obj n)) (.val (.bl nm)) (.val dd) (.val (.lst (us.map pcD))) s6 (.val (.int (i : Nat))) (.val (.int (j : Nat)))) st) := by
  rw [forB_eq (show tupG 2 (consG (setv 7) (consG (setv 8) (nilG))) (.tup [.int (i : Nat), .int (j : Nat)]) (laF d (.val k) (.val (.obj n)) (.val (.bl nm)) (.val dd) (.val (.lst (us.map pcD))) s6 s7 s8) st = some (.ok .nx (laF d (.val k) (.val (.obj n)) (.val (.bl nm)) (.val dd) (.val (.lst (us.map pcD))) s6 (.val (.int (i : Nat))) (.val (.int (j : Nat)))) st) from rfl)]
  refine if_nx (not_eq (b := true) (tst_eq (call_eq (cons_eq (ls2 (bin_eq (get_eq rfl) (peek_eq rfl) (ix_nat i (.inr rfl) (a := pcD a) (by rw [List.getElem?_map, hi]; rfl))) (bin_eq (get_eq rfl) (peek_eq rfl) (ix_nat j (.inr rfl) (a := pcD b) (by rw [List.getElem?_map, hj]; rfl)))) (cons_eq (get_eq rfl) nil_eq)) (e_two ha hb hl hf2))))
theorem laB_run {ns : List Int} {k : Int} (k0 : 0 ≤ k) (k1 : k ≤ 10) {s2 s3 s4 s5 s6 s7 s8 : Slot} (hf : 2 ^ 8000 ≤ fu) (hf2 : 100000 ≤ fu) : ∃ (s2' s3' s4' s5' s6' s7' s8' : Slot) (st' : SS), laB fu (laF (.scr ns) (.val (.int k)) s2 s3 s4 s5 s6 s7 s8) st = some (.ok .nx (laF (.scr ns) (.val (.int k)) s2' s3' s4' s5' s6' s7' s8') st') := by
  obtain ⟨x, ec⟩ := e_cell (fu := fu) (st := st) ns k k0 k1
  obtain ⟨o, eb, b0⟩ := e_box (fu := fu) (st := st) x
  obtain ⟨r, st1, et, r0, r1, b1, c1⟩ := e_take (fu := fu) (many := 2) b0 (by omega) (by decide) (by decide)
  obtain ⟨sss, st2, ed, l3, hs, b2⟩ := draws (fu := fu) (n := st.length) (d := .scr ns) (k := .int k) (nm := decide (r = 0)) (s4 := s4) (s5 := s5) (s6 := s6) (s7 := s7) (s8 := s8) (all := rangeD 0 3) hf (rangeD 0 3) [] 1 st1 b1 (by decide) (by decide)
  rw [List.nil_append] at ed
  have l3' : sss.length = 3 := l3
  have pcs : ∀ ss ∈ sss, Pc (unionQ ss) ∧ (unionQ ss).length ≤ 6 := fun ss h => by
    have u := union_spec (hs ss h).1 (by have := (hs ss h).2; omega)
    exact ⟨u.1, by have := (hs ss h).2; have := u.2.2; omega⟩
  have a2 : setM 2 (callM (d_law_box fu) (consA (callM (d_law_cell fu) (consA (getv 0) (consA (getv 1) (nilA)))) (nilA))) (laF (.scr ns) (.val (.int k)) s2 s3 s4 s5 s6 s7 s8) st = some (.ok .nx (laF (.scr ns) (.val (.int k)) (.val (.obj st.length)) s3 s4 s5 s6 s7 s8) (st ++ [o])) :=
    set_eq (d := .obj st.length) (fr1 := laF (.scr ns) (.val (.int k)) s2 s3 s4 s5 s6 s7 s8) (st1 := st ++ [o]) (call_eq (cons_eq (call_eq (cons_eq (get_eq rfl) (cons_eq (get_eq rfl) nil_eq)) ec) nil_eq) eb) (by show 2 < 10; decide)
  have a3 : setM 3 (bin eqF (callM (d_law_take fu) (consA (getv 2) (consA (ret (.int 2)) (nilA)))) (ret (.int 0))) (laF (.scr ns) (.val (.int k)) (.val (.obj st.length)) s3 s4 s5 s6 s7 s8) (st ++ [o]) = some (.ok .nx (laF (.scr ns) (.val (.int k)) (.val (.obj st.length)) (.val (.bl (decide (r = 0)))) s4 s5 s6 s7 s8) st1) :=
    set_eq (d := .bl (decide (r = 0))) (fr1 := laF (.scr ns) (.val (.int k)) (.val (.obj st.length)) s3 s4 s5 s6 s7 s8) (st1 := st1) (bin_eq (call_eq (cons_eq (get_eq rfl) (cons_eq rfl nil_eq)) et) rfl s_eqi) (by show 3 < 10; decide)
  have a4 : setM 4 (frzM (compM [9] (noW (rng1 (ret (.int 3)))) (.nm 9) (ret true) (callM (d_law_stretches fu) (consA (getv 2) (consA (callM (d_law_take fu) (consA (getv 2) (consA (ret (.int 7)) (nilA)))) (nilA)))))) (laF (.scr ns) (.val (.int k)) (.val (.obj st.length)) (.val (.bl (decide (r = 0)))) s4 s5 s6 s7 s8) st1 = some (.ok .nx (laF (.scr ns) (.val (.int k)) (.val (.obj st.length)) (.val (.bl (decide (r = 0)))) (.val (.lst (sss.map ssD))) s5 s6 s7 s8) st2) := by
    refine (set_eq (d := .lst (sss.map ssD)) (fr1 := laF (.scr ns) (.val (.int k)) (.val (.obj st.length)) (.val (.bl (decide (r = 0)))) s4 s5 s6 s7 s8) (st1 := st2) (frz_eq ?_) (by show 4 < 10; decide)).trans rfl
    unfold compM
    rw [bnd_eq (noW_eq (ds := rangeD 0 3) (rng1_eq (j := 3) rfl (by decide)))]
    simp only
    rw [show wipeF (laF (.scr ns) (.val (.int k)) (.val (.obj st.length)) (.val (.bl (decide (r = 0)))) s4 s5 s6 s7 s8) [9] = laF (.scr ns) (.val (.int k)) (.val (.obj st.length)) (.val (.bl (decide (r = 0)))) s4 s5 s6 s7 s8 from rfl, ed]
    rfl
  have a5 : ∃ s6', setM 5 (frzM (compM [6] (seqW (getv 4)) (.nm 6) (ret true) (callM (d_law_union fu) (consA (getv 6) (nilA))))) (laF (.scr ns) (.val (.int k)) (.val (.obj st.length)) (.val (.bl (decide (r = 0)))) (.val (.lst (sss.map ssD))) s5 s6 s7 s8) st2 = some (.ok .nx (laF (.scr ns) (.val (.int k)) (.val (.obj st.length)) (.val (.bl (decide (r = 0)))) (.val (.lst (sss.map ssD))) (.val (.lst ((sss.map unionQ).map pcD))) s6' s7 s8) st2) := by
    have c := compM_pure (f := ssD) (vs := [6]) (g := .nm 6) (t := ret true) (e := callM (d_law_union fu) (consA (getv 6) (nilA))) (p := fun _ => true) (q := fun ss => pcD (unionQ ss)) (xs := sss)
      (show seqW (getv 4) (laF (.scr ns) (.val (.int k)) (.val (.obj st.length)) (.val (.bl (decide (r = 0)))) (.val (.lst (sss.map ssD))) s5 s6 s7 s8) st2 = some (.ok (sss.map ssD, .no) (laF (.scr ns) (.val (.int k)) (.val (.obj st.length)) (.val (.bl (decide (r = 0)))) (.val (.lst (sss.map ssD))) s5 s6 s7 s8) st2) from seqW_eq (get_eq rfl) (.inr rfl)) rfl
      (fun ss h => ⟨laF (.scr ns) (.val (.int k)) (.val (.obj st.length)) (.val (.bl (decide (r = 0)))) (.val (.lst (sss.map ssD))) s5 (.val (ssD ss)) s7 s8, laF (.scr ns) (.val (.int k)) (.val (.obj st.length)) (.val (.bl (decide (r = 0)))) (.val (.lst (sss.map ssD))) s5 (.val (ssD ss)) s7 s8, rfl, rfl, (fun z => by cases z), fun _ => ⟨_, call_eq (cons_eq (get_eq rfl) nil_eq) (e_union (.inl rfl) (hs ss h).1 (by have := (hs ss h).2; omega)), rfl⟩⟩) (by omega)
    rw [List.filter_eq_self.mpr (fun _ _ => rfl)] at c
    refine ⟨slv s6, (set_eq (frz_eq c) (by show 5 < 10; decide)).trans ?_⟩
    rw [show sss.map (fun ss => pcD (unionQ ss)) = (sss.map unionQ).map pcD by rw [List.map_map]; rfl]
    cases s6 <;> rfl
  obtain ⟨s6', a5⟩ := a5
  obtain ⟨s6b, st3, e3, b3⟩ := one_loop (fu := fu) (n := st.length) (d := .scr ns) (k := .int k) (dd := .lst (sss.map ssD)) (nm := decide (r = 0)) (s5 := .val (.lst ((sss.map unionQ).map pcD))) (s7 := s7) (s8 := s8) hf hf2 sss s6' (1 + 38 * 3) st2 b2 (by omega) hs
  obtain ⟨x0, x1, x2, rfl⟩ : ∃ x0 x1 x2, sss = [x0, x1, x2] := by
    cases sss with
    | nil => cases l3'
    | cons x0 sss =>
      cases sss with
      | nil => cases l3'
      | cons x1 sss =>
        cases sss with
        | nil => cases l3'
        | cons x2 sss =>
          cases sss with
          | nil => exact ⟨x0, x1, x2, rfl⟩
          | cons x3 sss => simp at l3'
  obtain ⟨p0, n0⟩ := pcs x0 (by simp)
  obtain ⟨p1, n1⟩ := pcs x1 (by simp)
  obtain ⟨p2, n2⟩ := pcs x2 (by simp)
  obtain ⟨st4, e4⟩ := e_refused (fu := fu) (nm := decide (r = 0)) (b3.mono (show _ ≤ 145 by simp)) (by decide) p0 (by omega)
  refine ⟨.val (.obj st.length), .val (.bl (decide (r = 0))), .val (.lst ([x0, x1, x2].map ssD)), .val (.lst (([x0, x1, x2].map unionQ).map pcD)), s6b, .val (.int (1 : Nat)), .val (.int (0 : Nat)), st4, ?_⟩
  unfold laB
  rw [seq_eq a2, seq_eq a3, seq_eq a4, seq_eq a5, seq_eq (for_eq (seqI_eq (get_eq rfl) (.inr rfl)) e3)]
  have lp : mFor [.tup [.int (0 : Nat), .int (1 : Nat)], .tup [.int (1 : Nat), .int (2 : Nat)], .tup [.int (2 : Nat), .int (0 : Nat)], .tup [.int (1 : Nat), .int (0 : Nat)]] (forB (tupG 2 (consG (setv 7) (consG (setv 8) (nilG)))) (ifM (notT (tst (callM (d_law_two_right fu) (consA (frzM (lstN (consA (bin ixA (getv 5) (peekv 7)) (consA (bin ixA (getv 5) (peekv 8)) (nilA))))) (consA (getv 3) (nilA)))))) (retM (ret (.bl false))) (ret .nx)))
      (laF (.scr ns) (.val (.int k)) (.val (.obj st.length)) (.val (.bl (decide (r = 0)))) (.val (.lst ([x0, x1, x2].map ssD))) (.val (.lst (([x0, x1, x2].map unionQ).map pcD))) s6b s7 s8) st3 = some (.ok .nx (laF (.scr ns) (.val (.int k)) (.val (.obj st.length)) (.val (.bl (decide (r = 0)))) (.val (.lst ([x0, x1, x2].map ssD))) (.val (.lst (([x0, x1, x2].map unionQ).map pcD))) s6b (.val (.int (1 : Nat))) (.val (.int (0 : Nat)))) st3) := by
    rw [mFor_cons (two_step (us := [x0, x1, x2].map unionQ) rfl rfl p0 p1 (by omega) hf2), mFor_cons (two_step (us := [x0, x1, x2].map unionQ) rfl rfl p1 p2 (by omega) hf2), mFor_cons (two_step (us := [x0, x1, x2].map unionQ) rfl rfl p2 p0 (by omega) hf2), mFor_cons (two_step (us := [x0, x1, x2].map unionQ) rfl rfl p1 p0 (by omega) hf2)]
    rfl
  rw [seq_eq (for_eq (show seqI _ (laF (.scr ns) (.val (.int k)) (.val (.obj st.length)) (.val (.bl (decide (r = 0)))) (.val (.lst ([x0, x1, x2].map ssD))) (.val (.lst (([x0, x1, x2].map unionQ).map pcD))) s6b s7 s8) st3 = some (.ok [.tup [.int (0 : Nat), .int (1 : Nat)], .tup [.int (1 : Nat), .int (2 : Nat)], .tup [.int (2 : Nat), .int (0 : Nat)], .tup [.int (1 : Nat), .int (0 : Nat)]] (laF (.scr ns) (.val (.int k)) (.val (.obj st.length)) (.val (.bl (decide (r = 0)))) (.val (.lst ([x0, x1, x2].map ssD))) (.val (.lst (([x0, x1, x2].map unionQ).map pcD))) s6b s7 s8) st3) from rfl) lp)]
  exact if_nx (not_eq (b := true) (tst_eq (call_eq (cons_eq (get_eq rfl) (cons_eq (bin_eq (get_eq rfl) rfl (ix_nat 0 (.inr rfl) rfl)) (cons_eq (get_eq rfl) nil_eq))) e4)))
theorem la_loop {ns : List Int} (hf : 2 ^ 8000 ≤ fu) (hf2 : 100000 ≤ fu) : ∀ (xs : List D) (s1 s2 s3 s4 s5 s6 s7 s8 : Slot) (st : SS), (∀ x ∈ xs, ∃ k : Int, x = .int k ∧ 0 ≤ k ∧ k ≤ 10) → ∃ (s1' s2' s3' s4' s5' s6' s7' s8' : Slot) (st' : SS), mFor xs (forB (setv 1) (laB fu)) (laF (.scr ns) s1 s2 s3 s4 s5 s6 s7 s8) st = some (.ok .nx (laF (.scr ns) s1' s2' s3' s4' s5' s6' s7' s8') st')
  | [], s1, s2, s3, s4, s5, s6, s7, s8, st, _ => ⟨s1, s2, s3, s4, s5, s6, s7, s8, st, rfl⟩
  | x :: xs, s1, s2, s3, s4, s5, s6, s7, s8, st, h => by
    obtain ⟨k, rfl, k0, k1⟩ := h x List.mem_cons_self
    obtain ⟨a2, a3, a4, a5, a6, a7, a8, st1, e1⟩ := laB_run (fu := fu) (st := st) (ns := ns) k0 k1 (s2 := s2) (s3 := s3) (s4 := s4) (s5 := s5) (s6 := s6) (s7 := s7) (s8 := s8) hf hf2
    obtain ⟨b1, b2, b3, b4, b5, b6, b7, b8, st', e2⟩ := la_loop hf hf2 xs (.val (.int k)) a2 a3 a4 a5 a6 a7 a8 st1 fun y hy => h y (List.mem_cons_of_mem _ hy)
    refine ⟨b1, b2, b3, b4, b5, b6, b7, b8, st', ?_⟩
    have b : forB (setv 1) (laB fu) (.int k) (laF (.scr ns) s1 s2 s3 s4 s5 s6 s7 s8) st = some (.ok .nx (laF (.scr ns) (.val (.int k)) a2 a3 a4 a5 a6 a7 a8) st1) := by
      rw [forB_eq (show setv 1 (.int k) (laF (.scr ns) s1 s2 s3 s4 s5 s6 s7 s8) st = some (.ok .nx (laF (.scr ns) (.val (.int k)) s2 s3 s4 s5 s6 s7 s8) st) from rfl)]
      exact e1
    rw [mFor_cons b]
    exact e2
theorem e_law (ns : List Int) (hn : ns.length ≤ 63) (hf : 2 ^ 8000 ≤ fu) (hf2 : 100000 ≤ fu) : ∃ st', d_law fu [.scr ns] [] = some (.ret (.bl true) st') := by
  obtain ⟨r, er, r0, r1⟩ : ∃ r : Int, bin maxF (ret (.int 2)) (bin minF (ret (.int 3)) (un1 lenF (peekv 0))) (laF (.scr ns) .none .none .none .none .none .none .none .none) [] = some (.ok (.int r) (laF (.scr ns) .none .none .none .none .none .none .none .none) []) ∧ 0 ≤ r ∧ r ≤ 3 := by
    have ln : un1 lenF (peekv 0) (laF (.scr ns) .none .none .none .none .none .none .none .none) [] = some (.ok (.int (ns.length : Nat)) (laF (.scr ns) .none .none .none .none .none .none .none .none) []) := un1_eq (peek_eq rfl) (by simp [lenF, itemsS])
    refine ⟨if (if (ns.length : Int) < 3 then (ns.length : Int) else 3) > 2 then (if (ns.length : Int) < 3 then (ns.length : Int) else 3) else 2, bin_eq rfl (y := .int (if (ns.length : Int) < 3 then (ns.length : Int) else 3)) (bin_eq rfl ln (by simp [minF, intOp])) (by simp [maxF, intOp]), ?_, ?_⟩
    · split <;> (try split) <;> omega
    · split <;> (try split) <;> omega
  obtain ⟨b1, b2, b3, b4, b5, b6, b7, b8, st', e⟩ := la_loop (fu := fu) (ns := ns) hf hf2 (rangeD 0 r.toNat) .none .none .none .none .none .none .none .none [] (fun x hx => by
    obtain ⟨i, hi, rfl⟩ := List.mem_map.mp hx
    have := List.mem_range.mp hi
    exact ⟨0 + (i : Nat), rfl, by omega, by omega⟩)
  refine ⟨st', run_ret (fr := laF (.scr ns) b1 b2 b3 b4 b5 b6 b7 b8) rfl ?_⟩
  show m_law fu (laF (.scr ns) .none .none .none .none .none .none .none .none) [] = _
  unfold m_law
  refine (seq_eq (fr1 := laF (.scr ns) b1 b2 b3 b4 b5 b6 b7 b8) (st1 := st') (for_eq (rng1_eq er (inRange_of (by omega) (by omega))) e)).trans ?_
  rfl
end
theorem plain_law (ns : List Int) (h : ns.length ≤ 63) : ∃ fu st, d_law fu [.scr ns] [] = some (.ret (.bl true) st) := by
  obtain ⟨fu, hfu⟩ : ∃ fu : Nat, fu = 2 ^ 8000 := ⟨_, rfl⟩
  have a : 2 ^ 8000 ≤ fu := Nat.le_of_eq hfu.symm
  have b : 100000 ≤ fu := Nat.le_trans (show 100000 ≤ 2 ^ 17 by decide) (Nat.le_trans (Nat.pow_le_pow_right (by decide) (by decide)) a)
  obtain ⟨st, e⟩ := e_law (fu := fu) ns h a b
  exact ⟨fu, st, e⟩
end DL
end

section
set_option Elab.async false
set_option linter.all false
set_option maxRecDepth 100000
set_option maxHeartbeats 4000000
/-! Printed by gen.py: each def does its program. -/
namespace DL
open PySem PySem.Spec PyProof.Rows L2
def top (i : Nat) : Stmt := PySem.Challenge.pw_cutsure_k06_pieces.main.body.getD i (.Pass ⟨0, 0, 0, 0⟩)
structure Txt (K : PySem.W.Frag) (mg : Str → Option Value) (cl : Nat → Addr) : Prop where
  babs : mg "abs" = none
  ball : mg "all" = none
  bany : mg "any" = none
  bbool : mg "bool" = none
  bdict : mg "dict" = none
  bint : mg "int" = none
  bisinstance : mg "isinstance" = none
  blen : mg "len" = none
  blist : mg "list" = none
  bmax : mg "max" = none
  bmin : mg "min" = none
  brange : mg "range" = none
  bstr : mg "str" = none
  bsum : mg "sum" = none
  btuple : mg "tuple" = none
  bzip : mg "zip" = none
  bgcd : mg "gcd" = some (.builtin "math.gcd")
  cZERO : ConstD K mg "ZERO" c_ZERO
  cEITHER : ConstD K mg "EITHER" c_EITHER
  cBOTH : ConstD K mg "BOTH" c_BOTH
  cFIRST : ConstD K mg "FIRST" c_FIRST
  eInvalidPiece : ErrD K mg "InvalidPiece" (inClass (top 3) 0) (cl 0)
  xInvalidPiece : ∀ c, PySem.W.exmOne K (.ref (cl c)) (.ref (cl 0)) = some (is0 c)
  yInvalidPiece : ∀ c, is0 c = true → cl c = cl 0
  eInvalidPlace : ErrD K mg "InvalidPlace" (inClass (top 4) 0) (cl 1)
  xInvalidPlace : ∀ c, PySem.W.exmOne K (.ref (cl c)) (.ref (cl 1)) = some (is1 c)
  yInvalidPlace : ∀ c, is1 c = true → cl c = cl 1
  eInvalidStretches : ErrD K mg "InvalidStretches" (inClass (top 5) 0) (cl 2)
  xInvalidStretches : ∀ c, PySem.W.exmOne K (.ref (cl c)) (.ref (cl 2)) = some (is2 c)
  yInvalidStretches : ∀ c, is2 c = true → cl c = cl 2
theorem t_InvalidPiece : initTxt (inClass (top 3) 0) := ⟨⟨_, _, _, _, rfl⟩, ⟨rfl, rfl, rfl, by decide +kernel, rfl, by decide +kernel, by decide +kernel⟩, by decide +kernel, by decide +kernel⟩
theorem t_InvalidPlace : initTxt (inClass (top 4) 0) := ⟨⟨_, _, _, _, rfl⟩, ⟨rfl, rfl, rfl, by decide +kernel, rfl, by decide +kernel, by decide +kernel⟩, by decide +kernel, by decide +kernel⟩
theorem t_InvalidStretches : initTxt (inClass (top 5) 0) := ⟨⟨_, _, _, _, rfl⟩, ⟨rfl, rfl, rfl, by decide +kernel, rfl, by decide +kernel, by decide +kernel⟩, by decide +kernel, by decide +kernel⟩
theorem s_is_integer : FnScope [("value" : Str)] [("value" : Str)] (defScope (top 7)) := ⟨rfl, rfl, rfl, by decide +kernel, rfl, by decide +kernel, by decide +kernel⟩
theorem b_is_integer {P : Program} {w : World} {K : PySem.W.Frag} {mg : Str → Option Value} {base : Heap} {cl : Nat → Addr} (T : Txt K mg cl) (fu : Nat) (f : Addr) : Body P w K mg base cl 2 [("value" : Str)] ("is_integer" : Str) (top 7) f (m_is_integer fu) := by
  intro C cdv A outer s H E hcl hr tk ps
  subst hcl
  have S := s_is_integer
  exact dss_one (ds_ret (de_and (de_isi1 .int rfl T.bisinstance (de_var 0) rfl T.bint rfl) (de_one (de_not (de_isi1 .bool rfl T.bisinstance (de_var 0) rfl T.bbool rfl)))))
theorem s_is_list : FnScope [("value" : Str)] [("value" : Str)] (defScope (top 8)) := ⟨rfl, rfl, rfl, by decide +kernel, rfl, by decide +kernel, by decide +kernel⟩
theorem b_is_list {P : Program} {w : World} {K : PySem.W.Frag} {mg : Str → Option Value} {base : Heap} {cl : Nat → Addr} (T : Txt K mg cl) (fu : Nat) (f : Addr) : Body P w K mg base cl 2 [("value" : Str)] ("is_list" : Str) (top 8) f (m_is_list fu) := by
  intro C cdv A outer s H E hcl hr tk ps
  subst hcl
  have S := s_is_list
  exact dss_one (ds_ret (de_isi2 .list .tuple rfl T.bisinstance (de_var 0) rfl T.blist rfl rfl T.btuple rfl))
theorem s_is_tuple_of : FnScope [("value" : Str), ("many" : Str)] [("value" : Str), ("many" : Str)] (defScope (top 9)) := ⟨rfl, rfl, rfl, by decide +kernel, rfl, by decide +kernel, by decide +kernel⟩
theorem b_is_tuple_of {P : Program} {w : World} {K : PySem.W.Frag} {mg : Str → Option Value} {base : Heap} {cl : Nat → Addr} (T : Txt K mg cl) (fu : Nat) (f : Addr) : Body P w K mg base cl 2 [("value" : Str), ("many" : Str)] ("is_tuple_of" : Str) (top 9) f (m_is_tuple_of fu) := by
  intro C cdv A outer s H E hcl hr tk ps
  subst hcl
  have S := s_is_tuple_of
  exact dss_one (ds_ret (de_and (de_isi1 .tuple rfl T.bisinstance (de_var 0) rfl T.btuple rfl) (de_one (de_c (c_eq hr) (de_len rfl T.blen (dp_var 0)) (dp_var 1)))))
theorem s_fraction_of : FnScope [("n" : Str), ("d" : Str), ("shared" : Str)] [("n" : Str), ("d" : Str)] (defScope (top 12)) := ⟨rfl, rfl, rfl, by decide +kernel, rfl, by decide +kernel, by decide +kernel⟩
theorem b_fraction_of {P : Program} {w : World} {K : PySem.W.Frag} {mg : Str → Option Value} {base : Heap} {cl : Nat → Addr} (T : Txt K mg cl) (fu : Nat) (f : Addr) : Body P w K mg base cl 2 [("n" : Str), ("d" : Str), ("shared" : Str)] ("fraction_of" : Str) (top 12) f (m_fraction_of fu) := by
  intro C cdv A outer s H E hcl hr tk ps
  subst hcl
  have S := s_fraction_of
  exact dss_cons (ds_set 2 S.nd (de_if (dt_c c_gt (de_var 1) (dp_de (de_int))) (de_gcd rfl T.bgcd (de_var 0) (dp_var 1)) (de_neg (dp_de (de_gcd rfl T.bgcd (de_var 0) (dp_var 1))))))
     (dss_one (ds_ret (de_tup (da_cons (de_div (de_var 0) (dp_var 2)) (da_cons (de_div (de_var 1) (dp_var 2)) (da_nil))))))
theorem s_is_fraction : FnScope [("value" : Str)] [("value" : Str)] (defScope (top 13)) := ⟨rfl, rfl, rfl, by decide +kernel, rfl, by decide +kernel, by decide +kernel⟩
theorem b_is_fraction {P : Program} {w : World} {K : PySem.W.Frag} {mg : Str → Option Value} {base : Heap} {cl : Nat → Addr} (T : Txt K mg cl) (fu : Nat) (h_is_tuple_of : Df P w K mg base cl "is_tuple_of" 3 2 (d_is_tuple_of fu)) (h_is_integer : Df P w K mg base cl "is_integer" 3 1 (d_is_integer fu)) (f : Addr) : Body P w K mg base cl 3 [("value" : Str)] ("is_fraction" : Str) (top 13) f (m_is_fraction fu) := by
  intro C cdv A outer s H E hcl hr tk ps
  subst hcl
  have S := s_is_fraction
  exact dss_cons (ds_if (dt_w (dw_or (dt_not (dt_val (de_callD h_is_tuple_of hr (by decide) tk (da_cons (de_var 0) (da_cons (de_int) (da_nil)))))) (dw_or (dt_not (dt_val (de_callD h_is_integer hr (by decide) tk (da_cons (de_sub1 (de_var 0) (dp_de (de_int))) (da_nil))))) (dw_or1 (dt_not (dt_val (de_callD h_is_integer hr (by decide) tk (da_cons (de_sub1 (de_var 0) (dp_de (de_int))) (da_nil)))))))))
     (dss_one (ds_ret (de_bl)))
     (dss_nil))
     (dss_one (ds_ret (de_and (de_c c_gt (de_sub1 (de_var 0) (dp_de (de_int))) (dp_de (de_int))) (de_one (de_c (c_eq hr) (de_gcd rfl T.bgcd (de_sub1 (de_var 0) (dp_de (de_int))) (dp_de (de_sub1 (de_var 0) (dp_de (de_int))))) (dp_de (de_int)))))))
theorem s_is_place : FnScope [("value" : Str)] [("value" : Str)] (defScope (top 14)) := ⟨rfl, rfl, rfl, by decide +kernel, rfl, by decide +kernel, by decide +kernel⟩
theorem b_is_place {P : Program} {w : World} {K : PySem.W.Frag} {mg : Str → Option Value} {base : Heap} {cl : Nat → Addr} (T : Txt K mg cl) (fu : Nat) (h_is_fraction : Df P w K mg base cl "is_fraction" 4 1 (d_is_fraction fu)) (f : Addr) : Body P w K mg base cl 4 [("value" : Str)] ("is_place" : Str) (top 14) f (m_is_place fu) := by
  intro C cdv A outer s H E hcl hr tk ps
  subst hcl
  have S := s_is_place
  exact dss_one (ds_ret (de_and (de_callD h_is_fraction hr (by decide) tk (da_cons (de_var 0) (da_nil))) (de_one (de_chain c_le c_le (de_int) (de_sub1 (de_var 0) (dp_de (de_int))) (dp_de (de_sub1 (de_var 0) (dp_de (de_int))))))))
theorem s_check_place : FnScope [("place" : Str)] [("place" : Str)] (defScope (top 15)) := ⟨rfl, rfl, rfl, by decide +kernel, rfl, by decide +kernel, by decide +kernel⟩
theorem b_check_place {P : Program} {w : World} {K : PySem.W.Frag} {mg : Str → Option Value} {base : Heap} {cl : Nat → Addr} (T : Txt K mg cl) (fu : Nat) (h_is_place : Df P w K mg base cl "is_place" 5 1 (d_is_place fu)) (f : Addr) : Body P w K mg base cl 5 [("place" : Str)] ("check_place" : Str) (top 15) f (m_check_place fu) := by
  intro C cdv A outer s H E hcl hr tk ps
  subst hcl
  have S := s_check_place
  exact dss_one (ds_if (dt_not (dt_val (de_callD h_is_place hr (by decide) tk (da_cons (de_var 0) (da_nil)))))
     (dss_one (ds_raiseD (c := 1) rfl (T.eInvalidPlace) t_InvalidPlace hr (by decide) tk rfl (de_var 0)))
     (dss_nil))
theorem s_sum_of : FnScope [("one" : Str), ("other" : Str)] [("one" : Str), ("other" : Str)] (defScope (top 16)) := ⟨rfl, rfl, rfl, by decide +kernel, rfl, by decide +kernel, by decide +kernel⟩
theorem b_sum_of {P : Program} {w : World} {K : PySem.W.Frag} {mg : Str → Option Value} {base : Heap} {cl : Nat → Addr} (T : Txt K mg cl) (fu : Nat) (h_fraction_of : Df P w K mg base cl "fraction_of" 3 2 (d_fraction_of fu)) (f : Addr) : Body P w K mg base cl 3 [("one" : Str), ("other" : Str)] ("sum_of" : Str) (top 16) f (m_sum_of fu) := by
  intro C cdv A outer s H E hcl hr tk ps
  subst hcl
  have S := s_sum_of
  exact dss_one (ds_ret (de_callD h_fraction_of hr (by decide) tk (da_cons (de_add (de_mul (de_sub1 (de_var 0) (dp_de (de_int))) (dp_de (de_sub1 (de_var 1) (dp_de (de_int))))) (dp_de (de_mul (de_sub1 (de_var 1) (dp_de (de_int))) (dp_de (de_sub1 (de_var 0) (dp_de (de_int))))))) (da_cons (de_mul (de_sub1 (de_var 0) (dp_de (de_int))) (dp_de (de_sub1 (de_var 1) (dp_de (de_int))))) (da_nil)))))
theorem s_difference_of : FnScope [("one" : Str), ("other" : Str)] [("one" : Str), ("other" : Str)] (defScope (top 17)) := ⟨rfl, rfl, rfl, by decide +kernel, rfl, by decide +kernel, by decide +kernel⟩
theorem b_difference_of {P : Program} {w : World} {K : PySem.W.Frag} {mg : Str → Option Value} {base : Heap} {cl : Nat → Addr} (T : Txt K mg cl) (fu : Nat) (h_fraction_of : Df P w K mg base cl "fraction_of" 3 2 (d_fraction_of fu)) (f : Addr) : Body P w K mg base cl 3 [("one" : Str), ("other" : Str)] ("difference_of" : Str) (top 17) f (m_difference_of fu) := by
  intro C cdv A outer s H E hcl hr tk ps
  subst hcl
  have S := s_difference_of
  exact dss_one (ds_ret (de_callD h_fraction_of hr (by decide) tk (da_cons (de_sub (de_mul (de_sub1 (de_var 0) (dp_de (de_int))) (dp_de (de_sub1 (de_var 1) (dp_de (de_int))))) (dp_de (de_mul (de_sub1 (de_var 1) (dp_de (de_int))) (dp_de (de_sub1 (de_var 0) (dp_de (de_int))))))) (da_cons (de_mul (de_sub1 (de_var 0) (dp_de (de_int))) (dp_de (de_sub1 (de_var 1) (dp_de (de_int))))) (da_nil)))))
theorem s_order_of : FnScope [("one" : Str), ("other" : Str), ("left" : Str), ("right" : Str)] [("one" : Str), ("other" : Str)] (defScope (top 18)) := ⟨rfl, rfl, rfl, by decide +kernel, rfl, by decide +kernel, by decide +kernel⟩
theorem b_order_of {P : Program} {w : World} {K : PySem.W.Frag} {mg : Str → Option Value} {base : Heap} {cl : Nat → Addr} (T : Txt K mg cl) (fu : Nat) (f : Addr) : Body P w K mg base cl 2 [("one" : Str), ("other" : Str), ("left" : Str), ("right" : Str)] ("order_of" : Str) (top 18) f (m_order_of fu) := by
  intro C cdv A outer s H E hcl hr tk ps
  subst hcl
  have S := s_order_of
  exact dss_cons (ds_par2 2 3 rfl S.nd (dr_val (de_mul (de_sub1 (de_var 0) (dp_de (de_int))) (dp_de (de_sub1 (de_var 1) (dp_de (de_int))))) (dr_val (de_mul (de_sub1 (de_var 1) (dp_de (de_int))) (dp_de (de_sub1 (de_var 0) (dp_de (de_int))))) (dr_nil))))
     (dss_one (ds_ret (de_sub (de_int1 rfl T.bint (dp_de (de_c c_gt (de_var 2) (dp_var 3)))) (dp_de (de_int1 rfl T.bint (dp_de (de_c c_lt (de_var 2) (dp_var 3))))))))
theorem s_total_of : FnScope [("fractions" : Str), ("found" : Str), ("one" : Str)] [("fractions" : Str)] (defScope (top 19)) := ⟨rfl, rfl, rfl, by decide +kernel, rfl, by decide +kernel, by decide +kernel⟩
theorem b_total_of {P : Program} {w : World} {K : PySem.W.Frag} {mg : Str → Option Value} {base : Heap} {cl : Nat → Addr} (T : Txt K mg cl) (fu : Nat) (h_sum_of : Df P w K mg base cl "sum_of" 4 2 (d_sum_of fu)) (f : Addr) : Body P w K mg base cl 4 [("fractions" : Str), ("found" : Str), ("one" : Str)] ("total_of" : Str) (top 19) f (m_total_of fu) := by
  intro C cdv A outer s H E hcl hr tk ps
  subst hcl
  have S := s_total_of
  exact dss_cons (ds_set 1 S.nd (de_const T.cZERO))
     (dss_cons (ds_for ps rfl (di_seq (de_var 0)) (dg_name 2 S.nd) (nox_name 2)
     (dss_one (ds_set 1 S.nd (de_callD h_sum_of hr (by decide) tk (da_cons (de_var 1) (da_cons (de_var 2) (da_nil)))))))
     (dss_one (ds_ret (de_var 1))))
theorem s_least_of : FnScope [("fractions" : Str), ("found" : Str), ("one" : Str)] [("fractions" : Str)] (defScope (top 20)) := ⟨rfl, rfl, rfl, by decide +kernel, rfl, by decide +kernel, by decide +kernel⟩
theorem b_least_of {P : Program} {w : World} {K : PySem.W.Frag} {mg : Str → Option Value} {base : Heap} {cl : Nat → Addr} (T : Txt K mg cl) (fu : Nat) (h_order_of : Df P w K mg base cl "order_of" 3 2 (d_order_of fu)) (f : Addr) : Body P w K mg base cl 3 [("fractions" : Str), ("found" : Str), ("one" : Str)] ("least_of" : Str) (top 20) f (m_least_of fu) := by
  intro C cdv A outer s H E hcl hr tk ps
  subst hcl
  have S := s_least_of
  exact dss_cons (ds_set 1 S.nd (de_sub1 (de_var 0) (dp_de (de_int))))
     (dss_cons (ds_for ps rfl (di_seq (de_var 0)) (dg_name 2 S.nd) (nox_name 2)
     (dss_one (ds_set 1 S.nd (de_if (dt_c c_lt (de_callD h_order_of hr (by decide) tk (da_cons (de_var 2) (da_cons (de_var 1) (da_nil)))) (dp_de (de_int))) (de_var 2) (de_var 1)))))
     (dss_one (ds_ret (de_var 1))))
theorem s_greatest_of : FnScope [("fractions" : Str), ("found" : Str), ("one" : Str)] [("fractions" : Str)] (defScope (top 21)) := ⟨rfl, rfl, rfl, by decide +kernel, rfl, by decide +kernel, by decide +kernel⟩
theorem b_greatest_of {P : Program} {w : World} {K : PySem.W.Frag} {mg : Str → Option Value} {base : Heap} {cl : Nat → Addr} (T : Txt K mg cl) (fu : Nat) (h_order_of : Df P w K mg base cl "order_of" 3 2 (d_order_of fu)) (f : Addr) : Body P w K mg base cl 3 [("fractions" : Str), ("found" : Str), ("one" : Str)] ("greatest_of" : Str) (top 21) f (m_greatest_of fu) := by
  intro C cdv A outer s H E hcl hr tk ps
  subst hcl
  have S := s_greatest_of
  exact dss_cons (ds_set 1 S.nd (de_sub1 (de_var 0) (dp_de (de_int))))
     (dss_cons (ds_for ps rfl (di_seq (de_var 0)) (dg_name 2 S.nd) (nox_name 2)
     (dss_one (ds_set 1 S.nd (de_if (dt_c c_gt (de_callD h_order_of hr (by decide) tk (da_cons (de_var 2) (da_cons (de_var 1) (da_nil)))) (dp_de (de_int))) (de_var 2) (de_var 1)))))
     (dss_one (ds_ret (de_var 1))))
theorem s_rises : FnScope [("places" : Str), ("at" : Str)] [("places" : Str)] (defScope (top 22)) := ⟨rfl, rfl, rfl, by decide +kernel, rfl, by decide +kernel, by decide +kernel⟩
theorem b_rises {P : Program} {w : World} {K : PySem.W.Frag} {mg : Str → Option Value} {base : Heap} {cl : Nat → Addr} (T : Txt K mg cl) (fu : Nat) (h_order_of : Df P w K mg base cl "order_of" 3 2 (d_order_of fu)) (f : Addr) : Body P w K mg base cl 3 [("places" : Str), ("at" : Str)] ("rises" : Str) (top 22) f (m_rises fu) := by
  intro C cdv A outer s H E hcl hr tk ps
  subst hcl
  have S := s_rises
  exact dss_one (ds_ret (de_all rfl rfl T.ball (dp_de (de_frz (dn_lc [(("at" : Str), 1)] rfl S.nd (diw_of (di_range2 rfl T.brange (de_int) (de_len rfl T.blen (dp_var 0)))) (blkOk_by (by kernel_rfl)) (fun _ _ _ _ _ => tg_name 1 S.nd) (fun _ _ _ _ _ => dts_nil) (fun _ _ _ _ _ => de_c c_lt (de_callD h_order_of hr (by decide) takes0 (da_cons (de_sub1 (de_var 0) (dp_de (de_sub (de_var 1) (dp_de (de_int))))) (da_cons (de_sub1 (de_var 0) (dp_var 1)) (da_nil)))) (dp_de (de_int))))))))
theorem s_is_pair : FnScope [("value" : Str)] [("value" : Str)] (defScope (top 27)) := ⟨rfl, rfl, rfl, by decide +kernel, rfl, by decide +kernel, by decide +kernel⟩
theorem b_is_pair {P : Program} {w : World} {K : PySem.W.Frag} {mg : Str → Option Value} {base : Heap} {cl : Nat → Addr} (T : Txt K mg cl) (fu : Nat) (h_is_tuple_of : Df P w K mg base cl "is_tuple_of" 3 2 (d_is_tuple_of fu)) (h_is_place : Df P w K mg base cl "is_place" 5 1 (d_is_place fu)) (f : Addr) : Body P w K mg base cl 5 [("value" : Str)] ("is_pair" : Str) (top 27) f (m_is_pair fu) := by
  intro C cdv A outer s H E hcl hr tk ps
  subst hcl
  have S := s_is_pair
  exact dss_one (ds_ret (de_and (de_callD h_is_tuple_of hr (by decide) tk (da_cons (de_var 0) (da_cons (de_int) (da_nil)))) (de_and (de_callD h_is_place hr (by decide) tk (da_cons (de_sub1 (de_var 0) (dp_de (de_int))) (da_nil))) (de_one (de_callD h_is_place hr (by decide) tk (da_cons (de_sub1 (de_var 0) (dp_de (de_int))) (da_nil)))))))
theorem s_is_piece : FnScope [("value" : Str), ("pair" : Str), ("place" : Str), ("item" : Str)] [("value" : Str)] (defScope (top 28)) := ⟨rfl, rfl, rfl, by decide +kernel, rfl, by decide +kernel, by decide +kernel⟩
theorem b_is_piece {P : Program} {w : World} {K : PySem.W.Frag} {mg : Str → Option Value} {base : Heap} {cl : Nat → Addr} (T : Txt K mg cl) (fu : Nat) (h_is_pair : Df P w K mg base cl "is_pair" 6 1 (d_is_pair fu)) (h_rises : Df P w K mg base cl "rises" 4 1 (d_rises fu)) (f : Addr) : Body P w K mg base cl 6 [("value" : Str), ("pair" : Str), ("place" : Str), ("item" : Str)] ("is_piece" : Str) (top 28) f (m_is_piece fu) := by
  intro C cdv A outer s H E hcl hr tk ps
  subst hcl
  have S := s_is_piece
  exact dss_cons (ds_if (dt_w (dw_or (dt_not (dt_val (de_isi1 .tuple rfl T.bisinstance (de_var 0) rfl T.btuple rfl))) (dw_or1 (dt_not (dt_val (de_all rfl rfl T.ball (dp_de (de_frz (dn_lc [(("item" : Str), 3)] rfl S.nd (diw_seq (de_var 0)) (blkOk_by (by kernel_rfl)) (fun _ _ _ _ _ => tg_name 3 S.nd) (fun _ _ _ _ _ => dts_nil) (fun _ _ _ _ _ => de_callD h_is_pair hr (by decide) takes0 (da_cons (de_var 3) (da_nil))))))))))))
     (dss_one (ds_ret (de_bl)))
     (dss_nil))
     (dss_one (ds_ret (de_callD h_rises hr (by decide) tk (da_cons (de_frz (dn_lc2 [(("pair" : Str), 1), (("place" : Str), 2)] [2] rfl S.nd (diw_seq (de_var 0)) (blkOk_by (by kernel_rfl)) (fun _ _ _ _ _ => tg_name 1 S.nd) (fun _ _ _ _ _ => dts_nil) (fun _ _ _ _ _ => diw_seq (de_var 1)) (fun _ _ _ _ _ => tg_name 2 S.nd) (fun _ _ _ _ _ => dts_nil) (fun _ _ _ _ _ => de_var 2))) (da_nil)))))
theorem s_check_piece : FnScope [("piece" : Str)] [("piece" : Str)] (defScope (top 29)) := ⟨rfl, rfl, rfl, by decide +kernel, rfl, by decide +kernel, by decide +kernel⟩
theorem b_check_piece {P : Program} {w : World} {K : PySem.W.Frag} {mg : Str → Option Value} {base : Heap} {cl : Nat → Addr} (T : Txt K mg cl) (fu : Nat) (h_is_piece : Df P w K mg base cl "is_piece" 7 1 (d_is_piece fu)) (f : Addr) : Body P w K mg base cl 7 [("piece" : Str)] ("check_piece" : Str) (top 29) f (m_check_piece fu) := by
  intro C cdv A outer s H E hcl hr tk ps
  subst hcl
  have S := s_check_piece
  exact dss_one (ds_if (dt_not (dt_val (de_callD h_is_piece hr (by decide) tk (da_cons (de_var 0) (da_nil)))))
     (dss_one (ds_raiseD (c := 0) rfl (T.eInvalidPiece) t_InvalidPiece hr (by decide) tk rfl (de_var 0)))
     (dss_nil))
theorem s_check_pieces : FnScope [("one" : Str), ("other" : Str)] [("one" : Str), ("other" : Str)] (defScope (top 30)) := ⟨rfl, rfl, rfl, by decide +kernel, rfl, by decide +kernel, by decide +kernel⟩
theorem b_check_pieces {P : Program} {w : World} {K : PySem.W.Frag} {mg : Str → Option Value} {base : Heap} {cl : Nat → Addr} (T : Txt K mg cl) (fu : Nat) (h_check_piece : Df P w K mg base cl "check_piece" 8 1 (d_check_piece fu)) (f : Addr) : Body P w K mg base cl 8 [("one" : Str), ("other" : Str)] ("check_pieces" : Str) (top 30) f (m_check_pieces fu) := by
  intro C cdv A outer s H E hcl hr tk ps
  subst hcl
  have S := s_check_pieces
  exact dss_cons (ds_expr (de_callD h_check_piece hr (by decide) tk (da_cons (de_var 0) (da_nil))))
     (dss_one (ds_expr (de_callD h_check_piece hr (by decide) tk (da_cons (de_var 1) (da_nil)))))
theorem s_combined : FnScope [("one" : Str), ("other" : Str), ("kept" : Str), ("ends" : Str), ("others" : Str), ("found" : Str), ("start" : Str), ("at" : Str), ("to" : Str), ("place" : Str), ("is_kept" : Str), ("pair" : Str)] [("one" : Str), ("other" : Str), ("kept" : Str)] (defScope (top 31)) := ⟨rfl, rfl, rfl, by decide +kernel, rfl, by decide +kernel, by decide +kernel⟩
theorem b_combined {P : Program} {w : World} {K : PySem.W.Frag} {mg : Str → Option Value} {base : Heap} {cl : Nat → Addr} (T : Txt K mg cl) (fu : Nat) (h_least_of : Df P w K mg base cl "least_of" 4 1 (d_least_of fu)) (f : Addr) : Body P w K mg base cl 4 [("one" : Str), ("other" : Str), ("kept" : Str), ("ends" : Str), ("others" : Str), ("found" : Str), ("start" : Str), ("at" : Str), ("to" : Str), ("place" : Str), ("is_kept" : Str), ("pair" : Str)] ("combined" : Str) (top 31) f (m_combined fu) := by
  intro C cdv A outer s H E hcl hr tk ps
  subst hcl
  have S := s_combined
  exact dss_cons (ds_par2 3 4 rfl S.nd (dr_val (de_frz (dn_lc2 [(("pair" : Str), 11), (("place" : Str), 9)] [9] rfl S.nd (diw_seq (de_var 0)) (blkOk_by (by kernel_rfl)) (fun _ _ _ _ _ => tg_name 11 S.nd) (fun _ _ _ _ _ => dts_nil) (fun _ _ _ _ _ => diw_seq (de_var 11)) (fun _ _ _ _ _ => tg_name 9 S.nd) (fun _ _ _ _ _ => dts_nil) (fun _ _ _ _ _ => de_var 9))) (dr_val (de_frz (dn_lc2 [(("pair" : Str), 11), (("place" : Str), 9)] [9] rfl S.nd (diw_seq (de_var 1)) (blkOk_by (by kernel_rfl)) (fun _ _ _ _ _ => tg_name 11 S.nd) (fun _ _ _ _ _ => dts_nil) (fun _ _ _ _ _ => diw_seq (de_var 11)) (fun _ _ _ _ _ => tg_name 9 S.nd) (fun _ _ _ _ _ => dts_nil) (fun _ _ _ _ _ => de_var 9))) (dr_nil))))
     (dss_cons (ds_parT (is := [5, 6, 7, 8]) (n := 4) rfl (dr_new (dn_lst (da_nil)) (dr_val (de_non) (dr_val (de_int) (dr_val (de_int) (dr_nil))))) (gn_cons 5 S.nd (gn_cons 6 S.nd (gn_cons 7 S.nd (gn_cons 8 S.nd (gn_nil))))))
     (dss_cons (ds_while fu ps (dt_w (dw_or (dt_c c_lt (de_var 7) (dp_de (de_len rfl T.blen (dp_var 3)))) (dw_or1 (dt_c c_lt (de_var 8) (dp_de (de_len rfl T.blen (dp_var 4)))))))
     (dss_cons (ds_set 9 S.nd (de_callD h_least_of hr (by decide) tk (da_cons (de_add (de_slice (de_var 3) (do_some (de_var 7)) (do_some (de_add (de_var 7) (dp_de (de_int))))) (dp_de (de_slice (de_var 4) (do_some (de_var 8)) (do_some (de_add (de_var 8) (dp_de (de_int))))))) (da_nil))))
     (dss_cons (ds_set 7 S.nd (de_add (de_var 7) (dp_de (de_int1 rfl T.bint (dp_de (de_c (c_eq hr) (de_slice (de_var 3) (do_some (de_var 7)) (do_some (de_add (de_var 7) (dp_de (de_int))))) (dp_de (de_frz (dn_lst (da_cons (de_var 9) (da_nil)))))))))))
     (dss_cons (ds_set 8 S.nd (de_add (de_var 8) (dp_de (de_int1 rfl T.bint (dp_de (de_c (c_eq hr) (de_slice (de_var 4) (do_some (de_var 8)) (do_some (de_add (de_var 8) (dp_de (de_int))))) (dp_de (de_frz (dn_lst (da_cons (de_var 9) (da_nil)))))))))))
     (dss_cons (ds_set 10 S.nd (de_sub1 (de_var 2) (dp_de (de_add (de_mul (de_mod (de_var 7) (dp_de (de_int))) (dp_de (de_int))) (dp_de (de_mod (de_var 8) (dp_de (de_int))))))))
     (dss_one (ds_if (dt_w (dw_and (dt_c c_is (de_var 6) (dp_de (de_non))) (dw_and1 (dt_val (de_var 10)))))
     (dss_one (ds_set 6 S.nd (de_var 9)))
     (dss_one (ds_if (dt_w (dw_and (dt_c c_isnot (de_var 6) (dp_de (de_non))) (dw_and1 (dt_not (dt_val (de_var 10))))))
     (dss_cons (ds_expr (de_mut 5 PySem.F.slot_list_append PySem.F.type_list_append mt_append ok_app (da_cons (de_tup (da_cons (de_var 6) (da_cons (de_var 9) (da_nil)))) (da_nil))))
     (dss_one (ds_set 6 S.nd (de_non))))
     (dss_nil))))))))))
     (dss_one (ds_ret (de_tuple rfl T.btuple (dp_var 5))))))
theorem s_piece_from : FnScope [("stretches" : Str), ("found" : Str), ("pairs" : Str), ("start" : Str), ("end" : Str), ("at" : Str), ("pair" : Str)] [("stretches" : Str)] (defScope (top 32)) := ⟨rfl, rfl, rfl, by decide +kernel, rfl, by decide +kernel, by decide +kernel⟩
theorem b_piece_from {P : Program} {w : World} {K : PySem.W.Frag} {mg : Str → Option Value} {base : Heap} {cl : Nat → Addr} (T : Txt K mg cl) (fu : Nat) (h_order_of : Df P w K mg base cl "order_of" 3 2 (d_order_of fu)) (h_combined : Df P w K mg base cl "combined" 5 3 (d_combined fu)) (f : Addr) : Body P w K mg base cl 5 [("stretches" : Str), ("found" : Str), ("pairs" : Str), ("start" : Str), ("end" : Str), ("at" : Str), ("pair" : Str)] ("piece_from" : Str) (top 32) f (m_piece_from fu) := by
  intro C cdv A outer s H E hcl hr tk ps
  subst hcl
  have S := s_piece_from
  exact dss_cons (ds_set 1 S.nd (de_frz (dn_lc [(("start" : Str), 3), (("end" : Str), 4)] rfl S.nd (diw_seq (de_var 0)) (blkOk_by (by kernel_rfl)) (fun _ _ _ _ _ => tg_tup rfl (tgs_cons (tg_name 3 S.nd) (tgs_cons (tg_name 4 S.nd) (tgs_nil)))) (fun _ _ _ _ _ => dts_nil) (fun _ _ _ _ _ => de_if (dt_c c_lt (de_callD h_order_of hr (by decide) takes0 (da_cons (de_var 3) (da_cons (de_var 4) (da_nil)))) (dp_de (de_int))) (de_tup (da_cons (de_tup (da_cons (de_var 3) (da_cons (de_var 4) (da_nil)))) (da_nil))) (de_tup (da_nil))))))
     (dss_cons (ds_while fu ps (dt_c c_gt (de_len rfl T.blen (dp_var 1)) (dp_de (de_int)))
     (dss_cons (ds_setLcV 2 [(("at" : Str), 5)] rfl S.nd (diw_of (di_range3 rfl T.brange (de_int) (de_len rfl T.blen (dp_var 1)) (de_int))) (blkOk_by (by kernel_rfl)) (fun _ _ _ _ _ => tg_name 5 S.nd) (fun _ _ _ _ _ => dts_nil) (fun _ _ _ _ _ => de_slice (de_var 1) (do_some (de_var 5)) (do_some (de_add (de_var 5) (dp_de (de_int))))))
     (dss_one (ds_set 1 S.nd (de_frz (dn_lc [(("pair" : Str), 6)] rfl S.nd (diw_seq (de_var 2)) (blkOk_by (by kernel_rfl)) (fun _ _ _ _ _ => tg_name 6 S.nd) (fun _ _ _ _ _ => dts_nil) (fun _ _ _ _ _ => de_callD h_combined hr (by decide) takes0 (da_cons (de_sub1 (de_var 6) (dp_de (de_int))) (da_cons (de_sub1 (de_var 6) (dp_de (de_neg (dp_de (de_int))))) (da_cons (de_const T.cEITHER) (da_nil)))))))))))
     (dss_one (ds_ret (de_if (dt_c (c_ne hr) (de_var 1) (dp_de (de_frz (dn_lst (da_nil))))) (de_sub1 (de_var 1) (dp_de (de_int))) (de_tup (da_nil))))))
theorem s_piece_of : FnScope [("stretches" : Str), ("start" : Str), ("end" : Str), ("item" : Str)] [("stretches" : Str)] (defScope (top 33)) := ⟨rfl, rfl, rfl, by decide +kernel, rfl, by decide +kernel, by decide +kernel⟩
theorem b_piece_of {P : Program} {w : World} {K : PySem.W.Frag} {mg : Str → Option Value} {base : Heap} {cl : Nat → Addr} (T : Txt K mg cl) (fu : Nat) (h_is_list : Df P w K mg base cl "is_list" 3 1 (d_is_list fu)) (h_is_pair : Df P w K mg base cl "is_pair" 6 1 (d_is_pair fu)) (h_order_of : Df P w K mg base cl "order_of" 3 2 (d_order_of fu)) (h_piece_from : Df P w K mg base cl "piece_from" 6 1 (d_piece_from fu)) (f : Addr) : Body P w K mg base cl 6 [("stretches" : Str), ("start" : Str), ("end" : Str), ("item" : Str)] ("piece_of" : Str) (top 33) f (m_piece_of fu) := by
  intro C cdv A outer s H E hcl hr tk ps
  subst hcl
  have S := s_piece_of
  exact dss_cons (ds_if (dt_w (dw_or (dt_not (dt_val (de_callD h_is_list hr (by decide) tk (da_cons (de_var 0) (da_nil))))) (dw_or1 (dt_not (dt_val (de_all rfl rfl T.ball (dp_de (de_frz (dn_lc [(("item" : Str), 3)] rfl S.nd (diw_seq (de_var 0)) (blkOk_by (by kernel_rfl)) (fun _ _ _ _ _ => tg_name 3 S.nd) (fun _ _ _ _ _ => dts_nil) (fun _ _ _ _ _ => de_callD h_is_pair hr (by decide) takes0 (da_cons (de_var 3) (da_nil))))))))))))
     (dss_one (ds_raiseD (c := 2) rfl (T.eInvalidStretches) t_InvalidStretches hr (by decide) tk rfl (de_var 0)))
     (dss_nil))
     (dss_cons (ds_if (dt_val (de_any rfl rfl T.bany (dp_de (de_frz (dn_lc [(("start" : Str), 1), (("end" : Str), 2)] rfl S.nd (diw_seq (de_var 0)) (blkOk_by (by kernel_rfl)) (fun _ _ _ _ _ => tg_tup rfl (tgs_cons (tg_name 1 S.nd) (tgs_cons (tg_name 2 S.nd) (tgs_nil)))) (fun _ _ _ _ _ => dts_nil) (fun _ _ _ _ _ => de_c c_gt (de_callD h_order_of hr (by decide) takes0 (da_cons (de_var 1) (da_cons (de_var 2) (da_nil)))) (dp_de (de_int))))))))
     (dss_one (ds_raiseD (c := 2) rfl (T.eInvalidStretches) t_InvalidStretches hr (by decide) tk rfl (de_var 0)))
     (dss_nil))
     (dss_one (ds_ret (de_callD h_piece_from hr (by decide) tk (da_cons (de_var 0) (da_nil))))))
theorem s_length_of : FnScope [("piece" : Str), ("start" : Str), ("end" : Str)] [("piece" : Str)] (defScope (top 34)) := ⟨rfl, rfl, rfl, by decide +kernel, rfl, by decide +kernel, by decide +kernel⟩
theorem b_length_of {P : Program} {w : World} {K : PySem.W.Frag} {mg : Str → Option Value} {base : Heap} {cl : Nat → Addr} (T : Txt K mg cl) (fu : Nat) (h_check_piece : Df P w K mg base cl "check_piece" 8 1 (d_check_piece fu)) (h_total_of : Df P w K mg base cl "total_of" 5 1 (d_total_of fu)) (h_difference_of : Df P w K mg base cl "difference_of" 4 2 (d_difference_of fu)) (f : Addr) : Body P w K mg base cl 8 [("piece" : Str), ("start" : Str), ("end" : Str)] ("length_of" : Str) (top 34) f (m_length_of fu) := by
  intro C cdv A outer s H E hcl hr tk ps
  subst hcl
  have S := s_length_of
  exact dss_cons (ds_expr (de_callD h_check_piece hr (by decide) tk (da_cons (de_var 0) (da_nil))))
     (dss_one (ds_ret (de_callD h_total_of hr (by decide) tk (da_cons (de_frz (dn_lc [(("start" : Str), 1), (("end" : Str), 2)] rfl S.nd (diw_seq (de_var 0)) (blkOk_by (by kernel_rfl)) (fun _ _ _ _ _ => tg_tup rfl (tgs_cons (tg_name 1 S.nd) (tgs_cons (tg_name 2 S.nd) (tgs_nil)))) (fun _ _ _ _ _ => dts_nil) (fun _ _ _ _ _ => de_callD h_difference_of hr (by decide) takes0 (da_cons (de_var 2) (da_cons (de_var 1) (da_nil)))))) (da_nil)))))
theorem s_joined_pieces : FnScope [("one" : Str), ("other" : Str)] [("one" : Str), ("other" : Str)] (defScope (top 35)) := ⟨rfl, rfl, rfl, by decide +kernel, rfl, by decide +kernel, by decide +kernel⟩
theorem b_joined_pieces {P : Program} {w : World} {K : PySem.W.Frag} {mg : Str → Option Value} {base : Heap} {cl : Nat → Addr} (T : Txt K mg cl) (fu : Nat) (h_check_pieces : Df P w K mg base cl "check_pieces" 9 2 (d_check_pieces fu)) (h_combined : Df P w K mg base cl "combined" 5 3 (d_combined fu)) (f : Addr) : Body P w K mg base cl 9 [("one" : Str), ("other" : Str)] ("joined_pieces" : Str) (top 35) f (m_joined_pieces fu) := by
  intro C cdv A outer s H E hcl hr tk ps
  subst hcl
  have S := s_joined_pieces
  exact dss_cons (ds_expr (de_callD h_check_pieces hr (by decide) tk (da_cons (de_var 0) (da_cons (de_var 1) (da_nil)))))
     (dss_one (ds_ret (de_callD h_combined hr (by decide) tk (da_cons (de_var 0) (da_cons (de_var 1) (da_cons (de_const T.cEITHER) (da_nil)))))))
theorem s_common_piece : FnScope [("one" : Str), ("other" : Str)] [("one" : Str), ("other" : Str)] (defScope (top 36)) := ⟨rfl, rfl, rfl, by decide +kernel, rfl, by decide +kernel, by decide +kernel⟩
theorem b_common_piece {P : Program} {w : World} {K : PySem.W.Frag} {mg : Str → Option Value} {base : Heap} {cl : Nat → Addr} (T : Txt K mg cl) (fu : Nat) (h_check_pieces : Df P w K mg base cl "check_pieces" 9 2 (d_check_pieces fu)) (h_combined : Df P w K mg base cl "combined" 5 3 (d_combined fu)) (f : Addr) : Body P w K mg base cl 9 [("one" : Str), ("other" : Str)] ("common_piece" : Str) (top 36) f (m_common_piece fu) := by
  intro C cdv A outer s H E hcl hr tk ps
  subst hcl
  have S := s_common_piece
  exact dss_cons (ds_expr (de_callD h_check_pieces hr (by decide) tk (da_cons (de_var 0) (da_cons (de_var 1) (da_nil)))))
     (dss_one (ds_ret (de_callD h_combined hr (by decide) tk (da_cons (de_var 0) (da_cons (de_var 1) (da_cons (de_const T.cBOTH) (da_nil)))))))
theorem s_rest_piece : FnScope [("one" : Str), ("other" : Str)] [("one" : Str), ("other" : Str)] (defScope (top 37)) := ⟨rfl, rfl, rfl, by decide +kernel, rfl, by decide +kernel, by decide +kernel⟩
theorem b_rest_piece {P : Program} {w : World} {K : PySem.W.Frag} {mg : Str → Option Value} {base : Heap} {cl : Nat → Addr} (T : Txt K mg cl) (fu : Nat) (h_check_pieces : Df P w K mg base cl "check_pieces" 9 2 (d_check_pieces fu)) (h_combined : Df P w K mg base cl "combined" 5 3 (d_combined fu)) (f : Addr) : Body P w K mg base cl 9 [("one" : Str), ("other" : Str)] ("rest_piece" : Str) (top 37) f (m_rest_piece fu) := by
  intro C cdv A outer s H E hcl hr tk ps
  subst hcl
  have S := s_rest_piece
  exact dss_cons (ds_expr (de_callD h_check_pieces hr (by decide) tk (da_cons (de_var 0) (da_cons (de_var 1) (da_nil)))))
     (dss_one (ds_ret (de_callD h_combined hr (by decide) tk (da_cons (de_var 0) (da_cons (de_var 1) (da_cons (de_const T.cFIRST) (da_nil)))))))
theorem s_left_piece : FnScope [("piece" : Str), ("place" : Str), ("start" : Str), ("end" : Str)] [("piece" : Str), ("place" : Str)] (defScope (top 38)) := ⟨rfl, rfl, rfl, by decide +kernel, rfl, by decide +kernel, by decide +kernel⟩
theorem b_left_piece {P : Program} {w : World} {K : PySem.W.Frag} {mg : Str → Option Value} {base : Heap} {cl : Nat → Addr} (T : Txt K mg cl) (fu : Nat) (h_order_of : Df P w K mg base cl "order_of" 3 2 (d_order_of fu)) (h_least_of : Df P w K mg base cl "least_of" 4 1 (d_least_of fu)) (f : Addr) : Body P w K mg base cl 4 [("piece" : Str), ("place" : Str), ("start" : Str), ("end" : Str)] ("left_piece" : Str) (top 38) f (m_left_piece fu) := by
  intro C cdv A outer s H E hcl hr tk ps
  subst hcl
  have S := s_left_piece
  exact dss_one (ds_ret (de_tuple rfl T.btuple (dp_de (de_frz (dn_lc [(("start" : Str), 2), (("end" : Str), 3)] rfl S.nd (diw_seq (de_var 0)) (blkOk_by (by kernel_rfl)) (fun _ _ _ _ _ => tg_tup rfl (tgs_cons (tg_name 2 S.nd) (tgs_cons (tg_name 3 S.nd) (tgs_nil)))) (fun _ _ _ _ _ => dts_one (dt_c c_lt (de_callD h_order_of hr (by decide) takes0 (da_cons (de_var 2) (da_cons (de_var 1) (da_nil)))) (dp_de (de_int)))) (fun _ _ _ _ _ => de_tup (da_cons (de_var 2) (da_cons (de_callD h_least_of hr (by decide) takes0 (da_cons (de_frz (dn_lst (da_cons (de_var 3) (da_cons (de_var 1) (da_nil))))) (da_nil))) (da_nil)))))))))
theorem s_right_piece : FnScope [("piece" : Str), ("place" : Str), ("start" : Str), ("end" : Str)] [("piece" : Str), ("place" : Str)] (defScope (top 39)) := ⟨rfl, rfl, rfl, by decide +kernel, rfl, by decide +kernel, by decide +kernel⟩
theorem b_right_piece {P : Program} {w : World} {K : PySem.W.Frag} {mg : Str → Option Value} {base : Heap} {cl : Nat → Addr} (T : Txt K mg cl) (fu : Nat) (h_order_of : Df P w K mg base cl "order_of" 3 2 (d_order_of fu)) (h_greatest_of : Df P w K mg base cl "greatest_of" 4 1 (d_greatest_of fu)) (f : Addr) : Body P w K mg base cl 4 [("piece" : Str), ("place" : Str), ("start" : Str), ("end" : Str)] ("right_piece" : Str) (top 39) f (m_right_piece fu) := by
  intro C cdv A outer s H E hcl hr tk ps
  subst hcl
  have S := s_right_piece
  exact dss_one (ds_ret (de_tuple rfl T.btuple (dp_de (de_frz (dn_lc [(("start" : Str), 2), (("end" : Str), 3)] rfl S.nd (diw_seq (de_var 0)) (blkOk_by (by kernel_rfl)) (fun _ _ _ _ _ => tg_tup rfl (tgs_cons (tg_name 2 S.nd) (tgs_cons (tg_name 3 S.nd) (tgs_nil)))) (fun _ _ _ _ _ => dts_one (dt_c c_lt (de_callD h_order_of hr (by decide) takes0 (da_cons (de_var 1) (da_cons (de_var 3) (da_nil)))) (dp_de (de_int)))) (fun _ _ _ _ _ => de_tup (da_cons (de_callD h_greatest_of hr (by decide) takes0 (da_cons (de_frz (dn_lst (da_cons (de_var 2) (da_cons (de_var 1) (da_nil))))) (da_nil))) (da_cons (de_var 3) (da_nil)))))))))
theorem s_parted : FnScope [("piece" : Str), ("place" : Str)] [("piece" : Str), ("place" : Str)] (defScope (top 40)) := ⟨rfl, rfl, rfl, by decide +kernel, rfl, by decide +kernel, by decide +kernel⟩
theorem b_parted {P : Program} {w : World} {K : PySem.W.Frag} {mg : Str → Option Value} {base : Heap} {cl : Nat → Addr} (T : Txt K mg cl) (fu : Nat) (h_check_piece : Df P w K mg base cl "check_piece" 8 1 (d_check_piece fu)) (h_check_place : Df P w K mg base cl "check_place" 6 1 (d_check_place fu)) (h_left_piece : Df P w K mg base cl "left_piece" 5 2 (d_left_piece fu)) (h_right_piece : Df P w K mg base cl "right_piece" 5 2 (d_right_piece fu)) (f : Addr) : Body P w K mg base cl 8 [("piece" : Str), ("place" : Str)] ("parted" : Str) (top 40) f (m_parted fu) := by
  intro C cdv A outer s H E hcl hr tk ps
  subst hcl
  have S := s_parted
  exact dss_cons (ds_expr (de_callD h_check_piece hr (by decide) tk (da_cons (de_var 0) (da_nil))))
     (dss_cons (ds_expr (de_callD h_check_place hr (by decide) tk (da_cons (de_var 1) (da_nil))))
     (dss_one (ds_ret (de_tup (da_cons (de_callD h_left_piece hr (by decide) tk (da_cons (de_var 0) (da_cons (de_var 1) (da_nil)))) (da_cons (de_callD h_right_piece hr (by decide) tk (da_cons (de_var 0) (da_cons (de_var 1) (da_nil)))) (da_nil)))))))
theorem s_has_place : FnScope [("piece" : Str), ("value" : Str), ("start" : Str), ("end" : Str)] [("piece" : Str), ("value" : Str)] (defScope (top 41)) := ⟨rfl, rfl, rfl, by decide +kernel, rfl, by decide +kernel, by decide +kernel⟩
theorem b_has_place {P : Program} {w : World} {K : PySem.W.Frag} {mg : Str → Option Value} {base : Heap} {cl : Nat → Addr} (T : Txt K mg cl) (fu : Nat) (h_is_place : Df P w K mg base cl "is_place" 5 1 (d_is_place fu)) (h_order_of : Df P w K mg base cl "order_of" 3 2 (d_order_of fu)) (f : Addr) : Body P w K mg base cl 5 [("piece" : Str), ("value" : Str), ("start" : Str), ("end" : Str)] ("has_place" : Str) (top 41) f (m_has_place fu) := by
  intro C cdv A outer s H E hcl hr tk ps
  subst hcl
  have S := s_has_place
  exact dss_cons (ds_if (dt_not (dt_val (de_callD h_is_place hr (by decide) tk (da_cons (de_var 1) (da_nil)))))
     (dss_one (ds_ret (de_bl)))
     (dss_nil))
     (dss_cons (ds_if (dt_c (c_eq hr) (de_var 0) (dp_de (de_tup (da_nil))))
     (dss_one (ds_ret (de_c (c_eq hr) (de_var 1) (dp_de (de_const T.cZERO)))))
     (dss_nil))
     (dss_one (ds_ret (de_any rfl rfl T.bany (dp_de (de_frz (dn_lc [(("start" : Str), 2), (("end" : Str), 3)] rfl S.nd (diw_seq (de_var 0)) (blkOk_by (by kernel_rfl)) (fun _ _ _ _ _ => tg_tup rfl (tgs_cons (tg_name 2 S.nd) (tgs_cons (tg_name 3 S.nd) (tgs_nil)))) (fun _ _ _ _ _ => dts_nil) (fun _ _ _ _ _ => de_and (de_c c_le (de_callD h_order_of hr (by decide) takes0 (da_cons (de_var 2) (da_cons (de_var 1) (da_nil)))) (dp_de (de_int))) (de_one (de_c c_le (de_callD h_order_of hr (by decide) takes0 (da_cons (de_var 1) (da_cons (de_var 3) (da_nil)))) (dp_de (de_int))))))))))))
theorem s_is_place_of : FnScope [("piece" : Str), ("value" : Str)] [("piece" : Str), ("value" : Str)] (defScope (top 42)) := ⟨rfl, rfl, rfl, by decide +kernel, rfl, by decide +kernel, by decide +kernel⟩
theorem b_is_place_of {P : Program} {w : World} {K : PySem.W.Frag} {mg : Str → Option Value} {base : Heap} {cl : Nat → Addr} (T : Txt K mg cl) (fu : Nat) (h_check_piece : Df P w K mg base cl "check_piece" 8 1 (d_check_piece fu)) (h_has_place : Df P w K mg base cl "has_place" 6 2 (d_has_place fu)) (f : Addr) : Body P w K mg base cl 8 [("piece" : Str), ("value" : Str)] ("is_place_of" : Str) (top 42) f (m_is_place_of fu) := by
  intro C cdv A outer s H E hcl hr tk ps
  subst hcl
  have S := s_is_place_of
  exact dss_cons (ds_expr (de_callD h_check_piece hr (by decide) tk (da_cons (de_var 0) (da_nil))))
     (dss_one (ds_ret (de_callD h_has_place hr (by decide) tk (da_cons (de_var 0) (da_cons (de_var 1) (da_nil))))))
theorem s_law_box : FnScope [("great" : Str), ("small" : Str)] [("great" : Str)] (defScope (top 44)) := ⟨rfl, rfl, rfl, by decide +kernel, rfl, by decide +kernel, by decide +kernel⟩
theorem b_law_box {P : Program} {w : World} {K : PySem.W.Frag} {mg : Str → Option Value} {base : Heap} {cl : Nat → Addr} (T : Txt K mg cl) (fu : Nat) (f : Addr) : Body P w K mg base cl 2 [("great" : Str), ("small" : Str)] ("_law_box" : Str) (top 44) f (m_law_box fu) := by
  intro C cdv A outer s H E hcl hr tk ps
  subst hcl
  have S := s_law_box
  exact dss_cons (ds_set 1 S.nd (de_mod (de_int1 rfl T.bint (dp_de (de_abs rfl T.babs (dp_var 0)))) (dp_de (de_pow (de_int) (dp_de (de_int))))))
     (dss_one (ds_ret (de_lab (dn_lst (da_cons (de_var 1) (da_cons (de_c c_ge (de_abs rfl T.babs (dp_var 0)) (dp_de (de_pow (de_int) (dp_de (de_int))))) (da_cons (de_mod (de_var 1) (dp_de (de_int))) (da_cons (de_int) (da_nil)))))))))
theorem s_law_take : FnScope [("box" : Str), ("many" : Str), ("digit" : Str)] [("box" : Str), ("many" : Str)] (defScope (top 45)) := ⟨rfl, rfl, rfl, by decide +kernel, rfl, by decide +kernel, by decide +kernel⟩
theorem b_law_take {P : Program} {w : World} {K : PySem.W.Frag} {mg : Str → Option Value} {base : Heap} {cl : Nat → Addr} (T : Txt K mg cl) (fu : Nat) (f : Addr) : Body P w K mg base cl 2 [("box" : Str), ("many" : Str), ("digit" : Str)] ("_law_take" : Str) (top 45) f (m_law_take fu) := by
  intro C cdv A outer s H E hcl hr tk ps
  subst hcl
  have S := s_law_take
  exact dss_cons (ds_if (dt_w (dw_and (dt_val (de_sub1 (de_var 0) (dp_de (de_int)))) (dw_and1 (dt_c c_gt (de_sub1 (de_var 0) (dp_de (de_int))) (dp_de (de_int))))))
     (dss_cons (ds_set 2 S.nd (de_mod (de_int1 rfl T.bint (dp_de (de_sub1 (de_var 0) (dp_de (de_int))))) (dp_var 1)))
     (dss_cons (ds_setIt 0 (de_div (de_int1 rfl T.bint (dp_de (de_sub1 (de_var 0) (dp_de (de_int))))) (dp_var 1)) (de_int))
     (dss_one (ds_ret (de_var 2)))))
     (dss_nil))
     (dss_cons (ds_setIt 0 (de_add (de_sub1 (de_var 0) (dp_de (de_int))) (dp_de (de_int))) (de_int))
     (dss_cons (ds_setIt 0 (de_mod (de_add (de_add (de_mul (de_sub1 (de_var 0) (dp_de (de_int))) (dp_de (de_int))) (dp_de (de_mul (de_int) (dp_de (de_sub1 (de_var 0) (dp_de (de_int))))))) (dp_de (de_int))) (dp_de (de_int))) (de_int))
     (dss_one (ds_ret (de_mod (de_int1 rfl T.bint (dp_de (de_div (de_sub1 (de_var 0) (dp_de (de_int))) (dp_de (de_int))))) (dp_var 1))))))
theorem s_law_pick : FnScope [("box" : Str), ("some" : Str)] [("box" : Str), ("some" : Str)] (defScope (top 46)) := ⟨rfl, rfl, rfl, by decide +kernel, rfl, by decide +kernel, by decide +kernel⟩
theorem b_law_pick {P : Program} {w : World} {K : PySem.W.Frag} {mg : Str → Option Value} {base : Heap} {cl : Nat → Addr} (T : Txt K mg cl) (fu : Nat) (h_law_take : Df P w K mg base cl "_law_take" 3 2 (d_law_take fu)) (f : Addr) : Body P w K mg base cl 3 [("box" : Str), ("some" : Str)] ("_law_pick" : Str) (top 46) f (m_law_pick fu) := by
  intro C cdv A outer s H E hcl hr tk ps
  subst hcl
  have S := s_law_pick
  exact dss_one (ds_ret (de_sub1 (de_var 1) (dp_de (de_callD h_law_take hr (by decide) tk (da_cons (de_var 0) (da_cons (de_len rfl T.blen (dp_var 1)) (da_nil)))))))
theorem s_law_cell : FnScope [("script" : Str), ("k" : Str)] [("script" : Str), ("k" : Str)] (defScope (top 47)) := ⟨rfl, rfl, rfl, by decide +kernel, rfl, by decide +kernel, by decide +kernel⟩
theorem b_law_cell {P : Program} {w : World} {K : PySem.W.Frag} {mg : Str → Option Value} {base : Heap} {cl : Nat → Addr} (T : Txt K mg cl) (fu : Nat) (f : Addr) : Body P w K mg base cl 2 [("script" : Str), ("k" : Str)] ("_law_cell" : Str) (top 47) f (m_law_cell fu) := by
  intro C cdv A outer s H E hcl hr tk ps
  subst hcl
  have S := s_law_cell
  exact dss_one (ds_ret (de_if (dt_c c_lt (de_var 1) (dp_de (de_len rfl T.blen (dp_var 0)))) (de_sub1 (de_var 0) (dp_var 1)) (de_add (de_mul (de_int) (dp_var 1)) (dp_de (de_mod (de_int1 rfl T.bint (dp_de (de_sum rfl rfl T.bsum (dp_de (de_slice (de_var 0) (do_none) (do_some (de_int))))))) (dp_de (de_int)))))))
theorem s_law_mixed : FnScope [("box" : Str), ("some" : Str), ("left" : Str), ("found" : Str), ("turn" : Str)] [("box" : Str), ("some" : Str)] (defScope (top 48)) := ⟨rfl, rfl, rfl, by decide +kernel, rfl, by decide +kernel, by decide +kernel⟩
theorem b_law_mixed {P : Program} {w : World} {K : PySem.W.Frag} {mg : Str → Option Value} {base : Heap} {cl : Nat → Addr} (T : Txt K mg cl) (fu : Nat) (h_law_take : Df P w K mg base cl "_law_take" 3 2 (d_law_take fu)) (f : Addr) : Body P w K mg base cl 3 [("box" : Str), ("some" : Str), ("left" : Str), ("found" : Str), ("turn" : Str)] ("_law_mixed" : Str) (top 48) f (m_law_mixed fu) := by
  intro C cdv A outer s H E hcl hr tk ps
  subst hcl
  have S := s_law_mixed
  exact dss_cons (ds_par2 2 3 rfl S.nd (dr_new (dn_list rfl T.blist (dp_var 1)) (dr_new (dn_lst (da_nil)) (dr_nil))))
     (dss_cons (ds_for ps rfl (di_range1 rfl T.brange (de_len rfl T.blen (dp_var 1))) (dg_name 4 S.nd) (nox_name 4)
     (dss_one (ds_expr (de_mut 3 PySem.F.slot_list_append PySem.F.type_list_append mt_append ok_app (da_cons (de_mut 2 PySem.F.slot_list_pop PySem.F.type_list_pop mt_popAny ok_pop (da_cons (de_callD h_law_take hr (by decide) tk (da_cons (de_var 0) (da_cons (de_len rfl T.blen (dp_var 2)) (da_nil)))) (da_nil))) (da_nil))))))
     (dss_one (ds_ret (de_var 3))))
theorem s_law_low : FnScope [("top" : Str), ("bottom" : Str), ("one" : Str), ("other" : Str)] [("top" : Str), ("bottom" : Str)] (defScope (top 49)) := ⟨rfl, rfl, rfl, by decide +kernel, rfl, by decide +kernel, by decide +kernel⟩
theorem b_law_low {P : Program} {w : World} {K : PySem.W.Frag} {mg : Str → Option Value} {base : Heap} {cl : Nat → Addr} (T : Txt K mg cl) (fu : Nat) (f : Addr) : Body P w K mg base cl 2 [("top" : Str), ("bottom" : Str), ("one" : Str), ("other" : Str)] ("_law_low" : Str) (top 49) f (m_law_low fu) := by
  intro C cdv A outer s H E hcl hr tk ps
  subst hcl
  have S := s_law_low
  exact dss_cons (ds_par2 2 3 rfl S.nd (dr_val (de_abs rfl T.babs (dp_var 0)) (dr_val (de_abs rfl T.babs (dp_var 1)) (dr_nil))))
     (dss_cons (ds_while fu ps (dt_c c_gt (de_var 3) (dp_de (de_int)))
     (dss_one (ds_par2 2 3 rfl S.nd (dr_val (de_var 3) (dr_val (de_mod (de_int1 rfl T.bint (dp_var 2)) (dp_var 3)) (dr_nil))))))
     (dss_cons (ds_if (dt_c c_lt (de_var 1) (dp_de (de_int)))
     (dss_one (ds_set 2 S.nd (de_neg (dp_var 2))))
     (dss_nil))
     (dss_one (ds_ret (de_tup (da_cons (de_div (de_var 0) (dp_var 2)) (da_cons (de_div (de_var 1) (dp_var 2)) (da_nil))))))))
theorem s_law_plus : FnScope [("one" : Str), ("other" : Str)] [("one" : Str), ("other" : Str)] (defScope (top 50)) := ⟨rfl, rfl, rfl, by decide +kernel, rfl, by decide +kernel, by decide +kernel⟩
theorem b_law_plus {P : Program} {w : World} {K : PySem.W.Frag} {mg : Str → Option Value} {base : Heap} {cl : Nat → Addr} (T : Txt K mg cl) (fu : Nat) (h_law_low : Df P w K mg base cl "_law_low" 3 2 (d_law_low fu)) (f : Addr) : Body P w K mg base cl 3 [("one" : Str), ("other" : Str)] ("_law_plus" : Str) (top 50) f (m_law_plus fu) := by
  intro C cdv A outer s H E hcl hr tk ps
  subst hcl
  have S := s_law_plus
  exact dss_one (ds_ret (de_callD h_law_low hr (by decide) tk (da_cons (de_add (de_mul (de_sub1 (de_var 0) (dp_de (de_int))) (dp_de (de_sub1 (de_var 1) (dp_de (de_int))))) (dp_de (de_mul (de_sub1 (de_var 1) (dp_de (de_int))) (dp_de (de_sub1 (de_var 0) (dp_de (de_int))))))) (da_cons (de_mul (de_sub1 (de_var 0) (dp_de (de_int))) (dp_de (de_sub1 (de_var 1) (dp_de (de_int))))) (da_nil)))))
theorem s_law_minus : FnScope [("one" : Str), ("other" : Str)] [("one" : Str), ("other" : Str)] (defScope (top 51)) := ⟨rfl, rfl, rfl, by decide +kernel, rfl, by decide +kernel, by decide +kernel⟩
theorem b_law_minus {P : Program} {w : World} {K : PySem.W.Frag} {mg : Str → Option Value} {base : Heap} {cl : Nat → Addr} (T : Txt K mg cl) (fu : Nat) (h_law_low : Df P w K mg base cl "_law_low" 3 2 (d_law_low fu)) (f : Addr) : Body P w K mg base cl 3 [("one" : Str), ("other" : Str)] ("_law_minus" : Str) (top 51) f (m_law_minus fu) := by
  intro C cdv A outer s H E hcl hr tk ps
  subst hcl
  have S := s_law_minus
  exact dss_one (ds_ret (de_callD h_law_low hr (by decide) tk (da_cons (de_sub (de_mul (de_sub1 (de_var 0) (dp_de (de_int))) (dp_de (de_sub1 (de_var 1) (dp_de (de_int))))) (dp_de (de_mul (de_sub1 (de_var 1) (dp_de (de_int))) (dp_de (de_sub1 (de_var 0) (dp_de (de_int))))))) (da_cons (de_mul (de_sub1 (de_var 0) (dp_de (de_int))) (dp_de (de_sub1 (de_var 1) (dp_de (de_int))))) (da_nil)))))
theorem s_law_less : FnScope [("one" : Str), ("other" : Str)] [("one" : Str), ("other" : Str)] (defScope (top 52)) := ⟨rfl, rfl, rfl, by decide +kernel, rfl, by decide +kernel, by decide +kernel⟩
theorem b_law_less {P : Program} {w : World} {K : PySem.W.Frag} {mg : Str → Option Value} {base : Heap} {cl : Nat → Addr} (T : Txt K mg cl) (fu : Nat) (f : Addr) : Body P w K mg base cl 2 [("one" : Str), ("other" : Str)] ("_law_less" : Str) (top 52) f (m_law_less fu) := by
  intro C cdv A outer s H E hcl hr tk ps
  subst hcl
  have S := s_law_less
  exact dss_one (ds_ret (de_c c_lt (de_mul (de_sub1 (de_var 0) (dp_de (de_int))) (dp_de (de_sub1 (de_var 1) (dp_de (de_int))))) (dp_de (de_mul (de_sub1 (de_var 1) (dp_de (de_int))) (dp_de (de_sub1 (de_var 0) (dp_de (de_int))))))))
theorem s_law_sum : FnScope [("some" : Str), ("whole" : Str), ("one" : Str)] [("some" : Str)] (defScope (top 53)) := ⟨rfl, rfl, rfl, by decide +kernel, rfl, by decide +kernel, by decide +kernel⟩
theorem b_law_sum {P : Program} {w : World} {K : PySem.W.Frag} {mg : Str → Option Value} {base : Heap} {cl : Nat → Addr} (T : Txt K mg cl) (fu : Nat) (h_law_plus : Df P w K mg base cl "_law_plus" 4 2 (d_law_plus fu)) (f : Addr) : Body P w K mg base cl 4 [("some" : Str), ("whole" : Str), ("one" : Str)] ("_law_sum" : Str) (top 53) f (m_law_sum fu) := by
  intro C cdv A outer s H E hcl hr tk ps
  subst hcl
  have S := s_law_sum
  exact dss_cons (ds_set 1 S.nd (de_tup (da_cons (de_int) (da_cons (de_int) (da_nil)))))
     (dss_cons (ds_for ps rfl (di_seq (de_var 0)) (dg_name 2 S.nd) (nox_name 2)
     (dss_one (ds_set 1 S.nd (de_callD h_law_plus hr (by decide) tk (da_cons (de_var 1) (da_cons (de_var 2) (da_nil)))))))
     (dss_one (ds_ret (de_var 1))))
theorem s_law_union : FnScope [("stretches" : Str), ("rows" : Str), ("found" : Str), ("low" : Str), ("high" : Str), ("one" : Str)] [("stretches" : Str)] (defScope (top 54)) := ⟨rfl, rfl, rfl, by decide +kernel, rfl, by decide +kernel, by decide +kernel⟩
theorem b_law_union {P : Program} {w : World} {K : PySem.W.Frag} {mg : Str → Option Value} {base : Heap} {cl : Nat → Addr} (T : Txt K mg cl) (fu : Nat) (h_law_less : Df P w K mg base cl "_law_less" 3 2 (d_law_less fu)) (f : Addr) : Body P w K mg base cl 3 [("stretches" : Str), ("rows" : Str), ("found" : Str), ("low" : Str), ("high" : Str), ("one" : Str)] ("_law_union" : Str) (top 54) f (m_law_union fu) := by
  intro C cdv A outer s H E hcl hr tk ps
  subst hcl
  have S := s_law_union
  exact dss_cons (ds_par2 1 2 rfl S.nd (dr_new (dn_lst (da_nil)) (dr_new (dn_lst (da_nil)) (dr_nil))))
     (dss_cons (ds_for ps rfl (di_seq (de_var 0)) (dg_tup rfl (dgs_cons (dg_name 3 S.nd) (dgs_cons (dg_name 4 S.nd) (dgs_nil)))) (nox_tup (noxs_cons (nox_name 3) (noxs_cons (nox_name 4) (noxs_nil))))
     (dss_one (ds_expr (de_mut 1 PySem.F.slot_list_insert PySem.F.type_list_insert mt_insert ok_ins (da_cons (de_len rfl T.blen (dp_de (de_frz (dn_lc [(("one" : Str), 5)] rfl S.nd (diw_own 1) (blkOk_by (by kernel_rfl)) (fun _ _ _ _ _ => tg_name 5 S.nd) (fun _ _ _ _ _ => dts_one (dt_not (dt_val (de_callD h_law_less hr (by decide) takes0 (da_cons (de_var 3) (da_cons (de_sub1 (de_var 5) (dp_de (de_int))) (da_nil))))))) (fun _ _ _ _ _ => de_var 5))))) (da_cons (de_tup (da_cons (de_var 3) (da_cons (de_var 4) (da_nil)))) (da_nil)))))))
     (dss_cons (ds_for ps rfl (di_seq (de_var 1)) (dg_tup rfl (dgs_cons (dg_name 3 S.nd) (dgs_cons (dg_name 4 S.nd) (dgs_nil)))) (nox_tup (noxs_cons (nox_name 3) (noxs_cons (nox_name 4) (noxs_nil))))
     (dss_one (ds_if (dt_w (dw_and (dt_cL 2 (c_ne hr) (dp_de (de_frz (dn_lst (da_nil))))) (dw_and1 (dt_not (dt_val (de_callD h_law_less hr (by decide) tk (da_cons (de_sub1 (de_sub1L 2 (dp_de (de_neg (dp_de (de_int))))) (dp_de (de_int))) (da_cons (de_var 3) (da_nil)))))))))
     (dss_one (ds_if (dt_val (de_callD h_law_less hr (by decide) tk (da_cons (de_sub1 (de_sub1L 2 (dp_de (de_neg (dp_de (de_int))))) (dp_de (de_int))) (da_cons (de_var 4) (da_nil)))))
     (dss_one (ds_setIt 2 (de_tup (da_cons (de_sub1 (de_sub1L 2 (dp_de (de_neg (dp_de (de_int))))) (dp_de (de_int))) (da_cons (de_var 4) (da_nil)))) (de_neg (dp_de (de_int)))))
     (dss_nil)))
     (dss_one (ds_if (dt_val (de_callD h_law_less hr (by decide) tk (da_cons (de_var 3) (da_cons (de_var 4) (da_nil)))))
     (dss_one (ds_expr (de_mut 2 PySem.F.slot_list_append PySem.F.type_list_append mt_append ok_app (da_cons (de_tup (da_cons (de_var 3) (da_cons (de_var 4) (da_nil)))) (da_nil)))))
     (dss_nil))))))
     (dss_one (ds_ret (de_tuple rfl T.btuple (dp_var 2))))))
theorem s_law_split : FnScope [("part" : Str), ("place" : Str), ("left" : Str), ("right" : Str), ("low" : Str), ("high" : Str)] [("part" : Str), ("place" : Str)] (defScope (top 55)) := ⟨rfl, rfl, rfl, by decide +kernel, rfl, by decide +kernel, by decide +kernel⟩
theorem b_law_split {P : Program} {w : World} {K : PySem.W.Frag} {mg : Str → Option Value} {base : Heap} {cl : Nat → Addr} (T : Txt K mg cl) (fu : Nat) (h_law_less : Df P w K mg base cl "_law_less" 3 2 (d_law_less fu)) (f : Addr) : Body P w K mg base cl 3 [("part" : Str), ("place" : Str), ("left" : Str), ("right" : Str), ("low" : Str), ("high" : Str)] ("_law_split" : Str) (top 55) f (m_law_split fu) := by
  intro C cdv A outer s H E hcl hr tk ps
  subst hcl
  have S := s_law_split
  exact dss_cons (ds_par2 2 3 rfl S.nd (dr_new (dn_lst (da_nil)) (dr_new (dn_lst (da_nil)) (dr_nil))))
     (dss_cons (ds_for ps rfl (di_seq (de_var 0)) (dg_tup rfl (dgs_cons (dg_name 4 S.nd) (dgs_cons (dg_name 5 S.nd) (dgs_nil)))) (nox_tup (noxs_cons (nox_name 4) (noxs_cons (nox_name 5) (noxs_nil))))
     (dss_one (ds_if (dt_not (dt_val (de_callD h_law_less hr (by decide) tk (da_cons (de_var 1) (da_cons (de_var 5) (da_nil))))))
     (dss_one (ds_expr (de_mut 2 PySem.F.slot_list_append PySem.F.type_list_append mt_append ok_app (da_cons (de_tup (da_cons (de_var 4) (da_cons (de_var 5) (da_nil)))) (da_nil)))))
     (dss_one (ds_if (dt_not (dt_val (de_callD h_law_less hr (by decide) tk (da_cons (de_var 4) (da_cons (de_var 1) (da_nil))))))
     (dss_one (ds_expr (de_mut 3 PySem.F.slot_list_append PySem.F.type_list_append mt_append ok_app (da_cons (de_tup (da_cons (de_var 4) (da_cons (de_var 5) (da_nil)))) (da_nil)))))
     (dss_cons (ds_expr (de_mut 2 PySem.F.slot_list_append PySem.F.type_list_append mt_append ok_app (da_cons (de_tup (da_cons (de_var 4) (da_cons (de_var 1) (da_nil)))) (da_nil))))
     (dss_one (ds_expr (de_mut 3 PySem.F.slot_list_append PySem.F.type_list_append mt_append ok_app (da_cons (de_tup (da_cons (de_var 1) (da_cons (de_var 5) (da_nil)))) (da_nil)))))))))))
     (dss_one (ds_ret (de_tup (da_cons (de_tuple rfl T.btuple (dp_var 2)) (da_cons (de_tuple rfl T.btuple (dp_var 3)) (da_nil)))))))
theorem s_law_same : FnScope [("told" : Str), ("due" : Str), ("k" : Str), ("key" : Str)] [("told" : Str), ("due" : Str)] (defScope (top 56)) := ⟨rfl, rfl, rfl, by decide +kernel, rfl, by decide +kernel, by decide +kernel⟩
theorem b_law_same {P : Program} {w : World} {K : PySem.W.Frag} {mg : Str → Option Value} {base : Heap} {cl : Nat → Addr} (T : Txt K mg cl) (fu : Nat) (j : Nat) (hself : Df P w K mg base cl "_law_same" (j + 3) 2 (d_law_same fu j)) (f : Addr) : Body P w K mg base cl (j + 3) [("told" : Str), ("due" : Str), ("k" : Str), ("key" : Str)] ("_law_same" : Str) (top 56) f (m_law_same fu (d_law_same fu j)) := by
  intro C cdv A outer s H E hcl hr tk ps
  subst hcl
  have S := s_law_same
  have hlv : j + 3 ≤ j + 3 := Nat.le_refl _
  exact dss_cons (ds_if (dt_w (dw_or (dt_c c_is (de_var 1) (dp_de (de_non))) (dw_or1 (dt_val (de_isi1 .bool rfl T.bisinstance (de_var 1) rfl T.bbool rfl)))))
     (dss_one (ds_ret (de_if (dt_c c_is (de_var 1) (dp_de (de_non))) (de_c c_is (de_var 0) (dp_de (de_non))) (de_and (de_isi1 .bool rfl T.bisinstance (de_var 0) rfl T.bbool rfl) (de_one (de_c (c_eq hr) (de_c c_is (de_var 0) (dp_de (de_bl))) (dp_de (de_c c_is (de_var 1) (dp_de (de_bl))))))))))
     (dss_nil))
     (dss_cons (ds_if (dt_val (de_isi1 .int rfl T.bisinstance (de_var 1) rfl T.bint rfl))
     (dss_one (ds_ret (de_and (de_isi1 .int rfl T.bisinstance (de_var 0) rfl T.bint rfl) (de_and (de_not (de_isi1 .bool rfl T.bisinstance (de_var 0) rfl T.bbool rfl)) (de_one (de_c (c_eq hr) (de_var 0) (dp_var 1)))))))
     (dss_nil))
     (dss_cons (ds_if (dt_val (de_isi1 .str rfl T.bisinstance (de_var 1) rfl T.bstr rfl))
     (dss_one (ds_ret (de_and (de_isi1 .str rfl T.bisinstance (de_var 0) rfl T.bstr rfl) (de_one (de_c (c_eq hr) (de_var 0) (dp_var 1))))))
     (dss_nil))
     (dss_cons (ds_if (dt_val (de_isi1 .dict rfl T.bisinstance (de_var 1) rfl T.bdict rfl))
     (dss_one (ds_ret (de_and (de_isi1 .dict rfl T.bisinstance (de_var 0) rfl T.bdict rfl) (de_and (de_c (c_eq hr) (de_len rfl T.blen (dp_var 0)) (dp_de (de_len rfl T.blen (dp_var 1)))) (de_one (de_c (c_eq hr) (de_frz (dn_lcK 1 [(("key" : Str), 3)] rfl S.nd (blkOk_by (by kernel_rfl)) (fun _ _ _ _ _ => tg_name 3 S.nd) (fun _ _ _ _ _ _ _ => dts_one (dt_w (dw_or (dt_ninK hr (de_var 3) (de_var 0)) (dw_or1 (dt_not (dt_val (de_callD hself hr hlv takes0 (da_cons (de_subK hr (de_var 0) (de_var 3)) (da_cons (de_subK hr (de_var 1) (de_var 3)) (da_nil)))))))))) (fun _ _ _ _ _ _ _ => de_var 3))) (dp_de (de_frz (dn_lst (da_nil))))))))))
     (dss_nil))
     (dss_cons (ds_if (dt_w (dw_or (dt_not (dt_val (de_isi2 .list .tuple rfl T.bisinstance (de_var 1) rfl T.blist rfl rfl T.btuple rfl))) (dw_or1 (dt_not (dt_val (de_isi2 .list .tuple rfl T.bisinstance (de_var 0) rfl T.blist rfl rfl T.btuple rfl))))))
     (dss_one (ds_ret (de_bl)))
     (dss_nil))
     (dss_cons (ds_if (dt_w (dw_or (dt_c (c_ne hr) (de_isi1 .list rfl T.bisinstance (de_var 0) rfl T.blist rfl) (dp_de (de_isi1 .list rfl T.bisinstance (de_var 1) rfl T.blist rfl))) (dw_or1 (dt_c (c_ne hr) (de_len rfl T.blen (dp_var 0)) (dp_de (de_len rfl T.blen (dp_var 1)))))))
     (dss_one (ds_ret (de_bl)))
     (dss_nil))
     (dss_one (ds_ret (de_c (c_eq hr) (de_frz (dn_lc [(("k" : Str), 2)] rfl S.nd (diw_of (di_range1 rfl T.brange (de_len rfl T.blen (dp_var 1)))) (blkOk_by (by kernel_rfl)) (fun _ _ _ _ _ => tg_name 2 S.nd) (fun _ _ _ _ _ => dts_one (dt_not (dt_val (de_callD hself hr hlv takes0 (da_cons (de_sub1 (de_var 0) (dp_var 2)) (da_cons (de_sub1 (de_var 1) (dp_var 2)) (da_nil))))))) (fun _ _ _ _ _ => de_var 2))) (dp_de (de_frz (dn_lst (da_nil))))))))))))
theorem s_law_blamed : FnScope [("told" : Str), ("word" : Str), ("value" : Str)] [("told" : Str), ("word" : Str), ("value" : Str)] (defScope (top 57)) := ⟨rfl, rfl, rfl, by decide +kernel, rfl, by decide +kernel, by decide +kernel⟩
theorem b_law_blamed {P : Program} {w : World} {K : PySem.W.Frag} {mg : Str → Option Value} {base : Heap} {cl : Nat → Addr} (T : Txt K mg cl) (fu : Nat) (h_law_same : Df P w K mg base cl "_law_same" 15 2 (d_law_same fu 12)) (f : Addr) : Body P w K mg base cl 15 [("told" : Str), ("word" : Str), ("value" : Str)] ("_law_blamed" : Str) (top 57) f (m_law_blamed fu) := by
  intro C cdv A outer s H E hcl hr tk ps
  subst hcl
  have S := s_law_blamed
  exact dss_cons (ds_if (dt_w (dw_or (dt_c (c_ne hr) (de_sub1 (de_var 0) (dp_de (de_int))) (dp_var 1)) (dw_or1 (dt_not (dt_val (de_callD h_law_same hr (by decide) tk (da_cons (de_sub1 (de_var 0) (dp_de (de_int))) (da_cons (de_var 2) (da_nil)))))))))
     (dss_one (ds_ret (de_bl)))
     (dss_nil))
     (dss_cons (ds_if (dt_val (de_isi1 .list rfl T.bisinstance (de_var 2) rfl T.blist rfl))
     (dss_one (ds_expr (de_mut 2 PySem.F.slot_list_append PySem.F.type_list_append mt_append ok_app (da_cons (de_int) (da_nil)))))
     (dss_nil))
     (dss_cons (ds_if (dt_val (de_isi1 .dict rfl T.bisinstance (de_var 2) rfl T.bdict rfl))
     (dss_one (ds_dput hr (de_var 2) (de_str) (de_int)))
     (dss_nil))
     (dss_one (ds_ret (de_callD h_law_same hr (by decide) tk (da_cons (de_sub1 (de_var 0) (dp_de (de_int))) (da_cons (de_var 2) (da_nil))))))))
theorem s_law_whole : FnScope [("value" : Str)] [("value" : Str)] (defScope (top 58)) := ⟨rfl, rfl, rfl, by decide +kernel, rfl, by decide +kernel, by decide +kernel⟩
theorem b_law_whole {P : Program} {w : World} {K : PySem.W.Frag} {mg : Str → Option Value} {base : Heap} {cl : Nat → Addr} (T : Txt K mg cl) (fu : Nat) (f : Addr) : Body P w K mg base cl 2 [("value" : Str)] ("_law_whole" : Str) (top 58) f (m_law_whole fu) := by
  intro C cdv A outer s H E hcl hr tk ps
  subst hcl
  have S := s_law_whole
  exact dss_one (ds_ret (de_and (de_isi1 .int rfl T.bisinstance (de_var 0) rfl T.bint rfl) (de_one (de_not (de_isi1 .bool rfl T.bisinstance (de_var 0) rfl T.bbool rfl)))))
theorem s_law_is_fraction : FnScope [("value" : Str)] [("value" : Str)] (defScope (top 59)) := ⟨rfl, rfl, rfl, by decide +kernel, rfl, by decide +kernel, by decide +kernel⟩
theorem b_law_is_fraction {P : Program} {w : World} {K : PySem.W.Frag} {mg : Str → Option Value} {base : Heap} {cl : Nat → Addr} (T : Txt K mg cl) (fu : Nat) (h_law_whole : Df P w K mg base cl "_law_whole" 3 1 (d_law_whole fu)) (h_law_low : Df P w K mg base cl "_law_low" 3 2 (d_law_low fu)) (f : Addr) : Body P w K mg base cl 3 [("value" : Str)] ("_law_is_fraction" : Str) (top 59) f (m_law_is_fraction fu) := by
  intro C cdv A outer s H E hcl hr tk ps
  subst hcl
  have S := s_law_is_fraction
  exact dss_cons (ds_if (dt_w (dw_or (dt_not (dt_val (de_isi1 .tuple rfl T.bisinstance (de_var 0) rfl T.btuple rfl))) (dw_or (dt_c (c_ne hr) (de_len rfl T.blen (dp_var 0)) (dp_de (de_int))) (dw_or (dt_not (dt_val (de_callD h_law_whole hr (by decide) tk (da_cons (de_sub1 (de_var 0) (dp_de (de_int))) (da_nil))))) (dw_or1 (dt_not (dt_val (de_callD h_law_whole hr (by decide) tk (da_cons (de_sub1 (de_var 0) (dp_de (de_int))) (da_nil))))))))))
     (dss_one (ds_ret (de_bl)))
     (dss_nil))
     (dss_one (ds_ret (de_and (de_c c_gt (de_sub1 (de_var 0) (dp_de (de_int))) (dp_de (de_int))) (de_one (de_c (c_eq hr) (de_callD h_law_low hr (by decide) tk (da_cons (de_sub1 (de_var 0) (dp_de (de_int))) (da_cons (de_sub1 (de_var 0) (dp_de (de_int))) (da_nil)))) (dp_var 0))))))
theorem s_law_is_place_in : FnScope [("part" : Str), ("value" : Str), ("low" : Str), ("high" : Str)] [("part" : Str), ("value" : Str)] (defScope (top 60)) := ⟨rfl, rfl, rfl, by decide +kernel, rfl, by decide +kernel, by decide +kernel⟩
theorem b_law_is_place_in {P : Program} {w : World} {K : PySem.W.Frag} {mg : Str → Option Value} {base : Heap} {cl : Nat → Addr} (T : Txt K mg cl) (fu : Nat) (h_law_is_fraction : Df P w K mg base cl "_law_is_fraction" 4 1 (d_law_is_fraction fu)) (h_law_less : Df P w K mg base cl "_law_less" 3 2 (d_law_less fu)) (f : Addr) : Body P w K mg base cl 4 [("part" : Str), ("value" : Str), ("low" : Str), ("high" : Str)] ("_law_is_place_in" : Str) (top 60) f (m_law_is_place_in fu) := by
  intro C cdv A outer s H E hcl hr tk ps
  subst hcl
  have S := s_law_is_place_in
  exact dss_cons (ds_if (dt_not (dt_val (de_callD h_law_is_fraction hr (by decide) tk (da_cons (de_var 1) (da_nil)))))
     (dss_one (ds_ret (de_bl)))
     (dss_nil))
     (dss_cons (ds_if (dt_c (c_eq hr) (de_len rfl T.blen (dp_var 0)) (dp_de (de_int)))
     (dss_one (ds_ret (de_c (c_eq hr) (de_var 1) (dp_de (de_tup (da_cons (de_int) (da_cons (de_int) (da_nil))))))))
     (dss_nil))
     (dss_one (ds_ret (de_c (c_ne hr) (de_frz (dn_lc [(("low" : Str), 2), (("high" : Str), 3)] rfl S.nd (diw_seq (de_var 0)) (blkOk_by (by kernel_rfl)) (fun _ _ _ _ _ => tg_tup rfl (tgs_cons (tg_name 2 S.nd) (tgs_cons (tg_name 3 S.nd) (tgs_nil)))) (fun _ _ _ _ _ => dts_one (dt_w (dw_and (dt_not (dt_val (de_callD h_law_less hr (by decide) takes0 (da_cons (de_var 1) (da_cons (de_var 2) (da_nil)))))) (dw_and1 (dt_not (dt_val (de_callD h_law_less hr (by decide) takes0 (da_cons (de_var 3) (da_cons (de_var 1) (da_nil)))))))))) (fun _ _ _ _ _ => de_int))) (dp_de (de_frz (dn_lst (da_nil))))))))
theorem s_law_spot : FnScope [("box" : Str), ("steps" : Str), ("many" : Str)] [("box" : Str), ("steps" : Str)] (defScope (top 61)) := ⟨rfl, rfl, rfl, by decide +kernel, rfl, by decide +kernel, by decide +kernel⟩
theorem b_law_spot {P : Program} {w : World} {K : PySem.W.Frag} {mg : Str → Option Value} {base : Heap} {cl : Nat → Addr} (T : Txt K mg cl) (fu : Nat) (h_law_take : Df P w K mg base cl "_law_take" 3 2 (d_law_take fu)) (h_law_low : Df P w K mg base cl "_law_low" 3 2 (d_law_low fu)) (h_law_pick : Df P w K mg base cl "_law_pick" 4 2 (d_law_pick fu)) (f : Addr) : Body P w K mg base cl 4 [("box" : Str), ("steps" : Str), ("many" : Str)] ("_law_spot" : Str) (top 61) f (m_law_spot fu) := by
  intro C cdv A outer s H E hcl hr tk ps
  subst hcl
  have S := s_law_spot
  exact dss_cons (ds_if (dt_c (c_eq hr) (de_callD h_law_take hr (by decide) tk (da_cons (de_var 0) (da_cons (de_int) (da_nil)))) (dp_de (de_int)))
     (dss_cons (ds_set 2 S.nd (de_add (de_pow (de_int) (dp_de (de_int))) (dp_de (de_int))))
     (dss_one (ds_ret (de_callD h_law_low hr (by decide) tk (da_cons (de_callD h_law_pick hr (by decide) tk (da_cons (de_var 0) (da_cons (de_frz (dn_lst (da_cons (de_int) (da_cons (de_int) (da_cons (de_div (de_var 2) (dp_de (de_int))) (da_cons (de_sub (de_var 2) (dp_de (de_int))) (da_cons (de_div (de_var 2) (dp_de (de_int))) (da_nil)))))))) (da_nil)))) (da_cons (de_var 2) (da_nil)))))))
     (dss_nil))
     (dss_one (ds_ret (de_callD h_law_low hr (by decide) tk (da_cons (de_callD h_law_take hr (by decide) tk (da_cons (de_var 0) (da_cons (de_add (de_var 1) (dp_de (de_int))) (da_nil)))) (da_cons (de_var 1) (da_nil))))))
theorem s_law_stretches : FnScope [("box" : Str), ("many" : Str), ("steps" : Str), ("found" : Str), ("turn" : Str), ("low" : Str), ("high" : Str)] [("box" : Str), ("many" : Str)] (defScope (top 62)) := ⟨rfl, rfl, rfl, by decide +kernel, rfl, by decide +kernel, by decide +kernel⟩
theorem b_law_stretches {P : Program} {w : World} {K : PySem.W.Frag} {mg : Str → Option Value} {base : Heap} {cl : Nat → Addr} (T : Txt K mg cl) (fu : Nat) (h_law_pick : Df P w K mg base cl "_law_pick" 4 2 (d_law_pick fu)) (h_law_spot : Df P w K mg base cl "_law_spot" 5 2 (d_law_spot fu)) (h_law_less : Df P w K mg base cl "_law_less" 3 2 (d_law_less fu)) (h_law_take : Df P w K mg base cl "_law_take" 3 2 (d_law_take fu)) (f : Addr) : Body P w K mg base cl 5 [("box" : Str), ("many" : Str), ("steps" : Str), ("found" : Str), ("turn" : Str), ("low" : Str), ("high" : Str)] ("_law_stretches" : Str) (top 62) f (m_law_stretches fu) := by
  intro C cdv A outer s H E hcl hr tk ps
  subst hcl
  have S := s_law_stretches
  exact dss_cons (ds_par2 2 3 rfl S.nd (dr_val (de_callD h_law_pick hr (by decide) tk (da_cons (de_var 0) (da_cons (de_frz (dn_lst (da_cons (de_int) (da_cons (de_int) (da_cons (de_int) (da_cons (de_int) (da_nil))))))) (da_nil)))) (dr_new (dn_lst (da_nil)) (dr_nil))))
     (dss_cons (ds_for ps rfl (di_range1 rfl T.brange (de_var 1)) (dg_name 4 S.nd) (nox_name 4)
     (dss_cons (ds_par2 5 6 rfl S.nd (dr_val (de_callD h_law_spot hr (by decide) tk (da_cons (de_var 0) (da_cons (de_var 2) (da_nil)))) (dr_val (de_callD h_law_spot hr (by decide) tk (da_cons (de_var 0) (da_cons (de_var 2) (da_nil)))) (dr_nil))))
     (dss_cons (ds_if (dt_val (de_callD h_law_less hr (by decide) tk (da_cons (de_var 6) (da_cons (de_var 5) (da_nil)))))
     (dss_one (ds_par2 5 6 rfl S.nd (dr_val (de_var 6) (dr_val (de_var 5) (dr_nil)))))
     (dss_nil))
     (dss_cons (ds_if (dt_c (c_eq hr) (de_callD h_law_take hr (by decide) tk (da_cons (de_var 0) (da_cons (de_int) (da_nil)))) (dp_de (de_int)))
     (dss_one (ds_set 6 S.nd (de_var 5)))
     (dss_nil))
     (dss_cons (ds_if (dt_w (dw_and (dt_cL 3 (c_ne hr) (dp_de (de_frz (dn_lst (da_nil))))) (dw_and1 (dt_c (c_eq hr) (de_callD h_law_take hr (by decide) tk (da_cons (de_var 0) (da_cons (de_int) (da_nil)))) (dp_de (de_int))))))
     (dss_cons (ds_set 5 S.nd (de_sub1 (de_sub1L 3 (dp_de (de_neg (dp_de (de_int))))) (dp_de (de_int))))
     (dss_one (ds_set 6 S.nd (de_if (dt_val (de_callD h_law_less hr (by decide) tk (da_cons (de_var 6) (da_cons (de_var 5) (da_nil))))) (de_var 5) (de_var 6)))))
     (dss_nil))
     (dss_one (ds_expr (de_mut 3 PySem.F.slot_list_append PySem.F.type_list_append mt_append ok_app (da_cons (de_tup (da_cons (de_var 5) (da_cons (de_var 6) (da_nil)))) (da_nil))))))))))
     (dss_one (ds_ret (de_var 3))))
theorem s_law_flat : FnScope [("some" : Str), ("found" : Str), ("piece" : Str)] [("some" : Str)] (defScope (top 64)) := ⟨rfl, rfl, rfl, by decide +kernel, rfl, by decide +kernel, by decide +kernel⟩
theorem b_law_flat {P : Program} {w : World} {K : PySem.W.Frag} {mg : Str → Option Value} {base : Heap} {cl : Nat → Addr} (T : Txt K mg cl) (fu : Nat) (f : Addr) : Body P w K mg base cl 2 [("some" : Str), ("found" : Str), ("piece" : Str)] ("_law_flat" : Str) (top 64) f (m_law_flat fu) := by
  intro C cdv A outer s H E hcl hr tk ps
  subst hcl
  have S := s_law_flat
  exact dss_cons (ds_setN 1 S.nd (dn_lst (da_nil)))
     (dss_cons (ds_for ps rfl (di_seq (de_var 0)) (dg_name 2 S.nd) (nox_name 2)
     (dss_one (ds_expr (de_mut 1 PySem.F.slot_list_extend PySem.F.type_list_extend mt_extend ok_ext (da_cons (de_frz (dn_list rfl T.blist (dp_var 2))) (da_nil))))))
     (dss_one (ds_ret (de_var 1))))
theorem s_law_marks : FnScope [("some" : Str), ("found" : Str), ("low" : Str), ("high" : Str), ("place" : Str), ("one" : Str)] [("some" : Str)] (defScope (top 63)) := ⟨rfl, rfl, rfl, by decide +kernel, rfl, by decide +kernel, by decide +kernel⟩
theorem b_law_marks {P : Program} {w : World} {K : PySem.W.Frag} {mg : Str → Option Value} {base : Heap} {cl : Nat → Addr} (T : Txt K mg cl) (fu : Nat) (h_law_flat : Df P w K mg base cl "_law_flat" 3 1 (d_law_flat fu)) (h_law_less : Df P w K mg base cl "_law_less" 3 2 (d_law_less fu)) (f : Addr) : Body P w K mg base cl 3 [("some" : Str), ("found" : Str), ("low" : Str), ("high" : Str), ("place" : Str), ("one" : Str)] ("_law_marks" : Str) (top 63) f (m_law_marks fu) := by
  intro C cdv A outer s H E hcl hr tk ps
  subst hcl
  have S := s_law_marks
  exact dss_cons (ds_setN 1 S.nd (dn_lst (da_cons (de_tup (da_cons (de_int) (da_cons (de_int) (da_nil)))) (da_nil))))
     (dss_cons (ds_for ps rfl (di_seq (de_callD h_law_flat hr (by decide) tk (da_cons (de_var 0) (da_nil)))) (dg_tup rfl (dgs_cons (dg_name 2 S.nd) (dgs_cons (dg_name 3 S.nd) (dgs_nil)))) (nox_tup (noxs_cons (nox_name 2) (noxs_cons (nox_name 3) (noxs_nil))))
     (dss_one (ds_for ps rfl (di_seq (de_tup (da_cons (de_var 2) (da_cons (de_var 3) (da_nil))))) (dg_name 4 S.nd) (nox_name 4)
     (dss_one (ds_if (dt_c (c_notIn hr (by decide)) (de_var 4) (dp_var 1))
     (dss_one (ds_expr (de_mut 1 PySem.F.slot_list_insert PySem.F.type_list_insert mt_insert ok_ins (da_cons (de_len rfl T.blen (dp_de (de_frz (dn_lc [(("one" : Str), 5)] rfl S.nd (diw_own 1) (blkOk_by (by kernel_rfl)) (fun _ _ _ _ _ => tg_name 5 S.nd) (fun _ _ _ _ _ => dts_one (dt_val (de_callD h_law_less hr (by decide) takes0 (da_cons (de_var 5) (da_cons (de_var 4) (da_nil)))))) (fun _ _ _ _ _ => de_var 5))))) (da_cons (de_var 4) (da_nil))))))
     (dss_nil))))))
     (dss_one (ds_ret (de_if (dt_c (c_in hr (by decide)) (de_tup (da_cons (de_int) (da_cons (de_int) (da_nil)))) (dp_var 1)) (de_var 1) (de_binL 1 op_addA ok_addF (dp_de (de_frz (dn_lst (da_cons (de_tup (da_cons (de_int) (da_cons (de_int) (da_nil)))) (da_nil))))))))))
theorem s_law_covers : FnScope [("piece" : Str), ("low" : Str), ("high" : Str), ("one" : Str), ("other" : Str)] [("piece" : Str), ("low" : Str), ("high" : Str)] (defScope (top 65)) := ⟨rfl, rfl, rfl, by decide +kernel, rfl, by decide +kernel, by decide +kernel⟩
theorem b_law_covers {P : Program} {w : World} {K : PySem.W.Frag} {mg : Str → Option Value} {base : Heap} {cl : Nat → Addr} (T : Txt K mg cl) (fu : Nat) (h_law_less : Df P w K mg base cl "_law_less" 3 2 (d_law_less fu)) (f : Addr) : Body P w K mg base cl 3 [("piece" : Str), ("low" : Str), ("high" : Str), ("one" : Str), ("other" : Str)] ("_law_covers" : Str) (top 65) f (m_law_covers fu) := by
  intro C cdv A outer s H E hcl hr tk ps
  subst hcl
  have S := s_law_covers
  exact dss_one (ds_ret (de_c (c_ne hr) (de_frz (dn_lc [(("one" : Str), 3), (("other" : Str), 4)] rfl S.nd (diw_seq (de_var 0)) (blkOk_by (by kernel_rfl)) (fun _ _ _ _ _ => tg_tup rfl (tgs_cons (tg_name 3 S.nd) (tgs_cons (tg_name 4 S.nd) (tgs_nil)))) (fun _ _ _ _ _ => dts_one (dt_w (dw_and (dt_not (dt_val (de_callD h_law_less hr (by decide) takes0 (da_cons (de_var 1) (da_cons (de_var 3) (da_nil)))))) (dw_and1 (dt_not (dt_val (de_callD h_law_less hr (by decide) takes0 (da_cons (de_var 4) (da_cons (de_var 2) (da_nil)))))))))) (fun _ _ _ _ _ => de_int))) (dp_de (de_frz (dn_lst (da_nil))))))
theorem s_law_cells : FnScope [("pieces" : Str), ("wanted" : Str), ("marks" : Str), ("found" : Str), ("low" : Str), ("high" : Str), ("piece" : Str)] [("pieces" : Str), ("wanted" : Str)] (defScope (top 66)) := ⟨rfl, rfl, rfl, by decide +kernel, rfl, by decide +kernel, by decide +kernel⟩
theorem b_law_cells {P : Program} {w : World} {K : PySem.W.Frag} {mg : Str → Option Value} {base : Heap} {cl : Nat → Addr} (T : Txt K mg cl) (fu : Nat) (h_law_marks : Df P w K mg base cl "_law_marks" 4 1 (d_law_marks fu)) (h_law_covers : Df P w K mg base cl "_law_covers" 4 3 (d_law_covers fu)) (h_law_union : Df P w K mg base cl "_law_union" 4 1 (d_law_union fu)) (f : Addr) : Body P w K mg base cl 4 [("pieces" : Str), ("wanted" : Str), ("marks" : Str), ("found" : Str), ("low" : Str), ("high" : Str), ("piece" : Str)] ("_law_cells" : Str) (top 66) f (m_law_cells fu) := by
  intro C cdv A outer s H E hcl hr tk ps
  subst hcl
  have S := s_law_cells
  exact dss_cons (ds_par2 2 3 rfl S.nd (dr_val (de_callD h_law_marks hr (by decide) tk (da_cons (de_var 0) (da_nil))) (dr_new (dn_lst (da_nil)) (dr_nil))))
     (dss_cons (ds_for ps rfl (di_zip rfl T.bzip (de_var 2) (de_slice (de_var 2) (do_some (de_int)) (do_none))) (dg_tup rfl (dgs_cons (dg_name 4 S.nd) (dgs_cons (dg_name 5 S.nd) (dgs_nil)))) (nox_tup (noxs_cons (nox_name 4) (noxs_cons (nox_name 5) (noxs_nil))))
     (dss_one (ds_if (dt_c (c_in hr (by decide)) (de_frz (dn_lc [(("piece" : Str), 6)] rfl S.nd (diw_seq (de_var 0)) (blkOk_by (by kernel_rfl)) (fun _ _ _ _ _ => tg_name 6 S.nd) (fun _ _ _ _ _ => dts_nil) (fun _ _ _ _ _ => de_callD h_law_covers hr (by decide) takes0 (da_cons (de_var 6) (da_cons (de_var 4) (da_cons (de_var 5) (da_nil))))))) (dp_var 1))
     (dss_one (ds_expr (de_mut 3 PySem.F.slot_list_append PySem.F.type_list_append mt_append ok_app (da_cons (de_tup (da_cons (de_var 4) (da_cons (de_var 5) (da_nil)))) (da_nil)))))
     (dss_nil))))
     (dss_one (ds_ret (de_callD h_law_union hr (by decide) tk (da_cons (de_var 3) (da_nil))))))
theorem s_law_met : FnScope [("way" : Str), ("some" : Str), ("named" : Str), ("e" : Str)] [("way" : Str), ("some" : Str), ("named" : Str)] (defScope (top 67)) := ⟨rfl, rfl, rfl, by decide +kernel, rfl, by decide +kernel, by decide +kernel⟩
theorem b_law_met {P : Program} {w : World} {K : PySem.W.Frag} {mg : Str → Option Value} {base : Heap} {cl : Nat → Addr} (T : Txt K mg cl) (fu : Nat) (h_piece_of : Df P w K mg base cl "piece_of" 7 1 (d_piece_of fu)) (h_length_of : Df P w K mg base cl "length_of" 9 1 (d_length_of fu)) (h_joined_pieces : Df P w K mg base cl "joined_pieces" 10 2 (d_joined_pieces fu)) (h_common_piece : Df P w K mg base cl "common_piece" 10 2 (d_common_piece fu)) (h_rest_piece : Df P w K mg base cl "rest_piece" 10 2 (d_rest_piece fu)) (h_parted : Df P w K mg base cl "parted" 9 2 (d_parted fu)) (h_is_place_of : Df P w K mg base cl "is_place_of" 9 2 (d_is_place_of fu)) (h_is_piece : Df P w K mg base cl "is_piece" 7 1 (d_is_piece fu)) (hk_piece_of : DfK P w K mg base cl "piece_of" 7 1 (d_piece_of fu) [("stretches" : Str)] [0]) (hk_length_of : DfK P w K mg base cl "length_of" 9 1 (d_length_of fu) [("piece" : Str)] [0]) (hk_joined_pieces : DfK P w K mg base cl "joined_pieces" 10 2 (d_joined_pieces fu) [("other" : Str), ("one" : Str)] [1, 0]) (hk_common_piece : DfK P w K mg base cl "common_piece" 10 2 (d_common_piece fu) [("other" : Str), ("one" : Str)] [1, 0]) (hk_rest_piece : DfK P w K mg base cl "rest_piece" 10 2 (d_rest_piece fu) [("other" : Str), ("one" : Str)] [1, 0]) (hk_parted : DfK P w K mg base cl "parted" 9 2 (d_parted fu) [("place" : Str), ("piece" : Str)] [1, 0]) (hk_is_place_of : DfK P w K mg base cl "is_place_of" 9 2 (d_is_place_of fu) [("value" : Str), ("piece" : Str)] [1, 0]) (hk_is_piece : DfK P w K mg base cl "is_piece" 7 1 (d_is_piece fu) [("value" : Str)] [0]) (f : Addr) : Body P w K mg base cl 10 [("way" : Str), ("some" : Str), ("named" : Str), ("e" : Str)] ("_law_met" : Str) (top 67) f (m_law_met fu) := by
  intro C cdv A outer s H E hcl hr tk ps
  subst hcl
  have S := s_law_met
  exact dss_one (ds_try rfl rfl S.nd tk (.giv (i := 3) ⟨rfl, by decide, .inl T.eInvalidPiece.named⟩ rfl rfl T.xInvalidPiece T.yInvalidPiece T.eInvalidPiece.xf T.eInvalidPiece.no (by decide) (by decide) (.giv (i := 3) ⟨rfl, by decide, .inl T.eInvalidPlace.named⟩ rfl rfl T.xInvalidPlace T.yInvalidPlace T.eInvalidPlace.xf T.eInvalidPlace.no (by decide) (by decide) (.giv (i := 3) ⟨rfl, by decide, .inl T.eInvalidStretches.named⟩ rfl rfl T.xInvalidStretches T.yInvalidStretches T.eInvalidStretches.xf T.eInvalidStretches.no (by decide) (by decide) (.nil)))) (fun W1 pn1 xe1 tk1 ps1 => dss_cons (ds_if (dt_c (c_eq hr) (de_var 0) (dp_de (de_int)))
     (dss_one (ds_ret (de_frz (dn_lst (da_cons (de_str) (da_cons (de_if (dt_val (de_var 2)) (de_callDK [("stretches" : Str)] [0] hk_piece_of hr (by decide) tk1 rfl (dk_cons (de_sub1 (de_var 1) (dp_de (de_int))) (dk_nil))) (de_callD h_piece_of hr (by decide) tk1 (da_cons (de_sub1 (de_var 1) (dp_de (de_int))) (da_nil)))) (da_nil)))))))
     (dss_nil))
     (dss_cons (ds_if (dt_c (c_eq hr) (de_var 0) (dp_de (de_int)))
     (dss_one (ds_ret (de_frz (dn_lst (da_cons (de_str) (da_cons (de_if (dt_val (de_var 2)) (de_callDK [("piece" : Str)] [0] hk_length_of hr (by decide) tk1 rfl (dk_cons (de_sub1 (de_var 1) (dp_de (de_int))) (dk_nil))) (de_callD h_length_of hr (by decide) tk1 (da_cons (de_sub1 (de_var 1) (dp_de (de_int))) (da_nil)))) (da_nil)))))))
     (dss_nil))
     (dss_cons (ds_if (dt_c (c_eq hr) (de_var 0) (dp_de (de_int)))
     (dss_one (ds_ret (de_frz (dn_lst (da_cons (de_str) (da_cons (de_if (dt_val (de_var 2)) (de_callDK [("other" : Str), ("one" : Str)] [1, 0] hk_joined_pieces hr (by decide) tk1 rfl (dk_cons (de_sub1 (de_var 1) (dp_de (de_int))) (dk_cons (de_sub1 (de_var 1) (dp_de (de_int))) (dk_nil)))) (de_callD h_joined_pieces hr (by decide) tk1 (da_cons (de_sub1 (de_var 1) (dp_de (de_int))) (da_cons (de_sub1 (de_var 1) (dp_de (de_int))) (da_nil))))) (da_nil)))))))
     (dss_nil))
     (dss_cons (ds_if (dt_c (c_eq hr) (de_var 0) (dp_de (de_int)))
     (dss_one (ds_ret (de_frz (dn_lst (da_cons (de_str) (da_cons (de_if (dt_val (de_var 2)) (de_callDK [("other" : Str), ("one" : Str)] [1, 0] hk_common_piece hr (by decide) tk1 rfl (dk_cons (de_sub1 (de_var 1) (dp_de (de_int))) (dk_cons (de_sub1 (de_var 1) (dp_de (de_int))) (dk_nil)))) (de_callD h_common_piece hr (by decide) tk1 (da_cons (de_sub1 (de_var 1) (dp_de (de_int))) (da_cons (de_sub1 (de_var 1) (dp_de (de_int))) (da_nil))))) (da_nil)))))))
     (dss_nil))
     (dss_cons (ds_if (dt_c (c_eq hr) (de_var 0) (dp_de (de_int)))
     (dss_one (ds_ret (de_frz (dn_lst (da_cons (de_str) (da_cons (de_if (dt_val (de_var 2)) (de_callDK [("other" : Str), ("one" : Str)] [1, 0] hk_rest_piece hr (by decide) tk1 rfl (dk_cons (de_sub1 (de_var 1) (dp_de (de_int))) (dk_cons (de_sub1 (de_var 1) (dp_de (de_int))) (dk_nil)))) (de_callD h_rest_piece hr (by decide) tk1 (da_cons (de_sub1 (de_var 1) (dp_de (de_int))) (da_cons (de_sub1 (de_var 1) (dp_de (de_int))) (da_nil))))) (da_nil)))))))
     (dss_nil))
     (dss_cons (ds_if (dt_c (c_eq hr) (de_var 0) (dp_de (de_int)))
     (dss_one (ds_ret (de_frz (dn_lst (da_cons (de_str) (da_cons (de_if (dt_val (de_var 2)) (de_callDK [("place" : Str), ("piece" : Str)] [1, 0] hk_parted hr (by decide) tk1 rfl (dk_cons (de_sub1 (de_var 1) (dp_de (de_int))) (dk_cons (de_sub1 (de_var 1) (dp_de (de_int))) (dk_nil)))) (de_callD h_parted hr (by decide) tk1 (da_cons (de_sub1 (de_var 1) (dp_de (de_int))) (da_cons (de_sub1 (de_var 1) (dp_de (de_int))) (da_nil))))) (da_nil)))))))
     (dss_nil))
     (dss_cons (ds_if (dt_c (c_eq hr) (de_var 0) (dp_de (de_int)))
     (dss_one (ds_ret (de_frz (dn_lst (da_cons (de_str) (da_cons (de_if (dt_val (de_var 2)) (de_callDK [("value" : Str), ("piece" : Str)] [1, 0] hk_is_place_of hr (by decide) tk1 rfl (dk_cons (de_sub1 (de_var 1) (dp_de (de_int))) (dk_cons (de_sub1 (de_var 1) (dp_de (de_int))) (dk_nil)))) (de_callD h_is_place_of hr (by decide) tk1 (da_cons (de_sub1 (de_var 1) (dp_de (de_int))) (da_cons (de_sub1 (de_var 1) (dp_de (de_int))) (da_nil))))) (da_nil)))))))
     (dss_nil))
     (dss_one (ds_ret (de_frz (dn_lst (da_cons (de_str) (da_cons (de_if (dt_val (de_var 2)) (de_callDK [("value" : Str)] [0] hk_is_piece hr (by decide) tk1 rfl (dk_cons (de_sub1 (de_var 1) (dp_de (de_int))) (dk_nil))) (de_callD h_is_piece hr (by decide) tk1 (da_cons (de_sub1 (de_var 1) (dp_de (de_int))) (da_nil)))) (da_nil)))))))))))))))
theorem s_law_odd_pieces : FnScope [("piece" : Str), ("half" : Str), ("whole" : Str), ("found" : Str)] [("piece" : Str)] (defScope (top 68)) := ⟨rfl, rfl, rfl, by decide +kernel, rfl, by decide +kernel, by decide +kernel⟩
theorem b_law_odd_pieces {P : Program} {w : World} {K : PySem.W.Frag} {mg : Str → Option Value} {base : Heap} {cl : Nat → Addr} (T : Txt K mg cl) (fu : Nat) (f : Addr) : Body P w K mg base cl 2 [("piece" : Str), ("half" : Str), ("whole" : Str), ("found" : Str)] ("_law_odd_pieces" : Str) (top 68) f (m_law_odd_pieces fu) := by
  intro C cdv A outer s H E hcl hr tk ps
  subst hcl
  have S := s_law_odd_pieces
  exact dss_cons (ds_parT (is := [1, 2]) (n := 2) rfl (dr_val (de_tup (da_cons (de_tup (da_cons (de_int) (da_cons (de_int) (da_nil)))) (da_cons (de_tup (da_cons (de_int) (da_cons (de_int) (da_nil)))) (da_nil)))) (dr_val (de_tup (da_cons (de_tup (da_cons (de_int) (da_cons (de_int) (da_nil)))) (da_cons (de_tup (da_cons (de_int) (da_cons (de_int) (da_nil)))) (da_nil)))) (dr_nil))) (gn_cons 1 S.nd (gn_cons 2 S.nd (gn_nil))))
     (dss_cons (ds_set 3 S.nd (de_frz (dn_lst (da_cons (de_non) (da_cons (de_int) (da_cons (de_bl) (da_cons (de_str) (da_cons (de_lab (dn_lst (da_cons (de_var 1) (da_nil)))) (da_cons (de_dnew) (da_cons (de_var 1) (da_cons (de_tup (da_cons (de_var 1) (da_cons (de_tup (da_cons (de_tup (da_cons (de_int) (da_cons (de_int) (da_nil)))) (da_cons (de_tup (da_cons (de_int) (da_cons (de_int) (da_nil)))) (da_nil)))) (da_nil)))) (da_cons (de_tup (da_cons (de_tup (da_cons (de_tup (da_cons (de_int) (da_cons (de_int) (da_nil)))) (da_cons (de_tup (da_cons (de_int) (da_cons (de_int) (da_nil)))) (da_nil)))) (da_cons (de_var 1) (da_nil)))) (da_cons (de_tup (da_cons (de_var 2) (da_cons (de_var 2) (da_nil)))) (da_cons (de_tup (da_cons (de_tup (da_cons (de_tup (da_cons (de_int) (da_cons (de_int) (da_nil)))) (da_cons (de_tup (da_cons (de_int) (da_cons (de_int) (da_nil)))) (da_nil)))) (da_nil))) (da_nil)))))))))))))))
     (dss_cons (ds_set 3 S.nd (de_add (de_var 3) (dp_de (de_frz (dn_lst (da_cons (de_tup (da_cons (de_tup (da_cons (de_tup (da_cons (de_int) (da_cons (de_int) (da_nil)))) (da_cons (de_tup (da_cons (de_int) (da_cons (de_int) (da_nil)))) (da_nil)))) (da_nil))) (da_cons (de_tup (da_cons (de_tup (da_cons (de_tup (da_cons (de_int) (da_cons (de_int) (da_nil)))) (da_cons (de_tup (da_cons (de_int) (da_cons (de_int) (da_nil)))) (da_nil)))) (da_nil))) (da_cons (de_tup (da_cons (de_tup (da_cons (de_tup (da_cons (de_int) (da_cons (de_int) (da_nil)))) (da_cons (de_tup (da_cons (de_int) (da_cons (de_int) (da_nil)))) (da_nil)))) (da_nil))) (da_cons (de_tup (da_cons (de_tup (da_cons (de_tup (da_cons (de_neg (dp_de (de_int))) (da_cons (de_int) (da_nil)))) (da_cons (de_tup (da_cons (de_int) (da_cons (de_int) (da_nil)))) (da_nil)))) (da_nil))) (da_cons (de_tup (da_cons (de_tup (da_cons (de_int) (da_cons (de_int) (da_nil)))) (da_nil))) (da_cons (de_tup (da_cons (de_tup (da_cons (de_tup (da_cons (de_int) (da_cons (de_int) (da_nil)))) (da_cons (de_tup (da_cons (de_int) (da_cons (de_int) (da_nil)))) (da_cons (de_tup (da_cons (de_int) (da_cons (de_int) (da_nil)))) (da_nil))))) (da_nil))) (da_cons (de_tup (da_cons (de_frz (dn_list rfl T.blist (dp_var 1))) (da_nil))) (da_nil)))))))))))))
     (dss_cons (ds_set 3 S.nd (de_add (de_var 3) (dp_de (de_frz (dn_lst (da_cons (de_tup (da_cons (de_tup (da_cons (de_int) (da_cons (de_int) (da_nil)))) (da_cons (de_tup (da_cons (de_int) (da_cons (de_int) (da_nil)))) (da_nil)))) (da_cons (de_tup (da_cons (de_tup (da_cons (de_tup (da_cons (de_int) (da_cons (de_int) (da_nil)))) (da_cons (de_int) (da_nil)))) (da_nil))) (da_cons (de_tup (da_cons (de_tup (da_cons (de_tup (da_cons (de_int) (da_cons (de_bl) (da_nil)))) (da_cons (de_tup (da_cons (de_int) (da_cons (de_int) (da_nil)))) (da_nil)))) (da_nil))) (da_cons (de_tup (da_cons (de_tup (da_cons (de_tup (da_cons (de_int) (da_cons (de_int) (da_nil)))) (da_cons (de_tup (da_cons (de_bl) (da_cons (de_int) (da_nil)))) (da_nil)))) (da_nil))) (da_cons (de_tup (da_cons (de_tup (da_cons (de_tup (da_cons (de_int) (da_cons (de_int) (da_nil)))) (da_cons (de_tup (da_cons (de_int) (da_cons (de_int) (da_cons (de_int) (da_nil))))) (da_nil)))) (da_nil))) (da_cons (de_tup (da_cons (de_non) (da_nil))) (da_cons (de_tup (da_cons (de_tup (da_nil)) (da_nil))) (da_cons (de_tup (da_cons (de_var 1) (da_cons (de_int) (da_nil)))) (da_cons (de_tup (da_cons (de_tup (da_cons (de_tup (da_cons (de_int) (da_cons (de_int) (da_nil)))) (da_cons (de_frz (dn_lst (da_cons (de_int) (da_cons (de_int) (da_nil))))) (da_nil)))) (da_nil))) (da_nil)))))))))))))))
     (dss_cons (ds_if (dt_c (c_ne hr) (de_var 0) (dp_de (de_tup (da_nil))))
     (dss_one (ds_set 3 S.nd (de_add (de_var 3) (dp_de (de_frz (dn_lst (da_cons (de_lab (dn_list rfl T.blist (dp_var 0))) (da_cons (de_add (de_var 0) (dp_de (de_slice (de_var 0) (do_some (de_neg (dp_de (de_int)))) (do_none)))) (da_cons (de_add (de_var 0) (dp_de (de_slice (de_var 0) (do_none) (do_some (de_int))))) (da_cons (de_sub1 (de_var 0) (dp_de (de_int))) (da_nil)))))))))))
     (dss_nil))
     (dss_one (ds_ret (de_var 3)))))))
theorem s_law_odd_stretches : FnScope [("found" : Str)] [] (defScope (top 69)) := ⟨rfl, rfl, rfl, by decide +kernel, rfl, by decide +kernel, by decide +kernel⟩
theorem b_law_odd_stretches {P : Program} {w : World} {K : PySem.W.Frag} {mg : Str → Option Value} {base : Heap} {cl : Nat → Addr} (T : Txt K mg cl) (fu : Nat) (f : Addr) : Body P w K mg base cl 2 [("found" : Str)] ("_law_odd_stretches" : Str) (top 69) f (m_law_odd_stretches fu) := by
  intro C cdv A outer s H E hcl hr tk ps
  subst hcl
  have S := s_law_odd_stretches
  exact dss_cons (ds_set 0 S.nd (de_frz (dn_lst (da_cons (de_non) (da_cons (de_int) (da_cons (de_str) (da_cons (de_dnew) (da_cons (de_lab (dn_lst (da_cons (de_non) (da_nil)))) (da_cons (de_lab (dn_lst (da_cons (de_int) (da_nil)))) (da_cons (de_lab (dn_lst (da_cons (de_tup (da_nil)) (da_nil)))) (da_cons (de_lab (dn_lst (da_cons (de_tup (da_cons (de_tup (da_cons (de_int) (da_cons (de_int) (da_nil)))) (da_nil))) (da_nil)))) (da_cons (de_lab (dn_lst (da_cons (de_tup (da_cons (de_tup (da_cons (de_int) (da_cons (de_int) (da_nil)))) (da_cons (de_tup (da_cons (de_int) (da_cons (de_int) (da_nil)))) (da_nil)))) (da_nil)))) (da_cons (de_lab (dn_lst (da_cons (de_tup (da_cons (de_tup (da_cons (de_int) (da_cons (de_int) (da_nil)))) (da_cons (de_tup (da_cons (de_int) (da_cons (de_int) (da_nil)))) (da_nil)))) (da_nil)))) (da_cons (de_lab (dn_lst (da_cons (de_tup (da_cons (de_tup (da_cons (de_int) (da_cons (de_int) (da_nil)))) (da_cons (de_tup (da_cons (de_int) (da_cons (de_int) (da_nil)))) (da_nil)))) (da_nil)))) (da_cons (de_lab (dn_lst (da_cons (de_tup (da_cons (de_tup (da_cons (de_neg (dp_de (de_int))) (da_cons (de_int) (da_nil)))) (da_cons (de_tup (da_cons (de_int) (da_cons (de_int) (da_nil)))) (da_nil)))) (da_nil)))) (da_nil))))))))))))))))
     (dss_one (ds_ret (de_add (de_var 0) (dp_de (de_frz (dn_lst (da_cons (de_lab (dn_lst (da_cons (de_tup (da_cons (de_tup (da_cons (de_int) (da_cons (de_int) (da_nil)))) (da_cons (de_tup (da_cons (de_int) (da_cons (de_int) (da_nil)))) (da_nil)))) (da_cons (de_int) (da_nil))))) (da_cons (de_lab (dn_lst (da_cons (de_frz (dn_lst (da_cons (de_tup (da_cons (de_int) (da_cons (de_int) (da_nil)))) (da_cons (de_tup (da_cons (de_int) (da_cons (de_int) (da_nil)))) (da_nil))))) (da_nil)))) (da_cons (de_lab (dn_lst (da_cons (de_tup (da_cons (de_tup (da_cons (de_int) (da_cons (de_int) (da_nil)))) (da_cons (de_tup (da_cons (de_int) (da_cons (de_int) (da_nil)))) (da_cons (de_tup (da_cons (de_int) (da_cons (de_int) (da_nil)))) (da_nil))))) (da_nil)))) (da_cons (de_lab (dn_lst (da_cons (de_tup (da_cons (de_tup (da_cons (de_int) (da_cons (de_bl) (da_nil)))) (da_cons (de_tup (da_cons (de_int) (da_cons (de_int) (da_nil)))) (da_nil)))) (da_nil)))) (da_cons (de_lab (dn_lst (da_cons (de_tup (da_cons (de_tup (da_cons (de_int) (da_cons (de_int) (da_nil)))) (da_cons (de_frz (dn_lst (da_cons (de_int) (da_cons (de_int) (da_nil))))) (da_nil)))) (da_nil)))) (da_cons (de_tup (da_cons (de_tup (da_cons (de_tup (da_cons (de_int) (da_cons (de_int) (da_nil)))) (da_cons (de_tup (da_cons (de_int) (da_cons (de_int) (da_nil)))) (da_nil)))) (da_nil))) (da_cons (de_bl) (da_nil))))))))))))))
theorem s_law_one_right : FnScope [("box" : Str), ("stretches" : Str), ("named" : Str), ("due" : Str), ("kept" : Str), ("told" : Str), ("length" : Str), ("places" : Str), ("place" : Str), ("left" : Str), ("right" : Str), ("held" : Str), ("low" : Str), ("high" : Str)] [("box" : Str), ("stretches" : Str), ("named" : Str)] (defScope (top 70)) := ⟨rfl, rfl, rfl, by decide +kernel, rfl, by decide +kernel, by decide +kernel⟩
theorem b_law_one_right {P : Program} {w : World} {K : PySem.W.Frag} {mg : Str → Option Value} {base : Heap} {cl : Nat → Addr} (T : Txt K mg cl) (fu : Nat) (h_law_union : Df P w K mg base cl "_law_union" 4 1 (d_law_union fu)) (h_law_met : Df P w K mg base cl "_law_met" 11 3 (d_law_met fu)) (h_law_same : Df P w K mg base cl "_law_same" 15 2 (d_law_same fu 12)) (h_law_mixed : Df P w K mg base cl "_law_mixed" 4 2 (d_law_mixed fu)) (h_law_sum : Df P w K mg base cl "_law_sum" 5 1 (d_law_sum fu)) (h_law_minus : Df P w K mg base cl "_law_minus" 4 2 (d_law_minus fu)) (h_law_spot : Df P w K mg base cl "_law_spot" 5 2 (d_law_spot fu)) (h_law_marks : Df P w K mg base cl "_law_marks" 4 1 (d_law_marks fu)) (h_law_split : Df P w K mg base cl "_law_split" 4 2 (d_law_split fu)) (h_law_is_place_in : Df P w K mg base cl "_law_is_place_in" 5 2 (d_law_is_place_in fu)) (f : Addr) : Body P w K mg base cl 15 [("box" : Str), ("stretches" : Str), ("named" : Str), ("due" : Str), ("kept" : Str), ("told" : Str), ("length" : Str), ("places" : Str), ("place" : Str), ("left" : Str), ("right" : Str), ("held" : Str), ("low" : Str), ("high" : Str)] ("_law_one_right" : Str) (top 70) f (m_law_one_right fu) := by
  intro C cdv A outer s H E hcl hr tk ps
  subst hcl
  have S := s_law_one_right
  exact dss_cons (ds_set 3 S.nd (de_callD h_law_union hr (by decide) tk (da_cons (de_var 1) (da_nil))))
     (dss_cons (ds_set 4 S.nd (de_frz (dn_list rfl T.blist (dp_var 1))))
     (dss_cons (ds_set 5 S.nd (de_callD h_law_met hr (by decide) tk (da_cons (de_int) (da_cons (de_frz (dn_lst (da_cons (de_var 1) (da_nil)))) (da_cons (de_var 2) (da_nil))))))
     (dss_cons (ds_if (dt_w (dw_or (dt_not (dt_val (de_callD h_law_same hr (by decide) tk (da_cons (de_var 5) (da_cons (de_frz (dn_lst (da_cons (de_str) (da_cons (de_var 3) (da_nil))))) (da_nil)))))) (dw_or (dt_not (dt_val (de_callD h_law_same hr (by decide) tk (da_cons (de_var 1) (da_cons (de_var 4) (da_nil)))))) (dw_or1 (dt_not (dt_val (de_callD h_law_same hr (by decide) tk (da_cons (de_callD h_law_met hr (by decide) tk (da_cons (de_int) (da_cons (de_frz (dn_lst (da_cons (de_tuple rfl T.btuple (dp_var 1)) (da_nil)))) (da_cons (de_not (de_var 2)) (da_nil))))) (da_cons (de_frz (dn_lst (da_cons (de_str) (da_cons (de_var 3) (da_nil))))) (da_nil))))))))))
     (dss_one (ds_ret (de_bl)))
     (dss_nil))
     (dss_cons (ds_if (dt_w (dw_or (dt_not (dt_val (de_callD h_law_same hr (by decide) tk (da_cons (de_callD h_law_met hr (by decide) tk (da_cons (de_int) (da_cons (de_frz (dn_lst (da_cons (de_callD h_law_mixed hr (by decide) tk (da_cons (de_var 0) (da_cons (de_var 1) (da_nil)))) (da_nil)))) (da_cons (de_var 2) (da_nil))))) (da_cons (de_frz (dn_lst (da_cons (de_str) (da_cons (de_var 3) (da_nil))))) (da_nil)))))) (dw_or1 (dt_not (dt_val (de_callD h_law_same hr (by decide) tk (da_cons (de_callD h_law_met hr (by decide) tk (da_cons (de_int) (da_cons (de_frz (dn_lst (da_cons (de_var 3) (da_nil)))) (da_cons (de_var 2) (da_nil))))) (da_cons (de_frz (dn_lst (da_cons (de_str) (da_cons (de_bl) (da_nil))))) (da_nil)))))))))
     (dss_one (ds_ret (de_bl)))
     (dss_nil))
     (dss_cons (ds_set 6 S.nd (de_callD h_law_sum hr (by decide) tk (da_cons (de_frz (dn_lc [(("low" : Str), 12), (("high" : Str), 13)] rfl S.nd (diw_seq (de_var 3)) (blkOk_by (by kernel_rfl)) (fun _ _ _ _ _ => tg_tup rfl (tgs_cons (tg_name 12 S.nd) (tgs_cons (tg_name 13 S.nd) (tgs_nil)))) (fun _ _ _ _ _ => dts_nil) (fun _ _ _ _ _ => de_callD h_law_minus hr (by decide) takes0 (da_cons (de_var 13) (da_cons (de_var 12) (da_nil)))))) (da_nil))))
     (dss_cons (ds_if (dt_not (dt_val (de_callD h_law_same hr (by decide) tk (da_cons (de_callD h_law_met hr (by decide) tk (da_cons (de_int) (da_cons (de_frz (dn_lst (da_cons (de_var 3) (da_nil)))) (da_cons (de_var 2) (da_nil))))) (da_cons (de_frz (dn_lst (da_cons (de_str) (da_cons (de_var 6) (da_nil))))) (da_nil))))))
     (dss_one (ds_ret (de_bl)))
     (dss_nil))
     (dss_cons (ds_set 7 S.nd (de_add (de_callD h_law_marks hr (by decide) tk (da_cons (de_frz (dn_lst (da_cons (de_var 3) (da_nil)))) (da_nil))) (dp_de (de_frz (dn_lst (da_cons (de_callD h_law_spot hr (by decide) tk (da_cons (de_var 0) (da_cons (de_int) (da_nil)))) (da_cons (de_callD h_law_spot hr (by decide) tk (da_cons (de_var 0) (da_cons (de_int) (da_nil)))) (da_nil))))))))
     (dss_cons (ds_for ps rfl (di_seq (de_var 7)) (dg_name 8 S.nd) (nox_name 8)
     (dss_cons (ds_asg (de_callD h_law_split hr (by decide) tk (da_cons (de_var 3) (da_cons (de_var 8) (da_nil)))) (dg_tup rfl (dgs_cons (dg_name 9 S.nd) (dgs_cons (dg_name 10 S.nd) (dgs_nil)))) (nox_tup (noxs_cons (nox_name 9) (noxs_cons (nox_name 10) (noxs_nil)))))
     (dss_cons (ds_set 11 S.nd (de_callD h_law_is_place_in hr (by decide) tk (da_cons (de_var 3) (da_cons (de_var 8) (da_nil)))))
     (dss_cons (ds_if (dt_w (dw_or (dt_not (dt_val (de_callD h_law_same hr (by decide) tk (da_cons (de_callD h_law_met hr (by decide) tk (da_cons (de_int) (da_cons (de_frz (dn_lst (da_cons (de_var 3) (da_cons (de_var 8) (da_nil))))) (da_cons (de_var 2) (da_nil))))) (da_cons (de_frz (dn_lst (da_cons (de_str) (da_cons (de_tup (da_cons (de_var 9) (da_cons (de_var 10) (da_nil)))) (da_nil))))) (da_nil)))))) (dw_or1 (dt_not (dt_val (de_callD h_law_same hr (by decide) tk (da_cons (de_callD h_law_met hr (by decide) tk (da_cons (de_int) (da_cons (de_frz (dn_lst (da_cons (de_var 3) (da_cons (de_var 8) (da_nil))))) (da_cons (de_not (de_var 2)) (da_nil))))) (da_cons (de_frz (dn_lst (da_cons (de_str) (da_cons (de_var 11) (da_nil))))) (da_nil)))))))))
     (dss_one (ds_ret (de_bl)))
     (dss_nil))
     (dss_cons (ds_if (dt_w (dw_or (dt_not (dt_val (de_callD h_law_same hr (by decide) tk (da_cons (de_callD h_law_met hr (by decide) tk (da_cons (de_int) (da_cons (de_frz (dn_lst (da_cons (de_var 9) (da_cons (de_var 10) (da_nil))))) (da_cons (de_var 2) (da_nil))))) (da_cons (de_frz (dn_lst (da_cons (de_str) (da_cons (de_var 3) (da_nil))))) (da_nil)))))) (dw_or1 (dt_not (dt_val (de_callD h_law_same hr (by decide) tk (da_cons (de_callD h_law_met hr (by decide) tk (da_cons (de_int) (da_cons (de_frz (dn_lst (da_cons (de_var 9) (da_cons (de_var 10) (da_nil))))) (da_cons (de_var 2) (da_nil))))) (da_cons (de_frz (dn_lst (da_cons (de_str) (da_cons (de_tup (da_nil)) (da_nil))))) (da_nil)))))))))
     (dss_one (ds_ret (de_bl)))
     (dss_nil))
     (dss_one (ds_set 2 S.nd (de_not (de_var 2)))))))))
     (dss_one (ds_ret (de_bl)))))))))))
theorem s_law_two_right : FnScope [("pieces" : Str), ("named" : Str), ("way" : Str), ("wanted" : Str)] [("pieces" : Str), ("named" : Str)] (defScope (top 71)) := ⟨rfl, rfl, rfl, by decide +kernel, rfl, by decide +kernel, by decide +kernel⟩
theorem b_law_two_right {P : Program} {w : World} {K : PySem.W.Frag} {mg : Str → Option Value} {base : Heap} {cl : Nat → Addr} (T : Txt K mg cl) (fu : Nat) (h_law_same : Df P w K mg base cl "_law_same" 15 2 (d_law_same fu 12)) (h_law_met : Df P w K mg base cl "_law_met" 11 3 (d_law_met fu)) (h_law_cells : Df P w K mg base cl "_law_cells" 5 2 (d_law_cells fu)) (f : Addr) : Body P w K mg base cl 15 [("pieces" : Str), ("named" : Str), ("way" : Str), ("wanted" : Str)] ("_law_two_right" : Str) (top 71) f (m_law_two_right fu) := by
  intro C cdv A outer s H E hcl hr tk ps
  subst hcl
  have S := s_law_two_right
  exact dss_cons (ds_for ps rfl (di_seq (de_tup (da_cons (de_tup (da_cons (de_int) (da_cons (de_frz (dn_lst (da_cons (de_frz (dn_lst (da_cons (de_bl) (da_cons (de_bl) (da_nil))))) (da_cons (de_frz (dn_lst (da_cons (de_bl) (da_cons (de_bl) (da_nil))))) (da_cons (de_frz (dn_lst (da_cons (de_bl) (da_cons (de_bl) (da_nil))))) (da_nil)))))) (da_nil)))) (da_cons (de_tup (da_cons (de_int) (da_cons (de_frz (dn_lst (da_cons (de_frz (dn_lst (da_cons (de_bl) (da_cons (de_bl) (da_nil))))) (da_nil)))) (da_nil)))) (da_cons (de_tup (da_cons (de_int) (da_cons (de_frz (dn_lst (da_cons (de_frz (dn_lst (da_cons (de_bl) (da_cons (de_bl) (da_nil))))) (da_nil)))) (da_nil)))) (da_nil)))))) (dg_tup rfl (dgs_cons (dg_name 2 S.nd) (dgs_cons (dg_name 3 S.nd) (dgs_nil)))) (nox_tup (noxs_cons (nox_name 2) (noxs_cons (nox_name 3) (noxs_nil))))
     (dss_cons (ds_if (dt_not (dt_val (de_callD h_law_same hr (by decide) tk (da_cons (de_callD h_law_met hr (by decide) tk (da_cons (de_var 2) (da_cons (de_var 0) (da_cons (de_var 1) (da_nil))))) (da_cons (de_frz (dn_lst (da_cons (de_str) (da_cons (de_callD h_law_cells hr (by decide) tk (da_cons (de_var 0) (da_cons (de_var 3) (da_nil)))) (da_nil))))) (da_nil))))))
     (dss_one (ds_ret (de_bl)))
     (dss_nil))
     (dss_one (ds_if (dt_not (dt_val (de_callD h_law_same hr (by decide) tk (da_cons (de_callD h_law_met hr (by decide) tk (da_cons (de_var 2) (da_cons (de_frz (dn_lst (da_cons (de_sub1 (de_var 0) (dp_de (de_int))) (da_cons (de_sub1 (de_var 0) (dp_de (de_int))) (da_nil))))) (da_cons (de_not (de_var 1)) (da_nil))))) (da_cons (de_frz (dn_lst (da_cons (de_str) (da_cons (de_if (dt_c c_lt (de_var 2) (dp_de (de_int))) (de_sub1 (de_var 0) (dp_de (de_int))) (de_tup (da_nil))) (da_nil))))) (da_nil))))))
     (dss_one (ds_ret (de_bl)))
     (dss_nil)))))
     (dss_one (ds_ret (de_and (de_callD h_law_same hr (by decide) tk (da_cons (de_callD h_law_met hr (by decide) tk (da_cons (de_int) (da_cons (de_frz (dn_lst (da_cons (de_sub1 (de_var 0) (dp_de (de_int))) (da_cons (de_tup (da_nil)) (da_nil))))) (da_cons (de_var 1) (da_nil))))) (da_cons (de_frz (dn_lst (da_cons (de_str) (da_cons (de_sub1 (de_var 0) (dp_de (de_int))) (da_nil))))) (da_nil)))) (de_one (de_callD h_law_same hr (by decide) tk (da_cons (de_callD h_law_met hr (by decide) tk (da_cons (de_int) (da_cons (de_frz (dn_lst (da_cons (de_tup (da_nil)) (da_cons (de_sub1 (de_var 0) (dp_de (de_int))) (da_nil))))) (da_cons (de_var 1) (da_nil))))) (da_cons (de_frz (dn_lst (da_cons (de_str) (da_cons (de_tup (da_nil)) (da_nil))))) (da_nil))))))))
theorem s_law_refused : FnScope [("box" : Str), ("piece" : Str), ("named" : Str), ("value" : Str), ("other" : Str), ("way" : Str)] [("box" : Str), ("piece" : Str), ("named" : Str)] (defScope (top 72)) := ⟨rfl, rfl, rfl, by decide +kernel, rfl, by decide +kernel, by decide +kernel⟩
theorem b_law_refused {P : Program} {w : World} {K : PySem.W.Frag} {mg : Str → Option Value} {base : Heap} {cl : Nat → Addr} (T : Txt K mg cl) (fu : Nat) (h_law_odd_pieces : Df P w K mg base cl "_law_odd_pieces" 3 1 (d_law_odd_pieces fu)) (h_law_same : Df P w K mg base cl "_law_same" 15 2 (d_law_same fu 12)) (h_law_met : Df P w K mg base cl "_law_met" 11 3 (d_law_met fu)) (h_law_take : Df P w K mg base cl "_law_take" 3 2 (d_law_take fu)) (h_law_pick : Df P w K mg base cl "_law_pick" 4 2 (d_law_pick fu)) (h_law_blamed : Df P w K mg base cl "_law_blamed" 16 3 (d_law_blamed fu)) (h_law_odd_stretches : Df P w K mg base cl "_law_odd_stretches" 3 0 (d_law_odd_stretches fu)) (f : Addr) : Body P w K mg base cl 16 [("box" : Str), ("piece" : Str), ("named" : Str), ("value" : Str), ("other" : Str), ("way" : Str)] ("_law_refused" : Str) (top 72) f (m_law_refused fu) := by
  intro C cdv A outer s H E hcl hr tk ps
  subst hcl
  have S := s_law_refused
  exact dss_cons (ds_for ps rfl (di_seq (de_callD h_law_odd_pieces hr (by decide) tk (da_cons (de_var 1) (da_nil)))) (dg_name 3 S.nd) (nox_name 3)
     (dss_cons (ds_if (dt_not (dt_val (de_callD h_law_same hr (by decide) tk (da_cons (de_callD h_law_met hr (by decide) tk (da_cons (de_int) (da_cons (de_frz (dn_lst (da_cons (de_var 3) (da_nil)))) (da_cons (de_var 2) (da_nil))))) (da_cons (de_frz (dn_lst (da_cons (de_str) (da_cons (de_bl) (da_nil))))) (da_nil))))))
     (dss_one (ds_ret (de_bl)))
     (dss_nil))
     (dss_cons (ds_par2 4 5 rfl S.nd (dr_val (de_callD h_law_pick hr (by decide) tk (da_cons (de_var 0) (da_cons (de_frz (dn_lst (da_cons (de_var 1) (da_cons (de_tup (da_nil)) (da_cons (de_int) (da_cons (de_non) (da_cons (de_tup (da_cons (de_int) (da_nil))) (da_nil)))))))) (da_nil)))) (dr_val (de_add (de_int) (dp_de (de_callD h_law_take hr (by decide) tk (da_cons (de_var 0) (da_cons (de_int) (da_nil)))))) (dr_nil))))
     (dss_cons (ds_if (dt_not (dt_val (de_callD h_law_blamed hr (by decide) tk (da_cons (de_callD h_law_met hr (by decide) tk (da_cons (de_var 5) (da_cons (de_frz (dn_lst (da_cons (de_var 3) (da_cons (de_var 4) (da_nil))))) (da_cons (de_var 2) (da_nil))))) (da_cons (de_str) (da_cons (de_var 3) (da_nil)))))))
     (dss_one (ds_ret (de_bl)))
     (dss_nil))
     (dss_one (ds_set 2 S.nd (de_not (de_var 2))))))))
     (dss_cons (ds_for ps rfl (di_seq (de_callD0 h_law_odd_stretches hr (by decide) tk)) (dg_name 3 S.nd) (nox_name 3)
     (dss_one (ds_if (dt_not (dt_val (de_callD h_law_blamed hr (by decide) tk (da_cons (de_callD h_law_met hr (by decide) tk (da_cons (de_int) (da_cons (de_frz (dn_lst (da_cons (de_var 3) (da_nil)))) (da_cons (de_var 2) (da_nil))))) (da_cons (de_str) (da_cons (de_var 3) (da_nil)))))))
     (dss_one (ds_ret (de_bl)))
     (dss_nil))))
     (dss_cons (ds_for ps rfl (di_seq (de_frz (dn_lst (da_cons (de_non) (da_cons (de_int) (da_cons (de_str) (da_cons (de_tup (da_cons (de_int) (da_cons (de_int) (da_nil)))) (da_cons (de_tup (da_cons (de_neg (dp_de (de_int))) (da_cons (de_int) (da_nil)))) (da_cons (de_tup (da_cons (de_int) (da_cons (de_int) (da_nil)))) (da_cons (de_lab (dn_lst (da_cons (de_int) (da_cons (de_int) (da_nil))))) (da_cons (de_tup (da_cons (de_int) (da_cons (de_int) (da_cons (de_int) (da_nil))))) (da_cons (de_tup (da_cons (de_bl) (da_cons (de_int) (da_nil)))) (da_cons (de_tup (da_cons (de_int) (da_nil))) (da_cons (de_dnew) (da_nil))))))))))))))) (dg_name 3 S.nd) (nox_name 3)
     (dss_cons (ds_if (dt_not (dt_val (de_callD h_law_blamed hr (by decide) tk (da_cons (de_callD h_law_met hr (by decide) tk (da_cons (de_int) (da_cons (de_frz (dn_lst (da_cons (de_var 1) (da_cons (de_var 3) (da_nil))))) (da_cons (de_var 2) (da_nil))))) (da_cons (de_str) (da_cons (de_var 3) (da_nil)))))))
     (dss_one (ds_ret (de_bl)))
     (dss_nil))
     (dss_one (ds_if (dt_not (dt_val (de_callD h_law_same hr (by decide) tk (da_cons (de_callD h_law_met hr (by decide) tk (da_cons (de_int) (da_cons (de_frz (dn_lst (da_cons (de_var 1) (da_cons (de_var 3) (da_nil))))) (da_cons (de_var 2) (da_nil))))) (da_cons (de_frz (dn_lst (da_cons (de_str) (da_cons (de_bl) (da_nil))))) (da_nil))))))
     (dss_one (ds_ret (de_bl)))
     (dss_nil)))))
     (dss_cons (ds_for ps rfl (di_seq (de_frz (dn_lst (da_cons (de_non) (da_cons (de_int) (da_cons (de_lab (dn_lst (da_nil))) (da_cons (de_tup (da_cons (de_non) (da_nil))) (da_cons (de_tup (da_cons (de_tup (da_cons (de_tup (da_cons (de_int) (da_cons (de_int) (da_nil)))) (da_cons (de_tup (da_cons (de_int) (da_cons (de_int) (da_nil)))) (da_nil)))) (da_nil))) (da_nil))))))))) (dg_name 3 S.nd) (nox_name 3)
     (dss_one (ds_if (dt_not (dt_val (de_callD h_law_blamed hr (by decide) tk (da_cons (de_callD h_law_met hr (by decide) tk (da_cons (de_add (de_int) (dp_de (de_callD h_law_take hr (by decide) tk (da_cons (de_var 0) (da_cons (de_int) (da_nil)))))) (da_cons (de_frz (dn_lst (da_cons (de_var 1) (da_cons (de_var 3) (da_nil))))) (da_cons (de_var 2) (da_nil))))) (da_cons (de_str) (da_cons (de_var 3) (da_nil)))))))
     (dss_one (ds_ret (de_bl)))
     (dss_nil))))
     (dss_one (ds_ret (de_bl))))))
theorem s_law : FnScope [("script" : Str), ("k" : Str), ("box" : Str), ("named" : Str), ("some" : Str), ("pieces" : Str), ("one" : Str), ("first" : Str), ("second" : Str), ("turn" : Str)] [("script" : Str)] (defScope (top 73)) := ⟨rfl, rfl, rfl, by decide +kernel, rfl, by decide +kernel, by decide +kernel⟩
theorem b_law {P : Program} {w : World} {K : PySem.W.Frag} {mg : Str → Option Value} {base : Heap} {cl : Nat → Addr} (T : Txt K mg cl) (fu : Nat) (h_law_box : Df P w K mg base cl "_law_box" 3 1 (d_law_box fu)) (h_law_cell : Df P w K mg base cl "_law_cell" 3 2 (d_law_cell fu)) (h_law_take : Df P w K mg base cl "_law_take" 3 2 (d_law_take fu)) (h_law_stretches : Df P w K mg base cl "_law_stretches" 6 2 (d_law_stretches fu)) (h_law_union : Df P w K mg base cl "_law_union" 4 1 (d_law_union fu)) (h_law_one_right : Df P w K mg base cl "_law_one_right" 16 3 (d_law_one_right fu)) (h_law_two_right : Df P w K mg base cl "_law_two_right" 16 2 (d_law_two_right fu)) (h_law_refused : Df P w K mg base cl "_law_refused" 17 3 (d_law_refused fu)) (f : Addr) : Body P w K mg base cl 17 [("script" : Str), ("k" : Str), ("box" : Str), ("named" : Str), ("some" : Str), ("pieces" : Str), ("one" : Str), ("first" : Str), ("second" : Str), ("turn" : Str)] ("law" : Str) (top 73) f (m_law fu) := by
  intro C cdv A outer s H E hcl hr tk ps
  subst hcl
  have S := s_law
  exact dss_cons (ds_for ps rfl (di_range1 rfl T.brange (de_max2 rfl rfl T.bmax (de_int) (dp_de (de_min2 rfl rfl T.bmin (de_int) (dp_de (de_len rfl T.blen (dp_var 0))))))) (dg_name 1 S.nd) (nox_name 1)
     (dss_cons (ds_set 2 S.nd (de_callD h_law_box hr (by decide) tk (da_cons (de_callD h_law_cell hr (by decide) tk (da_cons (de_var 0) (da_cons (de_var 1) (da_nil)))) (da_nil))))
     (dss_cons (ds_set 3 S.nd (de_c (c_eq hr) (de_callD h_law_take hr (by decide) tk (da_cons (de_var 2) (da_cons (de_int) (da_nil)))) (dp_de (de_int))))
     (dss_cons (ds_setLcV 4 [(("turn" : Str), 9)] rfl S.nd (diw_of (di_range1 rfl T.brange (de_int))) (blkOk_by (by kernel_rfl)) (fun _ _ _ _ _ => tg_name 9 S.nd) (fun _ _ _ _ _ => dts_nil) (fun _ _ _ _ _ => de_callD h_law_stretches hr (by decide) takes0 (da_cons (de_var 2) (da_cons (de_callD h_law_take hr (by decide) takes0 (da_cons (de_var 2) (da_cons (de_int) (da_nil)))) (da_nil)))))
     (dss_cons (ds_setLcV 5 [(("one" : Str), 6)] rfl S.nd (diw_seq (de_var 4)) (blkOk_by (by kernel_rfl)) (fun _ _ _ _ _ => tg_name 6 S.nd) (fun _ _ _ _ _ => dts_nil) (fun _ _ _ _ _ => de_callD h_law_union hr (by decide) takes0 (da_cons (de_var 6) (da_nil))))
     (dss_cons (ds_for ps rfl (di_seq (de_var 4)) (dg_name 6 S.nd) (nox_name 6)
     (dss_one (ds_if (dt_not (dt_val (de_callD h_law_one_right hr (by decide) tk (da_cons (de_var 2) (da_cons (de_var 6) (da_cons (de_var 3) (da_nil)))))))
     (dss_one (ds_ret (de_bl)))
     (dss_nil))))
     (dss_cons (ds_for ps rfl (di_seq (de_tup (da_cons (de_tup (da_cons (de_int) (da_cons (de_int) (da_nil)))) (da_cons (de_tup (da_cons (de_int) (da_cons (de_int) (da_nil)))) (da_cons (de_tup (da_cons (de_int) (da_cons (de_int) (da_nil)))) (da_cons (de_tup (da_cons (de_int) (da_cons (de_int) (da_nil)))) (da_nil))))))) (dg_tup rfl (dgs_cons (dg_name 7 S.nd) (dgs_cons (dg_name 8 S.nd) (dgs_nil)))) (nox_tup (noxs_cons (nox_name 7) (noxs_cons (nox_name 8) (noxs_nil))))
     (dss_one (ds_if (dt_not (dt_val (de_callD h_law_two_right hr (by decide) tk (da_cons (de_frz (dn_lst (da_cons (de_sub1 (de_var 5) (dp_var 7)) (da_cons (de_sub1 (de_var 5) (dp_var 8)) (da_nil))))) (da_cons (de_var 3) (da_nil))))))
     (dss_one (ds_ret (de_bl)))
     (dss_nil))))
     (dss_one (ds_if (dt_not (dt_val (de_callD h_law_refused hr (by decide) tk (da_cons (de_var 2) (da_cons (de_sub1 (de_var 5) (dp_de (de_int))) (da_cons (de_var 3) (da_nil)))))))
     (dss_one (ds_ret (de_bl)))
     (dss_nil))))))))))
     (dss_one (ds_ret (de_bl)))
end DL
end

section
set_option Elab.async false
set_option linter.all false
set_option maxRecDepth 100000
set_option maxHeartbeats 4000000
/-! Printed by gen.py: the top, and the end. -/
namespace DL
open PySem PySem.Spec PyProof.Rows L2
def spLaw (K : PySem.W.Frag) (g : Nat → Fn) : Sp := fun vs H Q E => ∃ fu, ∀ cl, spD K cl 1 (g fu) vs H Q E
theorem all_mk {P : Program} {w : World} {K : PySem.W.Frag} {h : Heap} {mg : Str → Option Value} {fa : Addr} (X : K.In h) (G : h.Ns mainGlobals mg) (hfa : mg "law" = some (.ref fa))
    {f7 : Addr} {od7 an7 : Option Addr} {sl7 : Array (Option Value)} {oc7 kv7 dc7 pm7 cd7 ct7 : Value}
    {f8 : Addr} {od8 an8 : Option Addr} {sl8 : Array (Option Value)} {oc8 kv8 dc8 pm8 cd8 ct8 : Value}
    {f9 : Addr} {od9 an9 : Option Addr} {sl9 : Array (Option Value)} {oc9 kv9 dc9 pm9 cd9 ct9 : Value}
    {f12 : Addr} {od12 an12 : Option Addr} {sl12 : Array (Option Value)} {oc12 kv12 dc12 pm12 cd12 ct12 : Value}
    {f13 : Addr} {od13 an13 : Option Addr} {sl13 : Array (Option Value)} {oc13 kv13 dc13 pm13 cd13 ct13 : Value}
    {f14 : Addr} {od14 an14 : Option Addr} {sl14 : Array (Option Value)} {oc14 kv14 dc14 pm14 cd14 ct14 : Value}
    {f15 : Addr} {od15 an15 : Option Addr} {sl15 : Array (Option Value)} {oc15 kv15 dc15 pm15 cd15 ct15 : Value}
    {f16 : Addr} {od16 an16 : Option Addr} {sl16 : Array (Option Value)} {oc16 kv16 dc16 pm16 cd16 ct16 : Value}
    {f17 : Addr} {od17 an17 : Option Addr} {sl17 : Array (Option Value)} {oc17 kv17 dc17 pm17 cd17 ct17 : Value}
    {f18 : Addr} {od18 an18 : Option Addr} {sl18 : Array (Option Value)} {oc18 kv18 dc18 pm18 cd18 ct18 : Value}
    {f19 : Addr} {od19 an19 : Option Addr} {sl19 : Array (Option Value)} {oc19 kv19 dc19 pm19 cd19 ct19 : Value}
    {f20 : Addr} {od20 an20 : Option Addr} {sl20 : Array (Option Value)} {oc20 kv20 dc20 pm20 cd20 ct20 : Value}
    {f21 : Addr} {od21 an21 : Option Addr} {sl21 : Array (Option Value)} {oc21 kv21 dc21 pm21 cd21 ct21 : Value}
    {f22 : Addr} {od22 an22 : Option Addr} {sl22 : Array (Option Value)} {oc22 kv22 dc22 pm22 cd22 ct22 : Value}
    {f27 : Addr} {od27 an27 : Option Addr} {sl27 : Array (Option Value)} {oc27 kv27 dc27 pm27 cd27 ct27 : Value}
    {f28 : Addr} {od28 an28 : Option Addr} {sl28 : Array (Option Value)} {oc28 kv28 dc28 pm28 cd28 ct28 : Value}
    {f29 : Addr} {od29 an29 : Option Addr} {sl29 : Array (Option Value)} {oc29 kv29 dc29 pm29 cd29 ct29 : Value}
    {f30 : Addr} {od30 an30 : Option Addr} {sl30 : Array (Option Value)} {oc30 kv30 dc30 pm30 cd30 ct30 : Value}
    {f31 : Addr} {od31 an31 : Option Addr} {sl31 : Array (Option Value)} {oc31 kv31 dc31 pm31 cd31 ct31 : Value}
    {f32 : Addr} {od32 an32 : Option Addr} {sl32 : Array (Option Value)} {oc32 kv32 dc32 pm32 cd32 ct32 : Value}
    {f33 : Addr} {od33 an33 : Option Addr} {sl33 : Array (Option Value)} {oc33 kv33 dc33 pm33 cd33 ct33 : Value}
    {f34 : Addr} {od34 an34 : Option Addr} {sl34 : Array (Option Value)} {oc34 kv34 dc34 pm34 cd34 ct34 : Value}
    {f35 : Addr} {od35 an35 : Option Addr} {sl35 : Array (Option Value)} {oc35 kv35 dc35 pm35 cd35 ct35 : Value}
    {f36 : Addr} {od36 an36 : Option Addr} {sl36 : Array (Option Value)} {oc36 kv36 dc36 pm36 cd36 ct36 : Value}
    {f37 : Addr} {od37 an37 : Option Addr} {sl37 : Array (Option Value)} {oc37 kv37 dc37 pm37 cd37 ct37 : Value}
    {f38 : Addr} {od38 an38 : Option Addr} {sl38 : Array (Option Value)} {oc38 kv38 dc38 pm38 cd38 ct38 : Value}
    {f39 : Addr} {od39 an39 : Option Addr} {sl39 : Array (Option Value)} {oc39 kv39 dc39 pm39 cd39 ct39 : Value}
    {f40 : Addr} {od40 an40 : Option Addr} {sl40 : Array (Option Value)} {oc40 kv40 dc40 pm40 cd40 ct40 : Value}
    {f41 : Addr} {od41 an41 : Option Addr} {sl41 : Array (Option Value)} {oc41 kv41 dc41 pm41 cd41 ct41 : Value}
    {f42 : Addr} {od42 an42 : Option Addr} {sl42 : Array (Option Value)} {oc42 kv42 dc42 pm42 cd42 ct42 : Value}
    {f44 : Addr} {od44 an44 : Option Addr} {sl44 : Array (Option Value)} {oc44 kv44 dc44 pm44 cd44 ct44 : Value}
    {f45 : Addr} {od45 an45 : Option Addr} {sl45 : Array (Option Value)} {oc45 kv45 dc45 pm45 cd45 ct45 : Value}
    {f46 : Addr} {od46 an46 : Option Addr} {sl46 : Array (Option Value)} {oc46 kv46 dc46 pm46 cd46 ct46 : Value}
    {f47 : Addr} {od47 an47 : Option Addr} {sl47 : Array (Option Value)} {oc47 kv47 dc47 pm47 cd47 ct47 : Value}
    {f48 : Addr} {od48 an48 : Option Addr} {sl48 : Array (Option Value)} {oc48 kv48 dc48 pm48 cd48 ct48 : Value}
    {f49 : Addr} {od49 an49 : Option Addr} {sl49 : Array (Option Value)} {oc49 kv49 dc49 pm49 cd49 ct49 : Value}
    {f50 : Addr} {od50 an50 : Option Addr} {sl50 : Array (Option Value)} {oc50 kv50 dc50 pm50 cd50 ct50 : Value}
    {f51 : Addr} {od51 an51 : Option Addr} {sl51 : Array (Option Value)} {oc51 kv51 dc51 pm51 cd51 ct51 : Value}
    {f52 : Addr} {od52 an52 : Option Addr} {sl52 : Array (Option Value)} {oc52 kv52 dc52 pm52 cd52 ct52 : Value}
    {f53 : Addr} {od53 an53 : Option Addr} {sl53 : Array (Option Value)} {oc53 kv53 dc53 pm53 cd53 ct53 : Value}
    {f54 : Addr} {od54 an54 : Option Addr} {sl54 : Array (Option Value)} {oc54 kv54 dc54 pm54 cd54 ct54 : Value}
    {f55 : Addr} {od55 an55 : Option Addr} {sl55 : Array (Option Value)} {oc55 kv55 dc55 pm55 cd55 ct55 : Value}
    {f56 : Addr} {od56 an56 : Option Addr} {sl56 : Array (Option Value)} {oc56 kv56 dc56 pm56 cd56 ct56 : Value}
    {f57 : Addr} {od57 an57 : Option Addr} {sl57 : Array (Option Value)} {oc57 kv57 dc57 pm57 cd57 ct57 : Value}
    {f58 : Addr} {od58 an58 : Option Addr} {sl58 : Array (Option Value)} {oc58 kv58 dc58 pm58 cd58 ct58 : Value}
    {f59 : Addr} {od59 an59 : Option Addr} {sl59 : Array (Option Value)} {oc59 kv59 dc59 pm59 cd59 ct59 : Value}
    {f60 : Addr} {od60 an60 : Option Addr} {sl60 : Array (Option Value)} {oc60 kv60 dc60 pm60 cd60 ct60 : Value}
    {f61 : Addr} {od61 an61 : Option Addr} {sl61 : Array (Option Value)} {oc61 kv61 dc61 pm61 cd61 ct61 : Value}
    {f62 : Addr} {od62 an62 : Option Addr} {sl62 : Array (Option Value)} {oc62 kv62 dc62 pm62 cd62 ct62 : Value}
    {f64 : Addr} {od64 an64 : Option Addr} {sl64 : Array (Option Value)} {oc64 kv64 dc64 pm64 cd64 ct64 : Value}
    {f63 : Addr} {od63 an63 : Option Addr} {sl63 : Array (Option Value)} {oc63 kv63 dc63 pm63 cd63 ct63 : Value}
    {f65 : Addr} {od65 an65 : Option Addr} {sl65 : Array (Option Value)} {oc65 kv65 dc65 pm65 cd65 ct65 : Value}
    {f66 : Addr} {od66 an66 : Option Addr} {sl66 : Array (Option Value)} {oc66 kv66 dc66 pm66 cd66 ct66 : Value}
    {f67 : Addr} {od67 an67 : Option Addr} {sl67 : Array (Option Value)} {oc67 kv67 dc67 pm67 cd67 ct67 : Value}
    {f68 : Addr} {od68 an68 : Option Addr} {sl68 : Array (Option Value)} {oc68 kv68 dc68 pm68 cd68 ct68 : Value}
    {f69 : Addr} {od69 an69 : Option Addr} {sl69 : Array (Option Value)} {oc69 kv69 dc69 pm69 cd69 ct69 : Value}
    {f70 : Addr} {od70 an70 : Option Addr} {sl70 : Array (Option Value)} {oc70 kv70 dc70 pm70 cd70 ct70 : Value}
    {f71 : Addr} {od71 an71 : Option Addr} {sl71 : Array (Option Value)} {oc71 kv71 dc71 pm71 cd71 ct71 : Value}
    {f72 : Addr} {od72 an72 : Option Addr} {sl72 : Array (Option Value)} {oc72 kv72 dc72 pm72 cd72 ct72 : Value}
    {f73 : Addr} {od73 an73 : Option Addr} {sl73 : Array (Option Value)} {oc73 kv73 dc73 pm73 cd73 ct73 : Value}
    {C0 N0 g0 : Addr} {nm0 q0 : Str} {bs0 bm0 sub0 : List Value} {sn0 : List Str} {ab0 : Bool} {col0 : Option Bool} {dd0 : Option Addr} {u0 v0 w0 x0 y0 : Option Value}
    {od3 an3 : Option Addr} {sl3 : Array (Option Value)} {oc3 kv3 dc3 pm3 cd3 ct3 : Value}
    {C1 N1 g1 : Addr} {nm1 q1 : Str} {bs1 bm1 sub1 : List Value} {sn1 : List Str} {ab1 : Bool} {col1 : Option Bool} {dd1 : Option Addr} {u1 v1 w1 x1 y1 : Option Value}
    {od4 an4 : Option Addr} {sl4 : Array (Option Value)} {oc4 kv4 dc4 pm4 cd4 ct4 : Value}
    {C2 N2 g2 : Addr} {nm2 q2 : Str} {bs2 bm2 sub2 : List Value} {sn2 : List Str} {ab2 : Bool} {col2 : Option Bool} {dd2 : Option Addr} {u2 v2 w2 x2 y2 : Option Value}
    {od5 an5 : Option Addr} {sl5 : Array (Option Value)} {oc5 kv5 dc5 pm5 cd5 ct5 : Value}
    {uc_ZERO : Value}
    {uc_EITHER : Value}
    {uc_BOTH : Value}
    {uc_FIRST : Value}
    (a7 : PySem.W.nsIn K mainGlobals "is_integer" = some (some (.ref f7)))
    (l7 : K.lookup f7 = some ⟨oc7, od7, .func (PySem.W.fnOf "is_integer" "is_integer" (defArgs (top 7)) (defBody (top 7)) (defScope (top 7)) .none kv7 dc7 pm7 an7 cd7 ct7), sl7⟩)
    (c7 : PySem.W.codeIn K cd7 "is_integer" = true)
    (k7 : PySem.W.keepIn K (.ref f7) = true)
    (a8 : PySem.W.nsIn K mainGlobals "is_list" = some (some (.ref f8)))
    (l8 : K.lookup f8 = some ⟨oc8, od8, .func (PySem.W.fnOf "is_list" "is_list" (defArgs (top 8)) (defBody (top 8)) (defScope (top 8)) .none kv8 dc8 pm8 an8 cd8 ct8), sl8⟩)
    (c8 : PySem.W.codeIn K cd8 "is_list" = true)
    (k8 : PySem.W.keepIn K (.ref f8) = true)
    (a9 : PySem.W.nsIn K mainGlobals "is_tuple_of" = some (some (.ref f9)))
    (l9 : K.lookup f9 = some ⟨oc9, od9, .func (PySem.W.fnOf "is_tuple_of" "is_tuple_of" (defArgs (top 9)) (defBody (top 9)) (defScope (top 9)) .none kv9 dc9 pm9 an9 cd9 ct9), sl9⟩)
    (c9 : PySem.W.codeIn K cd9 "is_tuple_of" = true)
    (k9 : PySem.W.keepIn K (.ref f9) = true)
    (a12 : PySem.W.nsIn K mainGlobals "fraction_of" = some (some (.ref f12)))
    (l12 : K.lookup f12 = some ⟨oc12, od12, .func (PySem.W.fnOf "fraction_of" "fraction_of" (defArgs (top 12)) (defBody (top 12)) (defScope (top 12)) .none kv12 dc12 pm12 an12 cd12 ct12), sl12⟩)
    (c12 : PySem.W.codeIn K cd12 "fraction_of" = true)
    (k12 : PySem.W.keepIn K (.ref f12) = true)
    (a13 : PySem.W.nsIn K mainGlobals "is_fraction" = some (some (.ref f13)))
    (l13 : K.lookup f13 = some ⟨oc13, od13, .func (PySem.W.fnOf "is_fraction" "is_fraction" (defArgs (top 13)) (defBody (top 13)) (defScope (top 13)) .none kv13 dc13 pm13 an13 cd13 ct13), sl13⟩)
    (c13 : PySem.W.codeIn K cd13 "is_fraction" = true)
    (k13 : PySem.W.keepIn K (.ref f13) = true)
    (a14 : PySem.W.nsIn K mainGlobals "is_place" = some (some (.ref f14)))
    (l14 : K.lookup f14 = some ⟨oc14, od14, .func (PySem.W.fnOf "is_place" "is_place" (defArgs (top 14)) (defBody (top 14)) (defScope (top 14)) .none kv14 dc14 pm14 an14 cd14 ct14), sl14⟩)
    (c14 : PySem.W.codeIn K cd14 "is_place" = true)
    (k14 : PySem.W.keepIn K (.ref f14) = true)
    (a15 : PySem.W.nsIn K mainGlobals "check_place" = some (some (.ref f15)))
    (l15 : K.lookup f15 = some ⟨oc15, od15, .func (PySem.W.fnOf "check_place" "check_place" (defArgs (top 15)) (defBody (top 15)) (defScope (top 15)) .none kv15 dc15 pm15 an15 cd15 ct15), sl15⟩)
    (c15 : PySem.W.codeIn K cd15 "check_place" = true)
    (k15 : PySem.W.keepIn K (.ref f15) = true)
    (a16 : PySem.W.nsIn K mainGlobals "sum_of" = some (some (.ref f16)))
    (l16 : K.lookup f16 = some ⟨oc16, od16, .func (PySem.W.fnOf "sum_of" "sum_of" (defArgs (top 16)) (defBody (top 16)) (defScope (top 16)) .none kv16 dc16 pm16 an16 cd16 ct16), sl16⟩)
    (c16 : PySem.W.codeIn K cd16 "sum_of" = true)
    (k16 : PySem.W.keepIn K (.ref f16) = true)
    (a17 : PySem.W.nsIn K mainGlobals "difference_of" = some (some (.ref f17)))
    (l17 : K.lookup f17 = some ⟨oc17, od17, .func (PySem.W.fnOf "difference_of" "difference_of" (defArgs (top 17)) (defBody (top 17)) (defScope (top 17)) .none kv17 dc17 pm17 an17 cd17 ct17), sl17⟩)
    (c17 : PySem.W.codeIn K cd17 "difference_of" = true)
    (k17 : PySem.W.keepIn K (.ref f17) = true)
    (a18 : PySem.W.nsIn K mainGlobals "order_of" = some (some (.ref f18)))
    (l18 : K.lookup f18 = some ⟨oc18, od18, .func (PySem.W.fnOf "order_of" "order_of" (defArgs (top 18)) (defBody (top 18)) (defScope (top 18)) .none kv18 dc18 pm18 an18 cd18 ct18), sl18⟩)
    (c18 : PySem.W.codeIn K cd18 "order_of" = true)
    (k18 : PySem.W.keepIn K (.ref f18) = true)
    (a19 : PySem.W.nsIn K mainGlobals "total_of" = some (some (.ref f19)))
    (l19 : K.lookup f19 = some ⟨oc19, od19, .func (PySem.W.fnOf "total_of" "total_of" (defArgs (top 19)) (defBody (top 19)) (defScope (top 19)) .none kv19 dc19 pm19 an19 cd19 ct19), sl19⟩)
    (c19 : PySem.W.codeIn K cd19 "total_of" = true)
    (k19 : PySem.W.keepIn K (.ref f19) = true)
    (a20 : PySem.W.nsIn K mainGlobals "least_of" = some (some (.ref f20)))
    (l20 : K.lookup f20 = some ⟨oc20, od20, .func (PySem.W.fnOf "least_of" "least_of" (defArgs (top 20)) (defBody (top 20)) (defScope (top 20)) .none kv20 dc20 pm20 an20 cd20 ct20), sl20⟩)
    (c20 : PySem.W.codeIn K cd20 "least_of" = true)
    (k20 : PySem.W.keepIn K (.ref f20) = true)
    (a21 : PySem.W.nsIn K mainGlobals "greatest_of" = some (some (.ref f21)))
    (l21 : K.lookup f21 = some ⟨oc21, od21, .func (PySem.W.fnOf "greatest_of" "greatest_of" (defArgs (top 21)) (defBody (top 21)) (defScope (top 21)) .none kv21 dc21 pm21 an21 cd21 ct21), sl21⟩)
    (c21 : PySem.W.codeIn K cd21 "greatest_of" = true)
    (k21 : PySem.W.keepIn K (.ref f21) = true)
    (a22 : PySem.W.nsIn K mainGlobals "rises" = some (some (.ref f22)))
    (l22 : K.lookup f22 = some ⟨oc22, od22, .func (PySem.W.fnOf "rises" "rises" (defArgs (top 22)) (defBody (top 22)) (defScope (top 22)) .none kv22 dc22 pm22 an22 cd22 ct22), sl22⟩)
    (c22 : PySem.W.codeIn K cd22 "rises" = true)
    (k22 : PySem.W.keepIn K (.ref f22) = true)
    (a27 : PySem.W.nsIn K mainGlobals "is_pair" = some (some (.ref f27)))
    (l27 : K.lookup f27 = some ⟨oc27, od27, .func (PySem.W.fnOf "is_pair" "is_pair" (defArgs (top 27)) (defBody (top 27)) (defScope (top 27)) .none kv27 dc27 pm27 an27 cd27 ct27), sl27⟩)
    (c27 : PySem.W.codeIn K cd27 "is_pair" = true)
    (k27 : PySem.W.keepIn K (.ref f27) = true)
    (a28 : PySem.W.nsIn K mainGlobals "is_piece" = some (some (.ref f28)))
    (l28 : K.lookup f28 = some ⟨oc28, od28, .func (PySem.W.fnOf "is_piece" "is_piece" (defArgs (top 28)) (defBody (top 28)) (defScope (top 28)) .none kv28 dc28 pm28 an28 cd28 ct28), sl28⟩)
    (c28 : PySem.W.codeIn K cd28 "is_piece" = true)
    (k28 : PySem.W.keepIn K (.ref f28) = true)
    (a29 : PySem.W.nsIn K mainGlobals "check_piece" = some (some (.ref f29)))
    (l29 : K.lookup f29 = some ⟨oc29, od29, .func (PySem.W.fnOf "check_piece" "check_piece" (defArgs (top 29)) (defBody (top 29)) (defScope (top 29)) .none kv29 dc29 pm29 an29 cd29 ct29), sl29⟩)
    (c29 : PySem.W.codeIn K cd29 "check_piece" = true)
    (k29 : PySem.W.keepIn K (.ref f29) = true)
    (a30 : PySem.W.nsIn K mainGlobals "check_pieces" = some (some (.ref f30)))
    (l30 : K.lookup f30 = some ⟨oc30, od30, .func (PySem.W.fnOf "check_pieces" "check_pieces" (defArgs (top 30)) (defBody (top 30)) (defScope (top 30)) .none kv30 dc30 pm30 an30 cd30 ct30), sl30⟩)
    (c30 : PySem.W.codeIn K cd30 "check_pieces" = true)
    (k30 : PySem.W.keepIn K (.ref f30) = true)
    (a31 : PySem.W.nsIn K mainGlobals "combined" = some (some (.ref f31)))
    (l31 : K.lookup f31 = some ⟨oc31, od31, .func (PySem.W.fnOf "combined" "combined" (defArgs (top 31)) (defBody (top 31)) (defScope (top 31)) .none kv31 dc31 pm31 an31 cd31 ct31), sl31⟩)
    (c31 : PySem.W.codeIn K cd31 "combined" = true)
    (k31 : PySem.W.keepIn K (.ref f31) = true)
    (a32 : PySem.W.nsIn K mainGlobals "piece_from" = some (some (.ref f32)))
    (l32 : K.lookup f32 = some ⟨oc32, od32, .func (PySem.W.fnOf "piece_from" "piece_from" (defArgs (top 32)) (defBody (top 32)) (defScope (top 32)) .none kv32 dc32 pm32 an32 cd32 ct32), sl32⟩)
    (c32 : PySem.W.codeIn K cd32 "piece_from" = true)
    (k32 : PySem.W.keepIn K (.ref f32) = true)
    (a33 : PySem.W.nsIn K mainGlobals "piece_of" = some (some (.ref f33)))
    (l33 : K.lookup f33 = some ⟨oc33, od33, .func (PySem.W.fnOf "piece_of" "piece_of" (defArgs (top 33)) (defBody (top 33)) (defScope (top 33)) .none kv33 dc33 pm33 an33 cd33 ct33), sl33⟩)
    (c33 : PySem.W.codeIn K cd33 "piece_of" = true)
    (k33 : PySem.W.keepIn K (.ref f33) = true)
    (a34 : PySem.W.nsIn K mainGlobals "length_of" = some (some (.ref f34)))
    (l34 : K.lookup f34 = some ⟨oc34, od34, .func (PySem.W.fnOf "length_of" "length_of" (defArgs (top 34)) (defBody (top 34)) (defScope (top 34)) .none kv34 dc34 pm34 an34 cd34 ct34), sl34⟩)
    (c34 : PySem.W.codeIn K cd34 "length_of" = true)
    (k34 : PySem.W.keepIn K (.ref f34) = true)
    (a35 : PySem.W.nsIn K mainGlobals "joined_pieces" = some (some (.ref f35)))
    (l35 : K.lookup f35 = some ⟨oc35, od35, .func (PySem.W.fnOf "joined_pieces" "joined_pieces" (defArgs (top 35)) (defBody (top 35)) (defScope (top 35)) .none kv35 dc35 pm35 an35 cd35 ct35), sl35⟩)
    (c35 : PySem.W.codeIn K cd35 "joined_pieces" = true)
    (k35 : PySem.W.keepIn K (.ref f35) = true)
    (a36 : PySem.W.nsIn K mainGlobals "common_piece" = some (some (.ref f36)))
    (l36 : K.lookup f36 = some ⟨oc36, od36, .func (PySem.W.fnOf "common_piece" "common_piece" (defArgs (top 36)) (defBody (top 36)) (defScope (top 36)) .none kv36 dc36 pm36 an36 cd36 ct36), sl36⟩)
    (c36 : PySem.W.codeIn K cd36 "common_piece" = true)
    (k36 : PySem.W.keepIn K (.ref f36) = true)
    (a37 : PySem.W.nsIn K mainGlobals "rest_piece" = some (some (.ref f37)))
    (l37 : K.lookup f37 = some ⟨oc37, od37, .func (PySem.W.fnOf "rest_piece" "rest_piece" (defArgs (top 37)) (defBody (top 37)) (defScope (top 37)) .none kv37 dc37 pm37 an37 cd37 ct37), sl37⟩)
    (c37 : PySem.W.codeIn K cd37 "rest_piece" = true)
    (k37 : PySem.W.keepIn K (.ref f37) = true)
    (a38 : PySem.W.nsIn K mainGlobals "left_piece" = some (some (.ref f38)))
    (l38 : K.lookup f38 = some ⟨oc38, od38, .func (PySem.W.fnOf "left_piece" "left_piece" (defArgs (top 38)) (defBody (top 38)) (defScope (top 38)) .none kv38 dc38 pm38 an38 cd38 ct38), sl38⟩)
    (c38 : PySem.W.codeIn K cd38 "left_piece" = true)
    (k38 : PySem.W.keepIn K (.ref f38) = true)
    (a39 : PySem.W.nsIn K mainGlobals "right_piece" = some (some (.ref f39)))
    (l39 : K.lookup f39 = some ⟨oc39, od39, .func (PySem.W.fnOf "right_piece" "right_piece" (defArgs (top 39)) (defBody (top 39)) (defScope (top 39)) .none kv39 dc39 pm39 an39 cd39 ct39), sl39⟩)
    (c39 : PySem.W.codeIn K cd39 "right_piece" = true)
    (k39 : PySem.W.keepIn K (.ref f39) = true)
    (a40 : PySem.W.nsIn K mainGlobals "parted" = some (some (.ref f40)))
    (l40 : K.lookup f40 = some ⟨oc40, od40, .func (PySem.W.fnOf "parted" "parted" (defArgs (top 40)) (defBody (top 40)) (defScope (top 40)) .none kv40 dc40 pm40 an40 cd40 ct40), sl40⟩)
    (c40 : PySem.W.codeIn K cd40 "parted" = true)
    (k40 : PySem.W.keepIn K (.ref f40) = true)
    (a41 : PySem.W.nsIn K mainGlobals "has_place" = some (some (.ref f41)))
    (l41 : K.lookup f41 = some ⟨oc41, od41, .func (PySem.W.fnOf "has_place" "has_place" (defArgs (top 41)) (defBody (top 41)) (defScope (top 41)) .none kv41 dc41 pm41 an41 cd41 ct41), sl41⟩)
    (c41 : PySem.W.codeIn K cd41 "has_place" = true)
    (k41 : PySem.W.keepIn K (.ref f41) = true)
    (a42 : PySem.W.nsIn K mainGlobals "is_place_of" = some (some (.ref f42)))
    (l42 : K.lookup f42 = some ⟨oc42, od42, .func (PySem.W.fnOf "is_place_of" "is_place_of" (defArgs (top 42)) (defBody (top 42)) (defScope (top 42)) .none kv42 dc42 pm42 an42 cd42 ct42), sl42⟩)
    (c42 : PySem.W.codeIn K cd42 "is_place_of" = true)
    (k42 : PySem.W.keepIn K (.ref f42) = true)
    (a44 : PySem.W.nsIn K mainGlobals "_law_box" = some (some (.ref f44)))
    (l44 : K.lookup f44 = some ⟨oc44, od44, .func (PySem.W.fnOf "_law_box" "_law_box" (defArgs (top 44)) (defBody (top 44)) (defScope (top 44)) .none kv44 dc44 pm44 an44 cd44 ct44), sl44⟩)
    (c44 : PySem.W.codeIn K cd44 "_law_box" = true)
    (k44 : PySem.W.keepIn K (.ref f44) = true)
    (a45 : PySem.W.nsIn K mainGlobals "_law_take" = some (some (.ref f45)))
    (l45 : K.lookup f45 = some ⟨oc45, od45, .func (PySem.W.fnOf "_law_take" "_law_take" (defArgs (top 45)) (defBody (top 45)) (defScope (top 45)) .none kv45 dc45 pm45 an45 cd45 ct45), sl45⟩)
    (c45 : PySem.W.codeIn K cd45 "_law_take" = true)
    (k45 : PySem.W.keepIn K (.ref f45) = true)
    (a46 : PySem.W.nsIn K mainGlobals "_law_pick" = some (some (.ref f46)))
    (l46 : K.lookup f46 = some ⟨oc46, od46, .func (PySem.W.fnOf "_law_pick" "_law_pick" (defArgs (top 46)) (defBody (top 46)) (defScope (top 46)) .none kv46 dc46 pm46 an46 cd46 ct46), sl46⟩)
    (c46 : PySem.W.codeIn K cd46 "_law_pick" = true)
    (k46 : PySem.W.keepIn K (.ref f46) = true)
    (a47 : PySem.W.nsIn K mainGlobals "_law_cell" = some (some (.ref f47)))
    (l47 : K.lookup f47 = some ⟨oc47, od47, .func (PySem.W.fnOf "_law_cell" "_law_cell" (defArgs (top 47)) (defBody (top 47)) (defScope (top 47)) .none kv47 dc47 pm47 an47 cd47 ct47), sl47⟩)
    (c47 : PySem.W.codeIn K cd47 "_law_cell" = true)
    (k47 : PySem.W.keepIn K (.ref f47) = true)
    (a48 : PySem.W.nsIn K mainGlobals "_law_mixed" = some (some (.ref f48)))
    (l48 : K.lookup f48 = some ⟨oc48, od48, .func (PySem.W.fnOf "_law_mixed" "_law_mixed" (defArgs (top 48)) (defBody (top 48)) (defScope (top 48)) .none kv48 dc48 pm48 an48 cd48 ct48), sl48⟩)
    (c48 : PySem.W.codeIn K cd48 "_law_mixed" = true)
    (k48 : PySem.W.keepIn K (.ref f48) = true)
    (a49 : PySem.W.nsIn K mainGlobals "_law_low" = some (some (.ref f49)))
    (l49 : K.lookup f49 = some ⟨oc49, od49, .func (PySem.W.fnOf "_law_low" "_law_low" (defArgs (top 49)) (defBody (top 49)) (defScope (top 49)) .none kv49 dc49 pm49 an49 cd49 ct49), sl49⟩)
    (c49 : PySem.W.codeIn K cd49 "_law_low" = true)
    (k49 : PySem.W.keepIn K (.ref f49) = true)
    (a50 : PySem.W.nsIn K mainGlobals "_law_plus" = some (some (.ref f50)))
    (l50 : K.lookup f50 = some ⟨oc50, od50, .func (PySem.W.fnOf "_law_plus" "_law_plus" (defArgs (top 50)) (defBody (top 50)) (defScope (top 50)) .none kv50 dc50 pm50 an50 cd50 ct50), sl50⟩)
    (c50 : PySem.W.codeIn K cd50 "_law_plus" = true)
    (k50 : PySem.W.keepIn K (.ref f50) = true)
    (a51 : PySem.W.nsIn K mainGlobals "_law_minus" = some (some (.ref f51)))
    (l51 : K.lookup f51 = some ⟨oc51, od51, .func (PySem.W.fnOf "_law_minus" "_law_minus" (defArgs (top 51)) (defBody (top 51)) (defScope (top 51)) .none kv51 dc51 pm51 an51 cd51 ct51), sl51⟩)
    (c51 : PySem.W.codeIn K cd51 "_law_minus" = true)
    (k51 : PySem.W.keepIn K (.ref f51) = true)
    (a52 : PySem.W.nsIn K mainGlobals "_law_less" = some (some (.ref f52)))
    (l52 : K.lookup f52 = some ⟨oc52, od52, .func (PySem.W.fnOf "_law_less" "_law_less" (defArgs (top 52)) (defBody (top 52)) (defScope (top 52)) .none kv52 dc52 pm52 an52 cd52 ct52), sl52⟩)
    (c52 : PySem.W.codeIn K cd52 "_law_less" = true)
    (k52 : PySem.W.keepIn K (.ref f52) = true)
    (a53 : PySem.W.nsIn K mainGlobals "_law_sum" = some (some (.ref f53)))
    (l53 : K.lookup f53 = some ⟨oc53, od53, .func (PySem.W.fnOf "_law_sum" "_law_sum" (defArgs (top 53)) (defBody (top 53)) (defScope (top 53)) .none kv53 dc53 pm53 an53 cd53 ct53), sl53⟩)
    (c53 : PySem.W.codeIn K cd53 "_law_sum" = true)
    (k53 : PySem.W.keepIn K (.ref f53) = true)
    (a54 : PySem.W.nsIn K mainGlobals "_law_union" = some (some (.ref f54)))
    (l54 : K.lookup f54 = some ⟨oc54, od54, .func (PySem.W.fnOf "_law_union" "_law_union" (defArgs (top 54)) (defBody (top 54)) (defScope (top 54)) .none kv54 dc54 pm54 an54 cd54 ct54), sl54⟩)
    (c54 : PySem.W.codeIn K cd54 "_law_union" = true)
    (k54 : PySem.W.keepIn K (.ref f54) = true)
    (a55 : PySem.W.nsIn K mainGlobals "_law_split" = some (some (.ref f55)))
    (l55 : K.lookup f55 = some ⟨oc55, od55, .func (PySem.W.fnOf "_law_split" "_law_split" (defArgs (top 55)) (defBody (top 55)) (defScope (top 55)) .none kv55 dc55 pm55 an55 cd55 ct55), sl55⟩)
    (c55 : PySem.W.codeIn K cd55 "_law_split" = true)
    (k55 : PySem.W.keepIn K (.ref f55) = true)
    (a56 : PySem.W.nsIn K mainGlobals "_law_same" = some (some (.ref f56)))
    (l56 : K.lookup f56 = some ⟨oc56, od56, .func (PySem.W.fnOf "_law_same" "_law_same" (defArgs (top 56)) (defBody (top 56)) (defScope (top 56)) .none kv56 dc56 pm56 an56 cd56 ct56), sl56⟩)
    (c56 : PySem.W.codeIn K cd56 "_law_same" = true)
    (k56 : PySem.W.keepIn K (.ref f56) = true)
    (a57 : PySem.W.nsIn K mainGlobals "_law_blamed" = some (some (.ref f57)))
    (l57 : K.lookup f57 = some ⟨oc57, od57, .func (PySem.W.fnOf "_law_blamed" "_law_blamed" (defArgs (top 57)) (defBody (top 57)) (defScope (top 57)) .none kv57 dc57 pm57 an57 cd57 ct57), sl57⟩)
    (c57 : PySem.W.codeIn K cd57 "_law_blamed" = true)
    (k57 : PySem.W.keepIn K (.ref f57) = true)
    (a58 : PySem.W.nsIn K mainGlobals "_law_whole" = some (some (.ref f58)))
    (l58 : K.lookup f58 = some ⟨oc58, od58, .func (PySem.W.fnOf "_law_whole" "_law_whole" (defArgs (top 58)) (defBody (top 58)) (defScope (top 58)) .none kv58 dc58 pm58 an58 cd58 ct58), sl58⟩)
    (c58 : PySem.W.codeIn K cd58 "_law_whole" = true)
    (k58 : PySem.W.keepIn K (.ref f58) = true)
    (a59 : PySem.W.nsIn K mainGlobals "_law_is_fraction" = some (some (.ref f59)))
    (l59 : K.lookup f59 = some ⟨oc59, od59, .func (PySem.W.fnOf "_law_is_fraction" "_law_is_fraction" (defArgs (top 59)) (defBody (top 59)) (defScope (top 59)) .none kv59 dc59 pm59 an59 cd59 ct59), sl59⟩)
    (c59 : PySem.W.codeIn K cd59 "_law_is_fraction" = true)
    (k59 : PySem.W.keepIn K (.ref f59) = true)
    (a60 : PySem.W.nsIn K mainGlobals "_law_is_place_in" = some (some (.ref f60)))
    (l60 : K.lookup f60 = some ⟨oc60, od60, .func (PySem.W.fnOf "_law_is_place_in" "_law_is_place_in" (defArgs (top 60)) (defBody (top 60)) (defScope (top 60)) .none kv60 dc60 pm60 an60 cd60 ct60), sl60⟩)
    (c60 : PySem.W.codeIn K cd60 "_law_is_place_in" = true)
    (k60 : PySem.W.keepIn K (.ref f60) = true)
    (a61 : PySem.W.nsIn K mainGlobals "_law_spot" = some (some (.ref f61)))
    (l61 : K.lookup f61 = some ⟨oc61, od61, .func (PySem.W.fnOf "_law_spot" "_law_spot" (defArgs (top 61)) (defBody (top 61)) (defScope (top 61)) .none kv61 dc61 pm61 an61 cd61 ct61), sl61⟩)
    (c61 : PySem.W.codeIn K cd61 "_law_spot" = true)
    (k61 : PySem.W.keepIn K (.ref f61) = true)
    (a62 : PySem.W.nsIn K mainGlobals "_law_stretches" = some (some (.ref f62)))
    (l62 : K.lookup f62 = some ⟨oc62, od62, .func (PySem.W.fnOf "_law_stretches" "_law_stretches" (defArgs (top 62)) (defBody (top 62)) (defScope (top 62)) .none kv62 dc62 pm62 an62 cd62 ct62), sl62⟩)
    (c62 : PySem.W.codeIn K cd62 "_law_stretches" = true)
    (k62 : PySem.W.keepIn K (.ref f62) = true)
    (a64 : PySem.W.nsIn K mainGlobals "_law_flat" = some (some (.ref f64)))
    (l64 : K.lookup f64 = some ⟨oc64, od64, .func (PySem.W.fnOf "_law_flat" "_law_flat" (defArgs (top 64)) (defBody (top 64)) (defScope (top 64)) .none kv64 dc64 pm64 an64 cd64 ct64), sl64⟩)
    (c64 : PySem.W.codeIn K cd64 "_law_flat" = true)
    (k64 : PySem.W.keepIn K (.ref f64) = true)
    (a63 : PySem.W.nsIn K mainGlobals "_law_marks" = some (some (.ref f63)))
    (l63 : K.lookup f63 = some ⟨oc63, od63, .func (PySem.W.fnOf "_law_marks" "_law_marks" (defArgs (top 63)) (defBody (top 63)) (defScope (top 63)) .none kv63 dc63 pm63 an63 cd63 ct63), sl63⟩)
    (c63 : PySem.W.codeIn K cd63 "_law_marks" = true)
    (k63 : PySem.W.keepIn K (.ref f63) = true)
    (a65 : PySem.W.nsIn K mainGlobals "_law_covers" = some (some (.ref f65)))
    (l65 : K.lookup f65 = some ⟨oc65, od65, .func (PySem.W.fnOf "_law_covers" "_law_covers" (defArgs (top 65)) (defBody (top 65)) (defScope (top 65)) .none kv65 dc65 pm65 an65 cd65 ct65), sl65⟩)
    (c65 : PySem.W.codeIn K cd65 "_law_covers" = true)
    (k65 : PySem.W.keepIn K (.ref f65) = true)
    (a66 : PySem.W.nsIn K mainGlobals "_law_cells" = some (some (.ref f66)))
    (l66 : K.lookup f66 = some ⟨oc66, od66, .func (PySem.W.fnOf "_law_cells" "_law_cells" (defArgs (top 66)) (defBody (top 66)) (defScope (top 66)) .none kv66 dc66 pm66 an66 cd66 ct66), sl66⟩)
    (c66 : PySem.W.codeIn K cd66 "_law_cells" = true)
    (k66 : PySem.W.keepIn K (.ref f66) = true)
    (a67 : PySem.W.nsIn K mainGlobals "_law_met" = some (some (.ref f67)))
    (l67 : K.lookup f67 = some ⟨oc67, od67, .func (PySem.W.fnOf "_law_met" "_law_met" (defArgs (top 67)) (defBody (top 67)) (defScope (top 67)) .none kv67 dc67 pm67 an67 cd67 ct67), sl67⟩)
    (c67 : PySem.W.codeIn K cd67 "_law_met" = true)
    (k67 : PySem.W.keepIn K (.ref f67) = true)
    (a68 : PySem.W.nsIn K mainGlobals "_law_odd_pieces" = some (some (.ref f68)))
    (l68 : K.lookup f68 = some ⟨oc68, od68, .func (PySem.W.fnOf "_law_odd_pieces" "_law_odd_pieces" (defArgs (top 68)) (defBody (top 68)) (defScope (top 68)) .none kv68 dc68 pm68 an68 cd68 ct68), sl68⟩)
    (c68 : PySem.W.codeIn K cd68 "_law_odd_pieces" = true)
    (k68 : PySem.W.keepIn K (.ref f68) = true)
    (a69 : PySem.W.nsIn K mainGlobals "_law_odd_stretches" = some (some (.ref f69)))
    (l69 : K.lookup f69 = some ⟨oc69, od69, .func (PySem.W.fnOf "_law_odd_stretches" "_law_odd_stretches" (defArgs (top 69)) (defBody (top 69)) (defScope (top 69)) .none kv69 dc69 pm69 an69 cd69 ct69), sl69⟩)
    (c69 : PySem.W.codeIn K cd69 "_law_odd_stretches" = true)
    (k69 : PySem.W.keepIn K (.ref f69) = true)
    (a70 : PySem.W.nsIn K mainGlobals "_law_one_right" = some (some (.ref f70)))
    (l70 : K.lookup f70 = some ⟨oc70, od70, .func (PySem.W.fnOf "_law_one_right" "_law_one_right" (defArgs (top 70)) (defBody (top 70)) (defScope (top 70)) .none kv70 dc70 pm70 an70 cd70 ct70), sl70⟩)
    (c70 : PySem.W.codeIn K cd70 "_law_one_right" = true)
    (k70 : PySem.W.keepIn K (.ref f70) = true)
    (a71 : PySem.W.nsIn K mainGlobals "_law_two_right" = some (some (.ref f71)))
    (l71 : K.lookup f71 = some ⟨oc71, od71, .func (PySem.W.fnOf "_law_two_right" "_law_two_right" (defArgs (top 71)) (defBody (top 71)) (defScope (top 71)) .none kv71 dc71 pm71 an71 cd71 ct71), sl71⟩)
    (c71 : PySem.W.codeIn K cd71 "_law_two_right" = true)
    (k71 : PySem.W.keepIn K (.ref f71) = true)
    (a72 : PySem.W.nsIn K mainGlobals "_law_refused" = some (some (.ref f72)))
    (l72 : K.lookup f72 = some ⟨oc72, od72, .func (PySem.W.fnOf "_law_refused" "_law_refused" (defArgs (top 72)) (defBody (top 72)) (defScope (top 72)) .none kv72 dc72 pm72 an72 cd72 ct72), sl72⟩)
    (c72 : PySem.W.codeIn K cd72 "_law_refused" = true)
    (k72 : PySem.W.keepIn K (.ref f72) = true)
    (a73 : PySem.W.nsIn K mainGlobals "law" = some (some (.ref f73)))
    (l73 : K.lookup f73 = some ⟨oc73, od73, .func (PySem.W.fnOf "law" "law" (defArgs (top 73)) (defBody (top 73)) (defScope (top 73)) .none kv73 dc73 pm73 an73 cd73 ct73), sl73⟩)
    (c73 : PySem.W.codeIn K cd73 "law" = true)
    (k73 : PySem.W.keepIn K (.ref f73) = true)
    (b0a : PySem.W.nsIn K mainGlobals "InvalidPiece" = some (some (.ref C0)))
    (b0b : K.lookup C0 = some (excClassObj nm0 q0 C0 N0 bs0 bm0 true sn0 sub0 ab0 col0 dd0 u0 v0 w0 x0 y0 "ValueError.__new__"))
    (b0c : PySem.HandSPX.refsVE bm0 = true)
    (b0d : PySem.W.findIn K (.ref C0) "__setattr__" = some (some (.builtin "object.__setattr__")))
    (b0e : PySem.W.subIn K (.ref C0) (.type "BaseException") = some true)
    (b0f : PySem.W.typeIn K (.ref C0) = some (.type "type"))
    (b0g : PySem.W.keepIn K (.ref C0) = true)
    (b0h : PySem.W.findIn K (.ref C0) "__init__" = some (some (.ref g0)))
    (b0i : PySem.W.typeIn K (.ref g0) = some (.type "function"))
    (b0j : PySem.W.findIn K (.ref C0) GIV = some none)
    (b0k : K.lookup g0 = some ⟨oc3, od3, .func (PySem.W.fnOf "__init__" "InvalidPiece.__init__" (defArgs (inClass (top 3) 0)) (defBody (inClass (top 3) 0)) (defScope (inClass (top 3) 0)) .none kv3 dc3 pm3 an3 cd3 ct3), sl3⟩)
    (b0l : PySem.W.codeIn K cd3 "InvalidPiece.__init__" = true)
    (b0m : PySem.W.keepIn K (.ref g0) = true)
    (b0n : xfB K C0 = true)
    (b1a : PySem.W.nsIn K mainGlobals "InvalidPlace" = some (some (.ref C1)))
    (b1b : K.lookup C1 = some (excClassObj nm1 q1 C1 N1 bs1 bm1 true sn1 sub1 ab1 col1 dd1 u1 v1 w1 x1 y1 "ValueError.__new__"))
    (b1c : PySem.HandSPX.refsVE bm1 = true)
    (b1d : PySem.W.findIn K (.ref C1) "__setattr__" = some (some (.builtin "object.__setattr__")))
    (b1e : PySem.W.subIn K (.ref C1) (.type "BaseException") = some true)
    (b1f : PySem.W.typeIn K (.ref C1) = some (.type "type"))
    (b1g : PySem.W.keepIn K (.ref C1) = true)
    (b1h : PySem.W.findIn K (.ref C1) "__init__" = some (some (.ref g1)))
    (b1i : PySem.W.typeIn K (.ref g1) = some (.type "function"))
    (b1j : PySem.W.findIn K (.ref C1) GIV = some none)
    (b1k : K.lookup g1 = some ⟨oc4, od4, .func (PySem.W.fnOf "__init__" "InvalidPlace.__init__" (defArgs (inClass (top 4) 0)) (defBody (inClass (top 4) 0)) (defScope (inClass (top 4) 0)) .none kv4 dc4 pm4 an4 cd4 ct4), sl4⟩)
    (b1l : PySem.W.codeIn K cd4 "InvalidPlace.__init__" = true)
    (b1m : PySem.W.keepIn K (.ref g1) = true)
    (b1n : xfB K C1 = true)
    (b2a : PySem.W.nsIn K mainGlobals "InvalidStretches" = some (some (.ref C2)))
    (b2b : K.lookup C2 = some (excClassObj nm2 q2 C2 N2 bs2 bm2 true sn2 sub2 ab2 col2 dd2 u2 v2 w2 x2 y2 "ValueError.__new__"))
    (b2c : PySem.HandSPX.refsVE bm2 = true)
    (b2d : PySem.W.findIn K (.ref C2) "__setattr__" = some (some (.builtin "object.__setattr__")))
    (b2e : PySem.W.subIn K (.ref C2) (.type "BaseException") = some true)
    (b2f : PySem.W.typeIn K (.ref C2) = some (.type "type"))
    (b2g : PySem.W.keepIn K (.ref C2) = true)
    (b2h : PySem.W.findIn K (.ref C2) "__init__" = some (some (.ref g2)))
    (b2i : PySem.W.typeIn K (.ref g2) = some (.type "function"))
    (b2j : PySem.W.findIn K (.ref C2) GIV = some none)
    (b2k : K.lookup g2 = some ⟨oc5, od5, .func (PySem.W.fnOf "__init__" "InvalidStretches.__init__" (defArgs (inClass (top 5) 0)) (defBody (inClass (top 5) 0)) (defScope (inClass (top 5) 0)) .none kv5 dc5 pm5 an5 cd5 ct5), sl5⟩)
    (b2l : PySem.W.codeIn K cd5 "InvalidStretches.__init__" = true)
    (b2m : PySem.W.keepIn K (.ref g2) = true)
    (b2n : xfB K C2 = true)
    (e00 : PySem.W.exmOne K (.ref C0) (.ref C0) = some true)
    (e01 : PySem.W.exmOne K (.ref C0) (.ref C1) = some false)
    (e02 : PySem.W.exmOne K (.ref C0) (.ref C2) = some false)
    (e10 : PySem.W.exmOne K (.ref C1) (.ref C0) = some false)
    (e11 : PySem.W.exmOne K (.ref C1) (.ref C1) = some true)
    (e12 : PySem.W.exmOne K (.ref C1) (.ref C2) = some false)
    (e20 : PySem.W.exmOne K (.ref C2) (.ref C0) = some false)
    (e21 : PySem.W.exmOne K (.ref C2) (.ref C1) = some false)
    (e22 : PySem.W.exmOne K (.ref C2) (.ref C2) = some true)
    (z_abs : PySem.W.nsIn K mainGlobals "abs" = some none)
    (z_all : PySem.W.nsIn K mainGlobals "all" = some none)
    (z_any : PySem.W.nsIn K mainGlobals "any" = some none)
    (z_bool : PySem.W.nsIn K mainGlobals "bool" = some none)
    (z_dict : PySem.W.nsIn K mainGlobals "dict" = some none)
    (z_int : PySem.W.nsIn K mainGlobals "int" = some none)
    (z_isinstance : PySem.W.nsIn K mainGlobals "isinstance" = some none)
    (z_len : PySem.W.nsIn K mainGlobals "len" = some none)
    (z_list : PySem.W.nsIn K mainGlobals "list" = some none)
    (z_max : PySem.W.nsIn K mainGlobals "max" = some none)
    (z_min : PySem.W.nsIn K mainGlobals "min" = some none)
    (z_range : PySem.W.nsIn K mainGlobals "range" = some none)
    (z_str : PySem.W.nsIn K mainGlobals "str" = some none)
    (z_sum : PySem.W.nsIn K mainGlobals "sum" = some none)
    (z_tuple : PySem.W.nsIn K mainGlobals "tuple" = some none)
    (z_zip : PySem.W.nsIn K mainGlobals "zip" = some none)
    (z_gcd : PySem.W.nsIn K mainGlobals "gcd" = some (some (.builtin "math.gcd")))
    (m_ZERO : PySem.W.nsIn K mainGlobals "ZERO" = some (some uc_ZERO))
    (n_ZERO : kRep K 9 c_ZERO uc_ZERO = true)
    (m_EITHER : PySem.W.nsIn K mainGlobals "EITHER" = some (some uc_EITHER))
    (n_EITHER : kRep K 9 c_EITHER uc_EITHER = true)
    (m_BOTH : PySem.W.nsIn K mainGlobals "BOTH" = some (some uc_BOTH))
    (n_BOTH : kRep K 9 c_BOTH uc_BOTH = true)
    (m_FIRST : PySem.W.nsIn K mainGlobals "FIRST" = some (some uc_FIRST))
    (n_FIRST : kRep K 9 c_FIRST uc_FIRST = true)
    : ∃ fd : FuncData, (∀ (s : Shared) (v : Value), BindsTo s fd ⟨[v], []⟩ [("script", v)]) ∧ ∀ base : Heap, K.In base → base.Ns mainGlobals mg → FnOk P w K mg base (L2.CX P w) 18 fa fd ["script"] (spLaw K d_law) := by
  have e := hfa.symm.trans (PySem.W.mg_of X G a73)
  cases e
  let cl : Nat → Addr := fun c => (if c = 0 then C0 else (if c = 1 then C1 else C2))
  have T : Txt K mg cl := {
    babs := PySem.W.mg_none_of X G z_abs,
    ball := PySem.W.mg_none_of X G z_all,
    bany := PySem.W.mg_none_of X G z_any,
    bbool := PySem.W.mg_none_of X G z_bool,
    bdict := PySem.W.mg_none_of X G z_dict,
    bint := PySem.W.mg_none_of X G z_int,
    bisinstance := PySem.W.mg_none_of X G z_isinstance,
    blen := PySem.W.mg_none_of X G z_len,
    blist := PySem.W.mg_none_of X G z_list,
    bmax := PySem.W.mg_none_of X G z_max,
    bmin := PySem.W.mg_none_of X G z_min,
    brange := PySem.W.mg_none_of X G z_range,
    bstr := PySem.W.mg_none_of X G z_str,
    bsum := PySem.W.mg_none_of X G z_sum,
    btuple := PySem.W.mg_none_of X G z_tuple,
    bzip := PySem.W.mg_none_of X G z_zip,
    bgcd := PySem.W.mg_of X G z_gcd,
    cZERO := constD_of n_ZERO (PySem.W.mg_of X G m_ZERO),
    cEITHER := constD_of n_EITHER (PySem.W.mg_of X G m_EITHER),
    cBOTH := constD_of n_BOTH (PySem.W.mg_of X G m_BOTH),
    cFIRST := constD_of n_FIRST (PySem.W.mg_of X G m_FIRST),
    eInvalidPiece := ⟨g0, _, ⟨⟨nm0, q0, N0, bs0, bm0, sn0, sub0, ab0, col0, dd0, u0, v0, w0, x0, y0, b0b, b0c⟩, b0d, b0e, b0f, b0g⟩, b0h, b0i, b0j, PySem.W.mg_of X G b0a, ⟨_, fun_mk (st := inClass (top 3) 0) b0k b0l b0m⟩, (fun_mk (st := inClass (top 3) 0) b0k b0l b0m).binds (ps := ["self", GIV]) (fun _ _ _ _ _ _ us hl => match us, hl with | [_, _], _ => rfl), xfB_ok b0n⟩,
    xInvalidPiece := by
      intro c
      rcases c with _ | c
      · exact e00
      rcases c with _ | c
      · exact e10
      have h1 : cl (c + 2) = C2 := by show (if c + 2 = 0 then C0 else (if c + 2 = 1 then C1 else C2)) = _; rw [if_neg (by omega)]; rw [if_neg (by omega)];
      have h2 : is0 (c + 2) = false := by simp [is0]
      rw [h1, h2]
      exact e20,
    yInvalidPiece := by
      intro c h
      have h1 : c = 0 := by simpa [is0] using h
      rw [h1],
    eInvalidPlace := ⟨g1, _, ⟨⟨nm1, q1, N1, bs1, bm1, sn1, sub1, ab1, col1, dd1, u1, v1, w1, x1, y1, b1b, b1c⟩, b1d, b1e, b1f, b1g⟩, b1h, b1i, b1j, PySem.W.mg_of X G b1a, ⟨_, fun_mk (st := inClass (top 4) 0) b1k b1l b1m⟩, (fun_mk (st := inClass (top 4) 0) b1k b1l b1m).binds (ps := ["self", GIV]) (fun _ _ _ _ _ _ us hl => match us, hl with | [_, _], _ => rfl), xfB_ok b1n⟩,
    xInvalidPlace := by
      intro c
      rcases c with _ | c
      · exact e01
      rcases c with _ | c
      · exact e11
      have h1 : cl (c + 2) = C2 := by show (if c + 2 = 0 then C0 else (if c + 2 = 1 then C1 else C2)) = _; rw [if_neg (by omega)]; rw [if_neg (by omega)];
      have h2 : is1 (c + 2) = false := by simp [is1]
      rw [h1, h2]
      exact e21,
    yInvalidPlace := by
      intro c h
      have h1 : c = 1 := by simpa [is1] using h
      rw [h1],
    eInvalidStretches := ⟨g2, _, ⟨⟨nm2, q2, N2, bs2, bm2, sn2, sub2, ab2, col2, dd2, u2, v2, w2, x2, y2, b2b, b2c⟩, b2d, b2e, b2f, b2g⟩, b2h, b2i, b2j, PySem.W.mg_of X G b2a, ⟨_, fun_mk (st := inClass (top 5) 0) b2k b2l b2m⟩, (fun_mk (st := inClass (top 5) 0) b2k b2l b2m).binds (ps := ["self", GIV]) (fun _ _ _ _ _ _ us hl => match us, hl with | [_, _], _ => rfl), xfB_ok b2n⟩,
    xInvalidStretches := by
      intro c
      rcases c with _ | c
      · exact e02
      rcases c with _ | c
      · exact e12
      have h1 : cl (c + 2) = C2 := by show (if c + 2 = 0 then C0 else (if c + 2 = 1 then C1 else C2)) = _; rw [if_neg (by omega)]; rw [if_neg (by omega)];
      have h2 : is2 (c + 2) = true := by simp [is2]
      rw [h1, h2]
      exact e22,
    yInvalidStretches := by
      intro c h
      have h1 : 2 ≤ c := by simpa [is2] using h
      show (if c = 0 then C0 else (if c = 1 then C1 else C2)) = _
      rw [if_neg (by omega)]; rw [if_neg (by omega)];
      rfl }
  have F7 := fun_mk (st := top 7) l7 c7 k7
  have B7 : Binds K _ [("value" : Str)] [] := F7.binds fun _ _ _ _ _ _ us hl => match us, hl with | [_], _ => rfl
  have D_is_integer : ∀ base fu, Df P w K mg base cl "is_integer" 3 1 (d_is_integer fu) := fun base fu => df_mk (k := 2) F7 (PySem.W.mg_of X G a7) B7 s_is_integer (b_is_integer T fu f7)
  have F8 := fun_mk (st := top 8) l8 c8 k8
  have B8 : Binds K _ [("value" : Str)] [] := F8.binds fun _ _ _ _ _ _ us hl => match us, hl with | [_], _ => rfl
  have D_is_list : ∀ base fu, Df P w K mg base cl "is_list" 3 1 (d_is_list fu) := fun base fu => df_mk (k := 2) F8 (PySem.W.mg_of X G a8) B8 s_is_list (b_is_list T fu f8)
  have F9 := fun_mk (st := top 9) l9 c9 k9
  have B9 : Binds K _ [("value" : Str), ("many" : Str)] [] := F9.binds fun _ _ _ _ _ _ us hl => match us, hl with | [_, _], _ => rfl
  have D_is_tuple_of : ∀ base fu, Df P w K mg base cl "is_tuple_of" 3 2 (d_is_tuple_of fu) := fun base fu => df_mk (k := 2) F9 (PySem.W.mg_of X G a9) B9 s_is_tuple_of (b_is_tuple_of T fu f9)
  have F12 := fun_mk (st := top 12) l12 c12 k12
  have B12 : Binds K _ [("n" : Str), ("d" : Str)] [] := F12.binds fun _ _ _ _ _ _ us hl => match us, hl with | [_, _], _ => rfl
  have D_fraction_of : ∀ base fu, Df P w K mg base cl "fraction_of" 3 2 (d_fraction_of fu) := fun base fu => df_mk (k := 2) F12 (PySem.W.mg_of X G a12) B12 s_fraction_of (b_fraction_of T fu f12)
  have F13 := fun_mk (st := top 13) l13 c13 k13
  have B13 : Binds K _ [("value" : Str)] [] := F13.binds fun _ _ _ _ _ _ us hl => match us, hl with | [_], _ => rfl
  have D_is_fraction : ∀ base fu, Df P w K mg base cl "is_fraction" 4 1 (d_is_fraction fu) := fun base fu => df_mk (k := 3) F13 (PySem.W.mg_of X G a13) B13 s_is_fraction (b_is_fraction T fu (D_is_tuple_of base fu) (D_is_integer base fu) f13)
  have F14 := fun_mk (st := top 14) l14 c14 k14
  have B14 : Binds K _ [("value" : Str)] [] := F14.binds fun _ _ _ _ _ _ us hl => match us, hl with | [_], _ => rfl
  have D_is_place : ∀ base fu, Df P w K mg base cl "is_place" 5 1 (d_is_place fu) := fun base fu => df_mk (k := 4) F14 (PySem.W.mg_of X G a14) B14 s_is_place (b_is_place T fu (D_is_fraction base fu) f14)
  have F15 := fun_mk (st := top 15) l15 c15 k15
  have B15 : Binds K _ [("place" : Str)] [] := F15.binds fun _ _ _ _ _ _ us hl => match us, hl with | [_], _ => rfl
  have D_check_place : ∀ base fu, Df P w K mg base cl "check_place" 6 1 (d_check_place fu) := fun base fu => df_mk (k := 5) F15 (PySem.W.mg_of X G a15) B15 s_check_place (b_check_place T fu (D_is_place base fu) f15)
  have F16 := fun_mk (st := top 16) l16 c16 k16
  have B16 : Binds K _ [("one" : Str), ("other" : Str)] [] := F16.binds fun _ _ _ _ _ _ us hl => match us, hl with | [_, _], _ => rfl
  have D_sum_of : ∀ base fu, Df P w K mg base cl "sum_of" 4 2 (d_sum_of fu) := fun base fu => df_mk (k := 3) F16 (PySem.W.mg_of X G a16) B16 s_sum_of (b_sum_of T fu (D_fraction_of base fu) f16)
  have F17 := fun_mk (st := top 17) l17 c17 k17
  have B17 : Binds K _ [("one" : Str), ("other" : Str)] [] := F17.binds fun _ _ _ _ _ _ us hl => match us, hl with | [_, _], _ => rfl
  have D_difference_of : ∀ base fu, Df P w K mg base cl "difference_of" 4 2 (d_difference_of fu) := fun base fu => df_mk (k := 3) F17 (PySem.W.mg_of X G a17) B17 s_difference_of (b_difference_of T fu (D_fraction_of base fu) f17)
  have F18 := fun_mk (st := top 18) l18 c18 k18
  have B18 : Binds K _ [("one" : Str), ("other" : Str)] [] := F18.binds fun _ _ _ _ _ _ us hl => match us, hl with | [_, _], _ => rfl
  have D_order_of : ∀ base fu, Df P w K mg base cl "order_of" 3 2 (d_order_of fu) := fun base fu => df_mk (k := 2) F18 (PySem.W.mg_of X G a18) B18 s_order_of (b_order_of T fu f18)
  have F19 := fun_mk (st := top 19) l19 c19 k19
  have B19 : Binds K _ [("fractions" : Str)] [] := F19.binds fun _ _ _ _ _ _ us hl => match us, hl with | [_], _ => rfl
  have D_total_of : ∀ base fu, Df P w K mg base cl "total_of" 5 1 (d_total_of fu) := fun base fu => df_mk (k := 4) F19 (PySem.W.mg_of X G a19) B19 s_total_of (b_total_of T fu (D_sum_of base fu) f19)
  have F20 := fun_mk (st := top 20) l20 c20 k20
  have B20 : Binds K _ [("fractions" : Str)] [] := F20.binds fun _ _ _ _ _ _ us hl => match us, hl with | [_], _ => rfl
  have D_least_of : ∀ base fu, Df P w K mg base cl "least_of" 4 1 (d_least_of fu) := fun base fu => df_mk (k := 3) F20 (PySem.W.mg_of X G a20) B20 s_least_of (b_least_of T fu (D_order_of base fu) f20)
  have F21 := fun_mk (st := top 21) l21 c21 k21
  have B21 : Binds K _ [("fractions" : Str)] [] := F21.binds fun _ _ _ _ _ _ us hl => match us, hl with | [_], _ => rfl
  have D_greatest_of : ∀ base fu, Df P w K mg base cl "greatest_of" 4 1 (d_greatest_of fu) := fun base fu => df_mk (k := 3) F21 (PySem.W.mg_of X G a21) B21 s_greatest_of (b_greatest_of T fu (D_order_of base fu) f21)
  have F22 := fun_mk (st := top 22) l22 c22 k22
  have B22 : Binds K _ [("places" : Str)] [] := F22.binds fun _ _ _ _ _ _ us hl => match us, hl with | [_], _ => rfl
  have D_rises : ∀ base fu, Df P w K mg base cl "rises" 4 1 (d_rises fu) := fun base fu => df_mk (k := 3) F22 (PySem.W.mg_of X G a22) B22 s_rises (b_rises T fu (D_order_of base fu) f22)
  have F27 := fun_mk (st := top 27) l27 c27 k27
  have B27 : Binds K _ [("value" : Str)] [] := F27.binds fun _ _ _ _ _ _ us hl => match us, hl with | [_], _ => rfl
  have D_is_pair : ∀ base fu, Df P w K mg base cl "is_pair" 6 1 (d_is_pair fu) := fun base fu => df_mk (k := 5) F27 (PySem.W.mg_of X G a27) B27 s_is_pair (b_is_pair T fu (D_is_tuple_of base fu) (D_is_place base fu) f27)
  have F28 := fun_mk (st := top 28) l28 c28 k28
  have B28 : Binds K _ [("value" : Str)] [] := F28.binds fun _ _ _ _ _ _ us hl => match us, hl with | [_], _ => rfl
  have D_is_piece : ∀ base fu, Df P w K mg base cl "is_piece" 7 1 (d_is_piece fu) := fun base fu => df_mk (k := 6) F28 (PySem.W.mg_of X G a28) B28 s_is_piece (b_is_piece T fu (D_is_pair base fu) (D_rises base fu) f28)
  have K_is_piece : ∀ base fu, DfK P w K mg base cl "is_piece" 7 1 (d_is_piece fu) [("value" : Str)] [0] := fun base fu => dfK_mk (k := 6) F28 (PySem.W.mg_of X G a28) (binds_k F28 fun _ _ _ _ _ _ ws hl => match ws, hl with | [_], _ => rfl) s_is_piece (b_is_piece T fu (D_is_pair base fu) (D_rises base fu) f28)
  have F29 := fun_mk (st := top 29) l29 c29 k29
  have B29 : Binds K _ [("piece" : Str)] [] := F29.binds fun _ _ _ _ _ _ us hl => match us, hl with | [_], _ => rfl
  have D_check_piece : ∀ base fu, Df P w K mg base cl "check_piece" 8 1 (d_check_piece fu) := fun base fu => df_mk (k := 7) F29 (PySem.W.mg_of X G a29) B29 s_check_piece (b_check_piece T fu (D_is_piece base fu) f29)
  have F30 := fun_mk (st := top 30) l30 c30 k30
  have B30 : Binds K _ [("one" : Str), ("other" : Str)] [] := F30.binds fun _ _ _ _ _ _ us hl => match us, hl with | [_, _], _ => rfl
  have D_check_pieces : ∀ base fu, Df P w K mg base cl "check_pieces" 9 2 (d_check_pieces fu) := fun base fu => df_mk (k := 8) F30 (PySem.W.mg_of X G a30) B30 s_check_pieces (b_check_pieces T fu (D_check_piece base fu) f30)
  have F31 := fun_mk (st := top 31) l31 c31 k31
  have B31 : Binds K _ [("one" : Str), ("other" : Str), ("kept" : Str)] [] := F31.binds fun _ _ _ _ _ _ us hl => match us, hl with | [_, _, _], _ => rfl
  have D_combined : ∀ base fu, Df P w K mg base cl "combined" 5 3 (d_combined fu) := fun base fu => df_mk (k := 4) F31 (PySem.W.mg_of X G a31) B31 s_combined (b_combined T fu (D_least_of base fu) f31)
  have F32 := fun_mk (st := top 32) l32 c32 k32
  have B32 : Binds K _ [("stretches" : Str)] [] := F32.binds fun _ _ _ _ _ _ us hl => match us, hl with | [_], _ => rfl
  have D_piece_from : ∀ base fu, Df P w K mg base cl "piece_from" 6 1 (d_piece_from fu) := fun base fu => df_mk (k := 5) F32 (PySem.W.mg_of X G a32) B32 s_piece_from (b_piece_from T fu (D_order_of base fu) (D_combined base fu) f32)
  have F33 := fun_mk (st := top 33) l33 c33 k33
  have B33 : Binds K _ [("stretches" : Str)] [] := F33.binds fun _ _ _ _ _ _ us hl => match us, hl with | [_], _ => rfl
  have D_piece_of : ∀ base fu, Df P w K mg base cl "piece_of" 7 1 (d_piece_of fu) := fun base fu => df_mk (k := 6) F33 (PySem.W.mg_of X G a33) B33 s_piece_of (b_piece_of T fu (D_is_list base fu) (D_is_pair base fu) (D_order_of base fu) (D_piece_from base fu) f33)
  have K_piece_of : ∀ base fu, DfK P w K mg base cl "piece_of" 7 1 (d_piece_of fu) [("stretches" : Str)] [0] := fun base fu => dfK_mk (k := 6) F33 (PySem.W.mg_of X G a33) (binds_k F33 fun _ _ _ _ _ _ ws hl => match ws, hl with | [_], _ => rfl) s_piece_of (b_piece_of T fu (D_is_list base fu) (D_is_pair base fu) (D_order_of base fu) (D_piece_from base fu) f33)
  have F34 := fun_mk (st := top 34) l34 c34 k34
  have B34 : Binds K _ [("piece" : Str)] [] := F34.binds fun _ _ _ _ _ _ us hl => match us, hl with | [_], _ => rfl
  have D_length_of : ∀ base fu, Df P w K mg base cl "length_of" 9 1 (d_length_of fu) := fun base fu => df_mk (k := 8) F34 (PySem.W.mg_of X G a34) B34 s_length_of (b_length_of T fu (D_check_piece base fu) (D_total_of base fu) (D_difference_of base fu) f34)
  have K_length_of : ∀ base fu, DfK P w K mg base cl "length_of" 9 1 (d_length_of fu) [("piece" : Str)] [0] := fun base fu => dfK_mk (k := 8) F34 (PySem.W.mg_of X G a34) (binds_k F34 fun _ _ _ _ _ _ ws hl => match ws, hl with | [_], _ => rfl) s_length_of (b_length_of T fu (D_check_piece base fu) (D_total_of base fu) (D_difference_of base fu) f34)
  have F35 := fun_mk (st := top 35) l35 c35 k35
  have B35 : Binds K _ [("one" : Str), ("other" : Str)] [] := F35.binds fun _ _ _ _ _ _ us hl => match us, hl with | [_, _], _ => rfl
  have D_joined_pieces : ∀ base fu, Df P w K mg base cl "joined_pieces" 10 2 (d_joined_pieces fu) := fun base fu => df_mk (k := 9) F35 (PySem.W.mg_of X G a35) B35 s_joined_pieces (b_joined_pieces T fu (D_check_pieces base fu) (D_combined base fu) f35)
  have K_joined_pieces : ∀ base fu, DfK P w K mg base cl "joined_pieces" 10 2 (d_joined_pieces fu) [("other" : Str), ("one" : Str)] [1, 0] := fun base fu => dfK_mk (k := 9) F35 (PySem.W.mg_of X G a35) (binds_k F35 fun _ _ _ _ _ _ ws hl => match ws, hl with | [_, _], _ => rfl) s_joined_pieces (b_joined_pieces T fu (D_check_pieces base fu) (D_combined base fu) f35)
  have F36 := fun_mk (st := top 36) l36 c36 k36
  have B36 : Binds K _ [("one" : Str), ("other" : Str)] [] := F36.binds fun _ _ _ _ _ _ us hl => match us, hl with | [_, _], _ => rfl
  have D_common_piece : ∀ base fu, Df P w K mg base cl "common_piece" 10 2 (d_common_piece fu) := fun base fu => df_mk (k := 9) F36 (PySem.W.mg_of X G a36) B36 s_common_piece (b_common_piece T fu (D_check_pieces base fu) (D_combined base fu) f36)
  have K_common_piece : ∀ base fu, DfK P w K mg base cl "common_piece" 10 2 (d_common_piece fu) [("other" : Str), ("one" : Str)] [1, 0] := fun base fu => dfK_mk (k := 9) F36 (PySem.W.mg_of X G a36) (binds_k F36 fun _ _ _ _ _ _ ws hl => match ws, hl with | [_, _], _ => rfl) s_common_piece (b_common_piece T fu (D_check_pieces base fu) (D_combined base fu) f36)
  have F37 := fun_mk (st := top 37) l37 c37 k37
  have B37 : Binds K _ [("one" : Str), ("other" : Str)] [] := F37.binds fun _ _ _ _ _ _ us hl => match us, hl with | [_, _], _ => rfl
  have D_rest_piece : ∀ base fu, Df P w K mg base cl "rest_piece" 10 2 (d_rest_piece fu) := fun base fu => df_mk (k := 9) F37 (PySem.W.mg_of X G a37) B37 s_rest_piece (b_rest_piece T fu (D_check_pieces base fu) (D_combined base fu) f37)
  have K_rest_piece : ∀ base fu, DfK P w K mg base cl "rest_piece" 10 2 (d_rest_piece fu) [("other" : Str), ("one" : Str)] [1, 0] := fun base fu => dfK_mk (k := 9) F37 (PySem.W.mg_of X G a37) (binds_k F37 fun _ _ _ _ _ _ ws hl => match ws, hl with | [_, _], _ => rfl) s_rest_piece (b_rest_piece T fu (D_check_pieces base fu) (D_combined base fu) f37)
  have F38 := fun_mk (st := top 38) l38 c38 k38
  have B38 : Binds K _ [("piece" : Str), ("place" : Str)] [] := F38.binds fun _ _ _ _ _ _ us hl => match us, hl with | [_, _], _ => rfl
  have D_left_piece : ∀ base fu, Df P w K mg base cl "left_piece" 5 2 (d_left_piece fu) := fun base fu => df_mk (k := 4) F38 (PySem.W.mg_of X G a38) B38 s_left_piece (b_left_piece T fu (D_order_of base fu) (D_least_of base fu) f38)
  have F39 := fun_mk (st := top 39) l39 c39 k39
  have B39 : Binds K _ [("piece" : Str), ("place" : Str)] [] := F39.binds fun _ _ _ _ _ _ us hl => match us, hl with | [_, _], _ => rfl
  have D_right_piece : ∀ base fu, Df P w K mg base cl "right_piece" 5 2 (d_right_piece fu) := fun base fu => df_mk (k := 4) F39 (PySem.W.mg_of X G a39) B39 s_right_piece (b_right_piece T fu (D_order_of base fu) (D_greatest_of base fu) f39)
  have F40 := fun_mk (st := top 40) l40 c40 k40
  have B40 : Binds K _ [("piece" : Str), ("place" : Str)] [] := F40.binds fun _ _ _ _ _ _ us hl => match us, hl with | [_, _], _ => rfl
  have D_parted : ∀ base fu, Df P w K mg base cl "parted" 9 2 (d_parted fu) := fun base fu => df_mk (k := 8) F40 (PySem.W.mg_of X G a40) B40 s_parted (b_parted T fu (D_check_piece base fu) (D_check_place base fu) (D_left_piece base fu) (D_right_piece base fu) f40)
  have K_parted : ∀ base fu, DfK P w K mg base cl "parted" 9 2 (d_parted fu) [("place" : Str), ("piece" : Str)] [1, 0] := fun base fu => dfK_mk (k := 8) F40 (PySem.W.mg_of X G a40) (binds_k F40 fun _ _ _ _ _ _ ws hl => match ws, hl with | [_, _], _ => rfl) s_parted (b_parted T fu (D_check_piece base fu) (D_check_place base fu) (D_left_piece base fu) (D_right_piece base fu) f40)
  have F41 := fun_mk (st := top 41) l41 c41 k41
  have B41 : Binds K _ [("piece" : Str), ("value" : Str)] [] := F41.binds fun _ _ _ _ _ _ us hl => match us, hl with | [_, _], _ => rfl
  have D_has_place : ∀ base fu, Df P w K mg base cl "has_place" 6 2 (d_has_place fu) := fun base fu => df_mk (k := 5) F41 (PySem.W.mg_of X G a41) B41 s_has_place (b_has_place T fu (D_is_place base fu) (D_order_of base fu) f41)
  have F42 := fun_mk (st := top 42) l42 c42 k42
  have B42 : Binds K _ [("piece" : Str), ("value" : Str)] [] := F42.binds fun _ _ _ _ _ _ us hl => match us, hl with | [_, _], _ => rfl
  have D_is_place_of : ∀ base fu, Df P w K mg base cl "is_place_of" 9 2 (d_is_place_of fu) := fun base fu => df_mk (k := 8) F42 (PySem.W.mg_of X G a42) B42 s_is_place_of (b_is_place_of T fu (D_check_piece base fu) (D_has_place base fu) f42)
  have K_is_place_of : ∀ base fu, DfK P w K mg base cl "is_place_of" 9 2 (d_is_place_of fu) [("value" : Str), ("piece" : Str)] [1, 0] := fun base fu => dfK_mk (k := 8) F42 (PySem.W.mg_of X G a42) (binds_k F42 fun _ _ _ _ _ _ ws hl => match ws, hl with | [_, _], _ => rfl) s_is_place_of (b_is_place_of T fu (D_check_piece base fu) (D_has_place base fu) f42)
  have F44 := fun_mk (st := top 44) l44 c44 k44
  have B44 : Binds K _ [("great" : Str)] [] := F44.binds fun _ _ _ _ _ _ us hl => match us, hl with | [_], _ => rfl
  have D_law_box : ∀ base fu, Df P w K mg base cl "_law_box" 3 1 (d_law_box fu) := fun base fu => df_mk (k := 2) F44 (PySem.W.mg_of X G a44) B44 s_law_box (b_law_box T fu f44)
  have F45 := fun_mk (st := top 45) l45 c45 k45
  have B45 : Binds K _ [("box" : Str), ("many" : Str)] [] := F45.binds fun _ _ _ _ _ _ us hl => match us, hl with | [_, _], _ => rfl
  have D_law_take : ∀ base fu, Df P w K mg base cl "_law_take" 3 2 (d_law_take fu) := fun base fu => df_mk (k := 2) F45 (PySem.W.mg_of X G a45) B45 s_law_take (b_law_take T fu f45)
  have F46 := fun_mk (st := top 46) l46 c46 k46
  have B46 : Binds K _ [("box" : Str), ("some" : Str)] [] := F46.binds fun _ _ _ _ _ _ us hl => match us, hl with | [_, _], _ => rfl
  have D_law_pick : ∀ base fu, Df P w K mg base cl "_law_pick" 4 2 (d_law_pick fu) := fun base fu => df_mk (k := 3) F46 (PySem.W.mg_of X G a46) B46 s_law_pick (b_law_pick T fu (D_law_take base fu) f46)
  have F47 := fun_mk (st := top 47) l47 c47 k47
  have B47 : Binds K _ [("script" : Str), ("k" : Str)] [] := F47.binds fun _ _ _ _ _ _ us hl => match us, hl with | [_, _], _ => rfl
  have D_law_cell : ∀ base fu, Df P w K mg base cl "_law_cell" 3 2 (d_law_cell fu) := fun base fu => df_mk (k := 2) F47 (PySem.W.mg_of X G a47) B47 s_law_cell (b_law_cell T fu f47)
  have F48 := fun_mk (st := top 48) l48 c48 k48
  have B48 : Binds K _ [("box" : Str), ("some" : Str)] [] := F48.binds fun _ _ _ _ _ _ us hl => match us, hl with | [_, _], _ => rfl
  have D_law_mixed : ∀ base fu, Df P w K mg base cl "_law_mixed" 4 2 (d_law_mixed fu) := fun base fu => df_mk (k := 3) F48 (PySem.W.mg_of X G a48) B48 s_law_mixed (b_law_mixed T fu (D_law_take base fu) f48)
  have F49 := fun_mk (st := top 49) l49 c49 k49
  have B49 : Binds K _ [("top" : Str), ("bottom" : Str)] [] := F49.binds fun _ _ _ _ _ _ us hl => match us, hl with | [_, _], _ => rfl
  have D_law_low : ∀ base fu, Df P w K mg base cl "_law_low" 3 2 (d_law_low fu) := fun base fu => df_mk (k := 2) F49 (PySem.W.mg_of X G a49) B49 s_law_low (b_law_low T fu f49)
  have F50 := fun_mk (st := top 50) l50 c50 k50
  have B50 : Binds K _ [("one" : Str), ("other" : Str)] [] := F50.binds fun _ _ _ _ _ _ us hl => match us, hl with | [_, _], _ => rfl
  have D_law_plus : ∀ base fu, Df P w K mg base cl "_law_plus" 4 2 (d_law_plus fu) := fun base fu => df_mk (k := 3) F50 (PySem.W.mg_of X G a50) B50 s_law_plus (b_law_plus T fu (D_law_low base fu) f50)
  have F51 := fun_mk (st := top 51) l51 c51 k51
  have B51 : Binds K _ [("one" : Str), ("other" : Str)] [] := F51.binds fun _ _ _ _ _ _ us hl => match us, hl with | [_, _], _ => rfl
  have D_law_minus : ∀ base fu, Df P w K mg base cl "_law_minus" 4 2 (d_law_minus fu) := fun base fu => df_mk (k := 3) F51 (PySem.W.mg_of X G a51) B51 s_law_minus (b_law_minus T fu (D_law_low base fu) f51)
  have F52 := fun_mk (st := top 52) l52 c52 k52
  have B52 : Binds K _ [("one" : Str), ("other" : Str)] [] := F52.binds fun _ _ _ _ _ _ us hl => match us, hl with | [_, _], _ => rfl
  have D_law_less : ∀ base fu, Df P w K mg base cl "_law_less" 3 2 (d_law_less fu) := fun base fu => df_mk (k := 2) F52 (PySem.W.mg_of X G a52) B52 s_law_less (b_law_less T fu f52)
  have F53 := fun_mk (st := top 53) l53 c53 k53
  have B53 : Binds K _ [("some" : Str)] [] := F53.binds fun _ _ _ _ _ _ us hl => match us, hl with | [_], _ => rfl
  have D_law_sum : ∀ base fu, Df P w K mg base cl "_law_sum" 5 1 (d_law_sum fu) := fun base fu => df_mk (k := 4) F53 (PySem.W.mg_of X G a53) B53 s_law_sum (b_law_sum T fu (D_law_plus base fu) f53)
  have F54 := fun_mk (st := top 54) l54 c54 k54
  have B54 : Binds K _ [("stretches" : Str)] [] := F54.binds fun _ _ _ _ _ _ us hl => match us, hl with | [_], _ => rfl
  have D_law_union : ∀ base fu, Df P w K mg base cl "_law_union" 4 1 (d_law_union fu) := fun base fu => df_mk (k := 3) F54 (PySem.W.mg_of X G a54) B54 s_law_union (b_law_union T fu (D_law_less base fu) f54)
  have F55 := fun_mk (st := top 55) l55 c55 k55
  have B55 : Binds K _ [("part" : Str), ("place" : Str)] [] := F55.binds fun _ _ _ _ _ _ us hl => match us, hl with | [_, _], _ => rfl
  have D_law_split : ∀ base fu, Df P w K mg base cl "_law_split" 4 2 (d_law_split fu) := fun base fu => df_mk (k := 3) F55 (PySem.W.mg_of X G a55) B55 s_law_split (b_law_split T fu (D_law_less base fu) f55)
  have F56 := fun_mk (st := top 56) l56 c56 k56
  have B56 : Binds K _ [("told" : Str), ("due" : Str)] [] := F56.binds fun _ _ _ _ _ _ us hl => match us, hl with | [_, _], _ => rfl
  have D_law_same : ∀ base fu j, Df P w K mg base cl "_law_same" (j + 3) 2 (d_law_same fu j) := fun base fu j => by
    induction j with
    | zero => exact df_zero F56 (PySem.W.mg_of X G a56) B56
    | succ j ih => exact df_mk (k := j + 3) F56 (PySem.W.mg_of X G a56) B56 s_law_same (b_law_same T fu j ih f56)
  have F57 := fun_mk (st := top 57) l57 c57 k57
  have B57 : Binds K _ [("told" : Str), ("word" : Str), ("value" : Str)] [] := F57.binds fun _ _ _ _ _ _ us hl => match us, hl with | [_, _, _], _ => rfl
  have D_law_blamed : ∀ base fu, Df P w K mg base cl "_law_blamed" 16 3 (d_law_blamed fu) := fun base fu => df_mk (k := 15) F57 (PySem.W.mg_of X G a57) B57 s_law_blamed (b_law_blamed T fu (D_law_same base fu 12) f57)
  have F58 := fun_mk (st := top 58) l58 c58 k58
  have B58 : Binds K _ [("value" : Str)] [] := F58.binds fun _ _ _ _ _ _ us hl => match us, hl with | [_], _ => rfl
  have D_law_whole : ∀ base fu, Df P w K mg base cl "_law_whole" 3 1 (d_law_whole fu) := fun base fu => df_mk (k := 2) F58 (PySem.W.mg_of X G a58) B58 s_law_whole (b_law_whole T fu f58)
  have F59 := fun_mk (st := top 59) l59 c59 k59
  have B59 : Binds K _ [("value" : Str)] [] := F59.binds fun _ _ _ _ _ _ us hl => match us, hl with | [_], _ => rfl
  have D_law_is_fraction : ∀ base fu, Df P w K mg base cl "_law_is_fraction" 4 1 (d_law_is_fraction fu) := fun base fu => df_mk (k := 3) F59 (PySem.W.mg_of X G a59) B59 s_law_is_fraction (b_law_is_fraction T fu (D_law_whole base fu) (D_law_low base fu) f59)
  have F60 := fun_mk (st := top 60) l60 c60 k60
  have B60 : Binds K _ [("part" : Str), ("value" : Str)] [] := F60.binds fun _ _ _ _ _ _ us hl => match us, hl with | [_, _], _ => rfl
  have D_law_is_place_in : ∀ base fu, Df P w K mg base cl "_law_is_place_in" 5 2 (d_law_is_place_in fu) := fun base fu => df_mk (k := 4) F60 (PySem.W.mg_of X G a60) B60 s_law_is_place_in (b_law_is_place_in T fu (D_law_is_fraction base fu) (D_law_less base fu) f60)
  have F61 := fun_mk (st := top 61) l61 c61 k61
  have B61 : Binds K _ [("box" : Str), ("steps" : Str)] [] := F61.binds fun _ _ _ _ _ _ us hl => match us, hl with | [_, _], _ => rfl
  have D_law_spot : ∀ base fu, Df P w K mg base cl "_law_spot" 5 2 (d_law_spot fu) := fun base fu => df_mk (k := 4) F61 (PySem.W.mg_of X G a61) B61 s_law_spot (b_law_spot T fu (D_law_take base fu) (D_law_low base fu) (D_law_pick base fu) f61)
  have F62 := fun_mk (st := top 62) l62 c62 k62
  have B62 : Binds K _ [("box" : Str), ("many" : Str)] [] := F62.binds fun _ _ _ _ _ _ us hl => match us, hl with | [_, _], _ => rfl
  have D_law_stretches : ∀ base fu, Df P w K mg base cl "_law_stretches" 6 2 (d_law_stretches fu) := fun base fu => df_mk (k := 5) F62 (PySem.W.mg_of X G a62) B62 s_law_stretches (b_law_stretches T fu (D_law_pick base fu) (D_law_spot base fu) (D_law_less base fu) (D_law_take base fu) f62)
  have F64 := fun_mk (st := top 64) l64 c64 k64
  have B64 : Binds K _ [("some" : Str)] [] := F64.binds fun _ _ _ _ _ _ us hl => match us, hl with | [_], _ => rfl
  have D_law_flat : ∀ base fu, Df P w K mg base cl "_law_flat" 3 1 (d_law_flat fu) := fun base fu => df_mk (k := 2) F64 (PySem.W.mg_of X G a64) B64 s_law_flat (b_law_flat T fu f64)
  have F63 := fun_mk (st := top 63) l63 c63 k63
  have B63 : Binds K _ [("some" : Str)] [] := F63.binds fun _ _ _ _ _ _ us hl => match us, hl with | [_], _ => rfl
  have D_law_marks : ∀ base fu, Df P w K mg base cl "_law_marks" 4 1 (d_law_marks fu) := fun base fu => df_mk (k := 3) F63 (PySem.W.mg_of X G a63) B63 s_law_marks (b_law_marks T fu (D_law_flat base fu) (D_law_less base fu) f63)
  have F65 := fun_mk (st := top 65) l65 c65 k65
  have B65 : Binds K _ [("piece" : Str), ("low" : Str), ("high" : Str)] [] := F65.binds fun _ _ _ _ _ _ us hl => match us, hl with | [_, _, _], _ => rfl
  have D_law_covers : ∀ base fu, Df P w K mg base cl "_law_covers" 4 3 (d_law_covers fu) := fun base fu => df_mk (k := 3) F65 (PySem.W.mg_of X G a65) B65 s_law_covers (b_law_covers T fu (D_law_less base fu) f65)
  have F66 := fun_mk (st := top 66) l66 c66 k66
  have B66 : Binds K _ [("pieces" : Str), ("wanted" : Str)] [] := F66.binds fun _ _ _ _ _ _ us hl => match us, hl with | [_, _], _ => rfl
  have D_law_cells : ∀ base fu, Df P w K mg base cl "_law_cells" 5 2 (d_law_cells fu) := fun base fu => df_mk (k := 4) F66 (PySem.W.mg_of X G a66) B66 s_law_cells (b_law_cells T fu (D_law_marks base fu) (D_law_covers base fu) (D_law_union base fu) f66)
  have F67 := fun_mk (st := top 67) l67 c67 k67
  have B67 : Binds K _ [("way" : Str), ("some" : Str), ("named" : Str)] [] := F67.binds fun _ _ _ _ _ _ us hl => match us, hl with | [_, _, _], _ => rfl
  have D_law_met : ∀ base fu, Df P w K mg base cl "_law_met" 11 3 (d_law_met fu) := fun base fu => df_mk (k := 10) F67 (PySem.W.mg_of X G a67) B67 s_law_met (b_law_met T fu (D_piece_of base fu) (D_length_of base fu) (D_joined_pieces base fu) (D_common_piece base fu) (D_rest_piece base fu) (D_parted base fu) (D_is_place_of base fu) (D_is_piece base fu) (K_piece_of base fu) (K_length_of base fu) (K_joined_pieces base fu) (K_common_piece base fu) (K_rest_piece base fu) (K_parted base fu) (K_is_place_of base fu) (K_is_piece base fu) f67)
  have F68 := fun_mk (st := top 68) l68 c68 k68
  have B68 : Binds K _ [("piece" : Str)] [] := F68.binds fun _ _ _ _ _ _ us hl => match us, hl with | [_], _ => rfl
  have D_law_odd_pieces : ∀ base fu, Df P w K mg base cl "_law_odd_pieces" 3 1 (d_law_odd_pieces fu) := fun base fu => df_mk (k := 2) F68 (PySem.W.mg_of X G a68) B68 s_law_odd_pieces (b_law_odd_pieces T fu f68)
  have F69 := fun_mk (st := top 69) l69 c69 k69
  have B69 : Binds K _ [] [] := F69.binds fun _ _ _ _ _ _ us hl => match us, hl with | [], _ => rfl
  have D_law_odd_stretches : ∀ base fu, Df P w K mg base cl "_law_odd_stretches" 3 0 (d_law_odd_stretches fu) := fun base fu => df_mk (k := 2) F69 (PySem.W.mg_of X G a69) B69 s_law_odd_stretches (b_law_odd_stretches T fu f69)
  have F70 := fun_mk (st := top 70) l70 c70 k70
  have B70 : Binds K _ [("box" : Str), ("stretches" : Str), ("named" : Str)] [] := F70.binds fun _ _ _ _ _ _ us hl => match us, hl with | [_, _, _], _ => rfl
  have D_law_one_right : ∀ base fu, Df P w K mg base cl "_law_one_right" 16 3 (d_law_one_right fu) := fun base fu => df_mk (k := 15) F70 (PySem.W.mg_of X G a70) B70 s_law_one_right (b_law_one_right T fu (D_law_union base fu) (D_law_met base fu) (D_law_same base fu 12) (D_law_mixed base fu) (D_law_sum base fu) (D_law_minus base fu) (D_law_spot base fu) (D_law_marks base fu) (D_law_split base fu) (D_law_is_place_in base fu) f70)
  have F71 := fun_mk (st := top 71) l71 c71 k71
  have B71 : Binds K _ [("pieces" : Str), ("named" : Str)] [] := F71.binds fun _ _ _ _ _ _ us hl => match us, hl with | [_, _], _ => rfl
  have D_law_two_right : ∀ base fu, Df P w K mg base cl "_law_two_right" 16 2 (d_law_two_right fu) := fun base fu => df_mk (k := 15) F71 (PySem.W.mg_of X G a71) B71 s_law_two_right (b_law_two_right T fu (D_law_same base fu 12) (D_law_met base fu) (D_law_cells base fu) f71)
  have F72 := fun_mk (st := top 72) l72 c72 k72
  have B72 : Binds K _ [("box" : Str), ("piece" : Str), ("named" : Str)] [] := F72.binds fun _ _ _ _ _ _ us hl => match us, hl with | [_, _, _], _ => rfl
  have D_law_refused : ∀ base fu, Df P w K mg base cl "_law_refused" 17 3 (d_law_refused fu) := fun base fu => df_mk (k := 16) F72 (PySem.W.mg_of X G a72) B72 s_law_refused (b_law_refused T fu (D_law_odd_pieces base fu) (D_law_same base fu 12) (D_law_met base fu) (D_law_take base fu) (D_law_pick base fu) (D_law_blamed base fu) (D_law_odd_stretches base fu) f72)
  have F73 := fun_mk (st := top 73) l73 c73 k73
  have B73 : Binds K _ [("script" : Str)] [] := F73.binds fun _ _ _ _ _ _ us hl => match us, hl with | [_], _ => rfl
  refine ⟨_, fun s v => .of_eq rfl, fun base _ _ => ⟨fun vs H Q E ⟨fu, hh⟩ => (fn_D (k := 17) F73 s_law (b_law T fu (D_law_box base fu) (D_law_cell base fu) (D_law_take base fu) (D_law_stretches base fu) (D_law_union base fu) (D_law_one_right base fu) (D_law_two_right base fu) (D_law_refused base fu) fa)).len vs H Q E (hh cl), fun A outer s H args us vs Q E hr e0 hb hv ⟨fu, hh⟩ => (fn_D (k := 17) F73 s_law (b_law T fu (D_law_box base fu) (D_law_cell base fu) (D_law_take base fu) (D_law_stretches base fu) (D_law_union base fu) (D_law_one_right base fu) (D_law_two_right base fu) (D_law_refused base fu) fa)).run A outer s H args us vs Q E hr e0 hb hv (hh cl)⟩⟩
theorem law_end (plain : ∀ ns : List Int, ns.length ≤ 63 → ∃ fu st, d_law fu [.scr ns] [] = some (.ret (.bl true) st)) (K : PySem.W.Frag) (H : Hp) (a : Addr) (ns : List Int) (hn : ns.length ≤ 63) (hS : SqL K H a (ns.map V.int)) :
    spLaw K d_law [.ref a] H (fun v _ => v = .bl true) fun _ _ _ => False := by
  obtain ⟨fu, st, e⟩ := plain ns hn
  refine ⟨fu, fun cl => ⟨H, [], [.scr ns], [], ?_, reps_cons (by unfold Rep; exact ⟨a, rfl, hS⟩) reps_nil, rfl, ?_⟩⟩
  · refine ⟨fun _ _ z => z, (fun _ _ z _ => z), (fun _ _ z => .inl z), ⟨[], rfl, fun _ z => by cases z⟩, (fun _ z => z), (fun x o z1 z2 => ?_), rfl, List.nodup_nil, (fun _ z => by cases z), (fun n x ob z => by simp at z), (fun i l z => by cases z), fun i j l z => by cases z⟩
    have z1' : H x = some o := z1
    have z2' : H x = none := z2
    rw [z1'] at z2'
    cases z2'
  · rw [e]
    intro v H' Y' _ _ r
    unfold Rep at r
    exact r
theorem walkL {l : PySem.W.OpenLaw} {q : Program} {loose : List Str} {XP : (Str → Option Value) → Heap → Prop} {YP : World → Heap → Prop} {d : DefRec} {K : Params → PySem.W.Frag} (plain : ∀ ns : List Int, ns.length ≤ 63 → ∃ fu st, d_law fu [.scr ns] [] = some (.ret (.bl true) st)) (hn : l.most = some 63) (hdf : d.params.defaults = [])
    (hY : ∀ (w : World) (h : Heap), YP w h → (K w.params).In h)
    (F : ∀ (w : World) (mg : Str → Option Value) (fa : Addr) (h : Heap), (K w.params).In h → h.Ns mainGlobals mg → mg d.name = some (.ref fa) →
      ∃ fd : FuncData, (∀ (s : Shared) (u : Value), BindsTo s fd ⟨[u], []⟩ [("script", u)]) ∧ ∀ base : Heap, (K w.params).In base → base.Ns mainGlobals mg → FnOk l.prog w (K w.params) mg base (L2.CX l.prog w) 18 fa fd ["script"] (spLaw (K w.params) d_law)) :
    PySem.W.WalkO q loose XP YP l.row.toRowW d [] (fun f vs => PySem.call f vs) :=
  L2.walk_of (n := 63) (k := 18) (x := "script") (CX := fun w => L2.CX l.prog w) (sp := fun w => spLaw (K w.params) d_law) hn (by decide) hdf ⟨rfl, by decide, by decide⟩ hY F (fun w H a ns hl _ hS => law_end plain _ H a ns hl hS) fun w H s er s' hx => by
    obtain ⟨_, _, _, _, _, _, _, _, _, _, _, _, z⟩ := hx
    exact z
end DL
end

section
set_option Elab.async false
set_option linter.all false
set_option maxRecDepth 100000
set_option maxHeartbeats 4000000
open PySem PySem.W PyProof.Rows
set_option maxRecDepth 100000 in
set_option maxHeartbeats 0 in
theorem PySem.Challenge.cw_cutsure_k06_pieces_holds : PySem.Challenge.rw_cutsure_k06_pieces.Holds := by
  w_on; o_law; k_head; (case hw => w_witness2)
  k_fill
  refine DL.walkL (l := PySem.Challenge.rw_cutsure_k06_pieces) DL.plain_law rfl rfl (fun w h Y => PySem.W.kIn_of Y) ?F
  case F =>
    intro w mg fa h KX G hmg
    refine' DL.all_mk KX G hmg ?a7 ?l7 ?c7 ?k7 ?a8 ?l8 ?c8 ?k8 ?a9 ?l9 ?c9 ?k9 ?a12 ?l12 ?c12 ?k12 ?a13 ?l13 ?c13 ?k13 ?a14 ?l14 ?c14 ?k14 ?a15 ?l15 ?c15 ?k15 ?a16 ?l16 ?c16 ?k16 ?a17 ?l17 ?c17 ?k17 ?a18 ?l18 ?c18 ?k18 ?a19 ?l19 ?c19 ?k19 ?a20 ?l20 ?c20 ?k20 ?a21 ?l21 ?c21 ?k21 ?a22 ?l22 ?c22 ?k22 ?a27 ?l27 ?c27 ?k27 ?a28 ?l28 ?c28 ?k28 ?a29 ?l29 ?c29 ?k29 ?a30 ?l30 ?c30 ?k30 ?a31 ?l31 ?c31 ?k31 ?a32 ?l32 ?c32 ?k32 ?a33 ?l33 ?c33 ?k33 ?a34 ?l34 ?c34 ?k34 ?a35 ?l35 ?c35 ?k35 ?a36 ?l36 ?c36 ?k36 ?a37 ?l37 ?c37 ?k37 ?a38 ?l38 ?c38 ?k38 ?a39 ?l39 ?c39 ?k39 ?a40 ?l40 ?c40 ?k40 ?a41 ?l41 ?c41 ?k41 ?a42 ?l42 ?c42 ?k42 ?a44 ?l44 ?c44 ?k44 ?a45 ?l45 ?c45 ?k45 ?a46 ?l46 ?c46 ?k46 ?a47 ?l47 ?c47 ?k47 ?a48 ?l48 ?c48 ?k48 ?a49 ?l49 ?c49 ?k49 ?a50 ?l50 ?c50 ?k50 ?a51 ?l51 ?c51 ?k51 ?a52 ?l52 ?c52 ?k52 ?a53 ?l53 ?c53 ?k53 ?a54 ?l54 ?c54 ?k54 ?a55 ?l55 ?c55 ?k55 ?a56 ?l56 ?c56 ?k56 ?a57 ?l57 ?c57 ?k57 ?a58 ?l58 ?c58 ?k58 ?a59 ?l59 ?c59 ?k59 ?a60 ?l60 ?c60 ?k60 ?a61 ?l61 ?c61 ?k61 ?a62 ?l62 ?c62 ?k62 ?a64 ?l64 ?c64 ?k64 ?a63 ?l63 ?c63 ?k63 ?a65 ?l65 ?c65 ?k65 ?a66 ?l66 ?c66 ?k66 ?a67 ?l67 ?c67 ?k67 ?a68 ?l68 ?c68 ?k68 ?a69 ?l69 ?c69 ?k69 ?a70 ?l70 ?c70 ?k70 ?a71 ?l71 ?c71 ?k71 ?a72 ?l72 ?c72 ?k72 ?a73 ?l73 ?c73 ?k73 ?b0a ?b0b ?b0c ?b0d ?b0e ?b0f ?b0g ?b0h ?b0i ?b0j ?b0k ?b0l ?b0m ?b0n ?b1a ?b1b ?b1c ?b1d ?b1e ?b1f ?b1g ?b1h ?b1i ?b1j ?b1k ?b1l ?b1m ?b1n ?b2a ?b2b ?b2c ?b2d ?b2e ?b2f ?b2g ?b2h ?b2i ?b2j ?b2k ?b2l ?b2m ?b2n ?e00 ?e01 ?e02 ?e10 ?e11 ?e12 ?e20 ?e21 ?e22 ?z_abs ?z_all ?z_any ?z_bool ?z_dict ?z_int ?z_isinstance ?z_len ?z_list ?z_max ?z_min ?z_range ?z_str ?z_sum ?z_tuple ?z_zip ?z_gcd ?m_ZERO ?n_ZERO ?m_EITHER ?n_EITHER ?m_BOTH ?n_BOTH ?m_FIRST ?n_FIRST
    (case a7 => k_is)
    (case l7 => k_is)
    (case c7 => k_is)
    (case k7 => k_is)
    (case a8 => k_is)
    (case l8 => k_is)
    (case c8 => k_is)
    (case k8 => k_is)
    (case a9 => k_is)
    (case l9 => k_is)
    (case c9 => k_is)
    (case k9 => k_is)
    (case a12 => k_is)
    (case l12 => k_is)
    (case c12 => k_is)
    (case k12 => k_is)
    (case a13 => k_is)
    (case l13 => k_is)
    (case c13 => k_is)
    (case k13 => k_is)
    (case a14 => k_is)
    (case l14 => k_is)
    (case c14 => k_is)
    (case k14 => k_is)
    (case a15 => k_is)
    (case l15 => k_is)
    (case c15 => k_is)
    (case k15 => k_is)
    (case a16 => k_is)
    (case l16 => k_is)
    (case c16 => k_is)
    (case k16 => k_is)
    (case a17 => k_is)
    (case l17 => k_is)
    (case c17 => k_is)
    (case k17 => k_is)
    (case a18 => k_is)
    (case l18 => k_is)
    (case c18 => k_is)
    (case k18 => k_is)
    (case a19 => k_is)
    (case l19 => k_is)
    (case c19 => k_is)
    (case k19 => k_is)
    (case a20 => k_is)
    (case l20 => k_is)
    (case c20 => k_is)
    (case k20 => k_is)
    (case a21 => k_is)
    (case l21 => k_is)
    (case c21 => k_is)
    (case k21 => k_is)
    (case a22 => k_is)
    (case l22 => k_is)
    (case c22 => k_is)
    (case k22 => k_is)
    (case a27 => k_is)
    (case l27 => k_is)
    (case c27 => k_is)
    (case k27 => k_is)
    (case a28 => k_is)
    (case l28 => k_is)
    (case c28 => k_is)
    (case k28 => k_is)
    (case a29 => k_is)
    (case l29 => k_is)
    (case c29 => k_is)
    (case k29 => k_is)
    (case a30 => k_is)
    (case l30 => k_is)
    (case c30 => k_is)
    (case k30 => k_is)
    (case a31 => k_is)
    (case l31 => k_is)
    (case c31 => k_is)
    (case k31 => k_is)
    (case a32 => k_is)
    (case l32 => k_is)
    (case c32 => k_is)
    (case k32 => k_is)
    (case a33 => k_is)
    (case l33 => k_is)
    (case c33 => k_is)
    (case k33 => k_is)
    (case a34 => k_is)
    (case l34 => k_is)
    (case c34 => k_is)
    (case k34 => k_is)
    (case a35 => k_is)
    (case l35 => k_is)
    (case c35 => k_is)
    (case k35 => k_is)
    (case a36 => k_is)
    (case l36 => k_is)
    (case c36 => k_is)
    (case k36 => k_is)
    (case a37 => k_is)
    (case l37 => k_is)
    (case c37 => k_is)
    (case k37 => k_is)
    (case a38 => k_is)
    (case l38 => k_is)
    (case c38 => k_is)
    (case k38 => k_is)
    (case a39 => k_is)
    (case l39 => k_is)
    (case c39 => k_is)
    (case k39 => k_is)
    (case a40 => k_is)
    (case l40 => k_is)
    (case c40 => k_is)
    (case k40 => k_is)
    (case a41 => k_is)
    (case l41 => k_is)
    (case c41 => k_is)
    (case k41 => k_is)
    (case a42 => k_is)
    (case l42 => k_is)
    (case c42 => k_is)
    (case k42 => k_is)
    (case a44 => k_is)
    (case l44 => k_is)
    (case c44 => k_is)
    (case k44 => k_is)
    (case a45 => k_is)
    (case l45 => k_is)
    (case c45 => k_is)
    (case k45 => k_is)
    (case a46 => k_is)
    (case l46 => k_is)
    (case c46 => k_is)
    (case k46 => k_is)
    (case a47 => k_is)
    (case l47 => k_is)
    (case c47 => k_is)
    (case k47 => k_is)
    (case a48 => k_is)
    (case l48 => k_is)
    (case c48 => k_is)
    (case k48 => k_is)
    (case a49 => k_is)
    (case l49 => k_is)
    (case c49 => k_is)
    (case k49 => k_is)
    (case a50 => k_is)
    (case l50 => k_is)
    (case c50 => k_is)
    (case k50 => k_is)
    (case a51 => k_is)
    (case l51 => k_is)
    (case c51 => k_is)
    (case k51 => k_is)
    (case a52 => k_is)
    (case l52 => k_is)
    (case c52 => k_is)
    (case k52 => k_is)
    (case a53 => k_is)
    (case l53 => k_is)
    (case c53 => k_is)
    (case k53 => k_is)
    (case a54 => k_is)
    (case l54 => k_is)
    (case c54 => k_is)
    (case k54 => k_is)
    (case a55 => k_is)
    (case l55 => k_is)
    (case c55 => k_is)
    (case k55 => k_is)
    (case a56 => k_is)
    (case l56 => k_is)
    (case c56 => k_is)
    (case k56 => k_is)
    (case a57 => k_is)
    (case l57 => k_is)
    (case c57 => k_is)
    (case k57 => k_is)
    (case a58 => k_is)
    (case l58 => k_is)
    (case c58 => k_is)
    (case k58 => k_is)
    (case a59 => k_is)
    (case l59 => k_is)
    (case c59 => k_is)
    (case k59 => k_is)
    (case a60 => k_is)
    (case l60 => k_is)
    (case c60 => k_is)
    (case k60 => k_is)
    (case a61 => k_is)
    (case l61 => k_is)
    (case c61 => k_is)
    (case k61 => k_is)
    (case a62 => k_is)
    (case l62 => k_is)
    (case c62 => k_is)
    (case k62 => k_is)
    (case a64 => k_is)
    (case l64 => k_is)
    (case c64 => k_is)
    (case k64 => k_is)
    (case a63 => k_is)
    (case l63 => k_is)
    (case c63 => k_is)
    (case k63 => k_is)
    (case a65 => k_is)
    (case l65 => k_is)
    (case c65 => k_is)
    (case k65 => k_is)
    (case a66 => k_is)
    (case l66 => k_is)
    (case c66 => k_is)
    (case k66 => k_is)
    (case a67 => k_is)
    (case l67 => k_is)
    (case c67 => k_is)
    (case k67 => k_is)
    (case a68 => k_is)
    (case l68 => k_is)
    (case c68 => k_is)
    (case k68 => k_is)
    (case a69 => k_is)
    (case l69 => k_is)
    (case c69 => k_is)
    (case k69 => k_is)
    (case a70 => k_is)
    (case l70 => k_is)
    (case c70 => k_is)
    (case k70 => k_is)
    (case a71 => k_is)
    (case l71 => k_is)
    (case c71 => k_is)
    (case k71 => k_is)
    (case a72 => k_is)
    (case l72 => k_is)
    (case c72 => k_is)
    (case k72 => k_is)
    (case a73 => k_is)
    (case l73 => k_is)
    (case c73 => k_is)
    (case k73 => k_is)
    (case b0a => k_is)
    (case b0b => k_is)
    (case b0c => first | rfl | kernel_rfl)
    (case b0d => k_is)
    (case b0e => k_is)
    (case b0f => k_is)
    (case b0g => k_is)
    (case b0h => k_is)
    (case b0i => k_is)
    (case b0j => k_is)
    (case b0k => k_is)
    (case b0l => k_is)
    (case b0m => k_is)
    (case b0n => first | kernel_rfl | rfl)
    (case b1a => k_is)
    (case b1b => k_is)
    (case b1c => first | rfl | kernel_rfl)
    (case b1d => k_is)
    (case b1e => k_is)
    (case b1f => k_is)
    (case b1g => k_is)
    (case b1h => k_is)
    (case b1i => k_is)
    (case b1j => k_is)
    (case b1k => k_is)
    (case b1l => k_is)
    (case b1m => k_is)
    (case b1n => first | kernel_rfl | rfl)
    (case b2a => k_is)
    (case b2b => k_is)
    (case b2c => first | rfl | kernel_rfl)
    (case b2d => k_is)
    (case b2e => k_is)
    (case b2f => k_is)
    (case b2g => k_is)
    (case b2h => k_is)
    (case b2i => k_is)
    (case b2j => k_is)
    (case b2k => k_is)
    (case b2l => k_is)
    (case b2m => k_is)
    (case b2n => first | kernel_rfl | rfl)
    (case e00 => exact PySem.W.exm_ref (by k_is) (by k_is) (by k_is) (by first | k_is | rfl))
    (case e01 => exact PySem.W.exm_ref (by k_is) (by k_is) (by k_is) (by first | k_is | rfl))
    (case e02 => exact PySem.W.exm_ref (by k_is) (by k_is) (by k_is) (by first | k_is | rfl))
    (case e10 => exact PySem.W.exm_ref (by k_is) (by k_is) (by k_is) (by first | k_is | rfl))
    (case e11 => exact PySem.W.exm_ref (by k_is) (by k_is) (by k_is) (by first | k_is | rfl))
    (case e12 => exact PySem.W.exm_ref (by k_is) (by k_is) (by k_is) (by first | k_is | rfl))
    (case e20 => exact PySem.W.exm_ref (by k_is) (by k_is) (by k_is) (by first | k_is | rfl))
    (case e21 => exact PySem.W.exm_ref (by k_is) (by k_is) (by k_is) (by first | k_is | rfl))
    (case e22 => exact PySem.W.exm_ref (by k_is) (by k_is) (by k_is) (by first | k_is | rfl))
    (case z_abs => k_is)
    (case z_all => k_is)
    (case z_any => k_is)
    (case z_bool => k_is)
    (case z_dict => k_is)
    (case z_int => k_is)
    (case z_isinstance => k_is)
    (case z_len => k_is)
    (case z_list => k_is)
    (case z_max => k_is)
    (case z_min => k_is)
    (case z_range => k_is)
    (case z_str => k_is)
    (case z_sum => k_is)
    (case z_tuple => k_is)
    (case z_zip => k_is)
    (case z_gcd => k_is)
    (case m_ZERO => k_is)
    (case n_ZERO => first | kernel_rfl | rfl)
    (case m_EITHER => k_is)
    (case n_EITHER => first | kernel_rfl | rfl)
    (case m_BOTH => k_is)
    (case n_BOTH => first | kernel_rfl | rfl)
    (case m_FIRST => k_is)
    (case n_FIRST => first | kernel_rfl | rfl)
end
