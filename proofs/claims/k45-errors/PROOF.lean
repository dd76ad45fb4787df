import PyProof.Rows.All
import Wide.All
import OpenK.AllK
import Wide.FinOn
import HandS.ForMost
import HandS.WordsExc
import HandS.IsInst
import HandS.Wide
import HandS.ExcInit
import KE.KExcIs
import HandS.TupAny
import HandS.Conv
import HandS.Deep
import HandS.Style
import HandS.CallSlots
import HandS.More
import KE.GoesNew
import HandS.ExcIs
import HandS.ExcField
import HandS.ExcValue
import PySem.Challenge.RW_leastregs_k45_errors_of_one_family
set_option Elab.async false
set_option linter.all false
set_option maxRecDepth 100000
set_option maxHeartbeats 4000000
namespace EV
open PySem PySem.Spec PyProof.Rows L2

/-! ### data -/
abbrev St := L2.St
inductive D where
  | non | bl (b : Bool) | int (i : Int) | str (x : Str) | tup (ds : List D) | ref (n : Nat) | opq (v : V)
inductive O where
  | lst (ds : List D) | rol (ds : List D) | dic (kvs : List (Key × D)) | lck (kvs : List (Key × D)) | ins (C : Str) (fs : List (Str × D)) | exo (C : Str) (d : Option Nat) | exd (fs : List (Str × D))
abbrev Hh := List O
abbrev Sl := List (Option D)
abbrev XD := Str × List (Str × D)

section
variable (K : PySem.W.Frag) (H : Hp) (ι : List Addr)
mutual
def RelD : D → V → Prop
  | .non, v => v = .non
  | .bl b, v => v = .bl b
  | .int i, v => v = .int i
  | .str x, v => v = .str x
  | .tup ds, v => ∃ a vs, v = .ref a ∧ SqT K H a vs ∧ RelDs ds vs
  | .ref n, v => ∃ a, ι[n]? = some a ∧ v = .ref a
  | .opq u, v => v = u
def RelDs : List D → List V → Prop
  | [], vs => vs = []
  | d :: ds, vs => ∃ v r, vs = v :: r ∧ RelD d v ∧ RelDs ds r
end
/-- pairs with one and the same first part -/
def RelKs {κ : Type} : List (κ × D) → List (κ × V) → Prop
  | [], vs => vs = []
  | p :: ps, vs => ∃ v r, vs = (p.1, v) :: r ∧ RelD K H ι p.2 v ∧ RelKs ps r
/-- the script: a list that nobody writes, tracked or of the written part -/
def SqF (a : Addr) (vs : List V) : Prop := (∃ o, H a = some (.frz o (.lst vs))) ∨ ∃ (o : Obj) (its : Array Value) (n : Nat), K.lookup a = some o ∧ o.cls = .type "list" ∧ o.dict = none ∧ o.data = .seq its n ∧ its.size ≤ sizeLine ∧ Vals vs its.toList
def RelO (mg : Str → Option Value) : O → Addr → Prop
  | .lst ds, a => ∃ vs, H a = some (.lst vs) ∧ RelDs K H ι ds vs
  | .rol ds, a => ∃ vs, SqF K H a vs ∧ RelDs K H ι ds vs
  | .dic kvs, a => ∃ vs, H a = some (.dK vs) ∧ RelKs K H ι kvs vs
  | .lck kvs, a => ∃ o vs, H a = some (.frz o (.dK vs)) ∧ RelKs K H ι kvs vs
  | .ins C fs, a => ∃ c dx vs, mg C = some (.ref c) ∧ H a = some (.ins c dx vs) ∧ RelKs K H ι fs vs
  | .exo C none, a => ∃ c, mg C = some (.ref c) ∧ H a = some (exo a c none)
  | .exo C (some n), a => ∃ c dx, mg C = some (.ref c) ∧ ι[n]? = some dx ∧ H a = some (exo a c (some dx))
  | .exd fs, a => ∃ vs, H a = some (exd a vs) ∧ RelKs K H ι fs vs
structure HRel (mg : Str → Option Value) (h : Hh) : Prop where
  len : ι.length = h.length
  nd : ∀ (i j : Nat) (a : Addr), ι[i]? = some a → ι[j]? = some a → i = j ∨ (∃ ds, h[i]? = some (.rol ds)) ∨ ∃ ds, h[j]? = some (.rol ds)
  obj : ∀ (n : Nat) (o : O) (a : Addr), h[n]? = some o → ι[n]? = some a → RelO K H ι mg o a
def SRel (σ : St) (s : Sl) : Prop := σ.length = s.length ∧ ∀ (i : Nat) (d : D), s[i]? = some (some d) → ∃ v, σ[i]? = some (some v) ∧ RelD K H ι d v
end
/-- the heap has gone on: the same objects by their numbers, all tuples kept -/
structure Gr (K : PySem.W.Frag) (H H' : Hp) (ι ι' : List Addr) : Prop where
  pre : ι <+: ι'
  tup : ∀ a vs, SqT K H a vs → SqT K H' a vs
theorem Gr.refl {K : PySem.W.Frag} {H : Hp} {ι : List Addr} : Gr K H H ι ι := ⟨List.prefix_refl _, fun _ _ h => h⟩
theorem Gr.trans {K : PySem.W.Frag} {H H1 H2 : Hp} {ι ι1 ι2 : List Addr} (a : Gr K H H1 ι ι1) (b : Gr K H1 H2 ι1 ι2) : Gr K H H2 ι ι2 :=
  ⟨a.pre.trans b.pre, fun c vs h => b.tup c vs (a.tup c vs h)⟩
theorem pre_get {α : Type} {l l' : List α} {n : Nat} {a : α} (p : l <+: l') (h : l[n]? = some a) : l'[n]? = some a := by
  obtain ⟨t, rfl⟩ := p
  obtain ⟨hn, _⟩ := List.getElem?_eq_some_iff.mp h
  rw [List.getElem?_append_left hn]
  exact h
section
variable {K : PySem.W.Frag} {H H' : Hp} {ι ι' : List Addr} {mg : Str → Option Value}
mutual
theorem RelD.mono (g : Gr K H H' ι ι') : ∀ {d : D} {v : V}, RelD K H ι d v → RelD K H' ι' d v
  | .non, _, h => h
  | .bl _, _, h => h
  | .int _, _, h => h
  | .str _, _, h => h
  | .opq _, _, h => h
  | .ref _, _, h => by
    obtain ⟨a, e, r⟩ := h
    exact ⟨a, pre_get g.pre e, r⟩
  | .tup ds, _, h => by
    obtain ⟨a, vs, e, q, r⟩ := h
    exact ⟨a, vs, e, g.tup a vs q, RelDs.mono g r⟩
theorem RelDs.mono (g : Gr K H H' ι ι') : ∀ {ds : List D} {vs : List V}, RelDs K H ι ds vs → RelDs K H' ι' ds vs
  | [], _, h => h
  | _ :: _, _, h => by
    obtain ⟨v, r, e, h1, h2⟩ := h
    exact ⟨v, r, e, RelD.mono g h1, RelDs.mono g h2⟩
end
theorem RelKs.mono {κ : Type} (g : Gr K H H' ι ι') : ∀ {ps : List (κ × D)} {vs : List (κ × V)}, RelKs K H ι ps vs → RelKs K H' ι' ps vs
  | [], _, h => h
  | _ :: _, _, h => by
    obtain ⟨v, r, e, h1, h2⟩ := h
    exact ⟨v, r, e, h1.mono g, RelKs.mono g h2⟩
theorem SRel.mono (g : Gr K H H' ι ι') {σ : St} {s : Sl} (h : SRel K H ι σ s) : SRel K H' ι' σ s :=
  ⟨h.1, fun i d e => let ⟨v, e1, r⟩ := h.2 i d e; ⟨v, e1, r.mono g⟩⟩
theorem RelDs.length : ∀ {ds : List D} {vs : List V}, RelDs K H ι ds vs → vs.length = ds.length
  | [], _, h => by rw [show _ = _ from h]; rfl
  | _ :: _, _, h => by
    obtain ⟨v, r, e, h1, h2⟩ := h
    rw [e, List.length_cons, List.length_cons, h2.length]
theorem RelDs.get : ∀ {ds : List D} {vs : List V} {i : Nat} {d : D}, RelDs K H ι ds vs → ds[i]? = some d → ∃ v, vs[i]? = some v ∧ RelD K H ι d v
  | [], _, _, _, _, e => by simp at e
  | x :: xs, _, 0, d, h, e => by
    obtain ⟨v, r, rfl, h1, h2⟩ := h
    simp at e; subst e
    exact ⟨v, rfl, h1⟩
  | x :: xs, _, i + 1, d, h, e => by
    obtain ⟨v, r, rfl, h1, h2⟩ := h
    obtain ⟨u, e1, r1⟩ := RelDs.get (i := i) (d := d) h2 (by simpa using e)
    exact ⟨u, by simpa using e1, r1⟩
theorem RelDs.append : ∀ {ds es : List D} {vs us : List V}, RelDs K H ι ds vs → RelDs K H ι es us → RelDs K H ι (ds ++ es) (vs ++ us)
  | [], _, _, _, h, h' => by rw [show _ = _ from h]; exact h'
  | _ :: _, _, _, _, h, h' => by
    obtain ⟨v, r, rfl, h1, h2⟩ := h
    exact ⟨v, _, rfl, h1, h2.append h'⟩
theorem RelDs.take : ∀ {ds : List D} {vs : List V} (n : Nat), RelDs K H ι ds vs → RelDs K H ι (ds.take n) (vs.take n)
  | _, _, 0, _ => by rw [List.take_zero, List.take_zero]; rfl
  | [], _, n + 1, h => by rw [show _ = _ from h]; rfl
  | _ :: _, _, n + 1, h => by
    obtain ⟨v, r, rfl, h1, h2⟩ := h
    exact ⟨v, _, rfl, h1, h2.take n⟩
theorem RelDs.drop : ∀ {ds : List D} {vs : List V} (n : Nat), RelDs K H ι ds vs → RelDs K H ι (ds.drop n) (vs.drop n)
  | _, _, 0, h => h
  | [], _, n + 1, h => by rw [show _ = _ from h]; rfl
  | _ :: _, _, n + 1, h => by
    obtain ⟨v, r, rfl, h1, h2⟩ := h
    exact h2.drop n
theorem RelDs.set {d : D} {v : V} (hd : RelD K H ι d v) : ∀ {ds : List D} {vs : List V} (n : Nat), RelDs K H ι ds vs → RelDs K H ι (ds.set n d) (vs.set n v)
  | [], _, n, h => by rw [show _ = _ from h]; rfl
  | _ :: _, _, 0, h => by
    obtain ⟨u, r, rfl, h1, h2⟩ := h
    exact ⟨v, r, rfl, hd, h2⟩
  | _ :: _, _, n + 1, h => by
    obtain ⟨u, r, rfl, h1, h2⟩ := h
    exact ⟨u, _, rfl, h1, h2.set hd n⟩
theorem RelDs.reverse : ∀ {ds : List D} {vs : List V}, RelDs K H ι ds vs → RelDs K H ι ds.reverse vs.reverse
  | [], _, h => by rw [show _ = _ from h]; rfl
  | _ :: _, _, h => by
    obtain ⟨v, r, rfl, h1, h2⟩ := h
    rw [List.reverse_cons, List.reverse_cons]
    exact h2.reverse.append ⟨v, [], rfl, h1, rfl⟩
theorem HRel.at {h : Hh} (hr : HRel K H ι mg h) {n : Nat} {o : O} (e : h[n]? = some o) : ∃ a, ι[n]? = some a ∧ RelO K H ι mg o a := by
  have hn : n < ι.length := by rw [hr.len]; exact (List.getElem?_eq_some_iff.mp e).1
  exact ⟨ι[n], List.getElem?_eq_getElem hn, hr.obj n o _ e (List.getElem?_eq_getElem hn)⟩
/-- the address of a number is tracked -/
theorem RelO.there {o : O} {a : Addr} (r : RelO K H ι mg o a) (no : ∀ ds, o ≠ .rol ds := by intro _ q; cases q) : ∃ u, H a = some u ∧ (∀ vs, u ≠ .tup vs) ∧ ∀ z vs, u ≠ .frz z (.tup vs) := by
  cases o with
  | lst ds => obtain ⟨vs, e, _⟩ := r; exact ⟨_, e, (fun _ q => by cases q), (fun _ _ q => by cases q)⟩
  | rol ds => exact absurd rfl (no ds)
  | dic ds => obtain ⟨vs, e, _⟩ := r; exact ⟨_, e, (fun _ q => by cases q), (fun _ _ q => by cases q)⟩
  | lck ds => obtain ⟨z, vs, e, _⟩ := r; exact ⟨_, e, (fun _ q => by cases q), (fun _ _ q => by cases q)⟩
  | ins C fs => obtain ⟨c, dx, vs, _, e, _⟩ := r; exact ⟨_, e, (fun _ q => by cases q), (fun _ _ q => by cases q)⟩
  | exo C d =>
    cases d with
    | none => obtain ⟨c, _, e⟩ := r; exact ⟨_, e, (fun _ q => exo_tup q), (fun _ _ q => exo_frz q)⟩
    | some n => obtain ⟨c, dx, _, _, e⟩ := r; exact ⟨_, e, (fun _ q => exo_tup q), (fun _ _ q => exo_frz q)⟩
  | exd fs => obtain ⟨vs, e, _⟩ := r; exact ⟨_, e, (fun _ q => exd_tup q), (fun _ _ q => by have z : HO.ext _ = HO.frz _ _ := q; cases z)⟩
theorem RelO.nofrz {o : O} {a : Addr} (r : RelO K H ι mg o a) (no : ∀ ds, o ≠ .rol ds := by intro _ q; cases q) : ∃ u, H a = some u ∧ ∀ z vs, u ≠ .frz z (.lst vs) := by
  cases o with
  | lst ds => obtain ⟨vs, e, _⟩ := r; exact ⟨_, e, (fun _ _ q => by cases q)⟩
  | rol ds => exact absurd rfl (no ds)
  | dic ds => obtain ⟨vs, e, _⟩ := r; exact ⟨_, e, (fun _ _ q => by cases q)⟩
  | lck ds => obtain ⟨z, vs, e, _⟩ := r; exact ⟨_, e, (fun _ _ q => by cases q)⟩
  | ins C fs => obtain ⟨c, dx, vs, _, e, _⟩ := r; exact ⟨_, e, (fun _ _ q => by cases q)⟩
  | exo C d =>
    cases d with
    | none => obtain ⟨c, _, e⟩ := r; exact ⟨_, e, (fun _ _ q => exo_frz q)⟩
    | some n => obtain ⟨c, dx, _, _, e⟩ := r; exact ⟨_, e, (fun _ _ q => exo_frz q)⟩
  | exd fs => obtain ⟨vs, e, _⟩ := r; exact ⟨_, e, (fun _ _ q => by have z : HO.ext _ = HO.frz _ _ := q; cases z)⟩
/-- an object is described alike in a heap that differs elsewhere -/
theorem RelO.move {o : O} {a : Addr} (r : RelO K H ι mg o a) (g : Gr K H H' ι ι') (e : H' a = H a) : RelO K H' ι' mg o a := by
  cases o with
  | lst ds => obtain ⟨vs, q, t⟩ := r; exact ⟨vs, e.trans q, t.mono g⟩
  | rol ds =>
    obtain ⟨vs, q, t⟩ := r
    refine ⟨vs, ?_, t.mono g⟩
    rcases q with ⟨z, q⟩ | q
    · exact .inl ⟨z, e.trans q⟩
    · exact .inr q
  | dic ds => obtain ⟨vs, q, t⟩ := r; exact ⟨vs, e.trans q, t.mono g⟩
  | lck ds => obtain ⟨z, vs, q, t⟩ := r; exact ⟨z, vs, e.trans q, t.mono g⟩
  | ins C fs => obtain ⟨c, dx, vs, m, q, t⟩ := r; exact ⟨c, dx, vs, m, e.trans q, t.mono g⟩
  | exo C d =>
    cases d with
    | none => obtain ⟨c, m, q⟩ := r; exact ⟨c, m, e.trans q⟩
    | some n => obtain ⟨c, dx, m, i, q⟩ := r; exact ⟨c, dx, m, pre_get g.pre i, e.trans q⟩
  | exd fs => obtain ⟨vs, q, t⟩ := r; exact ⟨vs, e.trans q, t.mono g⟩
/-- a new thing at a free address -/
theorem Gr.fresh {p : Addr} {u : HO} (hp : H p = none) (ι2 : List Addr) (hi : ι <+: ι2) : Gr K H (upd H p u) ι ι2 := by
  refine ⟨hi, fun a vs q => ?_⟩
  rcases q with (q | ⟨z, q⟩) | q
  · exact .inl (.inl (by rw [upd_ne (ne_of_none q hp)]; exact q))
  · exact .inl (.inr ⟨z, by rw [upd_ne (ne_of_none q hp)]; exact q⟩)
  · exact .inr q
/-- a free address is taken -/
theorem RelO.fresh {o : O} {a p : Addr} {u : HO} {ι2 : List Addr} (r : RelO K H ι mg o a) (hp : H p = none) (hi : ι <+: ι2) : RelO K (upd H p u) ι2 mg o a := by
  have g := Gr.fresh (K := K) (u := u) hp ι2 hi
  by_cases hn : ∃ ds, o = .rol ds
  · obtain ⟨ds, rfl⟩ := hn
    obtain ⟨vs, q, t⟩ := r
    refine ⟨vs, ?_, t.mono g⟩
    rcases q with ⟨z, q⟩ | q
    · exact .inl ⟨z, by rw [upd_ne (ne_of_none q hp)]; exact q⟩
    · exact .inr q
  · obtain ⟨w, e, _⟩ := r.there fun ds q => hn ⟨ds, q⟩
    exact r.move g (upd_ne (ne_of_none e hp))
theorem HRel.fresh {h : Hh} {p : Addr} {u : HO} (hr : HRel K H ι mg h) (hp : H p = none) : HRel K (upd H p u) ι mg h := by
  refine ⟨hr.len, hr.nd, fun n o a e1 e2 => ?_⟩
  exact (hr.obj n o a e1 e2).fresh hp (List.prefix_refl _)
theorem HRel.push {h : Hh} {p : Addr} {u : HO} {o : O} (hr : HRel K H ι mg h) (hp : H p = none) (hn : RelO K (upd H p u) (ι ++ [p]) mg o p) : HRel K (upd H p u) (ι ++ [p]) mg (h ++ [o]) := by
  have g : Gr K H (upd H p u) ι (ι ++ [p]) := Gr.fresh hp _ (List.prefix_append _ _)
  refine ⟨by rw [List.length_append, List.length_append, hr.len, List.length_singleton, List.length_singleton], ?_, fun n o' a e1 e2 => ?_⟩
  · have old : ∀ (i : Nat) (a : Addr), (ι ++ [p])[i]? = some a → (i < h.length ∧ ι[i]? = some a) ∨ (i = h.length ∧ a = p) := fun i a e => by
      by_cases hlt : i < h.length
      · rw [List.getElem?_append_left (by rw [hr.len]; exact hlt)] at e
        exact .inl ⟨hlt, e⟩
      · have q := (List.getElem?_eq_some_iff.mp e).1
        rw [List.length_append, List.length_singleton, hr.len] at q
        have hi : i = h.length := by omega
        subst hi
        rw [← hr.len, List.getElem?_append_right (Nat.le_refl _), Nat.sub_self] at e
        exact .inr ⟨rfl, by simpa using e.symm⟩
    have mix : ∀ (i : Nat), i < h.length → ι[i]? = some p → ∃ ds, (h ++ [o])[i]? = some (.rol ds) := fun i hi e => by
      have r := hr.obj i h[i] p (List.getElem?_eq_getElem hi) e
      by_cases hn : ∃ ds, h[i] = .rol ds
      · obtain ⟨ds, q⟩ := hn
        exact ⟨ds, by rw [List.getElem?_append_left hi, List.getElem?_eq_getElem hi, q]⟩
      · obtain ⟨w, e', _⟩ := r.there fun ds q => hn ⟨ds, q⟩
        rw [hp] at e'
        cases e'
    intro i j a e1 e2
    rcases old i a e1 with ⟨h1, f1⟩ | ⟨h1, r1⟩
    · rcases old j a e2 with ⟨h2, f2⟩ | ⟨h2, r2⟩
      · rcases hr.nd i j a f1 f2 with q | ⟨ds, q⟩ | ⟨ds, q⟩
        · exact .inl q
        · exact .inr (.inl ⟨ds, by rw [List.getElem?_append_left h1]; exact q⟩)
        · exact .inr (.inr ⟨ds, by rw [List.getElem?_append_left h2]; exact q⟩)
      · subst r2
        exact .inr (.inl (mix i h1 f1))
    · rcases old j a e2 with ⟨h2, f2⟩ | ⟨h2, r2⟩
      · subst r1
        exact .inr (.inr (mix j h2 f2))
      · exact .inl (h1.trans h2.symm)
  · by_cases hlt : n < h.length
    · rw [List.getElem?_append_left hlt] at e1
      rw [List.getElem?_append_left (by rw [hr.len]; exact hlt)] at e2
      exact (hr.obj n o' a e1 e2).fresh hp (List.prefix_append _ _)
    · have hn1 : n = h.length := by
        have q := (List.getElem?_eq_some_iff.mp e1).1
        rw [List.length_append, List.length_singleton] at q
        omega
      subst hn1
      rw [List.getElem?_append_right (Nat.le_refl _), Nat.sub_self] at e1
      rw [← hr.len, List.getElem?_append_right (Nat.le_refl _), Nat.sub_self] at e2
      simp at e1 e2
      subst e1 e2
      exact hn
/-- the object of a number is written -/
theorem Gr.write {a : Addr} {u w : HO} (ha : H a = some w) (h1 : ∀ vs, w ≠ .tup vs) (h2 : ∀ z vs, w ≠ .frz z (.tup vs)) : Gr K H (upd H a u) ι ι := by
  refine ⟨List.prefix_refl _, fun b vs q => ?_⟩
  have ne : ∀ {x : HO}, H b = some x → ((∃ vs, x = .tup vs) ∨ ∃ z vs, x = .frz z (.tup vs)) → b ≠ a := fun {x} e hx z => by
    rw [z, ha] at e
    cases e
    rcases hx with ⟨vs, q⟩ | ⟨z, vs, q⟩
    · exact h1 vs q
    · exact h2 z vs q
  rcases q with (q | ⟨z, q⟩) | q
  · exact .inl (.inl (by rw [upd_ne (ne q (.inl ⟨_, rfl⟩))]; exact q))
  · exact .inl (.inr ⟨z, by rw [upd_ne (ne q (.inr ⟨_, _, rfl⟩))]; exact q⟩)
  · exact .inr q
theorem HRel.write {h : Hh} {n : Nat} {a : Addr} {u : HO} {o o' : O} (hr : HRel K H ι mg h) (e : h[n]? = some o) (ea : ι[n]? = some a) (hn : RelO K (upd H a u) ι mg o' a) (no : ∀ ds, o ≠ .rol ds := by intro _ q; cases q) :
    Gr K H (upd H a u) ι ι ∧ HRel K (upd H a u) ι mg (h.set n o') := by
  obtain ⟨w, ew, w1, w2⟩ := (hr.obj n o a e ea).there no
  obtain ⟨w', ew', w3⟩ := (hr.obj n o a e ea).nofrz no
  have g : Gr K H (upd H a u) ι ι := Gr.write ew w1 w2
  have hlt : n < h.length := (List.getElem?_eq_some_iff.mp e).1
  have nr : ∀ ds, h[n]? ≠ some (.rol ds) := fun ds q => by rw [e] at q; exact no ds (Option.some.inj q)
  refine ⟨g, by rw [List.length_set]; exact hr.len, fun i j b e1 e2 => ?_, fun m q b e1 e2 => ?_⟩
  · rcases hr.nd i j b e1 e2 with q | ⟨ds, q⟩ | ⟨ds, q⟩
    · exact .inl q
    · have hi : n ≠ i := fun z => nr ds (by rw [z]; exact q)
      exact .inr (.inl ⟨ds, by rw [List.getElem?_set_ne hi]; exact q⟩)
    · have hi : n ≠ j := fun z => nr ds (by rw [z]; exact q)
      exact .inr (.inr ⟨ds, by rw [List.getElem?_set_ne hi]; exact q⟩)
  by_cases hm : m = n
  · subst hm
    rw [List.getElem?_set_self hlt] at e1
    rw [ea] at e2
    cases e1; cases e2
    exact hn
  · rw [List.getElem?_set_ne (Ne.symm hm)] at e1
    have r := hr.obj m q b e1 e2
    by_cases hb : b = a
    · subst hb
      rcases hr.nd m n b e2 ea with z | ⟨ds, z⟩ | ⟨ds, z⟩
      · exact absurd z hm
      · rw [e1] at z
        cases z
        obtain ⟨vs, z, t⟩ := r
        refine ⟨vs, ?_, t.mono g⟩
        rcases z with ⟨o2, z⟩ | z
        · rw [ew'] at z
          exact absurd (Option.some.inj z) (w3 o2 vs)
        · exact .inr z
      · exact absurd z (nr ds)
    · exact r.move g (upd_ne hb)
theorem SqF.sq {a : Addr} {vs : List V} (h : SqF K H a vs) : SqL K H a vs := by
  rcases h with ⟨o, q⟩ | q
  · exact .inl (.inr ⟨o, q⟩)
  · exact .inr q
end

/-! ### the judgements -/
abbrev PV := D → Hh → Prop
abbrev PX := XD → Hh → Prop
abbrev WE := Sl → Hh → PV → PX → Prop
abbrev WT := Sl → Hh → (Bool → Hh → Prop) → PX → Prop
abbrev WA := Sl → Hh → (List D → Hh → Prop) → PX → Prop
structure DEnds where
  nx : Sl → Hh → Prop
  rt : PV
  bk : Sl → Hh → Prop := fun _ _ => False
  ct : Sl → Hh → Prop := fun _ _ => False
  ex : Sl → PX := fun _ _ _ => False
abbrev WS := DEnds → Sl → Hh → Prop
def Mono {α : Type} (w : Sl → Hh → (α → Hh → Prop) → PX → Prop) : Prop :=
  ∀ s h (Q Q' : α → Hh → Prop) (E E' : PX), (∀ d h, Q d h → Q' d h) → (∀ x h, E x h → E' x h) → w s h Q E → w s h Q' E'
structure DEnds.Le (A B : DEnds) : Prop where
  nx : ∀ s h, A.nx s h → B.nx s h
  rt : ∀ d h, A.rt d h → B.rt d h
  bk : ∀ s h, A.bk s h → B.bk s h
  ct : ∀ s h, A.ct s h → B.ct s h
  ex : ∀ s x h, A.ex s x h → B.ex s x h
def MonoS (w : WS) : Prop := ∀ A B s h, A.Le B → w A s h → w B s h

/-- an exception, by its class's name and its fields -/
def XR (K : PySem.W.Frag) (mg : Str → Option Value) (H : Hp) (ι : List Addr) (x : XD) (c : Value) (d : Option Addr) : Prop :=
  ∃ C, mg x.1 = some (.ref C) ∧ c = .ref C ∧ match d with
    | none => x.2 = []
    | some a => ∃ vs, H a = some (.xd vs) ∧ RelKs K H ι x.2 vs

section
variable (X : Cx) (W : WX)
/-- what is wanted behind a value, seen from the heap H, ι -/
def QV (H : Hp) (ι : List Addr) (Q : VK) : PV := fun d h' => ∀ v H' ι', Gr X.K H H' ι ι' → HRel X.K H' ι' X.mg h' → RelD X.K H' ι' d v → Q v H'
def QX (H : Hp) (ι : List Addr) (σ : St) : PX := fun x h' => ∀ c d H' ι', Gr X.K H H' ι ι' → HRel X.K H' ι' X.mg h' → XR X.K X.mg H' ι' x c d → W c d σ H'
def QB (H : Hp) (ι : List Addr) (Q : Bool → Hp → Prop) : Bool → Hh → Prop := fun b h' => ∀ H' ι', Gr X.K H H' ι ι' → HRel X.K H' ι' X.mg h' → Q b H'
def QA (H : Hp) (ι : List Addr) (Q : List V → Hp → Prop) : List D → Hh → Prop := fun ds h' => ∀ vs H' ι', Gr X.K H H' ι ι' → HRel X.K H' ι' X.mg h' → RelDs X.K H' ι' ds vs → Q vs H'
def LE (w : WE) : TE := fun σ H Q => ∃ ι h s, HRel X.K H ι X.mg h ∧ SRel X.K H ι σ s ∧ w s h (QV X H ι Q) (QX X W H ι σ)
def LT (w : WT) : TT := fun σ H Q => ∃ ι h s, HRel X.K H ι X.mg h ∧ SRel X.K H ι σ s ∧ w s h (QB X H ι Q) (QX X W H ι σ)
def LA (w : WA) : TA := fun σ H Q => ∃ ι h s, HRel X.K H ι X.mg h ∧ SRel X.K H ι σ s ∧ w s h (QA X H ι Q) (QX X W H ι σ)
/-- the ends of a statement, seen from the heap H, ι -/
def QD (H : Hp) (ι : List Addr) (B : Ends) : DEnds where
  nx := fun s' h' => ∀ σ' H' ι', Gr X.K H H' ι ι' → HRel X.K H' ι' X.mg h' → SRel X.K H' ι' σ' s' → B.nx σ' H'
  rt := QV X H ι B.rt
  bk := fun s' h' => ∀ σ' H' ι', Gr X.K H H' ι ι' → HRel X.K H' ι' X.mg h' → SRel X.K H' ι' σ' s' → B.bk σ' H'
  ct := fun s' h' => ∀ σ' H' ι', Gr X.K H H' ι ι' → HRel X.K H' ι' X.mg h' → SRel X.K H' ι' σ' s' → B.ct σ' H'
  ex := fun s' x h' => ∀ c d σ' H' ι', Gr X.K H H' ι ι' → HRel X.K H' ι' X.mg h' → SRel X.K H' ι' σ' s' → XR X.K X.mg H' ι' x c d → W c d σ' H'
def LS (w : WS) : TS := fun B σ H => ∃ ι h s, HRel X.K H ι X.mg h ∧ SRel X.K H ι σ s ∧ w (QD X W H ι B) s h
structure DE (e : Expr) (w : WE) : Prop where
  pe : PE X e (LE X W w)
  mono : Mono w
structure DT (e : Expr) (w : WT) : Prop where
  pt : PT X e (LT X W w)
  mono : Mono w
structure DA (es : List Expr) (w : WA) : Prop where
  pa : PA X es (LA X W w)
  mono : Mono w
structure DS (st : Stmt) (w : WS) : Prop where
  ps : PS X st (LS X W w)
  mono : MonoS w
structure DSs (sts : List Stmt) (w : WS) : Prop where
  ps : PSs X sts (LS X W w)
  mono : MonoS w
end
section
variable {X : Cx} {W : WX}
theorem PE.imp {e : Expr} {t t' : TE} (h : PE X e t) (i : ∀ σ H Q, t' σ H Q → t σ H Q) : PE X e t' := ⟨fun pins s σ H Q I q => h.run pins s σ H Q I (i σ H Q q)⟩
theorem PT.imp {e : Expr} {t t' : TT} (h : PT X e t) (i : ∀ σ H Q, t' σ H Q → t σ H Q) : PT X e t' := ⟨fun pins s σ H Q I q => h.run pins s σ H Q I (i σ H Q q)⟩
theorem PS.imp {st : Stmt} {t t' : TS} (h : PS X st t) (i : ∀ D σ H, t' D σ H → t D σ H) : PS X st t' := ⟨fun pins s σ H D I q => h.run pins s σ H D I (i D σ H q)⟩
theorem PSs.imp {st : List Stmt} {t t' : TS} (h : PSs X st t) (i : ∀ D σ H, t' D σ H → t D σ H) : PSs X st t' := ⟨fun pins s σ H D I q => h.run pins s σ H D I (i D σ H q)⟩
theorem PA.imp {es : List Expr} {t t' : TA} (h : PA X es t) (i : ∀ σ H Q, t' σ H Q → t σ H Q) : PA X es t' := ⟨fun pos pins s σ H Q I q => h.run pos pins s σ H Q I (i σ H Q q)⟩
variable {H H1 : Hp} {ι ι1 : List Addr} {σ : St}
theorem QV.on {Q : VK} {d : D} {h : Hh} (q : QV X H ι Q d h) (g : Gr X.K H H1 ι ι1) : QV X H1 ι1 Q d h := fun v H' ι' g' => q v H' ι' (g.trans g')
theorem QX.on {x : XD} {h : Hh} (q : QX X W H ι σ x h) (g : Gr X.K H H1 ι ι1) : QX X W H1 ι1 σ x h := fun c d H' ι' g' => q c d H' ι' (g.trans g')
theorem QB.on {Q : Bool → Hp → Prop} {b : Bool} {h : Hh} (q : QB X H ι Q b h) (g : Gr X.K H H1 ι ι1) : QB X H1 ι1 Q b h := fun H' ι' g' => q H' ι' (g.trans g')
theorem QA.on {Q : List V → Hp → Prop} {ds : List D} {h : Hh} (q : QA X H ι Q ds h) (g : Gr X.K H H1 ι ι1) : QA X H1 ι1 Q ds h := fun v H' ι' g' => q v H' ι' (g.trans g')
theorem QD.on {B : Ends} (g : Gr X.K H H1 ι ι1) : (QD X W H ι B).Le (QD X W H1 ι1 B) :=
  ⟨fun _ _ q σ' H' ι' g' => q σ' H' ι' (g.trans g'), fun _ h q => QV.on (h := h) q g, fun _ _ q σ' H' ι' g' => q σ' H' ι' (g.trans g'), fun _ _ q σ' H' ι' g' => q σ' H' ι' (g.trans g'), fun _ _ _ q c d σ' H' ι' g' => q c d σ' H' ι' (g.trans g')⟩
end
end EV

namespace EV
open PySem PySem.Spec PyProof.Rows L2

section
variable {X : Cx} {W : WX}

/-! ### steps on values -/
abbrev K1 := Sl → D → Hh → PV → PX → Prop
abbrev K2 := Sl → D → D → Hh → PV → PX → Prop
def Mono1 {α : Type} (k : Sl → D → Hh → (α → Hh → Prop) → PX → Prop) : Prop := ∀ s d h (Q Q' : α → Hh → Prop) (E E' : PX), (∀ d h, Q d h → Q' d h) → (∀ x h, E x h → E' x h) → k s d h Q E → k s d h Q' E'
def Mono2 (k : K2) : Prop := ∀ s d e h (Q Q' : PV) (E E' : PX), (∀ d h, Q d h → Q' d h) → (∀ x h, E x h → E' x h) → k s d e h Q E → k s d e h Q' E'
def wUn {α : Type} (k : Sl → D → Hh → (α → Hh → Prop) → PX → Prop) (wa : WE) : Sl → Hh → (α → Hh → Prop) → PX → Prop := fun s h Q E => wa s h (fun d h1 => k s d h1 Q E) E
def wBin (k : K2) (wa wb : WE) : WE := fun s h Q E => wa s h (fun d h1 => wb s h1 (fun e h2 => k s d e h2 Q E) E) E
theorem mono_un {α : Type} {k : Sl → D → Hh → (α → Hh → Prop) → PX → Prop} {wa : WE} (ma : Mono wa) (mk : Mono1 k) : Mono (wUn k wa) := fun s h Q Q' E E' hq he w =>
  ma s h _ _ _ _ (fun d h1 q => mk s d h1 _ _ _ _ hq he q) he w
theorem mono_bin {k : K2} {wa wb : WE} (ma : Mono wa) (mb : Mono wb) (mk : Mono2 k) : Mono (wBin k wa wb) := fun s h Q Q' E E' hq he w =>
  ma s h _ _ _ _ (fun d h1 q => mb s h1 _ _ _ _ (fun e h2 q2 => mk s d e h2 _ _ _ _ hq he q2) he q) he w
/-- a step on a value, lifted -/
def Lk (X : Cx) (W : WX) (k : K1) (σ : St) (x : V) (H : Hp) (Q : VK) : Prop := ∃ ι h s d, HRel X.K H ι X.mg h ∧ SRel X.K H ι σ s ∧ RelD X.K H ι d x ∧ k s d h (QV X H ι Q) (QX X W H ι σ)
def Lk2 (X : Cx) (W : WX) (k : K2) (σ : St) (x y : V) (H : Hp) (Q : VK) : Prop := ∃ ι h s d e, HRel X.K H ι X.mg h ∧ SRel X.K H ι σ s ∧ RelD X.K H ι d x ∧ RelD X.K H ι e y ∧ k s d e h (QV X H ι Q) (QX X W H ι σ)
theorem LE.bind {k : K1} {wa : WE} (ma : Mono wa) (mk : Mono1 k) {σ : St} {H : Hp} {Q : VK} (h : LE X W (wUn k wa) σ H Q) : LE X W wa σ H (fun x H1 => Lk X W k σ x H1 Q) := by
  obtain ⟨ι, hh, s, hr, sr, w⟩ := h
  refine ⟨ι, hh, s, hr, sr, ma s hh _ _ _ _ (fun d h1 q v H1 ι1 g hr1 rd => ?_) (fun _ _ e => e) w⟩
  exact ⟨ι1, h1, s, d, hr1, sr.mono g, rd, mk s d h1 _ _ _ _ (fun d' h' q' => QV.on q' g) (fun x h' q' => QX.on q' g) q⟩
theorem LE.bind2 {k : K2} {wa wb : WE} (ma : Mono wa) (mb : Mono wb) (mk : Mono2 k) {σ : St} {H : Hp} {Q : VK} (h : LE X W (wBin k wa wb) σ H Q) :
    LE X W wa σ H (fun x H1 => LE X W wb σ H1 (fun y H2 => Lk2 X W k σ x y H2 Q)) := by
  obtain ⟨ι, hh, s, hr, sr, w⟩ := h
  refine ⟨ι, hh, s, hr, sr, ma s hh _ _ _ _ (fun d h1 q v H1 ι1 g hr1 rd => ?_) (fun _ _ e => e) w⟩
  refine ⟨ι1, h1, s, hr1, sr.mono g, mb s h1 _ _ _ _ (fun e h2 q2 u H2 ι2 g2 hr2 re => ?_) (fun x h' q' => QX.on q' g) q⟩
  exact ⟨ι2, h2, s, d, e, hr2, sr.mono (g.trans g2), rd.mono g2, re, mk s d e h2 _ _ _ _ (fun d' h' q' => QV.on q' (g.trans g2)) (fun x h' q' => QX.on q' (g.trans g2)) q2⟩

/-! ### plain functions on values -/
abbrev G1 := D → Hh → Option (D × Hh)
abbrev G2 := D → D → Hh → Option (D × Hh)
abbrev GA := List D → Hh → Option (D × Hh)
def k1 (g : G1) : K1 := fun _ d h Q _ => ∃ r h', g d h = some (r, h') ∧ Q r h'
def k2 (g : G2) : K2 := fun _ d e h Q _ => ∃ r h', g d e h = some (r, h') ∧ Q r h'
theorem mono_k1 {g : G1} : Mono1 (k1 g) := fun s d h Q Q' E E' hq _ ⟨r, h', e, q⟩ => ⟨r, h', e, hq _ _ q⟩
theorem mono_k2 {g : G2} : Mono2 (k2 g) := fun s d e h Q Q' E E' hq _ ⟨r, h', e1, q⟩ => ⟨r, h', e1, hq _ _ q⟩
/-- what a function on values must keep: any end that is wanted of its result is reached by a rule -/
def OpOk (X : Cx) (f : Value → Value → Sem Value) (g : G2) : Prop := ∀ ι h d e r h' x y H Q, HRel X.K H ι X.mg h → RelD X.K H ι d x → RelD X.K H ι e y → g d e h = some (r, h') → QV X H ι Q r h' → ∃ R, OpR X f R ∧ R x y H Q
def rOp (X : Cx) (g : G2) : R2 := fun x y H Q => ∃ ι h d e r h', HRel X.K H ι X.mg h ∧ RelD X.K H ι d x ∧ RelD X.K H ι e y ∧ g d e h = some (r, h') ∧ QV X H ι Q r h'
theorem OpOk.op {f : Value → Value → Sem Value} {g : G2} (h : OpOk X f g) : OpR X f (rOp X g) := by
  rintro pins s σ H x y v u Q I rx ry ⟨ι, hh, d, e, r, h', hr, r1, r2, eg, q⟩
  obtain ⟨R, hR, q'⟩ := h ι hh d e r h' x y H Q hr r1 r2 eg q
  exact hR pins s σ H x y v u Q I rx ry q'
theorem OpOk.lk {f : Value → Value → Sem Value} {g : G2} (h : OpOk X f g) {σ : St} {x y : V} {H : Hp} {Q : VK} (q : Lk2 X W (k2 g) σ x y H Q) : rOp X g x y H Q := by
  obtain ⟨ι, hh, s, d, e, hr, _, r1, r2, r, h', eg, q⟩ := q
  exact ⟨ι, hh, d, e, r, h', hr, r1, r2, eg, q⟩
/-- one rule or another -/
def orG (g g' : G2) : G2 := fun d e h => match g d e h with | some r => some r | none => g' d e h
theorem OpOk.or {f : Value → Value → Sem Value} {g g' : G2} (a : OpOk X f g) (b : OpOk X f g') : OpOk X f (orG g g') := by
  intro ι h d e r h' x y H Q hr r1 r2 eg q
  unfold orG at eg
  cases z : g d e h with
  | some w => rw [z] at eg; cases eg; exact a ι h d e r h' x y H Q hr r1 r2 z q
  | none => rw [z] at eg; exact b ι h d e r h' x y H Q hr r1 r2 eg q

/-! ### names and constants -/
variable {pos : Pos} {a b c : Expr} {wa wb wc : WE}
def wVar (i : Nat) : WE := fun s h Q _ => ∃ d, s[i]? = some (some d) ∧ Q d h
def wC (d : D) : WE := fun _ h Q _ => Q d h
theorem mono_var {i : Nat} : Mono (wVar i) := fun s h Q Q' E E' hq _ ⟨d, e, q⟩ => ⟨d, e, hq _ _ q⟩
theorem mono_c {d : D} : Mono (wC d) := fun s h Q Q' E E' hq _ q => hq _ _ q
theorem de_var (i : Nat) {x : Str} {pos : Pos} (hN : X.N[i]? = some x := by rfl) (hv : Vis X.env.scope x := by first | exact Or.inl rfl | exact Or.inr (Or.inl rfl) | exact Or.inr (Or.inr rfl)) (hd : (x == ("__debug__" : Str)) = false := by decide)
    (hcd : (x == ("__classdict__" : Str)) = false := by decide) : DE X W (.Name x pos) (wVar i) := by
  refine ⟨PE.imp (pe_var hN hv hd hcd) fun σ H Q h => ?_, mono_var⟩
  obtain ⟨ι, hh, s, hr, sr, d, e, q⟩ := h
  obtain ⟨v, ev, rv⟩ := sr.2 i d e
  exact ⟨v, ev, q v H ι .refl hr rv⟩
theorem de_c {e : Expr} {d : D} {v : V} (h : PE X e (tC v)) (r : ∀ H ι, RelD X.K H ι d v) : DE X W e (wC d) :=
  ⟨PE.imp h fun σ H Q ⟨ι, hh, s, hr, sr, q⟩ => q v H ι .refl hr (r H ι), mono_c⟩
theorem de_int {i j pos} : DE X W (.Constant (.int i) j pos) (wC (.int i)) := de_c pe_int fun _ _ => rfl
theorem de_bl {i j pos} : DE X W (.Constant (.bool i) j pos) (wC (.bl i)) := de_c pe_bl fun _ _ => rfl
theorem de_non {j pos} : DE X W (.Constant .none j pos) (wC .non) := de_c pe_non fun _ _ => rfl
theorem de_str {x j pos} : DE X W (.Constant (.str x) j pos) (wC (.str x)) := de_c pe_str fun _ _ => rfl

/-! ### argument lists, displays -/
def wNil : WA := fun _ h Q _ => Q [] h
def wCons (we : WE) (wr : WA) : WA := fun s h Q E => we s h (fun d h1 => wr s h1 (fun ds h2 => Q (d :: ds) h2) E) E
theorem mono_nil : Mono wNil := fun s h Q Q' E E' hq _ q => hq _ _ q
theorem mono_cons {we : WE} {wr : WA} (me : Mono we) (mr : Mono wr) : Mono (wCons we wr) := fun s h Q Q' E E' hq he w =>
  me s h _ _ _ _ (fun d h1 q => mr s h1 _ _ _ _ (fun ds h2 q2 => hq _ _ q2) he q) he w
theorem da_nil : DA X W [] wNil := ⟨PA.imp pa_nil fun σ H Q ⟨ι, hh, s, hr, sr, q⟩ => q [] H ι .refl hr rfl, mono_nil⟩
theorem da_cons {e : Expr} {es : List Expr} {we : WE} {wr : WA} (he : DE X W e we) (hr : DA X W es wr) (hs : starEach (e :: es) X.env = (false, eval e X.env) :: starEach es X.env := by rfl) : DA X W (e :: es) (wCons we wr) := by
  refine ⟨PA.imp (pa_cons he.pe hr.pa hs) fun σ H Q h => ?_, mono_cons he.mono hr.mono⟩
  obtain ⟨ι, hh, s, hr0, sr, w⟩ := h
  refine ⟨ι, hh, s, hr0, sr, he.mono s hh _ _ _ _ (fun d h1 q v H1 ι1 g hr1 rd => ?_) (fun _ _ e => e) w⟩
  refine ⟨ι1, h1, s, hr1, sr.mono g, hr.mono s h1 _ _ _ _ (fun ds h2 q2 vs H2 ι2 g2 hr2 rs => ?_) (fun x h' q' => QX.on q' g) q⟩
  exact q2 (v :: vs) H2 ι2 (g.trans g2) hr2 ⟨v, vs, rfl, rd.mono g2, rs⟩
def wTup (wa : WA) : WE := fun s h Q E => wa s h (fun ds h1 => ds.length ≤ sizeLine ∧ Q (.tup ds) h1) E
def wLst (wa : WA) : WE := fun s h Q E => wa s h (fun ds h1 => ds.length ≤ sizeLine ∧ Q (.ref h1.length) (h1 ++ [.lst ds])) E
theorem mono_tup {w : WA} (m : Mono w) : Mono (wTup w) := fun s h Q Q' E E' hq he w => m s h _ _ _ _ (fun d h1 ⟨z, q⟩ => ⟨z, hq _ _ q⟩) he w
theorem mono_lst {w : WA} (m : Mono w) : Mono (wLst w) := fun s h Q Q' E E' hq he w => m s h _ _ _ _ (fun d h1 ⟨z, q⟩ => ⟨z, hq _ _ q⟩) he w
/-- a new tuple is the data -/
theorem tup_new {H : Hp} {ι : List Addr} {h : Hh} {ds : List D} {vs : List V} {Q : VK} (hr : HRel X.K H ι X.mg h) (rs : RelDs X.K H ι ds vs) (q : QV X H ι Q (.tup ds) h) (p : Addr) (hp : H p = none) : Q (.ref p) (upd H p (.tup vs)) := by
  have g : Gr X.K H (upd H p (.tup vs)) ι ι := Gr.fresh hp ι (List.prefix_refl _)
  exact q _ _ ι g (hr.fresh hp) ⟨p, vs, rfl, SqT.of upd_same, rs.mono g⟩
theorem lst_new {H : Hp} {ι : List Addr} {h : Hh} {ds : List D} {vs : List V} {Q : VK} (hr : HRel X.K H ι X.mg h) (rs : RelDs X.K H ι ds vs) (q : QV X H ι Q (.ref h.length) (h ++ [.lst ds])) (p : Addr) (hp : H p = none) : Q (.ref p) (upd H p (.lst vs)) := by
  have g : Gr X.K H (upd H p (.lst vs)) ι (ι ++ [p]) := Gr.fresh hp _ (List.prefix_append _ _)
  refine q _ _ (ι ++ [p]) g (hr.push hp ⟨vs, upd_same, rs.mono g⟩) ⟨p, ?_, rfl⟩
  rw [← hr.len, List.getElem?_append_right (Nat.le_refl _), Nat.sub_self]
  rfl
theorem de_tup {es : List Expr} {k : Nat} {w : WA} (h : DA X W es w) : DE X W (.Tuple es k pos) (wTup w) := by
  refine ⟨PE.imp (pe_tup h.pa) fun σ H Q ⟨ι, hh, s, hr, sr, q⟩ => ?_, mono_tup h.mono⟩
  refine ⟨ι, hh, s, hr, sr, h.mono s hh _ _ _ _ (fun ds h1 ⟨z, q⟩ vs H1 ι1 g hr1 rs => ⟨by rw [rs.length]; exact z, ?_⟩) (fun _ _ e => e) q⟩
  exact tup_new hr1 rs (QV.on q g)
theorem de_lst {es : List Expr} {w : WA} (h : DA X W es w) : DE X W (.List es pos) (wLst w) := by
  refine ⟨PE.imp (pe_lst h.pa) fun σ H Q ⟨ι, hh, s, hr, sr, q⟩ => ?_, mono_lst h.mono⟩
  refine ⟨ι, hh, s, hr, sr, h.mono s hh _ _ _ _ (fun ds h1 ⟨z, q⟩ vs H1 ι1 g hr1 rs => ⟨by rw [rs.length]; exact z, ?_⟩) (fun _ _ e => e) q⟩
  exact lst_new hr1 rs (QV.on q g)

/-! ### operators -/
def wOp (g : G2) (wa wb : WE) : WE := wBin (k2 g) wa wb
theorem mono_op {g : G2} (ma : Mono wa) (mb : Mono wb) : Mono (wOp g wa wb) := mono_bin ma mb mono_k2
theorem LE.op {g : G2} {f : Value → Value → Sem Value} (o : OpOk X f g) (ma : Mono wa) (mb : Mono wb) {σ : St} {H : Hp} {Q : VK} (h : LE X W (wOp g wa wb) σ H Q) : tOp (rOp X g) (LE X W wa) (LE X W wb) σ H Q := by
  obtain ⟨ι, hh, s, hr, sr, w⟩ := LE.bind2 ma mb mono_k2 h
  refine ⟨ι, hh, s, hr, sr, ma s hh _ _ _ _ (fun d h1 q v H1 ι1 g hr1 rd => ?_) (fun _ _ e => e) w⟩
  obtain ⟨ι', hh', s', hr', sr', w'⟩ := q v H1 ι1 g hr1 rd
  exact ⟨ι', hh', s', hr', sr', mb s' hh' _ _ _ _ (fun d2 h2 q2 v2 H2 ι2 g2 hr2 rd2 => o.lk (q2 v2 H2 ι2 g2 hr2 rd2)) (fun _ _ e => e) w'⟩
theorem de_op {op : Operator} {g : G2} (o : OpOk X (binaryOp op) g) (ha : DE X W a wa) (hb : DE X W b wb) : DE X W (.BinOp a op b pos) (wOp g wa wb) :=
  ⟨PE.imp (pe_op o.op ha.pe hb.pe) fun σ H Q h => h.op o ha.mono hb.mono, mono_op ha.mono hb.mono⟩
theorem de_cmp {op : CmpOp} {g : G2} (o : OpOk X (compareOp op) g) (ha : DE X W a wa) (hb : DE X W b wb) (hm : behindInMarks op b = false := by first | exact nomark _ | rfl | with_unfolding_all rfl) : DE X W (.Compare a [op] [b] pos) (wOp g wa wb) :=
  ⟨PE.imp (pe_cmpR o.op ha.pe hb.pe hm) fun σ H Q h => h.op o ha.mono hb.mono, mono_op ha.mono hb.mono⟩
/-- a value that is a bool, as a test -/
def kB : Sl → D → Hh → (Bool → Hh → Prop) → PX → Prop := fun _ d h Q _ => ∃ k, d = .bl k ∧ Q k h
def wB (w : WE) : WT := wUn kB w
theorem mono_kB : Mono1 kB := fun s d h Q Q' E E' hq _ ⟨k, e, q⟩ => ⟨k, e, hq _ _ q⟩
theorem mono_b {w : WE} (m : Mono w) : Mono (wB w) := mono_un m mono_kB
theorem LT.bool {w : WE} (m : Mono w) {σ : St} {H : Hp} {Q : Bool → Hp → Prop} (h : LT X W (wB w) σ H Q) : LE X W w σ H fun x H' => ∃ k, x = .bl k ∧ Q k H' := by
  obtain ⟨ι, hh, s, hr, sr, q⟩ := h
  refine ⟨ι, hh, s, hr, sr, m s hh _ _ _ _ (fun d h1 ⟨k, ed, q⟩ v H1 ι1 g hr1 rd => ?_) (fun _ _ e => e) q⟩
  subst ed
  exact ⟨k, rd, q H1 ι1 g hr1⟩
theorem tTest_mono {t t' : TE} {σ : St} {H : Hp} {Q : Bool → Hp → Prop} (h : ∀ Q, t' σ H Q → t σ H Q) (q : tTest t' σ H Q) : tTest t σ H Q := h _ q
theorem dt_cmp {op : CmpOp} {g : G2} (o : OpOk X (compareOp op) g) (ha : DE X W a wa) (hb : DE X W b wb) (hm : behindInMarks op b = false := by first | exact nomark _ | rfl | with_unfolding_all rfl) : DT X W (.Compare a [op] [b] pos) (wB (wOp g wa wb)) :=
  ⟨PT.imp (pt_cmpR o.op ha.pe hb.pe hm) fun σ H Q h => tTest_mono (t' := LE X W (wOp g wa wb)) (fun Q h => h.op o ha.mono hb.mono) (LT.bool (mono_op ha.mono hb.mono) h), mono_b (mono_op ha.mono hb.mono)⟩
/-- any value as a test -/
def lsOf (h : Hh) (n : Nat) : Option (List D) := match h[n]? with | some (.lst ds) => some ds | some (.rol ds) => some ds | _ => none
def truD : D → Hh → Option Bool
  | .non, _ => some false
  | .bl b, _ => some b
  | .int i, _ => some (i != 0)
  | .str x, _ => if x.length ≤ sizeLine then some ((x.length : Int) != 0) else none
  | .tup ds, _ => some (!ds.isEmpty)
  | .ref n, h => match h[n]? with
    | some (.lst ds) => some (!ds.isEmpty)
    | some (.rol ds) => some (!ds.isEmpty)
    | some (.dic ds) => some (!ds.isEmpty)
    | _ => none
  | _, _ => none
def kTru : Sl → D → Hh → (Bool → Hh → Prop) → PX → Prop := fun _ d h Q _ => ∃ k, truD d h = some k ∧ Q k h
def wTru (w : WE) : WT := wUn kTru w
theorem mono_kTru : Mono1 kTru := fun s d h Q Q' E E' hq _ ⟨k, e, q⟩ => ⟨k, e, hq _ _ q⟩
theorem mono_tru {w : WE} (m : Mono w) : Mono (wTru w) := mono_un m mono_kTru
theorem RelDs.isEmpty {K : PySem.W.Frag} {H : Hp} {ι : List Addr} {ds : List D} {vs : List V} (r : RelDs K H ι ds vs) : vs.isEmpty = ds.isEmpty := by
  cases ds with
  | nil => rw [show vs = [] from r]; rfl
  | cons d ds => obtain ⟨v, u, rfl, _⟩ := r; rfl
theorem RelKs.isEmpty {κ : Type} {K : PySem.W.Frag} {H : Hp} {ι : List Addr} {ds : List (κ × D)} {vs : List (κ × V)} (r : RelKs K H ι ds vs) : vs.isEmpty = ds.isEmpty := by
  cases ds with
  | nil => rw [show vs = [] from r]; rfl
  | cons d ds => obtain ⟨v, u, rfl, _⟩ := r; rfl
theorem truV_of {H : Hp} {ι : List Addr} {h : Hh} {d : D} {x : V} {k : Bool} (hr : HRel X.K H ι X.mg h) (rd : RelD X.K H ι d x) (e : truD d h = some k) : TruV X.K x H k := by
  cases d with
  | non => cases rd; exact (Option.some.inj e).symm
  | bl b => cases rd; exact (Option.some.inj e).symm
  | int i => cases rd; exact (Option.some.inj e).symm
  | str z =>
    cases rd
    simp only [truD] at e
    split at e
    · rename_i hz; exact ⟨hz, (Option.some.inj e).symm⟩
    · cases e
  | tup ds =>
    obtain ⟨a, vs, rfl, q, r⟩ := rd
    refine .inr (.inl ⟨vs, q, ?_⟩)
    rw [r.isEmpty]; exact (Option.some.inj e).symm
  | ref n =>
    obtain ⟨a, ea, rfl⟩ := rd
    simp only [truD] at e
    cases z : h[n]? with
    | none => rw [z] at e; cases e
    | some o =>
      have ro := hr.obj n o a z ea
      rw [z] at e
      cases o with
      | lst ds => obtain ⟨vs, q, r⟩ := ro; exact .inl ⟨vs, SqL.of q, by rw [r.isEmpty]; exact (Option.some.inj e).symm⟩
      | rol ds => obtain ⟨vs, q, r⟩ := ro; exact .inl ⟨vs, q.sq, by rw [r.isEmpty]; exact (Option.some.inj e).symm⟩
      | dic ds => obtain ⟨vs, q, r⟩ := ro; exact .inr (.inr ⟨vs, q, by rw [r.isEmpty]; exact (Option.some.inj e).symm⟩)
      | lck ds => cases e
      | ins C fs => cases e
      | exo C d => cases e
      | exd fs => cases e
  | opq v => cases e
theorem dt_tru {w : WE} (h : DE X W a w) (he : ∀ whole, isTrue a X.env whole = (do let v ← whole; standAt a.pos; holding [v] (truthy v)) := by intro _; rfl) : DT X W a (wTru w) := by
  refine ⟨PT.imp (pt_truth h.pe he) fun σ H Q ⟨ι, hh, s, hr, sr, q⟩ => ?_, mono_tru h.mono⟩
  refine ⟨ι, hh, s, hr, sr, h.mono s hh _ _ _ _ (fun d h1 ⟨k, ed, q⟩ v H1 ι1 g hr1 rd => ?_) (fun _ _ e => e) q⟩
  exact ⟨k, truV_of hr1 rd ed, q H1 ι1 g hr1⟩

/-! ### and, or, not, if -/
variable {wt wu : WT} {rest : List Expr}
def wAnd (wt wu : WT) : WT := fun s h Q E => wt s h (fun c h1 => if c = true then wu s h1 Q E else Q false h1) E
def wOr (wt wu : WT) : WT := fun s h Q E => wt s h (fun c h1 => if c = true then Q true h1 else wu s h1 Q E) E
def wNot (wt : WT) : WT := fun s h Q E => wt s h (fun c h1 => Q (!c) h1) E
theorem mono_and (m : Mono wt) (n : Mono wu) : Mono (wAnd wt wu) := fun s h Q Q' E E' hq he w => m s h _ _ _ _ (fun c h1 q => by
  cases c with
  | true => exact n s h1 _ _ _ _ hq he q
  | false => exact hq _ _ q) he w
theorem mono_or (m : Mono wt) (n : Mono wu) : Mono (wOr wt wu) := fun s h Q Q' E E' hq he w => m s h _ _ _ _ (fun c h1 q => by
  cases c with
  | false => exact n s h1 _ _ _ _ hq he q
  | true => exact hq _ _ q) he w
theorem mono_not (m : Mono wt) : Mono (wNot wt) := fun s h Q Q' E E' hq he w => m s h _ _ _ _ (fun c h1 q => hq _ _ q) he w
/-- a test whatever its whole is -/
structure DW (X : Cx) (W : WX) (e : Expr) (w : WT) : Prop where
  pw : PW X e (LT X W w)
  mono : Mono w
theorem DW.dt {e : Expr} {w : WT} (h : DW X W e w) : DT X W e w := ⟨h.pw.pt, h.mono⟩
theorem PW.imp {e : Expr} {t t' : TT} (h : PW X e t) (i : ∀ σ H Q, t' σ H Q → t σ H Q) : PW X e t' := ⟨fun wh pins s σ H Q I q => h.run wh pins s σ H Q I (i σ H Q q)⟩
theorem dw_and1 (h : DT X W a wt) : DW X W (.BoolOp .And [a] pos) wt := ⟨pw_and1 h.pt, h.mono⟩
theorem dw_or1 (h : DT X W a wt) : DW X W (.BoolOp .Or [a] pos) wt := ⟨pw_or1 h.pt, h.mono⟩
theorem dw_and (ha : DT X W a wt) (hb : DW X W (.BoolOp .And (b :: rest) pos) wu) : DW X W (.BoolOp .And (a :: b :: rest) pos) (wAnd wt wu) := by
  refine ⟨PW.imp (pw_and ha.pt hb.pw) fun σ H Q ⟨ι, hh, s, hr, sr, q⟩ => ?_, mono_and ha.mono hb.mono⟩
  refine ⟨ι, hh, s, hr, sr, ha.mono s hh _ _ _ _ (fun c h1 q H1 ι1 g hr1 => ?_) (fun _ _ e => e) q⟩
  cases c with
  | true => exact ⟨ι1, h1, s, hr1, sr.mono g, hb.mono s h1 _ _ _ _ (fun b' h' q' => QB.on q' g) (fun x h' q' => QX.on q' g) q⟩
  | false => exact q H1 ι1 g hr1
theorem dw_or (ha : DT X W a wt) (hb : DW X W (.BoolOp .Or (b :: rest) pos) wu) : DW X W (.BoolOp .Or (a :: b :: rest) pos) (wOr wt wu) := by
  refine ⟨PW.imp (pw_or ha.pt hb.pw) fun σ H Q ⟨ι, hh, s, hr, sr, q⟩ => ?_, mono_or ha.mono hb.mono⟩
  refine ⟨ι, hh, s, hr, sr, ha.mono s hh _ _ _ _ (fun c h1 q H1 ι1 g hr1 => ?_) (fun _ _ e => e) q⟩
  cases c with
  | false => exact ⟨ι1, h1, s, hr1, sr.mono g, hb.mono s h1 _ _ _ _ (fun b' h' q' => QB.on q' g) (fun x h' q' => QX.on q' g) q⟩
  | true => exact q H1 ι1 g hr1
theorem dt_not (ha : DT X W a wt) : DT X W (.UnaryOp .Not a pos) (wNot wt) := by
  refine ⟨PT.imp (pt_not ha.pt) fun σ H Q ⟨ι, hh, s, hr, sr, q⟩ => ?_, mono_not ha.mono⟩
  exact ⟨ι, hh, s, hr, sr, ha.mono s hh _ _ _ _ (fun c h1 q H1 ι1 g hr1 => q H1 ι1 g hr1) (fun _ _ e => e) q⟩
/-- .. as values, bools -/
def wAndV (wa wb : WE) : WE := fun s h Q E => wa s h (fun d h1 => ∃ c, d = .bl c ∧ if c = true then wb s h1 Q E else Q (.bl false) h1) E
def wOrV (wa wb : WE) : WE := fun s h Q E => wa s h (fun d h1 => ∃ c, d = .bl c ∧ if c = true then Q (.bl true) h1 else wb s h1 Q E) E
def wNotV (wa : WE) : WE := fun s h Q E => wa s h (fun d h1 => ∃ c, d = .bl c ∧ Q (.bl (!c)) h1) E
theorem mono_andV (m : Mono wa) (n : Mono wb) : Mono (wAndV wa wb) := fun s h Q Q' E E' hq he w => m s h _ _ _ _ (fun d h1 ⟨c, e, q⟩ => ⟨c, e, by
  cases c with
  | true => exact n s h1 _ _ _ _ hq he q
  | false => exact hq _ _ q⟩) he w
theorem mono_orV (m : Mono wa) (n : Mono wb) : Mono (wOrV wa wb) := fun s h Q Q' E E' hq he w => m s h _ _ _ _ (fun d h1 ⟨c, e, q⟩ => ⟨c, e, by
  cases c with
  | false => exact n s h1 _ _ _ _ hq he q
  | true => exact hq _ _ q⟩) he w
theorem mono_notV (m : Mono wa) : Mono (wNotV wa) := fun s h Q Q' E E' hq he w => m s h _ _ _ _ (fun d h1 ⟨c, e, q⟩ => ⟨c, e, hq _ _ q⟩) he w
theorem de_one {op} (h : DE X W a wa) : DE X W (.BoolOp op [a] pos) wa := ⟨pe_one h.pe, h.mono⟩
theorem de_and (ha : DE X W a wa) (hb : DE X W (.BoolOp .And (b :: rest) pos) wb) : DE X W (.BoolOp .And (a :: b :: rest) pos) (wAndV wa wb) := by
  refine ⟨PE.imp (pe_and ha.pe hb.pe) fun σ H Q ⟨ι, hh, s, hr, sr, q⟩ => ?_, mono_andV ha.mono hb.mono⟩
  refine ⟨ι, hh, s, hr, sr, ha.mono s hh _ _ _ _ (fun d h1 ⟨c, ed, q⟩ v H1 ι1 g hr1 rd => ?_) (fun _ _ e => e) q⟩
  subst ed
  refine ⟨c, rd, ?_⟩
  cases c with
  | true => exact ⟨ι1, h1, s, hr1, sr.mono g, hb.mono s h1 _ _ _ _ (fun b' h' q' => QV.on q' g) (fun x h' q' => QX.on q' g) q⟩
  | false => exact q _ H1 ι1 g hr1 rfl
theorem de_or (ha : DE X W a wa) (hb : DE X W (.BoolOp .Or (b :: rest) pos) wb) : DE X W (.BoolOp .Or (a :: b :: rest) pos) (wOrV wa wb) := by
  refine ⟨PE.imp (pe_or ha.pe hb.pe) fun σ H Q ⟨ι, hh, s, hr, sr, q⟩ => ?_, mono_orV ha.mono hb.mono⟩
  refine ⟨ι, hh, s, hr, sr, ha.mono s hh _ _ _ _ (fun d h1 ⟨c, ed, q⟩ v H1 ι1 g hr1 rd => ?_) (fun _ _ e => e) q⟩
  subst ed
  refine ⟨c, rd, ?_⟩
  cases c with
  | false => exact ⟨ι1, h1, s, hr1, sr.mono g, hb.mono s h1 _ _ _ _ (fun b' h' q' => QV.on q' g) (fun x h' q' => QX.on q' g) q⟩
  | true => exact q _ H1 ι1 g hr1 rfl
theorem de_not (ha : DE X W a wa) : DE X W (.UnaryOp .Not a pos) (wNotV wa) := by
  refine ⟨PE.imp (pe_not ha.pe) fun σ H Q ⟨ι, hh, s, hr, sr, q⟩ => ?_, mono_notV ha.mono⟩
  refine ⟨ι, hh, s, hr, sr, ha.mono s hh _ _ _ _ (fun d h1 ⟨c, ed, q⟩ v H1 ι1 g hr1 rd => ?_) (fun _ _ e => e) q⟩
  subst ed
  exact ⟨c, rd, q _ H1 ι1 g hr1 rfl⟩
def wIfE (wt : WT) (wa wb : WE) : WE := fun s h Q E => wt s h (fun c h1 => if c = true then wa s h1 Q E else wb s h1 Q E) E
theorem mono_ifE (m : Mono wt) (ma : Mono wa) (mb : Mono wb) : Mono (wIfE wt wa wb) := fun s h Q Q' E E' hq he w => m s h _ _ _ _ (fun c h1 q => by
  cases c with
  | true => exact ma s h1 _ _ _ _ hq he q
  | false => exact mb s h1 _ _ _ _ hq he q) he w
theorem de_ifE (hc : DT X W c wt) (ha : DE X W a wa) (hb : DE X W b wb) : DE X W (.IfExp c a b pos) (wIfE wt wa wb) := by
  refine ⟨PE.imp (pe_ifExp hc.pt ha.pe hb.pe) fun σ H Q ⟨ι, hh, s, hr, sr, q⟩ => ?_, mono_ifE hc.mono ha.mono hb.mono⟩
  refine ⟨ι, hh, s, hr, sr, hc.mono s hh _ _ _ _ (fun c h1 q H1 ι1 g hr1 => ?_) (fun _ _ e => e) q⟩
  cases c with
  | true => exact ⟨ι1, h1, s, hr1, sr.mono g, ha.mono s h1 _ _ _ _ (fun b' h' q' => QV.on q' g) (fun x h' q' => QX.on q' g) q⟩
  | false => exact ⟨ι1, h1, s, hr1, sr.mono g, hb.mono s h1 _ _ _ _ (fun b' h' q' => QV.on q' g) (fun x h' q' => QX.on q' g) q⟩
/-- a < b < c -/
def wChain (g g' : G2) (wa wb wc : WE) : WE := fun s h Q E => wa s h (fun x h1 => wb s h1 (fun y h2 => ∃ r h3, g x y h2 = some (r, h3) ∧ ∃ k, r = .bl k ∧ if k = true then wc s h3 (fun z h4 => ∃ r' h5, g' y z h4 = some (r', h5) ∧ Q r' h5) E else Q (.bl false) h3) E) E
theorem mono_chain {g g' : G2} (ma : Mono wa) (mb : Mono wb) (mc : Mono wc) : Mono (wChain g g' wa wb wc) := fun s h Q Q' E E' hq he w =>
  ma s h _ _ _ _ (fun x h1 q => mb s h1 _ _ _ _ (fun y h2 ⟨r, h3, e, k, ek, q⟩ => ⟨r, h3, e, k, ek, by
    cases k with
    | true => exact mc s h3 _ _ _ _ (fun z h4 ⟨r', h5, e', q'⟩ => ⟨r', h5, e', hq _ _ q'⟩) he q
    | false => exact hq _ _ q⟩) he q) he w
theorem LE.chain {g g' : G2} {f f' : Value → Value → Sem Value} (o : OpOk X f g) (o' : OpOk X f' g') (ma : Mono wa) (mb : Mono wb) (mc : Mono wc) {σ : St} {H : Hp} {Q : VK} (h : LE X W (wChain g g' wa wb wc) σ H Q) :
    tChain (rOp X g) (rOp X g') (LE X W wa) (LE X W wb) (LE X W wc) σ H Q := by
  obtain ⟨ι, hh, s, hr, sr, w⟩ := h
  refine ⟨ι, hh, s, hr, sr, ma s hh _ _ _ _ (fun d h1 q v H1 ι1 g1 hr1 rd => ?_) (fun _ _ e => e) w⟩
  refine ⟨ι1, h1, s, hr1, sr.mono g1, mb s h1 _ _ _ _ (fun e h2 q2 u H2 ι2 g2 hr2 re => ?_) (fun x h' q' => QX.on q' g1) q⟩
  obtain ⟨r, h3, eg, k, rfl, q⟩ := q2
  refine ⟨ι2, h2, d, e, _, h3, hr2, rd.mono g2, re, eg, fun z H3 ι3 g3 hr3 rz => ⟨k, rz, ?_⟩⟩
  have gg := (g1.trans g2).trans g3
  cases k with
  | true =>
    refine ⟨ι3, h3, s, hr3, sr.mono gg, mc s h3 _ _ _ _ (fun c h4 ⟨r', h5, e', q'⟩ u' H4 ι4 g4 hr4 rc => ?_) (fun x h' q' => QX.on q' gg) q⟩
    exact ⟨ι4, h4, e, c, r', h5, hr4, re.mono (g3.trans g4), rc, e', QV.on q' (gg.trans g4)⟩
  | false => exact q _ H3 ι3 gg hr3 rfl
theorem de_chain {op op' : CmpOp} {g g' : G2} (o : OpOk X (compareOp op) g) (o' : OpOk X (compareOp op') g') (ha : DE X W a wa) (hb : DE X W b wb) (hc : DE X W c wc) (hm : lastMarks [op, op'] [b, c] = false := by with_unfolding_all rfl) :
    DE X W (.Compare a [op, op'] [b, c] pos) (wChain g g' wa wb wc) :=
  ⟨PE.imp (pe_chain o.op o'.op ha.pe hb.pe hc.pe hm) fun σ H Q h => h.chain o o' ha.mono hb.mono hc.mono, mono_chain ha.mono hb.mono hc.mono⟩
theorem dt_chain {op op' : CmpOp} {g g' : G2} (o : OpOk X (compareOp op) g) (o' : OpOk X (compareOp op') g') (ha : DE X W a wa) (hb : DE X W b wb) (hc : DE X W c wc) (hm : lastMarks [op, op'] [b, c] = false := by with_unfolding_all rfl) :
    DT X W (.Compare a [op, op'] [b, c] pos) (wB (wChain g g' wa wb wc)) :=
  ⟨PT.imp (pt_chain o.op o'.op ha.pe hb.pe hc.pe hm) fun σ H Q h => tTest_mono (t' := LE X W (wChain g g' wa wb wc)) (fun Q h => h.chain o o' ha.mono hb.mono hc.mono) (LT.bool (mono_chain ha.mono hb.mono hc.mono) h),
    mono_b (mono_chain ha.mono hb.mono hc.mono)⟩
end
end EV

namespace EV
open PySem PySem.Spec PyProof.Rows L2

section
variable {X : Cx} {W : WX}
theorem qv_same {H : Hp} {ι : List Addr} {h : Hh} {Q : VK} {d : D} {v : V} (hr : HRel X.K H ι X.mg h) (q : QV X H ι Q d h) (r : RelD X.K H ι d v) : Q v H := q v H ι .refl hr r
/-- lists and tuples that are read -/
theorem ls_sq {H : Hp} {ι : List Addr} {h : Hh} {n : Nat} {ds : List D} {a : Addr} (hr : HRel X.K H ι X.mg h) (e : lsOf h n = some ds) (ea : ι[n]? = some a) : ∃ vs, SqL X.K H a vs ∧ RelDs X.K H ι ds vs := by
  unfold lsOf at e
  cases z : h[n]? with
  | none => rw [z] at e; cases e
  | some o =>
    rw [z] at e
    have ro := hr.obj n o a z ea
    cases o with
    | lst xs => cases e; obtain ⟨vs, q, r⟩ := ro; exact ⟨vs, SqL.of q, r⟩
    | rol xs => cases e; obtain ⟨vs, q, r⟩ := ro; exact ⟨vs, q.sq, r⟩
    | dic _ => cases e
    | lck _ => cases e
    | ins _ _ => cases e
    | exo _ _ => cases e
    | exd _ => cases e

/-! ### arithmetic -/
def gAdd : G2
  | .int i, .int j, h => some (.int (i + j), h)
  | .str x, .str y, h => if x.length + y.length ≤ sizeLine then some (.str (x ++ y), h) else none
  | .tup a, .tup b, h => if a.length + b.length ≤ sizeLine then some (.tup (a ++ b), h) else none
  | .ref m, .ref n, h => match h[m]?, h[n]? with
    | some (.lst a), some (.lst b) => if a.length + b.length ≤ sizeLine then some (.ref h.length, h ++ [.lst (a ++ b)]) else none
    | _, _ => none
  | _, _, _ => none
theorem ok_add : OpOk X (binaryOp .Add) gAdd := by
  intro ι h d e r h' x y H Q hr r1 r2 eg q
  cases d <;> cases e <;> first
    | (exfalso; simp [gAdd] at eg; done)
    | skip
  · rename_i i j
    cases r1; cases r2
    simp only [gAdd, Option.some.injEq, Prod.mk.injEq] at eg
    obtain ⟨rfl, rfl⟩ := eg
    exact ⟨_, op_add, i, j, rfl, rfl, qv_same hr q rfl⟩
  · rename_i i j
    cases r1; cases r2
    simp only [gAdd] at eg
    split at eg
    · rename_i hz
      simp only [Option.some.injEq, Prod.mk.injEq] at eg
      obtain ⟨rfl, rfl⟩ := eg
      exact ⟨_, op_add_str, i, j, rfl, rfl, hz, qv_same hr q rfl⟩
    · cases eg
  · rename_i as bs
    obtain ⟨p, vs, rfl, q1, s1⟩ := r1
    obtain ⟨p', us, rfl, q2, s2⟩ := r2
    simp only [gAdd] at eg
    split at eg
    · rename_i hz
      simp only [Option.some.injEq, Prod.mk.injEq] at eg
      obtain ⟨rfl, rfl⟩ := eg
      refine ⟨_, op_catA, p, p', vs, us, rfl, rfl, q1, q2, by rw [s1.length, s2.length]; exact hz, fun ev => ?_, fun _ eu => ?_, fun _ _ => tup_new hr (s1.append s2) q⟩
      · subst ev
        have : as = [] := List.eq_nil_of_length_eq_zero (by rw [← s1.length]; rfl)
        subst this
        exact qv_same hr q ⟨p', us, rfl, q2, s2⟩
      · subst eu
        have : bs = [] := List.eq_nil_of_length_eq_zero (by rw [← s2.length]; rfl)
        subst this
        exact qv_same hr q ⟨p, vs, rfl, q1, by rw [List.append_nil]; exact s1⟩
    · cases eg
  · rename_i m n
    obtain ⟨p, ep, rfl⟩ := r1
    obtain ⟨p', ep', rfl⟩ := r2
    simp only [gAdd] at eg
    split at eg
    · rename_i as bs z1 z2
      split at eg
      · rename_i hz
        simp only [Option.some.injEq, Prod.mk.injEq] at eg
        obtain ⟨rfl, rfl⟩ := eg
        obtain ⟨vs, q1, s1⟩ := hr.obj _ _ _ z1 ep
        obtain ⟨us, q2, s2⟩ := hr.obj _ _ _ z2 ep'
        exact ⟨_, op_cat, p, p', vs, us, rfl, rfl, q1, q2, by rw [s1.length, s2.length]; exact hz, lst_new hr (s1.append s2) q⟩
      · cases eg
    · cases eg
/-- two ints -/
def gI (c : Int → Int → Bool) (f : Int → Int → D) : G2
  | .int i, .int j, h => if c i j then some (f i j, h) else none
  | _, _, _ => none
theorem ok_int {f : Value → Value → Sem Value} {C : Int → Int → Prop} {c : Int → Int → Bool} {g : Int → Int → V} {g' : Int → Int → D} (o : OpR X f (rI C g)) (hc : ∀ i j, c i j = true → C i j) (hg : ∀ H ι i j, RelD X.K H ι (g' i j) (g i j)) : OpOk X f (gI c g') := by
  intro ι h d e r h' x y H Q hr r1 r2 eg q
  cases d <;> cases e <;> first
    | (exfalso; simp [gI] at eg; done)
    | skip
  rename_i i j
  cases r1; cases r2
  simp only [gI] at eg
  split at eg
  · rename_i hz
    simp only [Option.some.injEq, Prod.mk.injEq] at eg
    obtain ⟨rfl, rfl⟩ := eg
    exact ⟨_, o, i, j, rfl, rfl, hc i j hz, qv_same hr q (hg _ _ _ _)⟩
  · cases eg
theorem ok_int0 {f : Value → Value → Sem Value} {g : Int → Int → V} {g' : Int → Int → D} (o : OpR X f (rI0 g)) (hg : ∀ H ι i j, RelD X.K H ι (g' i j) (g i j)) : OpOk X f (gI (fun _ _ => true) g') := by
  intro ι h d e r h' x y H Q hr r1 r2 eg q
  cases d <;> cases e <;> first
    | (exfalso; simp [gI] at eg; done)
    | skip
  rename_i i j
  cases r1; cases r2
  simp only [gI, if_true, Option.some.injEq, Prod.mk.injEq] at eg
  obtain ⟨rfl, rfl⟩ := eg
  exact ⟨_, o, i, j, rfl, rfl, qv_same hr q (hg _ _ _ _)⟩
def gSub : G2 := gI (fun _ _ => true) fun i j => .int (i - j)
theorem ok_sub : OpOk X (binaryOp .Sub) gSub := ok_int0 op_sub fun _ _ _ _ => rfl
def mulC (i j : Int) : Bool := decide (-(2 ^ 64) < i ∧ i < 2 ^ 64) || decide (-(2 ^ 64) < j ∧ j < 2 ^ 64)
def gMulI : G2 := gI mulC fun i j => .int (i * j)
theorem ok_mulI : OpOk X (binaryOp .Mult) gMulI := ok_int op_mul (fun i j h => by
  unfold mulC at h
  rcases Bool.or_eq_true_iff.mp h with h | h
  · exact .inl (of_decide_eq_true h)
  · exact .inr (of_decide_eq_true h)) fun _ _ _ _ => rfl
def gMulL : G2
  | .ref m, .int k, h => match h[m]? with
    | some (.lst a) => if decide (-(2 ^ 63) ≤ k ∧ k < 2 ^ 63) && decide (a.length * k.toNat ≤ sizeLine) then some (.ref h.length, h ++ [.lst (List.replicate k.toNat a).flatten]) else none
    | _ => none
  | _, _, _ => none
theorem RelDs.rep {K : PySem.W.Frag} {H : Hp} {ι : List Addr} {ds : List D} {vs : List V} (r : RelDs K H ι ds vs) : ∀ n : Nat, RelDs K H ι (List.replicate n ds).flatten (List.replicate n vs).flatten
  | 0 => rfl
  | n + 1 => by
    rw [List.replicate_succ, List.replicate_succ, List.flatten_cons, List.flatten_cons]
    exact r.append (r.rep n)
theorem ok_mulL : OpOk X (binaryOp .Mult) gMulL := by
  intro ι h d e r h' x y H Q hr r1 r2 eg q
  cases d <;> cases e <;> first
    | (exfalso; simp [gMulL] at eg; done)
    | skip
  rename_i m k
  obtain ⟨p, ep, rfl⟩ := r1
  cases r2
  simp only [gMulL] at eg
  split at eg
  · rename_i as z1
    split at eg
    · rename_i hz
      obtain ⟨h1, h2⟩ := Bool.and_eq_true_iff.mp hz
      have h1 := of_decide_eq_true h1
      simp only [Option.some.injEq, Prod.mk.injEq] at eg
      obtain ⟨rfl, rfl⟩ := eg
      obtain ⟨vs, q1, s1⟩ := hr.obj _ _ _ z1 ep
      exact ⟨_, op_rep, p, k, vs, rfl, rfl, q1, h1.1, h1.2, by rw [s1.length]; exact of_decide_eq_true h2, lst_new hr (s1.rep _) q⟩
    · cases eg
  · cases eg
def gMul : G2 := orG gMulI gMulL
theorem ok_mul : OpOk X (binaryOp .Mult) gMul := ok_mulI.or ok_mulL
def gMod : G2 := gI (fun _ j => decide (j ≠ 0)) fun i j => .int (i.fmod j)
theorem ok_mod : OpOk X (binaryOp .Mod) gMod := ok_int op_modN (fun _ _ h => of_decide_eq_true h) fun _ _ _ _ => rfl
def gDiv : G2 := gI (fun _ j => decide (0 < j ∧ j.natAbs.log2 < 9000)) fun i j => .int (i / j)
theorem ok_div : OpOk X (binaryOp .FloorDiv) gDiv := ok_int op_fdivW (fun i j h => show 0 < j ∧ j.natAbs.log2 < 9000 from of_decide_eq_true h) fun _ _ _ _ => rfl
def gPow : G2 := gI (fun i j => decide (0 ≤ j ∧ j ≤ 1000000 ∧ i.natAbs < 2 ^ 64)) fun i j => .int (i ^ j.toNat)
theorem ok_pow : OpOk X (binaryOp .Pow) gPow := ok_int op_pow (fun i j h => show 0 ≤ j ∧ j ≤ 1000000 ∧ i.natAbs < 2 ^ 64 from of_decide_eq_true h) fun _ _ _ _ => rfl

/-! ### order -/
def gLtI : G2 := gI (fun _ _ => true) fun i j => .bl (decide (i < j))
def gLeI : G2 := gI (fun _ _ => true) fun i j => .bl (decide (i ≤ j))
def gGtI : G2 := gI (fun _ _ => true) fun i j => .bl (decide (j < i))
def gGeI : G2 := gI (fun _ _ => true) fun i j => .bl (decide (j ≤ i))
def gS2 (f : Str → Str → Bool) : G2
  | .str x, .str y, h => some (.bl (f x y), h)
  | _, _, _ => none
theorem ok_s2 {f : Value → Value → Sem Value} {p : Str → Str → Bool} (o : OpR X f (fun x y H Q => ∃ i j, x = .str i ∧ y = .str j ∧ Q (.bl (p i j)) H)) : OpOk X f (gS2 p) := by
  intro ι h d e r h' x y H Q hr r1 r2 eg q
  cases d <;> cases e <;> first
    | (exfalso; simp [gS2] at eg; done)
    | skip
  rename_i i j
  cases r1; cases r2
  simp only [gS2, Option.some.injEq, Prod.mk.injEq] at eg
  obtain ⟨rfl, rfl⟩ := eg
  exact ⟨_, o, i, j, rfl, rfl, qv_same hr q rfl⟩
def gLt : G2 := orG gLtI (gS2 fun x y => decide (x.cps.toList < y.cps.toList))
def gLe : G2 := orG gLeI (gS2 fun x y => !decide (y.cps.toList < x.cps.toList))
def gGt : G2 := gGtI
def gGe : G2 := gGeI
theorem ok_lt : OpOk X (compareOp .Lt) gLt := (ok_int0 (g' := fun i j => .bl (decide (i < j))) op_lt fun _ _ _ _ => rfl).or (ok_s2 op_lt_str)
theorem ok_gt : OpOk X (compareOp .Gt) gGt := ok_int0 op_gt fun _ _ _ _ => rfl
theorem ok_ge : OpOk X (compareOp .GtE) gGe := ok_int0 op_ge fun _ _ _ _ => rfl

/-! ### equality: texts, then data of any depth -/
mutual
def pyD (h : Hh) : Nat → D → Option PyData
  | 0, _ => none
  | n + 1, d => match d with
    | .non => some .none
    | .bl b => some (.bool b)
    | .int i => some (.int i)
    | .str x => some (.str x)
    | .tup ds => (pyDs h n ds).map .tuple
    | .ref m => match lsOf h m with
      | some ds => (pyDs h n ds).map .list
      | none => none
    | .opq _ => none
def pyDs (h : Hh) : Nat → List D → Option (List PyData)
  | 0, _ => none
  | _ + 1, [] => some []
  | n + 1, d :: ds => match pyD h n d, pyDs h n ds with
    | some a, some b => some (a :: b)
    | _, _ => none
end
mutual
theorem dp_of {H : Hp} {ι : List Addr} {h : Hh} (hr : HRel X.K H ι X.mg h) : ∀ {n : Nat} {d : D} {v : V} {y : PyData}, RelD X.K H ι d v → pyD h n d = some y → Dp X.K H v y
  | 0, _, _, _, _, e => by simp only [pyD] at e; cases e
  | n + 1, d, v, y, r, e => by
    cases d with
    | non => simp only [pyD, Option.some.injEq] at e; subst e; cases r; exact .non
    | bl b => simp only [pyD, Option.some.injEq] at e; subst e; cases r; exact .bl _
    | int i => simp only [pyD, Option.some.injEq] at e; subst e; cases r; exact .int _
    | str z => simp only [pyD, Option.some.injEq] at e; subst e; cases r; exact .str _
    | tup ds =>
      obtain ⟨a, vs, rfl, q, s⟩ := r
      simp only [pyD] at e
      cases z : pyDs h n ds with
      | none => rw [z] at e; cases e
      | some ys => rw [z] at e; cases e; exact .tup q (dps_of hr s z)
    | ref m =>
      obtain ⟨a, ea, rfl⟩ := r
      simp only [pyD] at e
      cases zl : lsOf h m with
      | none => rw [zl] at e; cases e
      | some ds =>
        obtain ⟨vs, q, s⟩ := ls_sq hr zl ea
        rw [zl] at e
        simp only at e
        cases z : pyDs h n ds with
        | none => rw [z] at e; cases e
        | some ys => rw [z] at e; cases e; exact .lst q (dps_of hr s z)
    | opq v => simp only [pyD] at e; cases e
theorem dps_of {H : Hp} {ι : List Addr} {h : Hh} (hr : HRel X.K H ι X.mg h) : ∀ {n : Nat} {ds : List D} {vs : List V} {ys : List PyData}, RelDs X.K H ι ds vs → pyDs h n ds = some ys → DpAll X.K H vs ys
  | 0, _, _, _, _, e => by simp only [pyDs] at e; cases e
  | n + 1, [], vs, ys, r, e => by
    simp only [pyDs, Option.some.injEq] at e
    subst e
    rw [show vs = [] from r]
    exact .nil
  | n + 1, d :: ds, vs, ys, r, e => by
    obtain ⟨v, u, rfl, r1, r2⟩ := r
    simp only [pyDs] at e
    cases z1 : pyD h n d with
    | none => rw [z1] at e; cases e
    | some y =>
      cases z2 : pyDs h n ds with
      | none => rw [z1, z2] at e; cases e
      | some zs =>
        rw [z1, z2] at e
        cases e
        exact .cons (dp_of hr r1 z1) (dps_of hr r2 z2)
end
def eqD (d e : D) (h : Hh) : Option Bool := match pyD h 2000 d, pyD h 2000 e with
  | some a, some b => if SeqAt.shaped a && SeqAt.shaped b then some (a.eqv b) else none
  | _, _ => none
def gEqD (neg : Bool) : G2 := fun d e h => match eqD d e h with | some b => some (.bl (b ^^ neg), h) | none => none
theorem eqD_of {H : Hp} {ι : List Addr} {h : Hh} {d e : D} {x y : V} {b : Bool} (hr : HRel X.K H ι X.mg h) (r1 : RelD X.K H ι d x) (r2 : RelD X.K H ι e y) (eb : eqD d e h = some b) :
    ∃ a c, Dp X.K H x a ∧ Dp X.K H y c ∧ SeqAt.shaped a = true ∧ SeqAt.shaped c = true ∧ b = a.eqv c := by
  unfold eqD at eb
  split at eb
  · rename_i a c z1 z2
    split at eb
    · rename_i hs
      obtain ⟨s1, s2⟩ := Bool.and_eq_true_iff.mp hs
      exact ⟨a, c, dp_of hr r1 z1, dp_of hr r2 z2, s1, s2, (Option.some.inj eb).symm⟩
    · cases eb
  · cases eb
theorem ok_eqD (hu : X.A.units + 64 < cLine) : OpOk X (compareOp .Eq) (gEqD false) := by
  intro ι h d e r h' x y H Q hr r1 r2 eg q
  unfold gEqD at eg
  split at eg
  · rename_i b eb
    obtain ⟨a, c, p1, p2, s1, s2, rfl⟩ := eqD_of hr r1 r2 eb
    simp only [Bool.xor_false, Option.some.injEq, Prod.mk.injEq] at eg
    obtain ⟨rfl, rfl⟩ := eg
    exact ⟨_, op_eqD hu, a, c, p1, p2, s1, s2, qv_same hr q rfl⟩
  · cases eg
theorem ok_neD (hu : X.A.units + 64 < cLine) : OpOk X (compareOp .NotEq) (gEqD true) := by
  intro ι h d e r h' x y H Q hr r1 r2 eg q
  unfold gEqD at eg
  split at eg
  · rename_i b eb
    obtain ⟨a, c, p1, p2, s1, s2, rfl⟩ := eqD_of hr r1 r2 eb
    simp only [Bool.xor_true, Option.some.injEq, Prod.mk.injEq] at eg
    obtain ⟨rfl, rfl⟩ := eg
    exact ⟨_, op_neD hu, a, c, p1, p2, s1, s2, qv_same hr q rfl⟩
  · cases eg
theorem str_scal {x y : Str} : scal (.str x) (.str y) = true := rfl
theorem ok_eqS : OpOk X (compareOp .Eq) (gS2 fun x y => decide (x = y)) := ok_s2 (fun pins s σ H x y v u Q I rx ry ⟨i, j, ex, ey, q⟩ => by
  subst ex ey
  refine op_eq pins s σ H _ _ v u Q I rx ry ⟨rfl, ?_⟩
  have e : decide (V.str i = V.str j) = decide (i = j) := by rw [decide_eq_decide]; exact ⟨fun z => by cases z; rfl, fun z => by rw [z]⟩
  rw [e]; exact q)
theorem ok_neS : OpOk X (compareOp .NotEq) (gS2 fun x y => !decide (x = y)) := ok_s2 (fun pins s σ H x y v u Q I rx ry ⟨i, j, ex, ey, q⟩ => by
  subst ex ey
  refine op_ne pins s σ H _ _ v u Q I rx ry ⟨rfl, ?_⟩
  have e : decide (V.str i = V.str j) = decide (i = j) := by rw [decide_eq_decide]; exact ⟨fun z => by cases z; rfl, fun z => by rw [z]⟩
  rw [e]; exact q)
def gEq : G2 := orG (gS2 fun x y => decide (x = y)) (gEqD false)
def gNe : G2 := orG (gS2 fun x y => !decide (x = y)) (gEqD true)
theorem ok_eq (hu : X.A.units + 64 < cLine) : OpOk X (compareOp .Eq) gEq := ok_eqS.or (ok_eqD hu)
theorem ok_ne (hu : X.A.units + 64 < cLine) : OpOk X (compareOp .NotEq) gNe := ok_neS.or (ok_neD hu)

/-! ### is None -/
def isN : D → Bool
  | .non => true
  | _ => false
def gIs : G2
  | .opq _, _, _ => none
  | d, .non, h => some (.bl (isN d), h)
  | _, _, _ => none
def gIsNot : G2
  | .opq _, _, _ => none
  | d, .non, h => some (.bl (!isN d), h)
  | _, _, _ => none
theorem isN_of {H : Hp} {ι : List Addr} {d : D} {x : V} (r : RelD X.K H ι d x) (n : ∀ v, d ≠ .opq v) : decide (x = .non) = isN d := by
  cases d with
  | non => cases r; rfl
  | bl b => cases r; rfl
  | int b => cases r; rfl
  | str b => cases r; rfl
  | tup ds => obtain ⟨a, vs, rfl, _⟩ := r; rfl
  | ref n => obtain ⟨a, _, rfl⟩ := r; rfl
  | opq v => exact absurd rfl (n v)
theorem ok_is : OpOk X (compareOp .Is) gIs := by
  intro ι h d e r h' x y H Q hr r1 r2 eg q
  unfold gIs at eg
  split at eg
  · cases eg
  · rename_i n
    simp only [Option.some.injEq, Prod.mk.injEq] at eg
    obtain ⟨rfl, rfl⟩ := eg
    cases r2
    exact ⟨_, op_isN, rfl, qv_same hr q (by rw [isN_of r1 n]; rfl)⟩
  · cases eg
theorem ok_isnot : OpOk X (compareOp .IsNot) gIsNot := by
  intro ι h d e r h' x y H Q hr r1 r2 eg q
  unfold gIsNot at eg
  split at eg
  · cases eg
  · rename_i n
    simp only [Option.some.injEq, Prod.mk.injEq] at eg
    obtain ⟨rfl, rfl⟩ := eg
    cases r2
    exact ⟨_, op_notN, rfl, qv_same hr q (by rw [isN_of r1 n]; rfl)⟩
  · cases eg
end
end EV

namespace EV
open PySem PySem.Spec PyProof.Rows L2

section
variable {X : Cx} {W : WX} {pos : Pos} {a b c : Expr} {wa wb wc : WE}

/-! ### in -/
def gInS (neg : Bool) : G2
  | .str x, .str z, h => match x.cps.toList with
    | [c] => some (.bl (decide (c ∈ z.cps.toList) ^^ neg), h)
    | _ => none
  | _, _, _ => none
theorem sign_eq {x : Str} {c : Nat} (e : x.cps.toList = [c]) : x = ⟨#[c]⟩ := by
  cases x with
  | mk cps =>
    have : cps = #[c] := by
      apply Array.ext'
      exact e
    rw [this]
theorem ok_inS : OpOk X (compareOp .In) (gInS false) := by
  intro ι h d e r h' x y H Q hr r1 r2 eg q
  cases d <;> cases e <;> first
    | (exfalso; simp [gInS] at eg; done)
    | skip
  rename_i i j
  cases r1; cases r2
  simp only [gInS] at eg
  split at eg
  · rename_i c ec
    simp only [Bool.xor_false, Option.some.injEq, Prod.mk.injEq] at eg
    obtain ⟨rfl, rfl⟩ := eg
    exact ⟨_, op_in_sign, c, j, by rw [sign_eq ec], rfl, qv_same hr q rfl⟩
  · cases eg
theorem ok_notInS : OpOk X (compareOp .NotIn) (gInS true) := by
  intro ι h d e r h' x y H Q hr r1 r2 eg q
  cases d <;> cases e <;> first
    | (exfalso; simp [gInS] at eg; done)
    | skip
  rename_i i j
  cases r1; cases r2
  simp only [gInS] at eg
  split at eg
  · rename_i c ec
    simp only [Bool.xor_true, Option.some.injEq, Prod.mk.injEq] at eg
    obtain ⟨rfl, rfl⟩ := eg
    exact ⟨_, op_notIn_sign, c, j, by rw [sign_eq ec], rfl, qv_same hr q rfl⟩
  · cases eg
/-- in a list or a tuple of flat things -/
def flatD : D → Bool
  | .non => true
  | .bl _ => true
  | .int _ => true
  | .str _ => true
  | _ => false
def eqF : D → D → Bool
  | .non, .non => true
  | .bl a, .bl b => a == b
  | .bl a, .int b => (if a then 1 else 0) == b
  | .int a, .bl b => a == (if b then 1 else 0)
  | .int a, .int b => a == b
  | .str a, .str b => a == b
  | _, _ => false
theorem flat_of {K : PySem.W.Frag} {H : Hp} {ι : List Addr} {d : D} {v : V} (r : RelD K H ι d v) (f : flatD d = true) : flatV v = true := by
  cases d <;> first
    | (cases r; rfl)
    | cases f
theorem eqF_of {K : PySem.W.Frag} {H : Hp} {ι : List Addr} {d e : D} {v u : V} (r : RelD K H ι d v) (r' : RelD K H ι e u) (f : flatD d = true) (f' : flatD e = true) : eqV v u = eqF d e := by
  cases d <;> first
    | cases f; done
    | (cases e <;> first
        | (cases f'; done)
        | (cases r; cases r'; rfl))
theorem flats_of {K : PySem.W.Frag} {H : Hp} {ι : List Addr} : ∀ {ds : List D} {vs : List V}, RelDs K H ι ds vs → ds.all flatD = true → vs.all flatV = true
  | [], _, r, _ => by rw [show _ = _ from r]; rfl
  | _ :: _, _, r, f => by
    obtain ⟨v, u, rfl, r1, r2⟩ := r
    rw [List.all_cons, Bool.and_eq_true] at f ⊢
    exact ⟨flat_of r1 f.1, flats_of r2 f.2⟩
theorem inF_of {K : PySem.W.Frag} {H : Hp} {ι : List Addr} {d : D} {v : V} (r : RelD K H ι d v) (f : flatD d = true) : ∀ {ds : List D} {vs : List V}, RelDs K H ι ds vs → ds.all flatD = true → inV v vs = ds.any fun e => eqF e d
  | [], _, q, _ => by rw [show _ = _ from q]; rfl
  | _ :: _, _, q, f' => by
    obtain ⟨w, u, rfl, r1, r2⟩ := q
    rw [List.all_cons, Bool.and_eq_true] at f'
    have := inF_of r f r2 f'.2
    unfold inV at this ⊢
    rw [List.any_cons, List.any_cons, this, eqF_of r1 r f'.1 f]
def sqOf (h : Hh) : D → Option (List D)
  | .tup ds => some ds
  | .ref n => lsOf h n
  | _ => none
theorem sq_of {H : Hp} {ι : List Addr} {h : Hh} {d : D} {ds : List D} {x : V} (hr : HRel X.K H ι X.mg h) (r : RelD X.K H ι d x) (e : sqOf h d = some ds) : ∃ p vs, x = .ref p ∧ (SqL X.K H p vs ∨ SqT X.K H p vs) ∧ RelDs X.K H ι ds vs := by
  cases d with
  | tup es =>
    cases e
    obtain ⟨p, vs, rfl, q, s⟩ := r
    exact ⟨p, vs, rfl, .inr q, s⟩
  | ref n =>
    obtain ⟨p, ep, rfl⟩ := r
    obtain ⟨vs, q, s⟩ := ls_sq hr e ep
    exact ⟨p, vs, rfl, .inl q, s⟩
  | _ => cases e
def gInL (neg : Bool) : G2 := fun d e h => match sqOf h e with
  | some ds => if flatD d && ds.all flatD then some (.bl ((ds.any fun z => eqF z d) ^^ neg), h) else none
  | none => none
theorem ok_inL : OpOk X (compareOp .In) (gInL false) := by
  intro ι h d e r h' x y H Q hr r1 r2 eg q
  unfold gInL at eg
  split at eg
  · rename_i ds es
    split at eg
    · rename_i hf
      obtain ⟨f1, f2⟩ := Bool.and_eq_true_iff.mp hf
      simp only [Bool.xor_false, Option.some.injEq, Prod.mk.injEq] at eg
      obtain ⟨rfl, rfl⟩ := eg
      obtain ⟨p, vs, rfl, sq, rs⟩ := sq_of hr r2 es
      refine ⟨_, op_in_seq, p, vs, rfl, sq, flat_of r1 f1, flats_of rs f2, ?_⟩
      rw [if_neg Bool.false_ne_true, inF_of r1 f1 rs f2]
      exact qv_same hr q rfl
    · cases eg
  · cases eg
theorem ok_notInL : OpOk X (compareOp .NotIn) (gInL true) := by
  intro ι h d e r h' x y H Q hr r1 r2 eg q
  unfold gInL at eg
  split at eg
  · rename_i ds es
    split at eg
    · rename_i hf
      obtain ⟨f1, f2⟩ := Bool.and_eq_true_iff.mp hf
      simp only [Bool.xor_true, Option.some.injEq, Prod.mk.injEq] at eg
      obtain ⟨rfl, rfl⟩ := eg
      obtain ⟨p, vs, rfl, sq, rs⟩ := sq_of hr r2 es
      refine ⟨_, op_notIn_seq, p, vs, rfl, sq, flat_of r1 f1, flats_of rs f2, ?_⟩
      rw [if_pos rfl, inF_of r1 f1 rs f2]
      exact qv_same hr q rfl
    · cases eg
  · cases eg
def gIn : G2 := orG (gInS false) (gInL false)
def gNotIn : G2 := orG (gInS true) (gInL true)
theorem ok_in : OpOk X (compareOp .In) gIn := ok_inS.or ok_inL
theorem ok_notIn : OpOk X (compareOp .NotIn) gNotIn := ok_notInS.or ok_notInL

/-! ### subscripts -/
def gIx : G2
  | .tup ds, .int i, h => match atI ds i with | some d => some (d, h) | none => none
  | .ref n, .int i, h => match lsOf h n with
    | some ds => match atI ds i with | some d => some (d, h) | none => none
    | none => none
  | .str z, .int i, h => if z.length ≤ sizeLine then (match atI z.cps.toList i with | some c => some (.str ⟨#[c]⟩, h) | none => none) else none
  | _, _, _ => none
theorem atI_rel {K : PySem.W.Frag} {H : Hp} {ι : List Addr} {ds : List D} {vs : List V} {i : Int} {d : D} (r : RelDs K H ι ds vs) (e : atI ds i = some d) : ∃ v, atI vs i = some v ∧ RelD K H ι d v := by
  unfold atI at e ⊢
  rw [r.length]
  cases z : ixN ds.length i with
  | none => rw [z] at e; cases e
  | some j =>
    rw [z] at e
    exact r.get e
def IxOk (X : Cx) (g : G2) : Prop := ∀ ι h d e r h' x y H Q, HRel X.K H ι X.mg h → RelD X.K H ι d x → RelD X.K H ι e y → g d e h = some (r, h') → QV X H ι Q r h' → ∃ R, IxR X R ∧ R x y H Q
theorem IxOk.ix {g : G2} (h : IxOk X g) : IxR X (rOp X g) := by
  rintro value slice pins s σ H x y v u Q I rx ry ⟨ι, hh, d, e, r, h', hr, r1, r2, eg, q⟩ hs
  obtain ⟨R, hR, q'⟩ := h ι hh d e r h' x y H Q hr r1 r2 eg q
  exact hR value slice pins s σ H x y v u Q I rx ry q' hs
theorem ok_ix : IxOk X gIx := by
  intro ι h d e r h' x y H Q hr r1 r2 eg q
  cases d <;> cases e <;> first
    | (exfalso; simp [gIx] at eg; done)
    | skip
  · rename_i z i
    cases r1; cases r2
    simp only [gIx] at eg
    split at eg
    · rename_i hz
      split at eg
      · rename_i c ec
        simp only [Option.some.injEq, Prod.mk.injEq] at eg
        obtain ⟨rfl, rfl⟩ := eg
        exact ⟨_, ix_str, z, i, c, rfl, rfl, hz, ec, qv_same hr q rfl⟩
      · cases eg
    · cases eg
  · rename_i ds i
    obtain ⟨p, vs, rfl, sq, rs⟩ := r1
    cases r2
    simp only [gIx] at eg
    split at eg
    · rename_i dd ed
      simp only [Option.some.injEq, Prod.mk.injEq] at eg
      obtain ⟨rfl, rfl⟩ := eg
      obtain ⟨v, ev, rv⟩ := atI_rel rs ed
      exact ⟨_, ix_tup, p, vs, i, v, rfl, rfl, sq, ev, qv_same hr q rv⟩
    · cases eg
  · rename_i n i
    obtain ⟨p, ep, rfl⟩ := r1
    cases r2
    simp only [gIx] at eg
    split at eg
    · rename_i ds es
      split at eg
      · rename_i dd ed
        simp only [Option.some.injEq, Prod.mk.injEq] at eg
        obtain ⟨rfl, rfl⟩ := eg
        obtain ⟨vs, sq, rs⟩ := ls_sq hr es ep
        obtain ⟨v, ev, rv⟩ := atI_rel rs ed
        exact ⟨_, ix_list, p, vs, i, v, rfl, rfl, sq, ev, qv_same hr q rv⟩
      · cases eg
    · cases eg
theorem LE.ix {g : G2} (o : IxOk X g) (ma : Mono wa) (mb : Mono wb) {σ : St} {H : Hp} {Q : VK} (h : LE X W (wOp g wa wb) σ H Q) : tOp (rOp X g) (LE X W wa) (LE X W wb) σ H Q := by
  obtain ⟨ι, hh, s, hr, sr, w⟩ := LE.bind2 ma mb mono_k2 h
  refine ⟨ι, hh, s, hr, sr, ma s hh _ _ _ _ (fun d h1 q v H1 ι1 g hr1 rd => ?_) (fun _ _ e => e) w⟩
  obtain ⟨ι', hh', s', hr', sr', w'⟩ := q v H1 ι1 g hr1 rd
  refine ⟨ι', hh', s', hr', sr', mb s' hh' _ _ _ _ (fun d2 h2 q2 v2 H2 ι2 g2 hr2 rd2 => ?_) (fun _ _ e => e) w'⟩
  obtain ⟨ι3, h3, s3, d3, e3, hr3, _, ra, rb, r, h', eg, qq⟩ := q2 v2 H2 ι2 g2 hr2 rd2
  exact ⟨ι3, h3, d3, e3, r, h', hr3, ra, rb, eg, qq⟩
theorem de_ix (ha : DE X W a wa) (hb : DE X W b wb) (hs : PlainIx b := by intro _ _; rfl) : DE X W (.Subscript a b pos) (wOp gIx wa wb) :=
  ⟨PE.imp (pe_ix ok_ix.ix ha.pe hb.pe hs) fun σ H Q h => h.ix ok_ix ha.mono hb.mono, mono_op ha.mono hb.mono⟩

/-! ### slices -/
def cutD {α : Type} (xs : List α) (lo hi : Option Int) : List α := List.take (HT.sIx xs.length xs.length hi - HT.sIx xs.length 0 lo) (List.drop (HT.sIx xs.length 0 lo) xs)
def gSl (lo hi : Option Int) : G1
  | .str z, h => if z.length ≤ sizeLine then some (.str (cutS z lo hi), h) else none
  | .tup ds, h => some (.tup (cutD ds lo hi), h)
  | .ref n, h => match lsOf h n with | some ds => some (.ref h.length, h ++ [.lst (cutD ds lo hi)]) | none => none
  | _, _ => none
def rSl (X : Cx) : V → Option Int → Option Int → Hp → VK → Prop := fun x lo hi H Q => ∃ ι h d r h', HRel X.K H ι X.mg h ∧ RelD X.K H ι d x ∧ gSl lo hi d h = some (r, h') ∧ QV X H ι Q r h'
theorem RelDs.cut {K : PySem.W.Frag} {H : Hp} {ι : List Addr} {ds : List D} {vs : List V} (r : RelDs K H ι ds vs) (lo hi : Option Int) : RelDs K H ι (cutD ds lo hi) (cutV vs lo hi) := by
  unfold cutD cutV
  rw [r.length]
  exact (r.drop _).take _
theorem sl_ok : SlR X (rSl X) := by
  rintro pins s σ H x v vl vu lo hi sl Q I rx hs pl pu ⟨ι, h, d, r, h', hr, rd, eg, q⟩
  cases d with
  | str z =>
    cases rd
    simp only [gSl] at eg
    split at eg
    · rename_i hz
      simp only [Option.some.injEq, Prod.mk.injEq] at eg
      obtain ⟨rfl, rfl⟩ := eg
      exact sl_str pins s σ H _ v vl vu lo hi sl Q I rx hs pl pu ⟨z, rfl, hz, qv_same hr q rfl⟩
    · cases eg
  | tup ds =>
    obtain ⟨p, vs, rfl, sq, rs⟩ := rd
    simp only [gSl, Option.some.injEq, Prod.mk.injEq] at eg
    obtain ⟨rfl, rfl⟩ := eg
    refine sl_tupA pins s σ H _ v vl vu lo hi sl Q I rx hs pl pu ⟨p, vs, rfl, sq, fun ⟨z1, z2⟩ => ?_, fun _ => tup_new hr (rs.cut lo hi) q⟩
    refine qv_same hr q ⟨p, vs, rfl, sq, ?_⟩
    have e : cutD ds lo hi = ds := by
      rw [rs.length] at z1 z2
      unfold cutD
      rw [z1, z2, List.drop_zero, Nat.sub_zero, List.take_length]
    rw [e]; exact rs
  | ref n =>
    obtain ⟨p, ep, rfl⟩ := rd
    simp only [gSl] at eg
    split at eg
    · rename_i ds es
      simp only [Option.some.injEq, Prod.mk.injEq] at eg
      obtain ⟨rfl, rfl⟩ := eg
      obtain ⟨vs, sq, rs⟩ := ls_sq hr es ep
      exact sl_list pins s σ H _ v vl vu lo hi sl Q I rx hs pl pu ⟨p, vs, rfl, sq, lst_new hr (rs.cut lo hi) q⟩
    · cases eg
  | _ => cases eg
/-- a part of a slice -/
abbrev WO := Sl → Hh → (Option Int → Hh → Prop) → PX → Prop
def wPart (w : WE) : WO := fun s h Q E => w s h (fun d h1 => ∃ i, d = .int i ∧ Q (some i) h1) E
def wNoPart : WO := fun _ h Q _ => Q none h
def QO (X : Cx) (H : Hp) (ι : List Addr) (Q : Option Int → Hp → Prop) : Option Int → Hh → Prop := fun o h' => ∀ H' ι', Gr X.K H H' ι ι' → HRel X.K H' ι' X.mg h' → Q o H'
structure DO (X : Cx) (W : WX) (e : Option Expr) (w : WO) : Prop where
  po : PO X e (fun σ H Q => ∃ ι h s, HRel X.K H ι X.mg h ∧ SRel X.K H ι σ s ∧ w s h (QO X H ι Q) (QX X W H ι σ))
  mono : Mono w
theorem PO.imp {e : Option Expr} {t t' : TO} (h : PO X e t) (i : ∀ σ H Q, t' σ H Q → t σ H Q) : PO X e t' := ⟨fun pins s σ H Q I q => h.run pins s σ H Q I (i σ H Q q)⟩
theorem do_none : DO X W none wNoPart := ⟨PO.imp po_none fun σ H Q ⟨ι, h, s, hr, sr, q⟩ => q H ι .refl hr, fun s h Q Q' E E' hq _ q => hq _ _ q⟩
theorem do_some {e : Expr} {w : WE} (h : DE X W e w) : DO X W (some e) (wPart w) := by
  refine ⟨PO.imp (po_some h.pe) fun σ H Q ⟨ι, hh, s, hr, sr, q⟩ => ?_, fun s h1 Q Q' E E' hq he q => h.mono s h1 _ _ _ _ (fun d h2 ⟨i, ed, q⟩ => ⟨i, ed, hq _ _ q⟩) he q⟩
  refine ⟨ι, hh, s, hr, sr, h.mono s hh _ _ _ _ (fun d h1 ⟨i, ed, q⟩ v H1 ι1 g hr1 rd => ?_) (fun _ _ e => e) q⟩
  subst ed
  exact ⟨i, rd, q H1 ι1 g hr1⟩
def wSl (we : WE) (wl wh : WO) : WE := fun s h Q E => we s h (fun d h1 => wl s h1 (fun lo h2 => wh s h2 (fun hi h3 => ∃ r h', gSl lo hi d h3 = some (r, h') ∧ Q r h') E) E) E
theorem de_sl {e : Expr} {lo hi : Option Expr} {we : WE} {wl wh : WO} {p2 : Pos} (he : DE X W e we) (hl : DO X W lo wl) (hh : DO X W hi wh) : DE X W (.Subscript e (.Slice lo hi none p2) pos) (wSl we wl wh) := by
  refine ⟨PE.imp (pe_slice sl_ok he.pe hl.po hh.po) fun σ H Q ⟨ι, h, s, hr, sr, q⟩ => ?_, fun s h Q Q' E E' hq hx q => ?_⟩
  · refine ⟨ι, h, s, hr, sr, he.mono s h _ _ _ _ (fun d h1 q v H1 ι1 g1 hr1 rd => ?_) (fun _ _ e => e) q⟩
    refine ⟨ι1, h1, s, hr1, sr.mono g1, hl.mono s h1 _ _ _ _ (fun lo h2 q H2 ι2 g2 hr2 => ?_) (fun x h' q' => QX.on q' g1) q⟩
    refine ⟨ι2, h2, s, hr2, sr.mono (g1.trans g2), hh.mono s h2 _ _ _ _ (fun hi h3 ⟨r, h', eg, q⟩ H3 ι3 g3 hr3 => ?_) (fun x h' q' => QX.on q' (g1.trans g2)) q⟩
    exact ⟨ι3, h3, d, r, h', hr3, rd.mono (g2.trans g3), eg, QV.on q ((g1.trans g2).trans g3)⟩
  · exact he.mono s h _ _ _ _ (fun d h1 q => hl.mono s h1 _ _ _ _ (fun lo h2 q => hh.mono s h2 _ _ _ _ (fun hi h3 ⟨r, h', eg, q⟩ => ⟨r, h', eg, hq _ _ q⟩) hx q) hx q) hx q
/-- xs[::-1] -/
def gRev : G1
  | .ref n, h => match lsOf h n with | some ds => some (.ref h.length, h ++ [.lst ds.reverse]) | none => none
  | _, _ => none
theorem de_rev {e : Expr} {we : WE} {k : Nat} {p1 p2 p3 : Pos} (he : DE X W e we) : DE X W (.Subscript e (.Slice none none (some (.UnaryOp .USub (.Constant (.int 1) k p1) p2)) p3) pos) (wUn (k1 gRev) we) := by
  refine ⟨PE.imp (pe_revL he.pe) fun σ H Q ⟨ι, h, s, hr, sr, q⟩ => ?_, mono_un he.mono mono_k1⟩
  refine ⟨ι, h, s, hr, sr, he.mono s h _ _ _ _ (fun d h1 ⟨r, h', eg, q⟩ v H1 ι1 g1 hr1 rd => ?_) (fun _ _ e => e) q⟩
  cases d with
  | ref n =>
    obtain ⟨p, ep, rfl⟩ := rd
    simp only [gRev] at eg
    split at eg
    · rename_i ds es
      simp only [Option.some.injEq, Prod.mk.injEq] at eg
      obtain ⟨rfl, rfl⟩ := eg
      obtain ⟨vs, sq, rs⟩ := ls_sq hr1 es ep
      exact ⟨p, vs, rfl, sq, lst_new hr1 rs.reverse (QV.on q g1)⟩
    · cases eg
  | _ => cases eg

/-! ### global constants -/
/-- the name x of the module holds the data d -/
def GC (K : PySem.W.Frag) (mg : Str → Option Value) (x : Str) (d : D) : Prop := ∃ u v, mg x = some u ∧ RelV v u ∧ ∀ H ι, RelD K H ι d v
theorem de_glob {x : Str} {d : D} {pos : Pos} (g : GC X.K X.mg x d) (hg : Gl X x := by rfl) (hd : (x == ("__debug__" : Str)) = false := by decide) : DE X W (.Name x pos) (wC d) := by
  obtain ⟨u, v, hm, r, rd⟩ := g
  exact de_c (pe_glob hg hm r hd) rd

/-! ### calls of built-ins -/
def CallOk (X : Cx) (f : Value) (g : GA) : Prop := ∀ ι h ds r h' xs H Q, HRel X.K H ι X.mg h → RelDs X.K H ι ds xs → g ds h = some (r, h') → QV X H ι Q r h' → ∃ R, CallR X f R ∧ R xs H Q
def rCa (X : Cx) (g : GA) : List V → Hp → VK → Prop := fun xs H Q => ∃ ι h ds r h', HRel X.K H ι X.mg h ∧ RelDs X.K H ι ds xs ∧ g ds h = some (r, h') ∧ QV X H ι Q r h'
theorem CallOk.call {f : Value} {g : GA} (h : CallOk X f g) : CallR X f (rCa X g) := by
  rintro pins s σ H xs us Q I rs ⟨ι, hh, ds, r, h', hr, rd, eg, q⟩
  obtain ⟨R, hR, q'⟩ := h ι hh ds r h' xs H Q hr rd eg q
  exact hR pins s σ H xs us Q I rs q'
def orA (g g' : GA) : GA := fun ds h => match g ds h with | some r => some r | none => g' ds h
theorem CallOk.or {f : Value} {g g' : GA} (a : CallOk X f g) (b : CallOk X f g') : CallOk X f (orA g g') := by
  intro ι h ds r h' xs H Q hr rd eg q
  unfold orA at eg
  cases z : g ds h with
  | some w => rw [z] at eg; cases eg; exact a ι h ds r h' xs H Q hr rd z q
  | none => rw [z] at eg; exact b ι h ds r h' xs H Q hr rd eg q
def wCa (g : GA) (w : WA) : WE := fun s h Q E => w s h (fun ds h1 => ∃ r h', g ds h1 = some (r, h') ∧ Q r h') E
theorem mono_ca {g : GA} {w : WA} (m : Mono w) : Mono (wCa g w) := fun s h Q Q' E E' hq he q => m s h _ _ _ _ (fun ds h1 ⟨r, h', e, q⟩ => ⟨r, h', e, hq _ _ q⟩) he q
theorem LE.ca {g : GA} {w : WA} (m : Mono w) {σ : St} {H : Hp} {Q : VK} (h : LE X W (wCa g w) σ H Q) : tCB (rCa X g) (LA X W w) σ H Q := by
  obtain ⟨ι, hh, s, hr, sr, q⟩ := h
  refine ⟨ι, hh, s, hr, sr, m s hh _ _ _ _ (fun ds h1 ⟨r, h', e, q⟩ vs H1 ι1 g1 hr1 rs => ?_) (fun _ _ e => e) q⟩
  exact ⟨ι1, h1, ds, r, h', hr1, rs, e, QV.on q g1⟩
theorem de_callB {x : Str} {id : String} {g : GA} {e : Expr} {es : List Expr} {w : WA} {p pos : Pos} (o : CallOk X (.builtin id) g) (hm : X.mg x = none) (hv : bootBuiltins x = some (.builtin id)) (ha : DA X W (e :: es) w) (hg : Gl X x := by rfl) (hn : x ≠ "__name__" := by decide)
    (hdb : (x == ("__debug__" : Str)) = false := by decide) (he : starEach (e :: es) X.env = (false, eval e X.env) :: starEach es X.env := by rfl) (hpl : (backTo pos (starEach es X.env)).any (·.1) = false := by rfl) : DE X W (.Call (.Name x p) (e :: es) [] pos) (wCa g w) :=
  ⟨PE.imp (pe_callB o.call hg hm hv ha.pa hn hdb he hpl) fun σ H Q h => h.ca ha.mono, mono_ca ha.mono⟩
theorem de_callTy {x : Str} {T : String} {g : GA} {e : Expr} {es : List Expr} {w : WA} {p pos : Pos} (o : CallOk X (.type T) g) (hm : X.mg x = none) (hv : bootBuiltins x = some (.type T)) (ha : DA X W (e :: es) w) (hg : Gl X x := by rfl) (hn : x ≠ "__name__" := by decide)
    (hdb : (x == ("__debug__" : Str)) = false := by decide) (he : starEach (e :: es) X.env = (false, eval e X.env) :: starEach es X.env := by rfl) (hpl : (backTo pos (starEach es X.env)).any (·.1) = false := by rfl) : DE X W (.Call (.Name x p) (e :: es) [] pos) (wCa g w) :=
  ⟨PE.imp (pe_callTy o.call hg hm hv ha.pa hn hdb he hpl) fun σ H Q h => h.ca ha.mono, mono_ca ha.mono⟩
theorem rels1 {K : PySem.W.Frag} {H : Hp} {ι : List Addr} {d : D} {xs : List V} (r : RelDs K H ι [d] xs) : ∃ v, xs = [v] ∧ RelD K H ι d v := by
  obtain ⟨v, u, rfl, h1, h2⟩ := r
  rw [show u = [] from h2]
  exact ⟨v, rfl, h1⟩
def gLen : GA
  | [.str z], h => if z.length ≤ sizeLine then some (.int z.length, h) else none
  | [.tup ds], h => some (.int ds.length, h)
  | [.ref n], h => match lsOf h n with | some ds => some (.int ds.length, h) | none => none
  | _, _ => none
theorem ok_len : CallOk X (.builtin "len") gLen := by
  intro ι h ds r h' xs H Q hr rd eg q
  unfold gLen at eg
  split at eg
  · split at eg
    · rename_i hz
      simp only [Option.some.injEq, Prod.mk.injEq] at eg
      obtain ⟨rfl, rfl⟩ := eg
      obtain ⟨v, rfl, rv⟩ := rels1 rd
      cases rv
      exact ⟨_, call_len, _, _, rfl, ⟨hz, rfl⟩, qv_same hr q rfl⟩
    · cases eg
  · simp only [Option.some.injEq, Prod.mk.injEq] at eg
    obtain ⟨rfl, rfl⟩ := eg
    obtain ⟨v, rfl, p, vs, rfl, sq, rs⟩ := rels1 rd
    exact ⟨_, call_len, _, _, rfl, .inr ⟨vs, sq, rfl⟩, qv_same hr q (by rw [rs.length]; rfl)⟩
  · split at eg
    · rename_i ds es
      simp only [Option.some.injEq, Prod.mk.injEq] at eg
      obtain ⟨rfl, rfl⟩ := eg
      obtain ⟨v, rfl, p, ep, rfl⟩ := rels1 rd
      obtain ⟨vs, sq, rs⟩ := ls_sq hr es ep
      exact ⟨_, call_len, _, _, rfl, .inl ⟨vs, sq, rfl⟩, qv_same hr q (by rw [rs.length]; rfl)⟩
    · cases eg
  · cases eg
def gList : GA
  | [.tup ds], h => some (.ref h.length, h ++ [.lst ds])
  | [.ref n], h => match lsOf h n with | some ds => some (.ref h.length, h ++ [.lst ds]) | none => none
  | _, _ => none
theorem ok_list : CallOk X (.type "list") gList := by
  intro ι h ds r h' xs H Q hr rd eg q
  unfold gList at eg
  split at eg
  · simp only [Option.some.injEq, Prod.mk.injEq] at eg
    obtain ⟨rfl, rfl⟩ := eg
    obtain ⟨v, rfl, p, vs, rfl, sq, rs⟩ := rels1 rd
    exact ⟨_, call_list_of, p, vs, rfl, .inr sq, lst_new hr rs q⟩
  · split at eg
    · rename_i ds es
      simp only [Option.some.injEq, Prod.mk.injEq] at eg
      obtain ⟨rfl, rfl⟩ := eg
      obtain ⟨v, rfl, p, ep, rfl⟩ := rels1 rd
      obtain ⟨vs, sq, rs⟩ := ls_sq hr es ep
      exact ⟨_, call_list_of, p, vs, rfl, .inl sq, lst_new hr rs q⟩
    · cases eg
  · cases eg
def gTuple : GA
  | [.tup ds], h => some (.tup ds, h)
  | [.ref n], h => match lsOf h n with | some ds => some (.tup ds, h) | none => none
  | _, _ => none
theorem ok_tuple : CallOk X (.type "tuple") gTuple := by
  intro ι h ds r h' xs H Q hr rd eg q
  unfold gTuple at eg
  split at eg
  · simp only [Option.some.injEq, Prod.mk.injEq] at eg
    obtain ⟨rfl, rfl⟩ := eg
    obtain ⟨v, rfl, p, vs, rfl, sq, rs⟩ := rels1 rd
    exact ⟨_, call_tuple_of, p, vs, rfl, .inr ⟨sq, qv_same hr q ⟨p, vs, rfl, sq, rs⟩⟩⟩
  · split at eg
    · rename_i ds es
      simp only [Option.some.injEq, Prod.mk.injEq] at eg
      obtain ⟨rfl, rfl⟩ := eg
      obtain ⟨v, rfl, p, ep, rfl⟩ := rels1 rd
      obtain ⟨vs, sq, rs⟩ := ls_sq hr es ep
      exact ⟨_, call_tuple_of, p, vs, rfl, .inl ⟨sq, tup_new hr rs q⟩⟩
    · cases eg
  · cases eg
def gInt : GA
  | [.int i], h => some (.int i, h)
  | [.bl b], h => some (.int (if b = true then 1 else 0), h)
  | _, _ => none
theorem ok_int1 : CallOk X (.type "int") gInt := by
  intro ι h ds r h' xs H Q hr rd eg q
  unfold gInt at eg
  split at eg
  · simp only [Option.some.injEq, Prod.mk.injEq] at eg
    obtain ⟨rfl, rfl⟩ := eg
    obtain ⟨v, rfl, rv⟩ := rels1 rd
    cases rv
    exact ⟨_, call_int1, .inl ⟨_, rfl, qv_same hr q rfl⟩⟩
  · simp only [Option.some.injEq, Prod.mk.injEq] at eg
    obtain ⟨rfl, rfl⟩ := eg
    obtain ⟨v, rfl, rv⟩ := rels1 rd
    cases rv
    exact ⟨_, call_int1, .inr ⟨_, rfl, qv_same hr q rfl⟩⟩
  · cases eg
/-- all, any of a list of bools -/
def blsOf : List D → Option (List Bool)
  | [] => some []
  | .bl b :: ds => match blsOf ds with | some bs => some (b :: bs) | none => none
  | _ :: _ => none
theorem bls_rel {K : PySem.W.Frag} {H : Hp} {ι : List Addr} : ∀ {ds : List D} {vs : List V} {bs : List Bool}, RelDs K H ι ds vs → blsOf ds = some bs → vs = bs.map V.bl
  | [], _, _, r, e => by
    rw [show _ = _ from r]
    cases e
    rfl
  | d :: ds, _, bs, r, e => by
    obtain ⟨v, u, rfl, r1, r2⟩ := r
    cases d with
    | bl b =>
      simp only [blsOf] at e
      cases z : blsOf ds with
      | none => rw [z] at e; cases e
      | some cs =>
        rw [z] at e
        cases e
        cases r1
        rw [bls_rel r2 z]
        rfl
    | _ => cases e
def gAll : GA
  | [.ref n], h => match lsOf h n with | some ds => (match blsOf ds with | some bs => some (.bl (bs.all id), h) | none => none) | none => none
  | _, _ => none
def gAny : GA
  | [.ref n], h => match lsOf h n with | some ds => (match blsOf ds with | some bs => some (.bl (bs.any id), h) | none => none) | none => none
  | _, _ => none
theorem ok_all (hc : X.calm = true) : CallOk X (.builtin "all") gAll := by
  intro ι h ds r h' xs H Q hr rd eg q
  unfold gAll at eg
  split at eg
  · split at eg
    · rename_i ds es
      split at eg
      · rename_i bs eb
        simp only [Option.some.injEq, Prod.mk.injEq] at eg
        obtain ⟨rfl, rfl⟩ := eg
        obtain ⟨v, rfl, p, ep, rfl⟩ := rels1 rd
        obtain ⟨vs, sq, rs⟩ := ls_sq hr es ep
        rw [bls_rel rs eb] at sq
        exact ⟨_, cr_all hc, p, bs, rfl, sq, qv_same hr q rfl⟩
      · cases eg
    · cases eg
  · cases eg
theorem ok_any (hc : X.calm = true) : CallOk X (.builtin "any") gAny := by
  intro ι h ds r h' xs H Q hr rd eg q
  unfold gAny at eg
  split at eg
  · split at eg
    · rename_i ds es
      split at eg
      · rename_i bs eb
        simp only [Option.some.injEq, Prod.mk.injEq] at eg
        obtain ⟨rfl, rfl⟩ := eg
        obtain ⟨v, rfl, p, ep, rfl⟩ := rels1 rd
        obtain ⟨vs, sq, rs⟩ := ls_sq hr es ep
        rw [bls_rel rs eb] at sq
        exact ⟨_, cr_any hc, p, bs, rfl, sq, qv_same hr q rfl⟩
      · cases eg
    · cases eg
  · cases eg
end
end EV

namespace EV
open PySem PySem.Spec PyProof.Rows L2

section
variable {X : Cx} {W : WX} {pos : Pos} {a b c : Expr} {wa wb wc : WE}
def gNeg : G1
  | .int i, h => some (.int (-i), h)
  | _, _ => none
theorem de_neg (ha : DE X W a wa) : DE X W (.UnaryOp .USub a pos) (wUn (k1 gNeg) wa) := by
  refine ⟨PE.imp (pe_un un_neg ha.pe) fun σ H Q ⟨ι, h, s, hr, sr, q⟩ => ?_, mono_un ha.mono mono_k1⟩
  refine ⟨ι, h, s, hr, sr, ha.mono s h _ _ _ _ (fun d h1 ⟨r, h', eg, q⟩ v H1 ι1 g1 hr1 rd => ?_) (fun _ _ e => e) q⟩
  cases d with
  | int i =>
    cases rd
    simp only [gNeg, Option.some.injEq, Prod.mk.injEq] at eg
    obtain ⟨rfl, rfl⟩ := eg
    exact ⟨i, rfl, q _ H1 ι1 g1 hr1 rfl⟩
  | _ => cases eg

/-! ### methods of built-in types -/
abbrev GM := D → List D → Hh → Option (D × Hh)
def MtOk (X : Cx) (id : String) (g : GM) : Prop := ∀ ι h d ds r h' x xs H Q, HRel X.K H ι X.mg h → RelD X.K H ι d x → RelDs X.K H ι ds xs → g d ds h = some (r, h') → QV X H ι Q r h' → ∃ R, MtR X id R ∧ R x xs H Q
def rMt (X : Cx) (g : GM) : V → List V → Hp → VK → Prop := fun x xs H Q => ∃ ι h d ds r h', HRel X.K H ι X.mg h ∧ RelD X.K H ι d x ∧ RelDs X.K H ι ds xs ∧ g d ds h = some (r, h') ∧ QV X H ι Q r h'
theorem MtOk.mt {id : String} {g : GM} (h : MtOk X id g) : MtR X id (rMt X g) := by
  rintro pins s σ H x xs v us Q I rx rs ⟨ι, hh, d, ds, r, h', hr, r1, r2, eg, q⟩
  obtain ⟨R, hR, q'⟩ := h ι hh d ds r h' x xs H Q hr r1 r2 eg q
  exact hR pins s σ H x xs v us Q I rx rs q'
def isT (T : String) (d : D) (h : Hh) : Bool := match T, d with
  | "str", .str _ => true
  | "list", .ref n => (lsOf h n).isSome
  | "dict", .ref n => (match h[n]? with | some (.dic _) => true | _ => false)
  | _, _ => false
theorem tyV_of {T : String} {d : D} {h : Hh} {H : Hp} {ι : List Addr} {x : V} (hr : HRel X.K H ι X.mg h) (r : RelD X.K H ι d x) (e : isT T d h = true) : tyV X.K T x H := by
  unfold isT at e
  split at e
  · cases r; rfl
  · rename_i n
    obtain ⟨p, ep, rfl⟩ := r
    obtain ⟨ds, es⟩ := Option.isSome_iff_exists.mp e
    obtain ⟨vs, sq, _⟩ := ls_sq hr es ep
    exact .inl ⟨rfl, vs, sq⟩
  · rename_i n
    obtain ⟨p, ep, rfl⟩ := r
    split at e
    · rename_i kvs z
      obtain ⟨vs, q, _⟩ := hr.obj _ _ _ z ep
      exact .inr (.inr (.inl ⟨rfl, .inl ⟨vs, q⟩⟩))
    · cases e
  · cases e
def wMt (T : String) (g : GM) (wo : WE) (w : WA) : WE := fun s h Q E => wo s h (fun d h1 => isT T d h1 = true ∧ w s h1 (fun ds h2 => ∃ r h', g d ds h2 = some (r, h') ∧ Q r h') E) E
theorem mono_mt {T : String} {g : GM} {wo : WE} {w : WA} (m : Mono wo) (n : Mono w) : Mono (wMt T g wo w) := fun s h Q Q' E E' hq he q =>
  m s h _ _ _ _ (fun d h1 ⟨t, q⟩ => ⟨t, n s h1 _ _ _ _ (fun ds h2 ⟨r, h', e, q⟩ => ⟨r, h', e, hq _ _ q⟩) he q⟩) he q
theorem de_mt {T id : String} {name : Str} {g : GM} {o e : Expr} {es : List Expr} {wo : WE} {w : WA} {apos cpos : Pos} (pl : PlainAttrs T) (sl : Slot T name id) (ty : typeOf (Value.builtin id) = pure (Value.type "method_descriptor")) (ok : MtOk X id g) (ho : DE X W o wo) (ha : DA X W (e :: es) w)
    (h1 : attributeBase o name X.env (eval o X.env) = eval o X.env := by rfl)
    (h2 : (((backTo cpos (starEach (e :: es) X.env)).all (fun x => !x.1) && (backToKw cpos (keywordEach [] X.env)).all (fun x => x.1.isSome)) && decide (((e :: es).length + ([] : List Keyword).length + if ([] : List Keyword).isEmpty = true then 0 else 1) < 30)) = true := by rfl)
    (h3 : (apos.endLine == cpos.line) = true := by rfl) (h4 : starEach (e :: es) X.env = (false, eval e X.env) :: starEach es X.env := by rfl) (h5 : (backTo cpos (starEach es X.env)).any (·.1) = false := by rfl) :
    DE X W (.Call (.Attribute o name apos) (e :: es) [] cpos) (wMt T g wo w) := by
  refine ⟨PE.imp (pe_bm pl sl ty ok.mt ho.pe ha.pa h1 h2 h3 h4 h5) fun σ H Q ⟨ι, h, s, hr, sr, q⟩ => ?_, mono_mt ho.mono ha.mono⟩
  refine ⟨ι, h, s, hr, sr, ho.mono s h _ _ _ _ (fun d h1 ⟨t, q⟩ v H1 ι1 g1 hr1 rd => ⟨tyV_of hr1 rd t, ?_⟩) (fun _ _ e => e) q⟩
  refine ⟨ι1, h1, s, hr1, sr.mono g1, ha.mono s h1 _ _ _ _ (fun ds h2 ⟨r, h', eg, q⟩ vs H2 ι2 g2 hr2 rs => ?_) (fun x h' q' => QX.on q' g1) q⟩
  exact ⟨ι2, h2, d, ds, r, h', hr2, rd.mono g2, rs, eg, QV.on q (g1.trans g2)⟩
theorem de_mt0 {T id : String} {name : Str} {g : GM} {o : Expr} {wo : WE} {apos cpos : Pos} (pl : PlainAttrs T) (sl : Slot T name id) (ty : typeOf (Value.builtin id) = pure (Value.type "method_descriptor")) (ok : MtOk X id g) (ho : DE X W o wo)
    (h1 : attributeBase o name X.env (eval o X.env) = eval o X.env := by rfl) (h3 : (apos.endLine == cpos.line) = true := by rfl) :
    DE X W (.Call (.Attribute o name apos) [] [] cpos) (wMt T g wo wNil) := by
  refine ⟨PE.imp (pe_bm0 pl sl ty ok.mt ho.pe h1 h3) fun σ H Q ⟨ι, h, s, hr, sr, q⟩ => ?_, mono_mt ho.mono mono_nil⟩
  refine ⟨ι, h, s, hr, sr, ho.mono s h _ _ _ _ (fun d h1 ⟨t, r, h', eg, q⟩ v H1 ι1 g1 hr1 rd => ⟨tyV_of hr1 rd t, ?_⟩) (fun _ _ e => e) q⟩
  exact ⟨ι1, h1, d, [], r, h', hr1, rd, rfl, eg, QV.on q g1⟩
/-- the list of a number is written -/
theorem lst_write {H : Hp} {ι : List Addr} {h : Hh} {n : Nat} {p : Addr} {ds es : List D} {us : List V} {Q : VK} {r : D} {v : V} (hr : HRel X.K H ι X.mg h) (e : h[n]? = some (.lst ds)) (ep : ι[n]? = some p) (rs : RelDs X.K H ι es us) (q : QV X H ι Q r (h.set n (.lst es)))
    (rr : RelD X.K H ι r v) : Q v (upd H p (.lst us)) := by
  obtain ⟨w, ew, w1, w2⟩ := (hr.obj _ _ _ e ep).there
  have g : Gr X.K H (upd H p (.lst us)) ι ι := Gr.write ew w1 w2
  obtain ⟨_, hr'⟩ := hr.write (u := .lst us) (o' := .lst es) e ep ⟨us, upd_same, rs.mono g⟩
  exact q v _ ι g hr' (rr.mono g)
def gAppend : GM
  | .ref n, [d], h => match h[n]? with
    | some (.lst ds) => if ds.length < sizeLine then some (.non, h.set n (.lst (ds ++ [d]))) else none
    | _ => none
  | _, _, _ => none
theorem ok_append : MtOk X "list.append" gAppend := by
  intro ι h d ds r h' x xs H Q hr rd rs eg q
  unfold gAppend at eg
  split at eg
  · rename_i n y
    obtain ⟨p, ep, rfl⟩ := rd
    obtain ⟨v, rfl, rv⟩ := rels1 rs
    split at eg
    · rename_i es z
      split at eg
      · rename_i hz
        simp only [Option.some.injEq, Prod.mk.injEq] at eg
        obtain ⟨rfl, rfl⟩ := eg
        obtain ⟨vs, q1, s1⟩ := hr.obj _ _ _ z ep
        refine ⟨_, mt_append, p, vs, v, rfl, rfl, q1, by rw [s1.length]; exact hz, lst_write hr z ep (s1.append (es := [y]) (us := [v]) ⟨v, [], rfl, rv, rfl⟩) q rfl⟩
      · cases eg
    · cases eg
  · cases eg
def gExtend : GM
  | .ref n, [.ref m], h => match h[n]?, h[m]? with
    | some (.lst ds), some (.lst es) => if ds.length + es.length ≤ sizeLine then some (.non, h.set n (.lst (ds ++ es))) else none
    | _, _ => none
  | _, _, _ => none
theorem ok_extend : MtOk X "list.extend" gExtend := by
  intro ι h d ds r h' x xs H Q hr rd rs eg q
  unfold gExtend at eg
  split at eg
  · rename_i n m
    obtain ⟨p, ep, rfl⟩ := rd
    obtain ⟨v, rfl, p', ep', rfl⟩ := rels1 rs
    split at eg
    · rename_i ds es z z'
      split at eg
      · rename_i hz
        simp only [Option.some.injEq, Prod.mk.injEq] at eg
        obtain ⟨rfl, rfl⟩ := eg
        obtain ⟨vs, q1, s1⟩ := hr.obj _ _ _ z ep
        obtain ⟨us, q2, s2⟩ := hr.obj _ _ _ z' ep'
        exact ⟨_, mt_extend, p, p', vs, us, rfl, rfl, q1, q2, by rw [s1.length, s2.length]; exact hz, lst_write hr z ep (s1.append s2) q rfl⟩
      · cases eg
    · cases eg
  · cases eg
theorem RelDs.dropLast {K : PySem.W.Frag} {H : Hp} {ι : List Addr} {ds : List D} {vs : List V} (r : RelDs K H ι ds vs) : RelDs K H ι ds.dropLast vs.dropLast := by
  rw [List.dropLast_eq_take, List.dropLast_eq_take, r.length]
  exact r.take _
theorem RelDs.eraseIdx {K : PySem.W.Frag} {H : Hp} {ι : List Addr} {ds : List D} {vs : List V} (r : RelDs K H ι ds vs) (n : Nat) : RelDs K H ι (ds.eraseIdx n) (vs.eraseIdx n) := by
  rw [List.eraseIdx_eq_take_drop_succ, List.eraseIdx_eq_take_drop_succ]
  exact (r.take n).append (r.drop (n + 1))
def gPop : GM
  | .ref n, [], h => match h[n]? with
    | some (.lst ds) => match ds[ds.length - 1]? with
      | some d => some (d, h.set n (.lst ds.dropLast))
      | none => none
    | _ => none
  | _, _, _ => none
theorem ok_pop : MtOk X "list.pop" gPop := by
  intro ι h d ds r h' x xs H Q hr rd rs eg q
  unfold gPop at eg
  split at eg
  · rename_i n
    obtain ⟨p, ep, rfl⟩ := rd
    have rs : xs = [] := rs
    subst rs
    split at eg
    · rename_i es z
      split at eg
      · rename_i y ey
        simp only [Option.some.injEq, Prod.mk.injEq] at eg
        obtain ⟨rfl, rfl⟩ := eg
        obtain ⟨vs, q1, s1⟩ := hr.obj _ _ _ z ep
        obtain ⟨v, ev, rv⟩ := s1.get ey
        exact ⟨_, mt_pop, p, vs, v, rfl, rfl, q1, by rw [s1.length]; exact ev, lst_write hr z ep s1.dropLast q rv⟩
      · cases eg
    · cases eg
  · cases eg
def gPopAt : GM
  | .ref n, [.int i], h => match h[n]? with
    | some (.lst ds) => if 0 ≤ i ∧ i < (ds.length : Int) ∧ ds.length ≤ sizeLine then (match ds[i.toNat]? with
      | some d => some (d, h.set n (.lst (ds.eraseIdx i.toNat)))
      | none => none) else none
    | _ => none
  | _, _, _ => none
theorem ok_popAt : MtOk X "list.pop" gPopAt := by
  intro ι h d ds r h' x xs H Q hr rd rs eg q
  unfold gPopAt at eg
  split at eg
  · rename_i n i
    obtain ⟨p, ep, rfl⟩ := rd
    obtain ⟨v, rfl, rv⟩ := rels1 rs
    cases rv
    split at eg
    · rename_i es z
      split at eg
      · rename_i hi
        obtain ⟨h0, h1, h2⟩ := hi
        split at eg
        · rename_i y ey
          simp only [Option.some.injEq, Prod.mk.injEq] at eg
          obtain ⟨rfl, rfl⟩ := eg
          obtain ⟨vs, q1, s1⟩ := hr.obj _ _ _ z ep
          obtain ⟨v, ev, rv⟩ := s1.get ey
          have hn := line63
          exact ⟨_, mt_popAt, p, vs, i, i.toNat, v, rfl, rfl, q1, by omega, by omega, by rw [s1.length]; exact seqIndex_of h0 h1, ev, lst_write hr z ep (s1.eraseIdx _) q rv⟩
        · cases eg
      · cases eg
    · cases eg
  · cases eg
def gClear : GM
  | .ref n, [], h => match h[n]? with
    | some (.lst _) => some (.non, h.set n (.lst []))
    | _ => none
  | _, _, _ => none
theorem ok_clear : MtOk X "list.clear" gClear := by
  intro ι h d ds r h' x xs H Q hr rd rs eg q
  unfold gClear at eg
  split at eg
  · rename_i n
    obtain ⟨p, ep, rfl⟩ := rd
    have rs : xs = [] := rs
    subst rs
    split at eg
    · rename_i es z
      simp only [Option.some.injEq, Prod.mk.injEq] at eg
      obtain ⟨rfl, rfl⟩ := eg
      obtain ⟨vs, q1, s1⟩ := hr.obj _ _ _ z ep
      exact ⟨_, mt_clear, p, vs, rfl, rfl, q1, lst_write hr z ep (es := []) (us := []) rfl q rfl⟩
    · cases eg
  · cases eg
/-- sep.join(texts) -/
def strsOf : List D → Option (List Str)
  | [] => some []
  | .str x :: ds => match strsOf ds with | some xs => some (x :: xs) | none => none
  | _ :: _ => none
theorem strs_rel {K : PySem.W.Frag} {H : Hp} {ι : List Addr} : ∀ {ds : List D} {vs : List V} {bs : List Str}, RelDs K H ι ds vs → strsOf ds = some bs → vs = bs.map V.str
  | [], _, _, r, e => by
    rw [show _ = _ from r]
    cases e
    rfl
  | d :: ds, _, bs, r, e => by
    obtain ⟨v, u, rfl, r1, r2⟩ := r
    cases d with
    | str b =>
      simp only [strsOf] at e
      cases z : strsOf ds with
      | none => rw [z] at e; cases e
      | some cs =>
        rw [z] at e
        cases e
        cases r1
        rw [strs_rel r2 z]
        rfl
    | _ => cases e
def gJoin : GM
  | .str x, [d], h => match sqOf h d with
    | some ds => match strsOf ds with
      | some ys => if (ys.map (fun y => y.length)).sum + ys.length * x.length ≤ 16777216 then some (.str (Txt.join x ys), h) else none
      | none => none
    | none => none
  | _, _, _ => none
theorem ok_join : MtOk X "str.join" gJoin := by
  intro ι h d ds r h' x xs H Q hr rd rs eg q
  unfold gJoin at eg
  split at eg
  · rename_i z d
    cases rd
    obtain ⟨v, rfl, rv⟩ := rels1 rs
    split at eg
    · rename_i es ees
      split at eg
      · rename_i ys eys
        split at eg
        · rename_i hz
          simp only [Option.some.injEq, Prod.mk.injEq] at eg
          obtain ⟨rfl, rfl⟩ := eg
          obtain ⟨p, vs, rfl, sq, s1⟩ := sq_of hr rv ees
          rw [strs_rel s1 eys] at sq
          exact ⟨_, mt_join, z, p, ys, rfl, rfl, sq, hz, qv_same hr q rfl⟩
        · cases eg
      · cases eg
    · cases eg
  · cases eg

/-! ### fields of instances -/
/-- the class C of the module; it has no attribute f of its own -/
structure CF (K : PySem.W.Frag) (mg : Str → Option Value) (C f : Str) : Prop where
  ex : ∃ c, mg C = some (.ref c) ∧ Cls K c ∧ NoAttr K c f
def kFld (C f : Str) : K1 := fun _ d h Q _ => ∃ n fs v, d = .ref n ∧ h[n]? = some (.ins C fs) ∧ fs.lookup f = some v ∧ Q v h
theorem mono_fld {C f : Str} : Mono1 (kFld C f) := fun s d h Q Q' E E' hq _ ⟨n, fs, v, e, z, l, q⟩ => ⟨n, fs, v, e, z, l, hq _ _ q⟩
theorem RelKs.look {K : PySem.W.Frag} {H : Hp} {ι : List Addr} {f : Str} : ∀ {fs : List (Str × D)} {vs : List (Str × V)} {d : D}, RelKs K H ι fs vs → fs.lookup f = some d → ∃ v, vs.lookup f = some v ∧ RelD K H ι d v
  | [], _, _, _, e => by cases e
  | (g, d') :: fs, _, d, r, e => by
    obtain ⟨v, u, rfl, r1, r2⟩ := r
    rw [List.lookup_cons] at e ⊢
    cases z : f == g with
    | true => rw [z] at e; cases e; exact ⟨v, rfl, r1⟩
    | false => rw [z] at e; exact r2.look e
theorem RelKs.lookN {K : PySem.W.Frag} {H : Hp} {ι : List Addr} {f : Str} : ∀ {fs : List (Str × D)} {vs : List (Str × V)}, RelKs K H ι fs vs → fs.lookup f = none → vs.lookup f = none
  | [], _, r, _ => by rw [show _ = _ from r]; rfl
  | (g, d') :: fs, _, r, e => by
    obtain ⟨v, u, rfl, r1, r2⟩ := r
    rw [List.lookup_cons] at e ⊢
    cases z : f == g with
    | true => rw [z] at e; cases e
    | false => rw [z] at e; exact r2.lookN e
theorem RelKs.length {κ : Type} {K : PySem.W.Frag} {H : Hp} {ι : List Addr} : ∀ {fs : List (κ × D)} {vs : List (κ × V)}, RelKs K H ι fs vs → vs.length = fs.length
  | [], _, r => by rw [show _ = _ from r]; rfl
  | _ :: fs, _, r => by
    obtain ⟨v, u, rfl, r1, r2⟩ := r
    rw [List.length_cons, List.length_cons, r2.length]
theorem de_fld {C f : Str} (cf : CF X.K X.mg C f) (ha : DE X W a wa) (hb : attributeBase a f X.env (eval a X.env) = eval a X.env := by rfl) : DE X W (.Attribute a f pos) (wUn (kFld C f) wa) := by
  refine ⟨PE.imp (pe_fld ha.pe hb) fun σ H Q ⟨ι, h, s, hr, sr, q⟩ => ?_, mono_un ha.mono mono_fld⟩
  refine ⟨ι, h, s, hr, sr, ha.mono s h _ _ _ _ (fun d h1 ⟨n, fs, v, ed, z, l, q⟩ x H1 ι1 g1 hr1 rd => ?_) (fun _ _ e => e) q⟩
  subst ed
  obtain ⟨p, ep, rfl⟩ := rd
  obtain ⟨c, dx, vs, mc, e1, rs⟩ := hr1.obj _ _ _ z ep
  obtain ⟨c', mc', cl, na⟩ := cf.ex
  rw [mc] at mc'
  cases mc'
  obtain ⟨u, eu, ru⟩ := rs.look l
  exact ⟨p, c, dx, vs, u, rfl, e1, cl, na, eu, q u H1 ι1 g1 hr1 ru⟩
def putD (f : Str) (d : D) : List (Str × D) → List (Str × D)
  | [] => [(f, d)]
  | (g, e) :: r => if g = f then (g, d) :: r else (g, e) :: putD f d r
theorem RelKs.put {K : PySem.W.Frag} {H : Hp} {ι : List Addr} {f : Str} {d : D} {v : V} (rv : RelD K H ι d v) : ∀ {fs : List (Str × D)} {vs : List (Str × V)}, RelKs K H ι fs vs → RelKs K H ι (putD f d fs) (putF f v vs)
  | [], _, r => by
    rw [show _ = _ from r]
    exact ⟨v, [], rfl, rv, rfl⟩
  | (g, e) :: fs, _, r => by
    obtain ⟨u, us, rfl, r1, r2⟩ := r
    unfold putD putF
    by_cases z : g = f
    · rw [if_pos z, if_pos z]
      exact ⟨v, us, rfl, rv, r2⟩
    · rw [if_neg z, if_neg z]
      exact ⟨u, _, rfl, r1, r2.put rv⟩

/-! ### defs of the program -/
abbrev SpD := List D → Hh → PV → PX → Prop
/-- what must hold ahead; what holds of the value and the heap behind; what holds of an exception -/
def spOf (pre : List D → Hh → Prop) (post : List D → Hh → D → Hh → Prop) (xp : List D → Hh → XD → Hh → Prop := fun _ _ _ _ => False) : SpD :=
  fun ds h Q E => pre ds h ∧ (∀ d h', post ds h d h' → Q d h') ∧ ∀ x h', xp ds h x h' → E x h'
def MonoSp (sp : SpD) : Prop := ∀ ds h (Q Q' : PV) (E E' : PX), (∀ d h, Q d h → Q' d h) → (∀ x h, E x h → E' x h) → sp ds h Q E → sp ds h Q' E'
theorem mono_sp {pre : List D → Hh → Prop} {post : List D → Hh → D → Hh → Prop} {xp : List D → Hh → XD → Hh → Prop} : MonoSp (spOf pre post xp) := fun ds h Q Q' E E' hq he ⟨p, q, x⟩ => ⟨p, fun d h' z => hq _ _ (q d h' z), fun y h' z => he _ _ (x y h' z)⟩
def LSp (K : PySem.W.Frag) (mg : Str → Option Value) (sp : SpD) : Sp := fun vs H Q E => ∃ ι h ds, HRel K H ι mg h ∧ RelDs K H ι ds vs ∧ sp ds h (fun d h' => ∀ v H' ι', Gr K H H' ι ι' → HRel K H' ι' mg h' → RelD K H' ι' d v → Q v H')
  (fun x h' => ∀ c d H' ι', Gr K H H' ι ι' → HRel K H' ι' mg h' → XR K mg H' ι' x c d → E c d H')
/-- the def x of the module keeps sp, by level k -/
structure GF (P : Program) (w : World) (K : PySem.W.Frag) (mg : Str → Option Value) (base : Heap) (x : Str) (k : Nat) (sp : SpD) : Prop where
  ex : ∃ f fd ps, FnOk P w K mg base (L2.CX P w) k f fd ps (LSp K mg sp) ∧ mg x = some (.ref f) ∧ PySem.W.keepIn K (.ref f) = true ∧ Binds K fd ps []
  mono : MonoSp sp
def wCall (sp : SpD) (w : WA) : WE := fun s h Q E => w s h (fun ds h1 => sp ds h1 Q E) E
theorem mono_call {sp : SpD} {w : WA} (m : MonoSp sp) (n : Mono w) : Mono (wCall sp w) := fun s h Q Q' E E' hq he q => n s h _ _ _ _ (fun ds h1 q => m ds h1 _ _ _ _ hq he q) he q
theorem de_call {x : Str} {k j : Nat} {sp : SpD} {e : Expr} {es : List Expr} {w : WA} {p pos : Pos} (G : GF X.prog X.w X.K X.mg X.base x k sp) (tk : Takes X W) (hr : Room j X.A) (ha : DA X W (e :: es) w) (hj : k ≤ j := by decide) (hg : Gl X x := by rfl)
    (hdb : (x == ("__debug__" : Str)) = false := by decide) (he : starEach (e :: es) X.env = (false, eval e X.env) :: starEach es X.env := by rfl) (hpl : (backTo pos (starEach es X.env)).any (·.1) = false := by rfl) : DE X W (.Call (.Name x p) (e :: es) [] pos) (wCall sp w) := by
  obtain ⟨f, fd, ps, F, hm, hk, hb⟩ := G.ex
  refine ⟨PE.imp (pe_callSD F (hr.mono hj) hg hm hk hb .nil (fun σ => passAt tk σ) ha.pa hdb he hpl) fun σ H Q ⟨ι, h, s, hr, sr, q⟩ => ?_, mono_call G.mono ha.mono⟩
  refine ⟨ι, h, s, hr, sr, ha.mono s h _ _ _ _ (fun ds h1 q vs H1 ι1 g1 hr1 rs => ?_) (fun _ _ e => e) q⟩
  refine ⟨ι1, h1, ds, hr1, by rw [List.append_nil]; exact rs, G.mono ds h1 _ _ _ _ (fun d h2 q => QV.on q g1) (fun x h2 q => ?_) q⟩
  intro c d H' ι' g' hr' xr
  exact QX.on q g1 c d H' ι' g' hr' xr
/-- a wish without the slots -/
abbrev nS (E : XK) : WX := fun c d _ H => E c d H
theorem de_call0 {x : Str} {k j : Nat} {sp : SpD} {E : XK} {p pos : Pos} (G : GF X.prog X.w X.K X.mg X.base x k sp) (tk : Takes X (nS E)) (hr : Room j X.A) (hj : k ≤ j := by decide) (hg : Gl X x := by rfl)
    (hdb : (x == ("__debug__" : Str)) = false := by decide) : DE X (nS E) (.Call (.Name x p) [] [] pos) (wCall sp wNil) := by
  obtain ⟨f, fd, ps, F, hm, hk, hb⟩ := G.ex
  refine ⟨PE.imp (pe_call0 F (hr.mono hj) hg hm hk hb .nil (passes_call tk fun _ _ _ _ h => h) hdb) fun σ H Q ⟨ι, h, s, hr, sr, q⟩ => ?_, mono_call G.mono mono_nil⟩
  exact ⟨ι, h, [], hr, rfl, q⟩
/-- methods of the program's classes -/
structure GM' (P : Program) (w : World) (K : PySem.W.Frag) (mg : Str → Option Value) (base : Heap) (C m : Str) (k : Nat) (sp : SpD) : Prop where
  ex : ∃ c f fd ps, FnOk P w K mg base (L2.CX P w) k f fd ps (LSp K mg sp) ∧ mg C = some (.ref c) ∧ Cls K c ∧ Meth K c m f ∧ Binds K fd ps []
  mono : MonoSp sp
def wMeth (C m : Str) (sp : SpD) (wo : WE) (w : WA) : WE := fun s h Q E => wo s h (fun d h1 => ∃ n fs, d = .ref n ∧ h1[n]? = some (.ins C fs) ∧ fs.lookup m = none ∧ w s h1 (fun ds h2 => sp (d :: ds) h2 Q E) E) E
theorem mono_meth {C m : Str} {sp : SpD} {wo : WE} {w : WA} (ms : MonoSp sp) (mo : Mono wo) (n : Mono w) : Mono (wMeth C m sp wo w) := fun s h Q Q' E E' hq he q =>
  mo s h _ _ _ _ (fun d h1 ⟨k, fs, e, z, l, q⟩ => ⟨k, fs, e, z, l, n s h1 _ _ _ _ (fun ds h2 q => ms _ h2 _ _ _ _ hq he q) he q⟩) he q
theorem de_meth {C m : Str} {k j : Nat} {sp : SpD} {E : XK} {o e : Expr} {es : List Expr} {wo : WE} {w : WA} {apos pos : Pos} {pl : Sem Bool} (G : GM' X.prog X.w X.K X.mg X.base C m k sp) (tk : Takes X (nS E)) (hr : Room j X.A) (ho : DE X (nS E) o wo) (ha : DA X (nS E) (e :: es) w) (hj : k ≤ j := by decide)
    (hst : starEach (e :: es) X.env = (false, eval e X.env) :: starEach es X.env := by rfl) (hpl : (backTo pos (starEach es X.env)).any (·.1) = false := by rfl)
    (ht : eval (.Call (.Attribute o m apos) (e :: es) [] pos) X.env = (do
      let ov ← eval o X.env
      standAt apos.atName
      let (f, first) ← holding [ov] (getMethod ov m pl)
      callWith pos f first (backTo pos (starEach (e :: es) X.env)) (backToKw pos (keywordEach [] X.env))) := by rfl) :
    DE X (nS E) (.Call (.Attribute o m apos) (e :: es) [] pos) (wMeth C m sp wo w) := by
  obtain ⟨c, f, fd, ps, F, mc, cl, hm, hb⟩ := G.ex
  refine ⟨PE.imp (pe_meth ho.pe cl hm F (hr.mono hj) hb .nil (passes_call tk fun _ _ _ _ h => h) ha.pa hst hpl ht) fun σ H Q ⟨ι, h, s, hr, sr, q⟩ => ?_, mono_meth G.mono ho.mono ha.mono⟩
  refine ⟨ι, h, s, hr, sr, ho.mono s h _ _ _ _ (fun d h1 ⟨n, fs, ed, z, l, q⟩ x H1 ι1 g1 hr1 rd => ?_) (fun _ _ e => e) q⟩
  subst ed
  obtain ⟨p, ep, rfl⟩ := rd
  obtain ⟨c', dx, vs, mc', e1, rs⟩ := hr1.obj _ _ _ z ep
  rw [mc] at mc'
  cases mc'
  refine ⟨p, dx, vs, rfl, e1, rs.lookN l, ι1, h1, s, hr1, sr.mono g1, ha.mono s h1 _ _ _ _ (fun ds h2 q us H2 ι2 g2 hr2 rs2 => ?_) (fun x h' q' => QX.on q' g1) q⟩
  refine ⟨ι2, h2, .ref n :: ds, hr2, ⟨.ref p, us, by rw [List.append_nil], ⟨p, pre_get g2.pre ep, rfl⟩, rs2⟩, G.mono _ h2 _ _ _ _ (fun d h3 q => QV.on q (g1.trans g2)) (fun x h3 q c d H' ι' g' hr' xr => q c d H' ι' ((g1.trans g2).trans g') hr' xr) q⟩
theorem de_meth0 {C m : Str} {k j : Nat} {sp : SpD} {E : XK} {o : Expr} {wo : WE} {apos pos : Pos} {pl : Sem Bool} (G : GM' X.prog X.w X.K X.mg X.base C m k sp) (tk : Takes X (nS E)) (hr : Room j X.A) (ho : DE X (nS E) o wo) (hj : k ≤ j := by decide)
    (ht : eval (.Call (.Attribute o m apos) [] [] pos) X.env = (do
      let ov ← eval o X.env
      standAt apos.atName
      let (f, first) ← holding [ov] (getMethod ov m pl)
      callWith pos f first (backTo pos (starEach [] X.env)) (backToKw pos (keywordEach [] X.env))) := by rfl) :
    DE X (nS E) (.Call (.Attribute o m apos) [] [] pos) (wMeth C m sp wo wNil) := by
  obtain ⟨c, f, fd, ps, F, mc, cl, hm, hb⟩ := G.ex
  refine ⟨PE.imp (pe_meth0 ho.pe cl hm F (hr.mono hj) hb .nil (passes_call tk fun _ _ _ _ h => h) ht) fun σ H Q ⟨ι, h, s, hr, sr, q⟩ => ?_, mono_meth G.mono ho.mono mono_nil⟩
  refine ⟨ι, h, s, hr, sr, ho.mono s h _ _ _ _ (fun d h1 ⟨n, fs, ed, z, l, q⟩ x H1 ι1 g1 hr1 rd => ?_) (fun _ _ e => e) q⟩
  subst ed
  obtain ⟨p, ep, rfl⟩ := rd
  obtain ⟨c', dx, vs, mc', e1, rs⟩ := hr1.obj _ _ _ z ep
  rw [mc] at mc'
  cases mc'
  refine ⟨p, dx, vs, rfl, e1, rs.lookN l, ι1, h1, [.ref n], hr1, ⟨.ref p, [], rfl, ⟨p, ep, rfl⟩, rfl⟩, G.mono _ h1 _ _ _ _ (fun d h3 q => QV.on q g1) (fun x h3 q c d H' ι' g' hr' xr => q c d H' ι' (g1.trans g') hr' xr) q⟩
/-- a new instance of a class with __init__ -/
structure GI (P : Program) (w : World) (K : PySem.W.Frag) (mg : Str → Option Value) (base : Heap) (C : Str) (k : Nat) (sp : SpD) : Prop where
  ex : ∃ c f fd ps, FnOk P w K mg base (L2.CX P w) k f fd ps (LSp K mg sp) ∧ mg C = some (.ref c) ∧ Mk K c f ∧ Binds K fd ps []
  mono : MonoSp sp
def wMake (C : Str) (sp : SpD) (w : WA) : WE := fun s h Q E => w s h (fun ds h1 => sp (.ref h1.length :: ds) (h1 ++ [.ins C []]) (fun r h2 => r = .non ∧ Q (.ref h1.length) h2) E) E
theorem mono_make {C : Str} {sp : SpD} {w : WA} (ms : MonoSp sp) (n : Mono w) : Mono (wMake C sp w) := fun s h Q Q' E E' hq he q =>
  n s h _ _ _ _ (fun ds h1 q => ms _ _ _ _ _ _ (fun d h2 ⟨e, q⟩ => ⟨e, hq _ _ q⟩) he q) he q
theorem de_make {C : Str} {k j : Nat} {sp : SpD} {E : XK} {e : Expr} {es : List Expr} {w : WA} {p pos : Pos} (G : GI X.prog X.w X.K X.mg X.base C k sp) (tk : Takes X (nS E)) (hr : Room j X.A) (ha : DA X (nS E) (e :: es) w) (hj : k + 1 ≤ j := by decide) (hg : Gl X C := by rfl)
    (hdb : (C == ("__debug__" : Str)) = false := by decide) (he : starEach (e :: es) X.env = (false, eval e X.env) :: starEach es X.env := by rfl) (hpl : (backTo pos (starEach es X.env)).any (·.1) = false := by rfl) : DE X (nS E) (.Call (.Name C p) (e :: es) [] pos) (wMake C sp w) := by
  obtain ⟨c, f, fd, ps, F, mc, mk, hb⟩ := G.ex
  refine ⟨PE.imp (pe_make mk F (hr.mono hj) hg mc hb .nil (passes_call tk fun _ _ _ _ h => h) ha.pa hdb he hpl) fun σ H Q ⟨ι, h, s, hr, sr, q⟩ => ?_, mono_make G.mono ha.mono⟩
  refine ⟨ι, h, s, hr, sr, ha.mono s h _ _ _ _ (fun ds h1 q vs H1 ι1 g1 hr1 rs x dx hx hdx ne => ?_) (fun _ _ e => e) q⟩
  have hx' : upd H1 dx (.own x) x = none := by rw [upd_ne (Ne.symm ne)]; exact hx
  have ga : Gr X.K H1 (upd H1 dx (.own x)) ι1 ι1 := Gr.fresh hdx ι1 (List.prefix_refl _)
  have gb : Gr X.K (upd H1 dx (.own x)) (upd (upd H1 dx (.own x)) x (.ins c dx [])) ι1 (ι1 ++ [x]) := Gr.fresh hx' _ (List.prefix_append _ _)
  have hr2 : HRel X.K (upd (upd H1 dx (.own x)) x (.ins c dx [])) (ι1 ++ [x]) X.mg (h1 ++ [.ins C []]) := (hr1.fresh hdx).push hx' ⟨c, dx, [], mc, upd_same, rfl⟩
  have ix : (ι1 ++ [x])[h1.length]? = some x := by rw [← hr1.len, List.getElem?_append_right (Nat.le_refl _), Nat.sub_self]; rfl
  refine ⟨ι1 ++ [x], h1 ++ [.ins C []], .ref h1.length :: ds, hr2, ⟨.ref x, vs, by rw [List.append_nil], ⟨x, ix, rfl⟩, rs.mono (ga.trans gb)⟩, G.mono _ _ _ _ _ _ (fun d h3 ⟨ed, q⟩ v H3 ι3 g3 hr3 rv => ?_) (fun y h3 q c d H' ι' g' hr' xr => q c d H' ι' ((g1.trans (ga.trans gb)).trans g') hr' xr) q⟩
  subst ed
  exact ⟨rv, q _ H3 ι3 (g1.trans ((ga.trans gb).trans g3)) hr3 ⟨x, pre_get g3.pre ix, rfl⟩⟩
theorem de_make0 {C : Str} {k j : Nat} {sp : SpD} {E : XK} {p pos : Pos} (G : GI X.prog X.w X.K X.mg X.base C k sp) (tk : Takes X (nS E)) (hr : Room j X.A) (hj : k + 1 ≤ j := by decide) (hg : Gl X C := by rfl)
    (hdb : (C == ("__debug__" : Str)) = false := by decide) : DE X (nS E) (.Call (.Name C p) [] [] pos) (wMake C sp wNil) := by
  obtain ⟨c, f, fd, ps, F, mc, mk, hb⟩ := G.ex
  refine ⟨PE.imp (pe_make0 mk F (hr.mono hj) hg mc hb .nil (passes_call tk fun _ _ _ _ h => h) hdb) fun σ H Q ⟨ι1, h1, s, hr1, sr, q⟩ => ?_, mono_make G.mono mono_nil⟩
  intro x dx hx hdx ne
  have q : sp [.ref h1.length] (h1 ++ [.ins C []]) (fun r h2 => r = .non ∧ QV X H ι1 Q (.ref h1.length) h2) (QX X (nS E) H ι1 σ) := q
  have hx' : upd H dx (.own x) x = none := by rw [upd_ne (Ne.symm ne)]; exact hx
  have ga : Gr X.K H (upd H dx (.own x)) ι1 ι1 := Gr.fresh hdx ι1 (List.prefix_refl _)
  have gb : Gr X.K (upd H dx (.own x)) (upd (upd H dx (.own x)) x (.ins c dx [])) ι1 (ι1 ++ [x]) := Gr.fresh hx' _ (List.prefix_append _ _)
  have hr2 : HRel X.K (upd (upd H dx (.own x)) x (.ins c dx [])) (ι1 ++ [x]) X.mg (h1 ++ [.ins C []]) := (hr1.fresh hdx).push hx' ⟨c, dx, [], mc, upd_same, rfl⟩
  have ix : (ι1 ++ [x])[h1.length]? = some x := by rw [← hr1.len, List.getElem?_append_right (Nat.le_refl _), Nat.sub_self]; rfl
  refine ⟨ι1 ++ [x], h1 ++ [.ins C []], [.ref h1.length], hr2, ⟨.ref x, [], rfl, ⟨x, ix, rfl⟩, rfl⟩, G.mono _ _ _ _ _ _ (fun d h3 ⟨ed, q⟩ v H3 ι3 g3 hr3 rv => ?_) (fun y h3 q c d H' ι' g' hr' xr => q c d H' ι' ((ga.trans gb).trans g') hr' xr) q⟩
  subst ed
  exact ⟨rv, q _ H3 ι3 ((ga.trans gb).trans g3) hr3 ⟨x, pre_get g3.pre ix, rfl⟩⟩
end
end EV

namespace EV
open PySem PySem.Spec PyProof.Rows L2

section
variable {X : Cx} {W : WX} {pos : Pos} {a b c e : Expr} {wa wb wc we : WE} {st : Stmt} {rest : List Stmt} {w v : WS}
theorem QD.exq {H : Hp} {ι : List Addr} {B : Ends} {σ : St} {s : Sl} (sr : SRel X.K H ι σ s) : ∀ x h, (QD X W H ι B).ex s x h → QX X W H ι σ x h := fun x h q c d H' ι' g hr xr => q c d σ H' ι' g hr (sr.mono g) xr
theorem DEnds.Le.refl (A : DEnds) : A.Le A := ⟨fun _ _ h => h, fun _ _ h => h, fun _ _ h => h, fun _ _ h => h, fun _ _ _ h => h⟩

/-! ### blocks -/
def wNext : WS := fun B s h => B.nx s h
def wSeq (w v : WS) : WS := fun B s h => w { B with nx := v B } s h
theorem mono_next : MonoS wNext := fun A B s h l q => l.nx s h q
theorem mono_seq (m : MonoS w) (n : MonoS v) : MonoS (wSeq w v) := fun A B s h l q => m { A with nx := v A } { B with nx := v B } s h ⟨fun s h q => n A B s h l q, l.rt, l.bk, l.ct, l.ex⟩ q
theorem dss_nil : DSs X W [] wNext := ⟨PSs.imp pss_nil fun B σ H ⟨ι, h, s, hr, sr, q⟩ => q σ H ι .refl hr sr, mono_next⟩
theorem dss_one (h : DS X W st w) : DSs X W [st] w := ⟨pss_one h.ps, h.mono⟩
theorem dss_cons (h1 : DS X W st w) (h2 : DSs X W rest v) : DSs X W (st :: rest) (wSeq w v) := by
  refine ⟨PSs.imp (pss_cons h1.ps h2.ps) fun B σ H ⟨ι, h, s, hr, sr, q⟩ => ?_, mono_seq h1.mono h2.mono⟩
  refine ⟨ι, h, s, hr, sr, h1.mono { QD X W H ι B with nx := v (QD X W H ι B) } _ s h ⟨fun s' h' q σ' H' ι' g hr' sr' => ?_, fun _ _ q => q, fun _ _ q => q, fun _ _ q => q, fun _ _ _ q => q⟩ q⟩
  exact ⟨ι', h', s', hr', sr', h2.mono _ _ s' h' (QD.on g) q⟩

/-! ### small statements -/
def wPass : WS := wNext
def wBreak : WS := fun B s h => B.bk s h
def wCont : WS := fun B s h => B.ct s h
theorem ds_pass : DS X W (.Pass pos) wPass := ⟨PS.imp ps_pass fun B σ H ⟨ι, h, s, hr, sr, q⟩ => q σ H ι .refl hr sr, mono_next⟩
theorem ds_break : DS X W (.Break pos) wBreak := ⟨PS.imp ps_break fun B σ H ⟨ι, h, s, hr, sr, q⟩ => q σ H ι .refl hr sr, fun A B s h l q => l.bk s h q⟩
theorem ds_cont : DS X W (.Continue pos) wCont := ⟨PS.imp ps_continue fun B σ H ⟨ι, h, s, hr, sr, q⟩ => q σ H ι .refl hr sr, fun A B s h l q => l.ct s h q⟩
def wExpr (we : WE) : WS := fun B s h => we s h (fun _ h1 => B.nx s h1) (B.ex s)
def wRet (we : WE) : WS := fun B s h => we s h B.rt (B.ex s)
def wRetN : WS := fun B _ h => B.rt .non h
theorem ds_expr (he : DE X W e we) (hs : swapsWith e none pos.line X.env = pure false := by rfl) : DS X W (.Expr e pos) (wExpr we) := by
  refine ⟨PS.imp (ps_expr he.pe hs) fun B σ H ⟨ι, h, s, hr, sr, q⟩ => ?_, fun A B s h l q => he.mono s h _ _ _ _ (fun _ h1 q => l.nx s h1 q) (fun x h1 q => l.ex s x h1 q) q⟩
  exact ⟨ι, h, s, hr, sr, he.mono s h _ _ _ _ (fun d h1 q x H1 ι1 g hr1 rd => q σ H1 ι1 g hr1 (sr.mono g)) (QD.exq sr) q⟩
theorem ds_ret (he : DE X W e we) : DS X W (.Return (some e) pos) (wRet we) := by
  refine ⟨PS.imp (ps_ret he.pe) fun B σ H ⟨ι, h, s, hr, sr, q⟩ => ?_, fun A B s h l q => he.mono s h _ _ _ _ l.rt (fun x h1 q => l.ex s x h1 q) q⟩
  exact ⟨ι, h, s, hr, sr, he.mono s h _ _ _ _ (fun d h1 q => q) (QD.exq sr) q⟩
theorem ds_retN : DS X W (.Return none pos) wRetN := ⟨PS.imp ps_retN fun B σ H ⟨ι, h, s, hr, sr, q⟩ => q .non H ι .refl hr rfl, fun A B s h l q => l.rt _ _ q⟩
def wIf (wt : WT) (w v : WS) : WS := fun B s h => wt s h (fun c h1 => if c = true then w B s h1 else v B s h1) (B.ex s)
theorem mono_if {wt : WT} (m : Mono wt) (n : MonoS w) (k : MonoS v) : MonoS (wIf wt w v) := fun A B s h l q => m s h _ _ _ _ (fun c h1 q => by
  cases c with
  | true => exact n A B s h1 l q
  | false => exact k A B s h1 l q) (fun x h1 q => l.ex s x h1 q) q
theorem ds_if {p q : List Stmt} {wt : WT} (hc : DT X W c wt) (ha : DSs X W p w) (hb : DSs X W q v) : DS X W (.If c p q pos) (wIf wt w v) := by
  refine ⟨PS.imp (ps_if hc.pt ha.ps hb.ps) fun B σ H ⟨ι, h, s, hr, sr, q⟩ => ?_, mono_if hc.mono ha.mono hb.mono⟩
  refine ⟨ι, h, s, hr, sr, hc.mono s h _ _ _ _ (fun c h1 q H1 ι1 g hr1 => ?_) (QD.exq sr) q⟩
  cases c with
  | true => exact ⟨ι1, h1, s, hr1, sr.mono g, ha.mono _ _ s h1 (QD.on g) q⟩
  | false => exact ⟨ι1, h1, s, hr1, sr.mono g, hb.mono _ _ s h1 (QD.on g) q⟩

/-! ### targets -/
theorem SRel.set {K : PySem.W.Frag} {H : Hp} {ι : List Addr} {σ : St} {s : Sl} {d : D} {v : V} (sr : SRel K H ι σ s) (i : Nat) (r : RelD K H ι d v) : SRel K H ι (σ.set i (some v)) (s.set i (some d)) := by
  refine ⟨by rw [List.length_set, List.length_set]; exact sr.1, fun j e hj => ?_⟩
  by_cases hi : i = j
  · subst hi
    have hl : i < s.length := by
      have := (List.getElem?_eq_some_iff.mp hj).1
      rwa [List.length_set] at this
    rw [List.getElem?_set_self hl] at hj
    cases hj
    exact ⟨v, List.getElem?_set_self (by rw [sr.1]; exact hl), r⟩
  · rw [List.getElem?_set_ne hi] at hj ⊢
    exact sr.2 j e hj
/-- the slots of a target, nested -/
inductive Tg where
  | nm (i : Nat) | tp (ts : List Tg)
mutual
def asgD : Tg → D → Sl → Option Sl
  | .nm i, d, s => some (s.set i (some d))
  | .tp ts, .tup ds, s => asgDs ts ds s
  | .tp _, _, _ => none
def asgDs : List Tg → List D → Sl → Option Sl
  | [], [], s => some s
  | t :: ts, d :: ds, s => match asgD t d s with | some s' => asgDs ts ds s' | none => none
  | _, _, _ => none
end
mutual
def gOf (K : PySem.W.Frag) : Tg → TG
  | .nm i => gName i
  | .tp ts => gTup K ts.length (gsOf K ts)
def gsOf (K : PySem.W.Frag) : List Tg → TGs
  | [] => gNil
  | t :: ts => gCons (gOf K t) (gsOf K ts)
end
mutual
def slotsT : Tg → List Nat
  | .nm i => [i]
  | .tp ts => slotsTs ts
def slotsTs : List Tg → List Nat
  | [] => []
  | t :: ts => slotsT t ++ slotsTs ts
end
theorem wipe_in {σ : St} {i : Nat} : ∀ {vs : List Nat}, i ∈ vs → (wipe σ vs)[i]? = if i < σ.length then some none else none
  | v :: vs, h => by
    unfold wipe
    by_cases e : v = i
    · subst e
      by_cases hl : v < σ.length
      · rw [if_pos hl, List.getElem?_set_self (by rw [wipe_length]; exact hl)]
      · rw [if_neg hl, List.getElem?_eq_none (by rw [List.length_set, wipe_length]; omega)]
    · rw [List.getElem?_set_ne e]
      exact wipe_in (by rcases List.mem_cons.mp h with z | z; exact absurd z.symm e; exact z)
theorem wipe_set {σ : St} {i : Nat} {x : Option V} {vs : List Nat} (h : i ∈ vs) : wipe (σ.set i x) vs = wipe σ vs := by
  apply List.ext_getElem?
  intro j
  by_cases hj : j ∈ vs
  · rw [wipe_in hj, wipe_in hj, List.length_set]
  · rw [wipe_out hj, wipe_out hj, List.getElem?_set_ne (fun z : i = j => hj (z ▸ h))]
mutual
theorem asg_ok {K : PySem.W.Frag} {H : Hp} {ι : List Addr} : ∀ {t : Tg} {d : D} {v : V} {σ : St} {s s' : Sl} {Q : St → Hp → Prop}, RelD K H ι d v → SRel K H ι σ s → asgD t d s = some s' →
    (∀ σ', SRel K H ι σ' s' → (∀ vs : List Nat, (∀ i ∈ slotsT t, i ∈ vs) → wipe σ' vs = wipe σ vs) → Q σ' H) → gOf K t v σ H Q
  | .nm i, d, v, σ, s, s', Q, rd, sr, e, q => by
    simp only [asgD, Option.some.injEq] at e
    subst e
    simp only [gOf]
    exact q _ (sr.set i rd) fun vs h => wipe_set (h i (by simp [slotsT]))
  | .tp ts, .tup ds, v, σ, s, s', Q, rd, sr, e, q => by
    simp only [asgD] at e
    obtain ⟨a, us, rfl, sq, rs⟩ := rd
    simp only [gOf]
    have hl : us.length = ts.length := by rw [rs.length]; exact asgDs_len e
    exact ⟨a, us, rfl, sq, hl, asgs_ok rs sr e fun σ' sr' wi => q σ' sr' fun vs h => wi vs (by simpa [slotsT] using h)⟩
  | .tp ts, .non, v, σ, s, s', Q, rd, sr, e, q => by simp [asgD] at e
  | .tp ts, .bl _, v, σ, s, s', Q, rd, sr, e, q => by simp [asgD] at e
  | .tp ts, .int _, v, σ, s, s', Q, rd, sr, e, q => by simp [asgD] at e
  | .tp ts, .str _, v, σ, s, s', Q, rd, sr, e, q => by simp [asgD] at e
  | .tp ts, .ref _, v, σ, s, s', Q, rd, sr, e, q => by simp [asgD] at e
  | .tp ts, .opq _, v, σ, s, s', Q, rd, sr, e, q => by simp [asgD] at e
theorem asgs_ok {K : PySem.W.Frag} {H : Hp} {ι : List Addr} : ∀ {ts : List Tg} {ds : List D} {vs : List V} {σ : St} {s s' : Sl} {Q : St → Hp → Prop}, RelDs K H ι ds vs → SRel K H ι σ s → asgDs ts ds s = some s' →
    (∀ σ', SRel K H ι σ' s' → (∀ vs : List Nat, (∀ i ∈ slotsTs ts, i ∈ vs) → wipe σ' vs = wipe σ vs) → Q σ' H) → gsOf K ts vs σ H Q
  | [], [], vs, σ, s, s', Q, rd, sr, e, q => by
    simp only [asgDs, Option.some.injEq] at e
    subst e
    simp only [gsOf]
    exact ⟨rd, q σ sr fun _ _ => rfl⟩
  | t :: ts, d :: ds, vs, σ, s, s', Q, rd, sr, e, q => by
    obtain ⟨v, us, rfl, r1, r2⟩ := rd
    simp only [asgDs] at e
    cases z : asgD t d s with
    | none => rw [z] at e; cases e
    | some s1 =>
      rw [z] at e
      simp only [gsOf]
      refine ⟨v, us, rfl, asg_ok r1 sr z fun σ1 sr1 w1 => asgs_ok r2 sr1 e fun σ2 sr2 w2 => q σ2 sr2 fun vs h => ?_⟩
      rw [w2 vs fun i hi => h i (by simp only [slotsTs, List.mem_append]; exact .inr hi), w1 vs fun i hi => h i (by simp only [slotsTs, List.mem_append]; exact .inl hi)]
  | [], _ :: _, vs, σ, s, s', Q, rd, sr, e, q => by simp [asgDs] at e
  | _ :: _, [], vs, σ, s, s', Q, rd, sr, e, q => by simp [asgDs] at e
theorem asgDs_len : ∀ {ts : List Tg} {ds : List D} {s s' : Sl}, asgDs ts ds s = some s' → ds.length = ts.length
  | [], [], _, _, _ => rfl
  | t :: ts, d :: ds, s, s', e => by
    simp only [asgDs] at e
    cases z : asgD t d s with
    | none => rw [z] at e; cases e
    | some s1 => rw [z] at e; rw [List.length_cons, List.length_cons, asgDs_len e]
  | [], _ :: _, _, _, e => by simp [asgDs] at e
  | _ :: _, [], _, _, e => by simp [asgDs] at e
end
structure DG (X : Cx) (tg : Expr) (t : Tg) : Prop where
  pg : PG X tg (gOf X.K t)
structure DGs (X : Cx) (es : List Expr) (ts : List Tg) : Prop where
  pgs : PGs X es (gsOf X.K ts)
theorem dg_name (i : Nat) {x : Str} (hN : X.N.Nodup) (hi : X.N[i]? = some x := by rfl) (hx : Loc X.env.scope x := by first | exact .inl rfl | exact .inr rfl) (hf : X.fn x = true ∨ X.env.scope.names.lookup x = some .local := by first | exact .inl rfl | exact .inr rfl | assumption) : DG X (.Name x pos) (.nm i) :=
  ⟨by simp only [gOf]; exact pg_name hN hi hx hf⟩
theorem dgs_nil : DGs X [] [] := ⟨by simp only [gsOf]; exact pgs_nil⟩
theorem dgs_cons {es : List Expr} {t : Tg} {ts : List Tg} (h1 : DG X e t) (h2 : DGs X es ts) (hs : (assignEach (e :: es) X.env).map (·.2) = assign e X.env :: (assignEach es X.env).map (·.2) := by rfl) : DGs X (e :: es) (t :: ts) :=
  ⟨by simp only [gsOf]; exact pgs_cons h1.pg h2.pgs hs⟩
theorem dg_tup {es : List Expr} {k : Nat} {ts : List Tg} (hc : X.calm = true) (h : DGs X es ts) (hn : (assignEach es X.env).length = ts.length := by rfl) (hst : (assignEach es X.env).findIdx? (·.1) = none := by rfl) : DG X (.Tuple es k pos) (.tp ts) :=
  ⟨by simp only [gOf]; exact pg_tup hc h.pgs hn hst⟩

/-! ### assignments -/
def wAsg (t : Tg) (we : WE) : WS := fun B s h => we s h (fun d h1 => ∃ s', asgD t d s = some s' ∧ B.nx s' h1) (B.ex s)
theorem mono_asg {t : Tg} (m : Mono we) : MonoS (wAsg t we) := fun A B s h l q => m s h _ _ _ _ (fun d h1 ⟨s', e, q⟩ => ⟨s', e, l.nx s' h1 q⟩) (fun x h1 q => l.ex s x h1 q) q
theorem ls_asg {t : Tg} (m : Mono we) {B : Ends} {σ : St} {H : Hp} (h : LS X W (wAsg t we) B σ H) : tAsg (LE X W we) (gOf X.K t) B σ H := by
  obtain ⟨ι, h, s, hr, sr, q⟩ := h
  refine ⟨ι, h, s, hr, sr, m s h _ _ _ _ (fun d h1 ⟨s', e, q⟩ v H1 ι1 g hr1 rd => ?_) (QD.exq sr) q⟩
  exact asg_ok rd (sr.mono g) e fun σ' sr' _ => q σ' H1 ι1 g hr1 sr'
theorem ds_asg {tg : Expr} {t : Tg} (he : DE X W e we) (hg : DG X tg t) (hs : swapsWithSole [tg] e pos.line X.env = pure false := by rfl) (hw : swappedStores [tg] e X.env = pure none := by rfl)
    (h1 : (assignEach [tg] X.env).map (·.2) = [assign tg X.env] := by rfl) : DS X W (.Assign [tg] e pos) (wAsg t we) :=
  ⟨PS.imp (ps_asg he.pe hg.pg hs hw h1) fun B σ H h => ls_asg he.mono h, mono_asg he.mono⟩
theorem ds_set (i : Nat) {x : Str} {pos' : Pos} (hN : X.N.Nodup) (he : DE X W e we) (hi : X.N[i]? = some x := by rfl) (hx : Loc X.env.scope x := by first | exact .inl rfl | exact .inr rfl) (hs : swapsWith e (some (.Name x pos')) pos.line X.env = pure false := by rfl)
    (hf : X.fn x = true ∨ X.env.scope.names.lookup x = some .local := by first | exact .inl rfl | exact .inr rfl | assumption) : DS X W (.Assign [.Name x pos'] e pos) (wAsg (.nm i) we) :=
  ⟨PS.imp (ps_set hN hi hx he.pe hs hf) fun B σ H h => by have := ls_asg he.mono h; simp only [gOf] at this; exact this, mono_asg he.mono⟩
/-- a, b = x, y -/
def wPar (is : List Nat) (w : WA) : WS := fun B s h => w s h (fun ds h1 => ds.length = is.length ∧ B.nx ((is.zip ds).foldl (fun s p => s.set p.1 (some p.2)) s) h1) (B.ex s)
theorem mono_par {is : List Nat} {w : WA} (m : Mono w) : MonoS (wPar is w) := fun A B s h l q => m s h _ _ _ _ (fun ds h1 ⟨e, q⟩ => ⟨e, l.nx _ _ q⟩) (fun x h1 q => l.ex s x h1 q) q
theorem ds_par {i j : Nat} {x y : Str} {w : WA} {px py pt : Pos} {kt k2 pt2} (hc : X.calm = true) (hN : X.N.Nodup) (hi : X.N[i]? = some x) (hj : X.N[j]? = some y) (hij : i ≠ j)
    (hx : X.env.scope.names.lookup x = some .local) (hy : X.env.scope.names.lookup y = some .local) (ha : DA X W [a, b] w)
    (hw : swappedStores [.Tuple [.Name x px, .Name y py] kt pt] (.Tuple [a, b] k2 pt2) X.env = pure (some [x, y]) := by rfl)
    (hs : swapsWithSole [.Tuple [.Name x px, .Name y py] kt pt] (.Tuple [a, b] k2 pt2) pos.line X.env = pure false := by rfl) :
    DS X W (.Assign [.Tuple [.Name x px, .Name y py] kt pt] (.Tuple [a, b] k2 pt2) pos) (wPar [i, j] w) := by
  refine ⟨PS.imp (ps_par hc hN hi hj hij hx hy ha.pa hw hs) fun B σ H ⟨ι, h, s, hr, sr, q⟩ => ?_, mono_par ha.mono⟩
  refine ⟨ι, h, s, hr, sr, ha.mono s h _ _ _ _ (fun ds h1 ⟨e, q⟩ vs H1 ι1 g hr1 rs => ?_) (QD.exq sr) q⟩
  match ds, e with
  | [d1, d2], _ =>
    obtain ⟨v1, u1, rfl, r1, v2, u2, rfl, r2, r3⟩ := rs
    rw [show u2 = [] from r3]
    exact ⟨v1, v2, rfl, q _ H1 ι1 g hr1 (((sr.mono g).set i r1).set j r2)⟩
theorem ds_par3 {i j l : Nat} {x y z : Str} {w : WA} {px py pz pt : Pos} {kt k2 pt2} (hc : X.calm = true) (hN : X.N.Nodup) (hi : X.N[i]? = some x) (hj : X.N[j]? = some y) (hl : X.N[l]? = some z) (hij : i ≠ j) (hil : i ≠ l) (hjl : j ≠ l)
    (hx : X.env.scope.names.lookup x = some .local) (hy : X.env.scope.names.lookup y = some .local) (hz : X.env.scope.names.lookup z = some .local) (ha : DA X W [a, b, c] w)
    (hw : swappedStores [.Tuple [.Name x px, .Name y py, .Name z pz] kt pt] (.Tuple [a, b, c] k2 pt2) X.env = pure (some [x, y, z]) := by rfl)
    (hs : swapsWithSole [.Tuple [.Name x px, .Name y py, .Name z pz] kt pt] (.Tuple [a, b, c] k2 pt2) pos.line X.env = pure false := by rfl) :
    DS X W (.Assign [.Tuple [.Name x px, .Name y py, .Name z pz] kt pt] (.Tuple [a, b, c] k2 pt2) pos) (wPar [i, j, l] w) := by
  refine ⟨PS.imp (ps_par3 hc hN hi hj hl hij hil hjl hx hy hz ha.pa hw hs) fun B σ H ⟨ι, h, s, hr, sr, q⟩ => ?_, mono_par ha.mono⟩
  refine ⟨ι, h, s, hr, sr, ha.mono s h _ _ _ _ (fun ds h1 ⟨e, q⟩ vs H1 ι1 g hr1 rs => ?_) (QD.exq sr) q⟩
  match ds, e with
  | [d1, d2, d3], _ =>
    obtain ⟨v1, u1, rfl, r1, v2, u2, rfl, r2, v3, u3, rfl, r3, r4⟩ := rs
    rw [show u3 = [] from r4]
    exact ⟨v1, v2, v3, rfl, q _ H1 ι1 g hr1 ((((sr.mono g).set i r1).set j r2).set l r3)⟩
/-- o.f = e -/
def wSetF (C f : Str) (wo wv : WE) : WS := fun B s h => wv s h (fun d h1 => wo s h1 (fun o h2 => ∃ n fs, o = .ref n ∧ h2[n]? = some (.ins C fs) ∧ fs.length < 1000 ∧ B.nx s (h2.set n (.ins C (putD f d fs)))) (B.ex s)) (B.ex s)
theorem ds_fld {C f : Str} {o value : Expr} {wo wv : WE} {pos' : Pos} (cf : CF X.K X.mg C f) (ho : DE X W o wo) (hv : DE X W value wv) (hs : swapsWith value (some (.Attribute o f pos')) pos.line X.env = pure false := by rfl) : DS X W (.Assign [.Attribute o f pos'] value pos) (wSetF C f wo wv) := by
  refine ⟨PS.imp (ps_fld ho.pe hv.pe hs) fun B σ H ⟨ι, h, s, hr, sr, q⟩ => ?_, fun A B s h l q => hv.mono s h _ _ _ _ (fun d h1 q => ho.mono s h1 _ _ _ _ (fun o h2 ⟨n, fs, e, z, k, q⟩ => ⟨n, fs, e, z, k, l.nx _ _ q⟩) (fun x h q => l.ex s x h q) q) (fun x h q => l.ex s x h q) q⟩
  refine ⟨ι, h, s, hr, sr, hv.mono s h _ _ _ _ (fun d h1 q v H1 ι1 g1 hr1 rd => ?_) (QD.exq sr) q⟩
  refine ⟨ι1, h1, s, hr1, sr.mono g1, ho.mono s h1 _ _ _ _ (fun o h2 ⟨n, fs, e, z, k, q⟩ u H2 ι2 g2 hr2 ro => ?_) (fun x h' q' => QX.on (QD.exq sr x h' q') g1) q⟩
  subst e
  obtain ⟨p, ep, rfl⟩ := ro
  obtain ⟨c, dx, vs, mc, e1, rs⟩ := hr2.obj _ _ _ z ep
  obtain ⟨c', mc', cl, na⟩ := cf.ex
  rw [mc] at mc'
  cases mc'
  obtain ⟨w0, ew, w1, w2⟩ := (hr2.obj _ _ _ z ep).there
  have g : Gr X.K H2 (upd H2 p (.ins c dx (putF f v vs))) ι2 ι2 := Gr.write ew w1 w2
  obtain ⟨_, hr3⟩ := hr2.write (u := .ins c dx (putF f v vs)) (o' := .ins C (putD f d fs)) z ep ⟨c, dx, _, mc, upd_same, (rs.put (rd.mono g2)).mono g⟩
  exact ⟨p, c, dx, vs, rfl, e1, cl, na, by rw [rs.length]; exact k, q σ _ ι2 ((g1.trans g2).trans g) hr3 (sr.mono ((g1.trans g2).trans g))⟩
/-- xs[i] = e, a list -/
def wSetIx (wo wi wv : WE) : WS := fun B s h => wv s h (fun d h1 => wo s h1 (fun o h2 => wi s h2 (fun i h3 => ∃ n ds k j, o = .ref n ∧ i = .int k ∧ h3[n]? = some (.lst ds) ∧ ixN ds.length k = some j ∧ B.nx s (h3.set n (.lst (ds.set j d)))) (B.ex s)) (B.ex s)) (B.ex s)
theorem ds_setIx {o i value : Expr} {wo wi wv : WE} {pos' : Pos} (ho : DE X W o wo) (hi : DE X W i wi) (hv : DE X W value wv)
    (ha : ∀ v, assign (.Subscript o i pos') X.env v = (do
      let ov ← holding [v] (eval o X.env)
      let iv ← holding [v, ov] (eval i X.env)
      standAt pos'
      holding [v, ov, iv] (setItem ov iv v)
      release [v, ov, iv] []) := by intro _; rfl) (hs : swapsWithSole [.Subscript o i pos'] value pos.line X.env = pure false := by rfl) (hw : swappedStores [.Subscript o i pos'] value X.env = pure none := by rfl)
    (h1 : (assignEach [.Subscript o i pos'] X.env).map (·.2) = [assign (.Subscript o i pos') X.env] := by rfl) : DS X W (.Assign [.Subscript o i pos'] value pos) (wSetIx wo wi wv) := by
  refine ⟨PS.imp (ps_asg hv.pe (pg_sub ho.pe hi.pe set_list ha) hs hw h1) fun B σ H ⟨ι, h, s, hr, sr, q⟩ => ?_, fun A B s h l q => hv.mono s h _ _ _ _ (fun d h1 q => ho.mono s h1 _ _ _ _ (fun o h2 q => hi.mono s h2 _ _ _ _ (fun i h3 ⟨n, ds, k, j, e1, e2, z, y, q⟩ => ⟨n, ds, k, j, e1, e2, z, y, l.nx _ _ q⟩) (fun x h q => l.ex s x h q) q) (fun x h q => l.ex s x h q) q) (fun x h q => l.ex s x h q) q⟩
  refine ⟨ι, h, s, hr, sr, hv.mono s h _ _ _ _ (fun d h1 q v H1 ι1 g1 hr1 rd => ?_) (QD.exq sr) q⟩
  refine ⟨ι1, h1, s, hr1, sr.mono g1, ho.mono s h1 _ _ _ _ (fun o h2 q u H2 ι2 g2 hr2 ro => ?_) (fun x h' q' => QX.on (QD.exq sr x h' q') g1) q⟩
  refine ⟨ι2, h2, s, hr2, sr.mono (g1.trans g2), hi.mono s h2 _ _ _ _ (fun i h3 ⟨n, ds, k, j, e1, e2, z, y, qq⟩ u' H3 ι3 g3 hr3 ri => ?_) (fun x h' q' => QX.on (QD.exq sr x h' q') (g1.trans g2)) q⟩
  subst e1 e2
  obtain ⟨p, ep, rfl⟩ := ro
  cases ri
  have ep3 := pre_get g3.pre ep
  obtain ⟨vs, q1, rs⟩ := hr3.obj _ _ _ z ep3
  obtain ⟨w0, ew, w1, w2⟩ := (hr3.obj _ _ _ z ep3).there
  have g : Gr X.K H3 (upd H3 p (.lst (vs.set j v))) ι3 ι3 := Gr.write ew w1 w2
  obtain ⟨_, hr4⟩ := hr3.write (u := .lst (vs.set j v)) (o' := .lst (ds.set j d)) z ep3 ⟨_, upd_same, (rs.set (rd.mono (g2.trans g3)) j).mono g⟩
  exact ⟨p, vs, k, j, rfl, rfl, q1, by rw [rs.length]; exact y, qq σ _ ι3 (((g1.trans g2).trans g3).trans g) hr4 (sr.mono (((g1.trans g2).trans g3).trans g))⟩

/-! ### while -/
def wWh (wt : WT) (w : WS) (B : DEnds) : Nat → Sl → Hh → Prop
  | 0, _, _ => False
  | n + 1, s, h => wt s h (fun c h1 => if c = true then w { nx := wWh wt w B n, rt := B.rt, bk := B.nx, ct := wWh wt w B n, ex := B.ex } s h1 else B.nx s h1) (B.ex s)
def wWhile (wt : WT) (w : WS) : WS := fun B s h => ∃ n, wWh wt w B n s h
theorem mono_wh {wt : WT} (m : Mono wt) (k : MonoS w) (A B : DEnds) (l : A.Le B) : ∀ n s h, wWh wt w A n s h → wWh wt w B n s h
  | 0, _, _, q => q
  | n + 1, s, h, q => m s h _ _ _ _ (fun c h1 q => by
    cases c with
    | true => exact k { nx := wWh wt w A n, rt := A.rt, bk := A.nx, ct := wWh wt w A n, ex := A.ex } _ s h1 ⟨mono_wh m k A B l n, l.rt, l.nx, mono_wh m k A B l n, l.ex⟩ q
    | false => exact l.nx s h1 q) (fun x h1 q => l.ex s x h1 q) q
theorem ds_while {body : List Stmt} {wt : WT} (hp : PassesOwn (model X.prog X.w) X.A X.env X.xe) (hc : DT X W c wt) (hb : DSs X W body w) : DS X W (.While c body [] pos) (wWhile wt w) := by
  refine ⟨PS.imp (ps_while hp hc.pt hb.ps) fun B σ H ⟨ι, h, s, hr, sr, n, q⟩ => ?_, fun A B s h l ⟨n, q⟩ => ⟨n, mono_wh hc.mono hb.mono A B l n s h q⟩⟩
  refine ⟨fun m σ' H' => ∃ ι' h' s', Gr X.K H H' ι ι' ∧ HRel X.K H' ι' X.mg h' ∧ SRel X.K H' ι' σ' s' ∧ wWh wt w (QD X W H ι B) m s' h', ⟨n, ι, h, s, .refl, hr, sr, q⟩, ?_⟩
  rintro m σ1 H1 ⟨ι1, h1, s1, g1, hr1, sr1, q1⟩
  cases m with
  | zero => exact q1.elim
  | succ m =>
    refine ⟨ι1, h1, s1, hr1, sr1, hc.mono s1 h1 _ _ _ _ (fun c h2 q H2 ι2 g2 hr2 => ?_) (fun x h' q c d H' ι' g' hr' xr => q c d σ1 H' ι' (g1.trans g') hr' (sr1.mono g') xr) q1⟩
    cases c with
    | true =>
      refine ⟨fun σ' H' => ∃ ι' h' s', Gr X.K H H' ι ι' ∧ HRel X.K H' ι' X.mg h' ∧ SRel X.K H' ι' σ' s' ∧ wWh wt w (QD X W H ι B) m s' h', fun σ' H' z => ⟨m, Nat.lt_succ_self m, z⟩, ?_⟩
      have gg := g1.trans g2
      refine ⟨ι2, h2, s1, hr2, sr1.mono g2, hb.mono _ _ s1 h2 ⟨fun s3 h3 q σ3 H3 ι3 g3 hr3 sr3 => ?_, fun d h3 q => QV.on (X := X) q gg, fun s3 h3 q σ3 H3 ι3 g3 hr3 sr3 => ?_, fun s3 h3 q σ3 H3 ι3 g3 hr3 sr3 => ?_, fun s3 x h3 q c d σ3 H3 ι3 g3 hr3 sr3 xr => ?_⟩ q⟩
      · exact ⟨ι3, h3, s3, gg.trans g3, hr3, sr3, q⟩
      · exact q σ3 H3 ι3 (gg.trans g3) hr3 sr3
      · exact ⟨ι3, h3, s3, gg.trans g3, hr3, sr3, q⟩
      · exact q c d σ3 H3 ι3 (gg.trans g3) hr3 sr3 xr
    | false => exact q σ1 H2 ι2 (g1.trans g2) hr2 (sr1.mono g2)
end
end EV

namespace EV
open PySem PySem.Spec PyProof.Rows L2

section
variable {X : Cx} {W : WX} {pos : Pos} {a b c e : Expr} {wa wb wc we : WE} {st : Stmt} {rest : List Stmt} {w v : WS}

/-! ### what is walked: the items, and what must hold of the heap at each turn -/
abbrev IT := List D × (Hh → Prop)
abbrev WI := Sl → Hh → (IT → Hh → Prop) → PX → Prop
structure Conf (X : Cx) (J : It) (p : IT) (H1 : Hp) (ι1 : List Addr) : Prop where
  go : ∀ i H ι h, Gr X.K H1 H ι1 ι → HRel X.K H ι X.mg h → p.2 h → i < p.1.length → J.go i H
  stop : ∀ i H ι h, Gr X.K H1 H ι1 ι → HRel X.K H ι X.mg h → p.2 h → i = p.1.length → J.stop i H
  yld : ∀ i H ι h d x H', Gr X.K H1 H ι1 ι → HRel X.K H ι X.mg h → p.2 h → p.1[i]? = some d → J.yld i H x H' → Gr X.K H H' ι ι ∧ HRel X.K H' ι X.mg h ∧ RelD X.K H' ι d x ∧ ∀ b, H b ≠ none → H' b = H b
def LI (X : Cx) (W : WX) (wi : WI) : TI := fun σ H R => ∃ ι h s, HRel X.K H ι X.mg h ∧ SRel X.K H ι σ s ∧ wi s h (fun p h' => ∀ J H' ι', Gr X.K H H' ι ι' → HRel X.K H' ι' X.mg h' → Conf X J p H' ι' → R J H') (QX X W H ι σ)
structure DI (X : Cx) (W : WX) (tg iter : Expr) (wi : WI) : Prop where
  pi : PI X tg iter (LI X W wi)
  mono : Mono wi
theorem PI.imp {tg iter : Expr} {t t' : TI} (h : PI X tg iter t) (i : ∀ σ H R, t' σ H R → t σ H R) : PI X tg iter t' := ⟨fun pins s σ H R I q => h.run pins s σ H R I (i σ H R q)⟩
def wiList (we : WE) : WI := fun s h Q E => we s h (fun d h1 => ∃ n ds, d = .ref n ∧ lsOf h1 n = some ds ∧ Q (ds, fun h => lsOf h n = some ds) h1) E
theorem mono_iList (m : Mono we) : Mono (wiList we) := fun s h Q Q' E E' hq he q => m s h _ _ _ _ (fun d h1 ⟨n, ds, e, z, q⟩ => ⟨n, ds, e, z, hq _ _ q⟩) he q
theorem conf_list {H : Hp} {ι : List Addr} {n : Nat} {p : Addr} {ds : List D} (ep : ι[n]? = some p) : Conf X (Itl X.K p) (ds, fun h => lsOf h n = some ds) H ι := by
  refine ⟨fun i H' ι' h g hr e hi => ?_, fun i H' ι' h g hr e hi => ?_, fun i H' ι' h d x H2 g hr e hd y => ?_⟩
  · obtain ⟨vs, sq, rs⟩ := ls_sq hr e (pre_get g.pre ep)
    obtain ⟨v, ev, _⟩ := rs.get (List.getElem?_eq_getElem hi)
    exact ⟨vs, v, sq, ev⟩
  · obtain ⟨vs, sq, rs⟩ := ls_sq hr e (pre_get g.pre ep)
    exact ⟨vs, sq, by rw [rs.length]; exact Nat.le_of_eq hi.symm⟩
  · obtain ⟨vs, sq, rs⟩ := ls_sq hr e (pre_get g.pre ep)
    obtain ⟨rfl, yy⟩ := y
    obtain ⟨v, ev, rv⟩ := rs.get hd
    have := yy vs sq
    rw [ev] at this
    cases this
    exact ⟨.refl, hr, rv, fun _ _ => rfl⟩
theorem di_list {tg : Expr} (he : DE X W e we) : DI X W tg e (wiList we) := by
  refine ⟨PI.imp (pi_list he.pe) fun σ H R ⟨ι, h, s, hr, sr, q⟩ => ?_, mono_iList he.mono⟩
  refine ⟨ι, h, s, hr, sr, he.mono s h _ _ _ _ (fun d h1 ⟨n, ds, ed, z, q⟩ v H1 ι1 g hr1 rd => ?_) (fun _ _ e => e) q⟩
  subst ed
  obtain ⟨p, ep, rfl⟩ := rd
  obtain ⟨vs, sq, rs⟩ := ls_sq hr1 z ep
  exact ⟨p, rfl, ⟨vs, sq⟩, q _ H1 ι1 g hr1 (conf_list ep)⟩
def wiTup (we : WE) : WI := fun s h Q E => we s h (fun d h1 => ∃ ds, d = .tup ds ∧ Q (ds, fun _ => True) h1) E
theorem mono_iTup (m : Mono we) : Mono (wiTup we) := fun s h Q Q' E E' hq he q => m s h _ _ _ _ (fun d h1 ⟨ds, e, q⟩ => ⟨ds, e, hq _ _ q⟩) he q
theorem di_tup {tg : Expr} (he : DE X W e we) : DI X W tg e (wiTup we) := by
  refine ⟨PI.imp (pi_tup he.pe) fun σ H R ⟨ι, h, s, hr, sr, q⟩ => ?_, mono_iTup he.mono⟩
  refine ⟨ι, h, s, hr, sr, he.mono s h _ _ _ _ (fun d h1 ⟨ds, ed, q⟩ v H1 ι1 g hr1 rd => ?_) (fun _ _ e => e) q⟩
  subst ed
  obtain ⟨p, vs, rfl, sq, rs⟩ := rd
  refine ⟨p, rfl, ⟨vs, sq⟩, q _ H1 ι1 g hr1 ⟨fun i H' ι' h g hr e hi => ?_, fun i H' ι' h g hr e hi => ?_, fun i H' ι' h d x H2 g hr e hd y => ?_⟩⟩
  · obtain ⟨v, ev, _⟩ := rs.get (List.getElem?_eq_getElem hi)
    exact ⟨vs, v, g.tup _ _ sq, ev⟩
  · exact ⟨vs, g.tup _ _ sq, by rw [rs.length]; exact Nat.le_of_eq hi.symm⟩
  · obtain ⟨rfl, yy⟩ := y
    obtain ⟨v, ev, rv⟩ := rs.get hd
    have := yy vs (g.tup _ _ sq)
    rw [ev] at this
    cases this
    exact ⟨.refl, hr, rv.mono g, fun _ _ => rfl⟩
def chrs (x : Str) : List D := x.cps.toList.map fun c => .str ⟨#[c]⟩
def wiStr (we : WE) : WI := fun s h Q E => we s h (fun d h1 => ∃ x, d = .str x ∧ Q (chrs x, fun _ => True) h1) E
theorem mono_iStr (m : Mono we) : Mono (wiStr we) := fun s h Q Q' E E' hq he q => m s h _ _ _ _ (fun d h1 ⟨ds, e, q⟩ => ⟨ds, e, hq _ _ q⟩) he q
theorem chrs_len {x : Str} : (chrs x).length = x.cps.size := by unfold chrs; rw [List.length_map, Array.length_toList]
theorem di_str {tg : Expr} (he : DE X W e we) : DI X W tg e (wiStr we) := by
  refine ⟨PI.imp (pi_str he.pe) fun σ H R ⟨ι, h, s, hr, sr, q⟩ => ?_, mono_iStr he.mono⟩
  refine ⟨ι, h, s, hr, sr, he.mono s h _ _ _ _ (fun d h1 ⟨x, ed, q⟩ v H1 ι1 g hr1 rd => ?_) (fun _ _ e => e) q⟩
  subst ed
  cases rd
  refine ⟨x, rfl, q _ H1 ι1 g hr1 ⟨fun i H' ι' h g hr e hi => ?_, fun i H' ι' h g hr e hi => ?_, fun i H' ι' h d y H2 g hr e hd yy => ?_⟩⟩
  · exact (by rw [chrs_len] at hi; exact hi : i < x.cps.size)
  · exact (by rw [chrs_len] at hi; exact Nat.le_of_eq hi.symm : x.cps.size ≤ i)
  · obtain ⟨rfl, c, ec, rfl⟩ := yy
    refine ⟨.refl, hr, ?_, fun _ _ => rfl⟩
    unfold chrs at hd
    rw [List.getElem?_map] at hd
    have ec' : x.cps.toList[i]? = some c := by rw [Array.getElem?_toList]; exact ec
    rw [ec'] at hd
    cases hd
    rfl
def rgD (lo : Int) (n : Nat) : List D := (List.range n).map fun i => .int (lo + (i : Nat))
theorem conf_range {H : Hp} {ι : List Addr} {lo : Int} {n : Nat} : Conf X (Itr lo n) (rgD lo n, fun _ => True) H ι := by
  have hl : (rgD lo n).length = n := by unfold rgD; rw [List.length_map, List.length_range]
  refine ⟨fun i H' ι' h g hr e hi => ?_, fun i H' ι' h g hr e hi => ?_, fun i H' ι' h d y H2 g hr e hd yy => ?_⟩
  · exact (by rw [hl] at hi; exact hi : i < n)
  · exact (by rw [hl] at hi; exact Nat.le_of_eq hi.symm : n ≤ i)
  · obtain ⟨rfl, rfl⟩ := yy
    refine ⟨.refl, hr, ?_, fun _ _ => rfl⟩
    have hi : i < n := by have := (List.getElem?_eq_some_iff.mp hd).1; rwa [hl] at this
    unfold rgD at hd
    rw [List.getElem?_map, List.getElem?_range hi] at hd
    cases hd
    rfl
def wiRg1 (w : WA) : WI := fun s h Q E => w s h (fun ds h1 => ∃ j : Int, ds = [.int j] ∧ (-(2 ^ 62) ≤ j ∧ j < 2 ^ 62) ∧ Q (rgD 0 j.toNat, fun _ => True) h1) E
theorem di_rg1 {tg : Expr} {w : WA} {p pos : Pos} (hm : X.mg "range" = none) (ha : DA X W [a] w) (hg : Gl X "range" := by rfl) (hs : starEach [a] X.env = [(false, eval a X.env)] := by rfl) : DI X W tg (.Call (.Name "range" p) [a] [] pos) (wiRg1 w) := by
  refine ⟨PI.imp (pi_range1 hg hm ha.pa hs) fun σ H R ⟨ι, h, s, hr, sr, q⟩ => ?_, fun s h Q Q' E E' hq he q => ha.mono s h _ _ _ _ (fun d h1 ⟨j, e, b, q⟩ => ⟨j, e, b, hq _ _ q⟩) he q⟩
  refine ⟨ι, h, s, hr, sr, ha.mono s h _ _ _ _ (fun ds h1 ⟨j, ed, b, q⟩ vs H1 ι1 g hr1 rs => ?_) (fun _ _ e => e) q⟩
  subst ed
  obtain ⟨v, rfl, rv⟩ := rels1 rs
  cases rv
  exact ⟨j, rfl, b.1, b.2, q _ H1 ι1 g hr1 conf_range⟩
def wiRg2 (w : WA) : WI := fun s h Q E => w s h (fun ds h1 => ∃ i j : Int, ds = [.int i, .int j] ∧ (-(2 ^ 62) ≤ i ∧ i < 2 ^ 62 ∧ -(2 ^ 62) ≤ j ∧ j < 2 ^ 62) ∧ Q (rgD i (j - i).toNat, fun _ => True) h1) E
theorem di_rg2 {tg : Expr} {w : WA} {p pos : Pos} (hm : X.mg "range" = none) (ha : DA X W [a, b] w) (hg : Gl X "range" := by rfl) (hs : starEach [a, b] X.env = [(false, eval a X.env), (false, eval b X.env)] := by rfl) (hs2 : starEach [b] X.env = [(false, eval b X.env)] := by rfl) : DI X W tg (.Call (.Name "range" p) [a, b] [] pos) (wiRg2 w) := by
  refine ⟨PI.imp (pi_range2 hg hm ha.pa hs hs2) fun σ H R ⟨ι, h, s, hr, sr, q⟩ => ?_, fun s h Q Q' E E' hq he q => ha.mono s h _ _ _ _ (fun d h1 ⟨i, j, e, b, q⟩ => ⟨i, j, e, b, hq _ _ q⟩) he q⟩
  refine ⟨ι, h, s, hr, sr, ha.mono s h _ _ _ _ (fun ds h1 ⟨i, j, ed, b, q⟩ vs H1 ι1 g hr1 rs => ?_) (fun _ _ e => e) q⟩
  subst ed
  obtain ⟨v, u, rfl, rv, u', u2, rfl, rv', rn⟩ := rs
  rw [show u2 = [] from rn]
  cases rv; cases rv'
  exact ⟨i, j, rfl, b, q _ H1 ι1 g hr1 conf_range⟩
/-- enumerate of a list, a tuple's pair at each turn -/
def enD (ds : List D) : List D := ds.mapIdx fun i d => .tup [.int (i : Nat), d]
theorem pair_new {H : Hp} {ι : List Addr} {h : Hh} {T : Addr} {d d' : D} {v v' : V} (hr : HRel X.K H ι X.mg h) (hT : H T = none) (r : RelD X.K H ι d v) (r' : RelD X.K H ι d' v') :
    Gr X.K H (upd H T (.tup [v, v'])) ι ι ∧ HRel X.K (upd H T (.tup [v, v'])) ι X.mg h ∧ RelD X.K (upd H T (.tup [v, v'])) ι (.tup [d, d']) (.ref T) ∧ ∀ b, H b ≠ none → upd H T (.tup [v, v']) b = H b := by
  have g : Gr X.K H (upd H T (.tup [v, v'])) ι ι := Gr.fresh hT ι (List.prefix_refl _)
  exact ⟨g, hr.fresh hT, ⟨T, [v, v'], rfl, SqT.of upd_same, v, [v'], rfl, r.mono g, v', [], rfl, r'.mono g, rfl⟩, fun b hb => upd_ne fun z => hb (z ▸ hT)⟩
def wiEnum (w : WA) : WI := fun s h Q E => w s h (fun es h1 => ∃ n ds, es = [.ref n] ∧ lsOf h1 n = some ds ∧ Q (enD ds, fun h => lsOf h n = some ds) h1) E
theorem di_enum {w : WA} {p pos tpos : Pos} {elts : List Expr} {kk : Nat} (hm : X.mg "enumerate" = none) (ha : DA X W [e] w) (hg : Gl X "enumerate" := by rfl) (hs : starEach [e] X.env = [(false, eval e X.env)] := by rfl) : DI X W (.Tuple elts kk tpos) (.Call (.Name "enumerate" p) [e] [] pos) (wiEnum w) := by
  refine ⟨PI.imp (pi_enum hg hm ha.pa hs) fun σ H R ⟨ι, h, s, hr, sr, q⟩ => ?_, fun s h Q Q' E E' hq he q => ha.mono s h _ _ _ _ (fun d h1 ⟨n, ds, e, z, q⟩ => ⟨n, ds, e, z, hq _ _ q⟩) he q⟩
  refine ⟨ι, h, s, hr, sr, ha.mono s h _ _ _ _ (fun es h1 ⟨n, ds, ed, z, q⟩ us H1 ι1 g hr1 rs => ?_) (fun _ _ e => e) q⟩
  subst ed
  obtain ⟨v, rfl, p, ep, rfl⟩ := rels1 rs
  obtain ⟨vs, sq, rs⟩ := ls_sq hr1 z ep
  have hl : (enD ds).length = ds.length := by unfold enD; rw [List.length_mapIdx]
  refine ⟨p, vs, rfl, sq, q _ H1 ι1 g hr1 ⟨fun i H' ι' h g hr e hi => ?_, fun i H' ι' h g hr e hi => ?_, fun i H' ι' h d y H2 g hr e hd yy => ?_⟩⟩
  · obtain ⟨vs, sq, rs⟩ := ls_sq hr e (pre_get g.pre ep)
    obtain ⟨v, ev, _⟩ := rs.get (List.getElem?_eq_getElem (by rw [← hl]; exact hi))
    exact ⟨vs, v, sq, ev⟩
  · obtain ⟨vs, sq, rs⟩ := ls_sq hr e (pre_get g.pre ep)
    exact ⟨vs, sq, by rw [rs.length, ← hl]; exact Nat.le_of_eq hi.symm⟩
  · obtain ⟨vs, sq, rs⟩ := ls_sq hr e (pre_get g.pre ep)
    obtain ⟨T, x, rfl, hT, rfl, xx⟩ := yy
    have hi : i < ds.length := by have := (List.getElem?_eq_some_iff.mp hd).1; rwa [hl] at this
    obtain ⟨v, ev, rv⟩ := rs.get (List.getElem?_eq_getElem hi)
    have := xx vs sq
    rw [ev] at this
    cases this
    unfold enD at hd
    rw [List.getElem?_mapIdx, List.getElem?_eq_getElem hi] at hd
    cases hd
    exact pair_new hr hT rfl rv
/-- zip of two lists -/
def zipD (ds es : List D) : List D := (ds.zip es).map fun p => .tup [p.1, p.2]
def wiZip (w : WA) : WI := fun s h Q E => w s h (fun es h1 => ∃ n m ds ds', es = [.ref n, .ref m] ∧ lsOf h1 n = some ds ∧ lsOf h1 m = some ds' ∧ Q (zipD ds ds', fun h => lsOf h n = some ds ∧ lsOf h m = some ds') h1) E
theorem di_zip {w : WA} {p pos tpos : Pos} {elts : List Expr} {kk : Nat} (hm : X.mg "zip" = none) (ha : DA X W [a, b] w) (hg : Gl X "zip" := by rfl) (hs : starEach [a, b] X.env = (false, eval a X.env) :: starEach [b] X.env := by rfl)
    (hs2 : (backTo pos (starEach [b] X.env)).any (·.1) = false := by rfl) : DI X W (.Tuple elts kk tpos) (.Call (.Name "zip" p) [a, b] [] pos) (wiZip w) := by
  refine ⟨PI.imp (pi_zip hg hm ha.pa hs hs2) fun σ H R ⟨ι, h, s, hr, sr, q⟩ => ?_, fun s h Q Q' E E' hq he q => ha.mono s h _ _ _ _ (fun d h1 ⟨n, m, ds, ds', e, z, z', q⟩ => ⟨n, m, ds, ds', e, z, z', hq _ _ q⟩) he q⟩
  refine ⟨ι, h, s, hr, sr, ha.mono s h _ _ _ _ (fun es h1 ⟨n, m, ds, ds', ed, z, z', q⟩ us H1 ι1 g hr1 rs => ?_) (fun _ _ e => e) q⟩
  subst ed
  obtain ⟨v, u, rfl, ⟨p, ep, rfl⟩, v', u2, rfl, ⟨p', ep', rfl⟩, rn⟩ := rs
  rw [show u2 = [] from rn]
  obtain ⟨vs, sq, rs⟩ := ls_sq hr1 z ep
  obtain ⟨vs', sq', rs'⟩ := ls_sq hr1 z' ep'
  have hl : (zipD ds ds').length = min ds.length ds'.length := by unfold zipD; rw [List.length_map, List.length_zip]
  refine ⟨p, p', vs, vs', rfl, sq, sq', q _ H1 ι1 g hr1 ⟨fun i H' ι' h g hr e hi => ?_, fun i H' ι' h g hr e hi => ?_, fun i H' ι' h d y H2 g hr e hd yy => ?_⟩⟩
  · obtain ⟨vs, sq, rs⟩ := ls_sq hr e.1 (pre_get g.pre ep)
    obtain ⟨vs', sq', rs'⟩ := ls_sq hr e.2 (pre_get g.pre ep')
    have hi : i < min ds.length ds'.length := by rw [← hl]; exact hi
    obtain ⟨v, ev, _⟩ := rs.get (List.getElem?_eq_getElem (show i < ds.length by omega))
    obtain ⟨v', ev', _⟩ := rs'.get (List.getElem?_eq_getElem (show i < ds'.length by omega))
    exact ⟨vs, vs', v, v', sq, sq', ev, ev'⟩
  · obtain ⟨vs, sq, rs⟩ := ls_sq hr e.1 (pre_get g.pre ep)
    obtain ⟨vs', sq', rs'⟩ := ls_sq hr e.2 (pre_get g.pre ep')
    have hi : min ds.length ds'.length ≤ i := by rw [← hl]; exact Nat.le_of_eq hi.symm
    refine ⟨vs, vs', sq, sq', ?_⟩
    rw [rs.length, rs'.length]
    omega
  · obtain ⟨vs, sq, rs⟩ := ls_sq hr e.1 (pre_get g.pre ep)
    obtain ⟨vs', sq', rs'⟩ := ls_sq hr e.2 (pre_get g.pre ep')
    obtain ⟨T, x, x', rfl, hT, rfl, xx, xx'⟩ := yy
    have hi : i < min ds.length ds'.length := by have := (List.getElem?_eq_some_iff.mp hd).1; rwa [hl] at this
    obtain ⟨v, ev, rv⟩ := rs.get (List.getElem?_eq_getElem (show i < ds.length by omega))
    obtain ⟨v', ev', rv'⟩ := rs'.get (List.getElem?_eq_getElem (show i < ds'.length by omega))
    have e1 := xx vs sq
    have e2 := xx' vs' sq'
    rw [ev] at e1
    rw [ev'] at e2
    cases e1; cases e2
    unfold zipD at hd
    have ez : (ds.zip ds')[i]? = some (ds[i]'(by omega), ds'[i]'(by omega)) := List.getElem?_zip_eq_some.mpr ⟨List.getElem?_eq_getElem (show i < ds.length by omega), List.getElem?_eq_getElem (show i < ds'.length by omega)⟩
    rw [List.getElem?_map, ez] at hd
    cases hd
    exact pair_new hr hT rv rv'

/-! ### for -/
def wLoop (chk : Hh → Prop) (t : Tg) (w : WS) (B : DEnds) : List D → Sl → Hh → Prop
  | [], s, h => chk h ∧ B.nx s h
  | d :: ds, s, h => chk h ∧ ∃ s', asgD t d s = some s' ∧ w { nx := wLoop chk t w B ds, rt := B.rt, bk := B.nx, ct := wLoop chk t w B ds, ex := B.ex } s' h
theorem mono_loop {chk : Hh → Prop} {t : Tg} (m : MonoS w) (A B : DEnds) (l : A.Le B) : ∀ ds s h, wLoop chk t w A ds s h → wLoop chk t w B ds s h
  | [], s, h, ⟨k, q⟩ => ⟨k, l.nx s h q⟩
  | d :: ds, s, h, ⟨k, s', e, q⟩ => ⟨k, s', e, m { nx := wLoop chk t w A ds, rt := A.rt, bk := A.nx, ct := wLoop chk t w A ds, ex := A.ex } _ s' h ⟨mono_loop m A B l ds, l.rt, l.nx, mono_loop m A B l ds, l.ex⟩ q⟩
def wFor (wi : WI) (t : Tg) (w : WS) : WS := fun B s h => wi s h (fun p h1 => wLoop p.2 t w B p.1 s h1) (B.ex s)
theorem wLoop_chk {chk : Hh → Prop} {t : Tg} {B : DEnds} : ∀ {ds : List D} {s : Sl} {h : Hh}, wLoop chk t w B ds s h → chk h
  | [], _, _, q => q.1
  | _ :: _, _, _, q => q.1
theorem ds_for {tg iter : Expr} {body : List Stmt} {wi : WI} {t : Tg} (hp : PassesOwn (model X.prog X.w) X.A X.env X.xe) (hc : X.calm = true) (hi : DI X W tg iter wi) (hg : DG X tg t) (hb : DSs X W body w) (hs : ∀ x, foldedSetIterable iter X.env x = pure x := by intro _; rfl) : DS X W (.For tg iter body [] pos) (wFor wi t w) := by
  refine ⟨PS.imp (ps_for hp hc hi.pi hg.pg hb.ps hs) fun B σ H ⟨ι, h, s, hr, sr, q⟩ => ?_, fun A B s h l q => hi.mono s h _ _ _ _ (fun p h1 q => mono_loop hb.mono A B l p.1 s h1 q) (fun x h1 q => l.ex s x h1 q) q⟩
  refine ⟨ι, h, s, hr, sr, hi.mono s h _ _ _ _ (fun p h1 q J H1 ι1 g1 hr1 cf => ?_) (QD.exq sr) q⟩
  refine ⟨fun i m σ' H' => ∃ ι' h' s', i ≤ p.1.length ∧ m = p.1.length - i ∧ Gr X.K H1 H' ι1 ι' ∧ HRel X.K H' ι' X.mg h' ∧ SRel X.K H' ι' σ' s' ∧ wLoop p.2 t w (QD X W H ι B) (p.1.drop i) s' h', ⟨p.1.length, ι1, h1, s, Nat.zero_le _, rfl, .refl, hr1, sr.mono g1, q⟩, ?_⟩
  rintro i m σ2 H2 ⟨ι2, h2, s2, hi2, rfl, g2, hr2, sr2, q2⟩
  by_cases hlt : i < p.1.length
  · rw [List.drop_eq_getElem_cons hlt] at q2
    obtain ⟨hk, s3, e3, q3⟩ := q2
    refine .inr ⟨cf.go i H2 ι2 h2 g2 hr2 hk hlt, fun σ' H' => ∃ ι' h' s', i + 1 ≤ p.1.length ∧ Gr X.K H1 H' ι1 ι' ∧ HRel X.K H' ι' X.mg h' ∧ SRel X.K H' ι' σ' s' ∧ wLoop p.2 t w (QD X W H ι B) (p.1.drop (i + 1)) s' h',
      fun σ' H' ⟨ι', h', s', z1, z2, z3, z4, z5⟩ => ⟨p.1.length - (i + 1), by omega, ι', h', s', z1, rfl, z2, z3, z4, z5⟩, fun x H3 y => ?_⟩
    obtain ⟨g3, hr3, rx, _⟩ := cf.yld i H2 ι2 h2 _ x H3 g2 hr2 hk (List.getElem?_eq_getElem hlt) y
    have gg := (g1.trans g2).trans g3
    refine asg_ok rx (sr2.mono g3) e3 fun σ4 sr4 _ => ?_
    refine ⟨ι2, h2, s3, hr3, sr4, hb.mono _ _ s3 h2 ⟨fun s5 h5 q σ5 H5 ι5 g5 hr5 sr5 => ?_, fun d h5 q => QV.on (X := X) q gg, fun s5 h5 q σ5 H5 ι5 g5 hr5 sr5 => ?_, fun s5 h5 q σ5 H5 ι5 g5 hr5 sr5 => ?_, fun s5 x h5 q c d σ5 H5 ι5 g5 hr5 sr5 xr => ?_⟩ q3⟩
    · exact ⟨ι5, h5, s5, hlt, (g2.trans g3).trans g5, hr5, sr5, q⟩
    · exact q σ5 H5 ι5 (gg.trans g5) hr5 sr5
    · exact ⟨ι5, h5, s5, hlt, (g2.trans g3).trans g5, hr5, sr5, q⟩
    · exact q c d σ5 H5 ι5 (gg.trans g5) hr5 sr5 xr
  · have hd : p.1.drop i = [] := List.drop_eq_nil_of_le (by omega)
    rw [hd] at q2
    exact .inl ⟨cf.stop i H2 ι2 h2 g2 hr2 q2.1 (by omega), q2.2 σ2 H2 ι2 (g1.trans g2) hr2 sr2⟩

/-! ### list comprehensions -/
def wYes : WT := fun _ h Q _ => Q true h
theorem mono_yes : Mono wYes := fun s h Q Q' E E' hq _ q => hq _ _ q
structure DTs (X : Cx) (W : WX) (ifs : List Expr) (w : WT) : Prop where
  pts : PTs X ifs (LT X W w)
  mono : Mono w
theorem dts_nil : DTs X W [] wYes := ⟨⟨fun pins s σ H Q I ⟨ι, h, sl, hr, sr, q⟩ => pts_nil.run pins s σ H Q I (q H ι .refl hr)⟩, mono_yes⟩
theorem dts_one {wt : WT} (h : DT X W c wt) : DTs X W [c] wt := ⟨pts_one h.pt, h.mono⟩
abbrev W0 : WX := fun _ _ _ _ => False
def E0 : PX := fun _ _ => False
def wipeD (s : Sl) : List Nat → Sl
  | [] => s
  | v :: vs => (wipeD s vs).set v none
theorem SRel.wipe {K : PySem.W.Frag} {H : Hp} {ι : List Addr} {σ : St} {s : Sl} (sr : SRel K H ι σ s) : ∀ vs, SRel K H ι (wipe σ vs) (wipeD s vs)
  | [] => sr
  | v :: vs => by
    have h := sr.wipe vs
    unfold L2.wipe wipeD
    refine ⟨by rw [List.length_set, List.length_set]; exact h.1, fun j e hj => ?_⟩
    by_cases hi : v = j
    · subst hi
      by_cases hl : v < (wipeD s vs).length
      · rw [List.getElem?_set_self hl] at hj; cases hj
      · rw [List.getElem?_eq_none (by rw [List.length_set]; omega)] at hj; cases hj
    · rw [List.getElem?_set_ne hi] at hj ⊢
      exact h.2 j e hj
def wLcGo (L : Nat) (chk : Hh → Prop) (t : Tg) (wt : WT) (we : WE) (s : Sl) (Q : PV) : List D → Hh → Prop
  | [], h => chk h ∧ Q (.ref L) h
  | d :: ds, h => chk h ∧ ∃ s', asgD t d s = some s' ∧ wt s' h (fun c h1 => if c = true then we s' h1 (fun y h2 => ∃ acc, h2[L]? = some (.lst acc) ∧ acc.length < sizeLine ∧ wLcGo L chk t wt we s Q ds (h2.set L (.lst (acc ++ [y])))) E0 else wLcGo L chk t wt we s Q ds h1) E0
def wLc (wi : WI) (own : List Nat) (t : Tg) (wt : WT) (we : WE) : WE := fun s h Q E => wi s h (fun p h1 => wLcGo h1.length p.2 t wt we (wipeD s own) Q p.1 (h1 ++ [.lst []])) E
theorem mono_lcGo {L : Nat} {chk : Hh → Prop} {t : Tg} {wt : WT} {we : WE} (mt : Mono wt) (me : Mono we) {s : Sl} {Q Q' : PV} (hq : ∀ d h, Q d h → Q' d h) : ∀ ds h, wLcGo L chk t wt we s Q ds h → wLcGo L chk t wt we s Q' ds h
  | [], h, ⟨k, q⟩ => ⟨k, hq _ _ q⟩
  | d :: ds, h, ⟨k, s', e, q⟩ => ⟨k, s', e, mt s' h _ _ _ _ (fun c h1 q => by
    cases c with
    | true => exact me s' h1 _ _ _ _ (fun y h2 ⟨acc, z, l, q⟩ => ⟨acc, z, l, mono_lcGo mt me hq ds _ q⟩) (fun _ _ x => x) q
    | false => exact mono_lcGo mt me hq ds _ q) (fun _ _ x => x) q⟩
theorem mono_lc {wi : WI} {own : List Nat} {t : Tg} {wt : WT} {we : WE} (mi : Mono wi) (mt : Mono wt) (me : Mono we) : Mono (wLc wi own t wt we) := fun s h Q Q' E E' hq he q => mi s h _ _ _ _ (fun p h1 q => mono_lcGo mt me hq p.1 _ q) he q
theorem lc_red {wi : WI} {own : List Nat} {t : Tg} {wt : WT} {tg iter elt : Expr} {ifs : List Expr} {scope : Scope} (mi : Mono wi) (mt : Mono wt) (me : Mono we) (ho : ∀ i ∈ slotsT t, i ∈ own) {σ : St} {H : Hp} {Q : VK} (h : LE X W (wLc wi own t wt we) σ H Q) :
    tLc (LI X W wi) (gOf X.K t) (LT X W0 wt) (LE X W0 we) own σ H Q := by
  obtain ⟨ι, h, s, hr, sr, q⟩ := h
  refine ⟨ι, h, s, hr, sr, mi s h _ _ _ _ (fun p h1 q J H1 ι1 g1 hr1 cf L hL => ?_) (fun _ _ e => e) q⟩
  have gL : Gr X.K H1 (upd H1 L (.lst [])) ι1 (ι1 ++ [L]) := Gr.fresh hL _ (List.prefix_append _ _)
  have hrL : HRel X.K (upd H1 L (.lst [])) (ι1 ++ [L]) X.mg (h1 ++ [.lst []]) := hr1.push hL ⟨[], upd_same, rfl⟩
  have ix : (ι1 ++ [L])[h1.length]? = some L := by rw [← hr1.len, List.getElem?_append_right (Nat.le_refl _), Nat.sub_self]; rfl
  refine ⟨fun i m H' => ∃ ι' h', i ≤ p.1.length ∧ m = p.1.length - i ∧ Gr X.K (upd H1 L (.lst [])) H' (ι1 ++ [L]) ι' ∧ HRel X.K H' ι' X.mg h' ∧ wLcGo h1.length p.2 t wt we (wipeD s own) (QV X H ι Q) (p.1.drop i) h', ⟨p.1.length, ι1 ++ [L], h1 ++ [.lst []], Nat.zero_le _, rfl, .refl, hrL, by rw [List.drop_zero]; exact q⟩, ?_⟩
  rintro i m H2 ⟨ι2, h2, hi2, rfl, g2, hr2, q2⟩
  have gg := g1.trans (gL.trans g2)
  by_cases hlt : i < p.1.length
  · rw [List.drop_eq_getElem_cons hlt] at q2
    obtain ⟨hk, s3, e3, q3⟩ := q2
    refine .inr ⟨cf.go i H2 ι2 h2 (gL.trans g2) hr2 hk hlt, fun H' => ∃ ι' h', i + 1 ≤ p.1.length ∧ Gr X.K (upd H1 L (.lst [])) H' (ι1 ++ [L]) ι' ∧ HRel X.K H' ι' X.mg h' ∧ wLcGo h1.length p.2 t wt we (wipeD s own) (QV X H ι Q) (p.1.drop (i + 1)) h',
      fun H' ⟨ι', h', z1, z2, z3, z4⟩ => ⟨p.1.length - (i + 1), by omega, ι', h', z1, rfl, z2, z3, z4⟩, fun x H3 y => ?_⟩
    obtain ⟨g3, hr3, rx, _⟩ := cf.yld i H2 ι2 h2 _ x H3 (gL.trans g2) hr2 hk (List.getElem?_eq_getElem hlt) y
    refine asg_ok rx ((sr.mono (gg.trans g3)).wipe own) e3 fun σ4 sr4 w4 => ⟨?_, ?_⟩
    · rw [w4 own ho]
      apply List.ext_getElem?
      intro j
      by_cases hj : j ∈ own
      · rw [wipe_in hj, wipe_in hj, wipe_length]
      · rw [wipe_out hj, wipe_out hj]
    · refine ⟨ι2, h2, s3, hr3, sr4, mt s3 h2 _ _ _ _ (fun c h4 q H4 ι4 g4 hr4 => ?_) (fun x h' z => z.elim) q3⟩
      cases c with
      | true =>
        refine ⟨ι4, h4, s3, hr4, sr4.mono g4, me s3 h4 _ _ _ _ (fun y h5 ⟨acc, z, l, q⟩ u H5 ι5 g5 hr5 ry => ?_) (fun x h' z => z.elim) q⟩
        have ix5 : ι5[h1.length]? = some L := pre_get ((g2.trans g3).trans (g4.trans g5)).pre ix
        obtain ⟨vs, q1, rs⟩ := hr5.obj _ _ _ z ix5
        obtain ⟨w0, ew, w1, w2⟩ := (hr5.obj _ _ _ z ix5).there
        have g6 : Gr X.K H5 (upd H5 L (.lst (vs ++ [u]))) ι5 ι5 := Gr.write ew w1 w2
        obtain ⟨_, hr6⟩ := hr5.write (u := .lst (vs ++ [u])) (o' := .lst (acc ++ [y])) z ix5 ⟨_, upd_same, (rs.append (es := [y]) (us := [u]) ⟨u, [], rfl, ry, rfl⟩).mono g6⟩
        exact ⟨vs, q1, by rw [rs.length]; exact l, ι5, _, hlt, ((g2.trans g3).trans (g4.trans g5)).trans g6, hr6, q⟩
      | false => exact ⟨ι4, h4, hlt, (g2.trans g3).trans g4, hr4, q⟩
  · have hd : p.1.drop i = [] := List.drop_eq_nil_of_le (by omega)
    rw [hd] at q2
    refine .inl ⟨cf.stop i H2 ι2 h2 (gL.trans g2) hr2 q2.1 (by omega), q2.2 (.ref L) H2 ι2 gg hr2 ⟨L, pre_get g2.pre ix, rfl⟩⟩
theorem de_lc {elt tg iter : Expr} {ifs : List Expr} {scope : Scope} {own : List (Str × Nat)} {wi : WI} {t : Tg} {wt : WT} (hc : X.calm = true) (hN : X.N.Nodup) (hi : DI X W tg iter wi) (ok : BlkOk X.N X.env.scope scope own)
    (hg : ∀ (s : Shared) (H : Hp) (C : Addr) (cl : List (Str × Addr)) (fp : List Addr), DG (X.blk s H scope (compEnvC scope cl C X.env) fp) tg t) (ht : ∀ (s : Shared) (H : Hp) (C : Addr) (cl : List (Str × Addr)) (fp : List Addr), DTs (X.blk s H scope (compEnvC scope cl C X.env) fp) W0 ifs wt)
    (he : ∀ (s : Shared) (H : Hp) (C : Addr) (cl : List (Str × Addr)) (fp : List Addr), DE (X.blk s H scope (compEnvC scope cl C X.env) fp) W0 elt we) (ho : ∀ i ∈ slotsT t, i ∈ own.map (·.2) := by decide) (hs : ∀ x, foldedSetIterable iter X.env x = pure x := by intro _; rfl) :
    DE X W (.ListComp elt [⟨tg, iter, ifs, 0⟩] scope pos) (wLc wi (own.map (·.2)) t wt we) := by
  have mt : Mono wt := (ht ({} : Shared) (fun _ => none) 0 [] []).mono
  have me : Mono we := (he ({} : Shared) (fun _ => none) 0 [] []).mono
  refine ⟨PE.imp (pe_lc (g := gOf X.K t) (tt := LT X W0 wt) (te := LE X W0 we) hc hN hi.pi ok (fun s H C cl fp => (hg s H C cl fp).pg) (fun s H C cl fp => (ht s H C cl fp).pts) (fun s H C cl fp => (he s H C cl fp).pe) hs) fun σ H Q h => ?_, mono_lc hi.mono mt me⟩
  exact lc_red (tg := tg) (iter := iter) (elt := elt) (ifs := ifs) (scope := scope) hi.mono mt me ho h
theorem ds_setLc (i : Nat) {y : Str} {py : Pos} {elt tg iter : Expr} {ifs : List Expr} {scope : Scope} {own : List (Str × Nat)} {spos : Pos} {wi : WI} {t : Tg} {wt : WT} (hc : X.calm = true) (hN : X.N.Nodup) (hsw : swapsWith (.ListComp elt [⟨tg, iter, ifs, 0⟩] scope pos) (some (.Name y py)) spos.line X.env = pure true) (hi : DI X W tg iter wi) (ok : BlkOk X.N X.env.scope scope own)
    (hg : ∀ (s : Shared) (H : Hp) (C : Addr) (cl : List (Str × Addr)) (fp : List Addr), DG (X.blk s H scope (compEnvC scope cl C X.env) fp) tg t) (ht : ∀ (s : Shared) (H : Hp) (C : Addr) (cl : List (Str × Addr)) (fp : List Addr), DTs (X.blk s H scope (compEnvC scope cl C X.env) fp) W0 ifs wt)
    (he : ∀ (s : Shared) (H : Hp) (C : Addr) (cl : List (Str × Addr)) (fp : List Addr), DE (X.blk s H scope (compEnvC scope cl C X.env) fp) W0 elt we) (hy : X.N[i]? = some y := by rfl) (hyl : X.env.scope.names.lookup y = some .local := by rfl) (ho : ∀ i ∈ slotsT t, i ∈ own.map (·.2) := by decide) (hs : ∀ x, foldedSetIterable iter X.env x = pure x := by intro _; rfl) :
    DS X W (.Assign [.Name y py] (.ListComp elt [⟨tg, iter, ifs, 0⟩] scope pos) spos) (wAsg (.nm i) (wLc wi (own.map (·.2)) t wt we)) := by
  have mt : Mono wt := (ht ({} : Shared) (fun _ => none) 0 [] []).mono
  have me : Mono we := (he ({} : Shared) (fun _ => none) 0 [] []).mono
  refine ⟨PS.imp (ps_setLc (g := gOf X.K t) (tt := LT X W0 wt) (te := LE X W0 we) hc hN hy hyl hsw hi.pi ok (fun s H C cl fp => (hg s H C cl fp).pg) (fun s H C cl fp => (ht s H C cl fp).pts) (fun s H C cl fp => (he s H C cl fp).pe) hs) fun B σ H h => ?_, mono_asg (mono_lc hi.mono mt me)⟩
  have h := ls_asg (mono_lc hi.mono mt me) h
  simp only [gOf] at h
  exact lc_red (tg := tg) (iter := iter) (elt := elt) (ifs := ifs) (scope := scope) hi.mono mt me ho h
end
end EV

namespace EV
open PySem PySem.Spec PyProof.Rows L2

section
variable {X : Cx} {W : WX} {pos : Pos} {a b c e : Expr} {wa wb wc we : WE} {st : Stmt} {rest : List Stmt} {w v : WS}

/-! ### isinstance -/
def tyD (h : Hh) : D → Option String
  | .non => some "NoneType"
  | .bl _ => some "bool"
  | .int _ => some "int"
  | .str _ => some "str"
  | .tup _ => some "tuple"
  | .ref n => match h[n]? with
    | some (.lst _) => some "list"
    | some (.rol _) => some "list"
    | some (.dic _) => some "dict"
    | _ => none
  | .opq _ => none
theorem tyX_of {H : Hp} {ι : List Addr} {h : Hh} {d : D} {x : V} {T : String} (hr : HRel X.K H ι X.mg h) (rd : RelD X.K H ι d x) (e : tyD h d = some T) : TyX X.K H x (.type T) := by
  cases d with
  | non => cases rd; cases e; exact .base .non
  | bl _ => cases rd; cases e; exact .base (.bl _)
  | int _ => cases rd; cases e; exact .base (.int _)
  | str _ => cases rd; cases e; exact .base (.str _)
  | tup ds =>
    obtain ⟨p, vs, rfl, sq, _⟩ := rd
    cases e
    rcases sq with (q | ⟨o, q⟩) | ⟨o, its, n, k, c, _⟩
    · exact .base (.tup q)
    · exact .fTuple q
    · exact .kTuple k c
  | ref n =>
    obtain ⟨p, ep, rfl⟩ := rd
    simp only [tyD] at e
    split at e
    · rename_i z; cases e; obtain ⟨vs, q, _⟩ := hr.obj _ _ _ z ep; exact .base (.lst q)
    · rename_i z; cases e
      obtain ⟨vs, ⟨o, q⟩ | ⟨o, its, n, k, c, _⟩, _⟩ := hr.obj _ _ _ z ep
      · exact .base (.frz q)
      · exact .kList k c
    · rename_i z; cases e; obtain ⟨vs, q, _⟩ := hr.obj _ _ _ z ep; exact .base (.dK q)
    · cases e
  | opq v => cases e
def gIsi (T : String) (us : List String) : GA := fun ds h => match ds with
  | [d, .opq (.ty U)] => if us.isEmpty && U == T then (match tyD h d with | some t => (match kitB t U with | some b => some (.bl b, h) | none => none) | none => none) else none
  | _ => none
/-- one built-in class -/
def gIsi1 : GA
  | [d, .opq (.ty U)], h => match tyD h d with | some t => (match kitB t U with | some b => some (.bl b, h) | none => none) | none => none
  | _, _ => none
theorem ok_isi1 : CallOk X (.builtin "isinstance") gIsi1 := by
  intro ι h ds r h' xs H Q hr rd eg q
  unfold gIsi1 at eg
  split at eg
  · rename_i d U
    split at eg
    · rename_i t et
      split at eg
      · rename_i b eb
        simp only [Option.some.injEq, Prod.mk.injEq] at eg
        obtain ⟨rfl, rfl⟩ := eg
        obtain ⟨x, u, rfl, r1, y, u2, rfl, r2, rn⟩ := rd
        rw [show u2 = [] from rn]
        cases r2
        exact ⟨_, call_isi, x, .ty U, .type t, .type U, b, rfl, .ty U, tyX_of hr r1 et, kit_ty eb, qv_same hr q rfl⟩
      · cases eg
    · cases eg
  · cases eg
/-- a tuple of built-in classes -/
theorem call_isiS : CallR X (.builtin "isinstance") (fun xs H Q => ∃ (x : V) (tp : Addr) (cs : List V) (t : Value) (us : List Value) (b : Bool), xs = [x, .ref tp] ∧ SqT X.K H tp cs ∧ Paired ClsV cs us ∧ TyX X.K H x t ∧ PySem.W.kitAny X.K t us = some b ∧ Q (.bl b) H) := by
  intro pins s σ H xs us Q I r h
  obtain ⟨x, tp, cs, t, ws, b, rfl, sq, k, ty, ek, q⟩ := h
  cases r with
  | cons r1 rr =>
    cases rr with
    | cons r2 rr =>
      cases rr
      cases r2
      obtain ⟨P, Z, p, hx⟩ := kit_of I r1 ty
      obtain ⟨its, rv, ⟨ob, g1, g2, n, g3⟩, _⟩ := I.tuple sq
      have e3 := ClsV.all k rv
      subst e3
      obtain ⟨oc, od, dt, sl⟩ := ob
      dsimp only at g2 g3
      subst g2
      subst g3
      refine PySem.W.kia_tup Z I.kIn p g1 ek hx fun tk => ?_
      exact ⟨.bl b, H, I.tok tk, rfl, q⟩
def tysOf : List D → Option (List String)
  | [] => some []
  | .opq (.ty U) :: ds => match tysOf ds with | some us => some (U :: us) | none => none
  | _ :: _ => none
def kitBs (t : String) : List String → Option Bool
  | [] => some false
  | u :: us => match kitB t u with
    | some true => some true
    | some false => kitBs t us
    | none => none
theorem kitBs_of {K : PySem.W.Frag} {t : String} : ∀ {us : List String} {b : Bool}, kitBs t us = some b → PySem.W.kitAny K (.type t) (us.map Value.type) = some b
  | [], b, e => by cases e; rfl
  | u :: us, b, e => by
    simp only [kitBs] at e
    rw [List.map_cons]
    unfold PySem.W.kitAny
    cases z : kitB t u with
    | none => rw [z] at e; cases e
    | some c =>
      rw [z] at e
      rw [kit_ty z]
      cases c with
      | true => cases e; rfl
      | false => exact kitBs_of e
theorem tys_rel {K : PySem.W.Frag} {H : Hp} {ι : List Addr} : ∀ {ds : List D} {vs : List V} {us : List String}, RelDs K H ι ds vs → tysOf ds = some us → Paired ClsV vs (us.map Value.type)
  | [], _, _, r, e => by
    rw [show _ = _ from r]
    cases e
    exact .nil
  | d :: ds, _, us, r, e => by
    obtain ⟨v, u, rfl, r1, r2⟩ := r
    cases d with
    | opq x =>
      cases x with
      | ty U =>
        simp only [tysOf] at e
        cases z : tysOf ds with
        | none => rw [z] at e; cases e
        | some cs =>
          rw [z] at e
          cases e
          cases r1
          exact .cons (.ty U) (tys_rel r2 z)
      | _ => cases e
    | _ => cases e
def gIsiT : GA
  | [d, .tup cs], h => match tyD h d, tysOf cs with
    | some t, some us => (match kitBs t us with | some b => some (.bl b, h) | none => none)
    | _, _ => none
  | _, _ => none
theorem ok_isiT : CallOk X (.builtin "isinstance") gIsiT := by
  intro ι h ds r h' xs H Q hr rd eg q
  unfold gIsiT at eg
  split at eg
  · rename_i d cs
    split at eg
    · rename_i t us et eu
      split at eg
      · rename_i b eb
        simp only [Option.some.injEq, Prod.mk.injEq] at eg
        obtain ⟨rfl, rfl⟩ := eg
        obtain ⟨x, u, rfl, r1, y, u2, rfl, ⟨p, vs, rfl, sq, rs⟩, rn⟩ := rd
        rw [show u2 = [] from rn]
        exact ⟨_, call_isiS, x, p, vs, .type t, us.map Value.type, b, rfl, sq, tys_rel rs eu, tyX_of hr r1 et, kitBs_of eb, qv_same hr q rfl⟩
      · cases eg
    · cases eg
  · cases eg
def gIsinst : GA := orA gIsi1 gIsiT
theorem ok_isinst : CallOk X (.builtin "isinstance") gIsinst := ok_isi1.or ok_isiT
/-- a built-in class by its name, as a value -/
theorem de_ty {x : Str} {T : String} {pos : Pos} (hm : X.mg x = none) (hv : bootBuiltins x = some (.type T)) (hg : Gl X x := by rfl) (hn : x ≠ "__name__" := by decide) (hd : (x == ("__debug__" : Str)) = false := by decide) : DE X W (.Name x pos) (wC (.opq (.ty T))) :=
  de_c (pe_bltn (v := .ty T) hg hm hv rfl hn hd) fun _ _ => rfl

/-! ### dicts with int and text keys -/
def keyOf : D → Option Key
  | .int i => some (.inl i)
  | .str x => some (.inr x)
  | _ => none
def valD (kvs : List (Key × D)) (k : Key) : Option D := (kvs.find? fun kv => decide (kv.1 = k)).map (·.2)
def putKD (kvs : List (Key × D)) (k : Key) (d : D) : List (Key × D) := if (kvs.any fun kv => decide (kv.1 = k)) = true then kvs.map (fun kv => if kv.1 = k then (kv.1, d) else kv) else kvs ++ [(k, d)]
def dcOf (h : Hh) (n : Nat) : Option (List (Key × D)) := match h[n]? with | some (.dic kvs) => some kvs | some (.lck kvs) => some kvs | _ => none
theorem key_rel {K : PySem.W.Frag} {H : Hp} {ι : List Addr} {d : D} {v : V} {k : Key} (r : RelD K H ι d v) (e : keyOf d = some k) : v = kV k := by
  cases d <;> first
    | (cases e; cases r; rfl)
    | cases e
theorem val_rel {K : PySem.W.Frag} {H : Hp} {ι : List Addr} {k : Key} : ∀ {kvs : List (Key × D)} {vs : List (Key × V)}, RelKs K H ι kvs vs → match valD kvs k with | some d => ∃ v, valV vs k = some v ∧ RelD K H ι d v | none => valV vs k = none
  | [], _, r => by rw [show _ = _ from r]; rfl
  | (k', d) :: kvs, _, r => by
    obtain ⟨v, u, rfl, r1, r2⟩ := r
    have ih := val_rel (k := k) r2
    unfold valD at ih ⊢
    by_cases e : k' = k
    · rw [List.find?_cons_of_pos (by simpa using e), valV_pos e]
      exact ⟨v, rfl, r1⟩
    · rw [List.find?_cons_of_neg (by simpa using e), valV_neg e]
      exact ih
theorem dc_rd {H : Hp} {ι : List Addr} {h : Hh} {n : Nat} {kvs : List (Key × D)} {p : Addr} (hr : HRel X.K H ι X.mg h) (e : dcOf h n = some kvs) (ep : ι[n]? = some p) : ∃ vs, Rd H p (.dK vs) ∧ RelKs X.K H ι kvs vs := by
  unfold dcOf at e
  split at e
  · rename_i z; cases e; obtain ⟨vs, q, r⟩ := hr.obj _ _ _ z ep; exact ⟨vs, .inl q, r⟩
  · rename_i z; cases e; obtain ⟨o, vs, q, r⟩ := hr.obj _ _ _ z ep; exact ⟨vs, .inr ⟨o, q⟩, r⟩
  · cases e
/-- d[k] -/
def gDGet : G2
  | .ref n, k, h => match dcOf h n, keyOf k with
    | some kvs, some kk => (match valD kvs kk with | some d => some (d, h) | none => none)
    | _, _ => none
  | _, _, _ => none
theorem de_dget (hu : X.A.units + 1 < cLine) (ha : DE X W a wa) (hb : DE X W b wb) (hs : NoSl b := by intro _ _; rfl) : DE X W (.Subscript a b pos) (wOp gDGet wa wb) := by
  refine ⟨PE.imp (pe_dget hu ha.pe hb.pe hs) fun σ H Q ⟨ι, h, s, hr, sr, q⟩ => ?_, mono_op ha.mono hb.mono⟩
  refine ⟨ι, h, s, hr, sr, ha.mono s h _ _ _ _ (fun d h1 q v H1 ι1 g1 hr1 rd => ?_) (fun _ _ e => e) q⟩
  refine ⟨ι1, h1, s, hr1, sr.mono g1, hb.mono s h1 _ _ _ _ (fun k h2 q u H2 ι2 g2 hr2 rk => ?_) (fun x h' q' => QX.on q' g1) q⟩
  obtain ⟨r, h', eg, q⟩ := q
  unfold gDGet at eg
  split at eg
  · rename_i n
    obtain ⟨p, ep, rfl⟩ := rd.mono g2
    split at eg
    · rename_i kvs kk e1 e2
      have vr := fun vs (r : RelKs X.K H2 ι2 kvs vs) => val_rel (k := kk) r
      split at eg
      · rename_i dd ed
        simp only [Option.some.injEq, Prod.mk.injEq] at eg
        obtain ⟨rfl, rfl⟩ := eg
        obtain ⟨vs, rd', rs⟩ := dc_rd hr2 e1 ep
        have := vr vs rs
        rw [ed] at this
        obtain ⟨v, ev, rv⟩ := this
        exact ⟨p, v, rfl, .inl ⟨vs, kk, rd', key_rel rk e2, ev.symm⟩, q v H2 ι2 (g1.trans g2) hr2 rv⟩
      · cases eg
    · cases eg
  · cases eg
/-- k in d -/
def gDIn (neg : Bool) : G2
  | k, .ref n, h => match dcOf h n, keyOf k with
    | some kvs, some kk => some (.bl ((valD kvs kk).isSome ^^ neg), h)
    | _, _ => none
  | _, _, _ => none
theorem din_rel {H : Hp} {ι : List Addr} {h : Hh} {neg : Bool} {k d r : D} {h' : Hh} {x y : V} (hr : HRel X.K H ι X.mg h) (rk : RelD X.K H ι k x) (rd : RelD X.K H ι d y) (eg : gDIn neg k d h = some (r, h')) : ∃ p o, y = .ref p ∧ DGet H p x o ∧ r = .bl (o.isSome ^^ neg) ∧ h' = h := by
  unfold gDIn at eg
  split at eg
  · rename_i n
    obtain ⟨p, ep, rfl⟩ := rd
    split at eg
    · rename_i kvs kk e1 e2
      simp only [Option.some.injEq, Prod.mk.injEq] at eg
      obtain ⟨rfl, rfl⟩ := eg
      obtain ⟨vs, rd', rs⟩ := dc_rd hr e1 ep
      refine ⟨p, valV vs kk, rfl, .inl ⟨vs, kk, rd', key_rel rk e2, rfl⟩, ?_, rfl⟩
      have := val_rel (k := kk) rs
      cases z : valD kvs kk with
      | none => rw [z] at this; rw [this]; rfl
      | some d => rw [z] at this; obtain ⟨v, ev, _⟩ := this; rw [ev]; rfl
    · cases eg
  · cases eg
theorem le_din {neg : Bool} (ma : Mono wa) (mb : Mono wb) {σ : St} {H : Hp} {Q : VK} (q : LE X W (wOp (gDIn neg) wa wb) σ H Q) : LE X W wa σ H fun y H1 => LE X W wb σ H1 fun x H2 => ∃ a o, x = V.ref a ∧ DGet H2 a y o ∧ Q (.bl (o.isSome ^^ neg)) H2 := by
  obtain ⟨ι, h, s, hr, sr, q⟩ := q
  refine ⟨ι, h, s, hr, sr, ma s h _ _ _ _ (fun d h1 q v H1 ι1 g1 hr1 rd => ?_) (fun _ _ e => e) q⟩
  refine ⟨ι1, h1, s, hr1, sr.mono g1, mb s h1 _ _ _ _ (fun k h2 ⟨r, h', eg, q⟩ u H2 ι2 g2 hr2 rk => ?_) (fun x h' q' => QX.on q' g1) q⟩
  obtain ⟨p, o, ey, dg, rfl, rfl⟩ := din_rel hr2 (rd.mono g2) rk eg
  exact ⟨p, o, ey, dg, q _ H2 ι2 (g1.trans g2) hr2 rfl⟩
theorem de_din (hu : X.A.units + 1 < cLine) (ha : DE X W a wa) (hb : DE X W b wb) (hm : behindInMarks .In b = false := by first | rfl | with_unfolding_all rfl) : DE X W (.Compare a [.In] [b] pos) (wOp (gDIn false) wa wb) :=
  ⟨PE.imp (pe_cmp (pc_din hu ha.pe hb.pe) hm) fun σ H Q q => by have := le_din ha.mono hb.mono q; simp only [Bool.xor_false] at this; exact this, mono_op ha.mono hb.mono⟩
theorem dt_din (hu : X.A.units + 1 < cLine) (ha : DE X W a wa) (hb : DE X W b wb) (hm : behindInMarks .In b = false := by first | rfl | with_unfolding_all rfl) : DT X W (.Compare a [.In] [b] pos) (wB (wOp (gDIn false) wa wb)) :=
  ⟨PT.imp (pt_cmp (pc_din hu ha.pe hb.pe) hm) fun σ H Q q => by have := le_din ha.mono hb.mono (LT.bool (mono_op ha.mono hb.mono) q); simp only [Bool.xor_false] at this; exact this, mono_b (mono_op ha.mono hb.mono)⟩
theorem dt_dnotin (hu : X.A.units + 1 < cLine) (ha : DE X W a wa) (hb : DE X W b wb) (hm : behindInMarks .NotIn b = false := by first | rfl | with_unfolding_all rfl) : DT X W (.Compare a [.NotIn] [b] pos) (wB (wOp (gDIn true) wa wb)) :=
  ⟨PT.imp (pt_cmp (pc_dnotin hu ha.pe hb.pe) hm) fun σ H Q q => by have := le_din ha.mono hb.mono (LT.bool (mono_op ha.mono hb.mono) q); simp only [Bool.xor_true] at this; exact this, mono_b (mono_op ha.mono hb.mono)⟩
/-- d[k] = v -/
def wSetD (wo wi wv : WE) : WS := fun B s h => wv s h (fun d h1 => wo s h1 (fun o h2 => wi s h2 (fun i h3 => ∃ n kvs k, o = .ref n ∧ keyOf i = some k ∧ h3[n]? = some (.dic kvs) ∧ kvs.length < sizeLine ∧ B.nx s (h3.set n (.dic (putKD kvs k d)))) (B.ex s)) (B.ex s)) (B.ex s)
theorem any_rel {K : PySem.W.Frag} {H : Hp} {ι : List Addr} {k : Key} : ∀ {kvs : List (Key × D)} {vs : List (Key × V)}, RelKs K H ι kvs vs → (vs.any fun kv => decide (kv.1 = k)) = kvs.any fun kv => decide (kv.1 = k)
  | [], _, r => by rw [show _ = _ from r]; rfl
  | (k', d) :: kvs, _, r => by
    obtain ⟨v, u, rfl, r1, r2⟩ := r
    rw [List.any_cons, List.any_cons, any_rel r2]
theorem RelKs.append {κ : Type} {K : PySem.W.Frag} {H : Hp} {ι : List Addr} : ∀ {as bs : List (κ × D)} {vs us : List (κ × V)}, RelKs K H ι as vs → RelKs K H ι bs us → RelKs K H ι (as ++ bs) (vs ++ us)
  | [], _, _, _, h, h' => by rw [show _ = _ from h]; exact h'
  | _ :: _, _, _, _, h, h' => by
    obtain ⟨v, r, rfl, h1, h2⟩ := h
    exact ⟨v, _, rfl, h1, h2.append h'⟩
theorem map_rel {K : PySem.W.Frag} {H : Hp} {ι : List Addr} {k : Key} {d : D} {v : V} (rv : RelD K H ι d v) : ∀ {kvs : List (Key × D)} {vs : List (Key × V)}, RelKs K H ι kvs vs → RelKs K H ι (kvs.map fun kv => if kv.1 = k then (kv.1, d) else kv) (vs.map fun kv => if kv.1 = k then (kv.1, v) else kv)
  | [], _, r => by rw [show _ = _ from r]; rfl
  | (k', d') :: kvs, _, r => by
    obtain ⟨v', u, rfl, r1, r2⟩ := r
    rw [List.map_cons, List.map_cons]
    by_cases e : k' = k
    · simp only [e, if_true]
      exact ⟨v, _, rfl, rv, map_rel rv r2⟩
    · simp only [e, if_false]
      exact ⟨v', _, rfl, r1, map_rel rv r2⟩
theorem put_rel {K : PySem.W.Frag} {H : Hp} {ι : List Addr} {k : Key} {d : D} {v : V} {kvs : List (Key × D)} {vs : List (Key × V)} (rv : RelD K H ι d v) (r : RelKs K H ι kvs vs) : RelKs K H ι (putKD kvs k d) (putK vs k v) := by
  unfold putKD putK
  rw [any_rel r]
  split
  · exact map_rel rv r
  · exact r.append (bs := [(k, d)]) (us := [(k, v)]) ⟨v, [], rfl, rv, rfl⟩
theorem ds_dput {o i value : Expr} {wo wi wv : WE} {pos' : Pos} (hu : X.A.units + 1 < cLine) (ho : DE X W o wo) (hi : DE X W i wi) (hv : DE X W value wv) (hs : swapsWith value (some (.Subscript o i pos')) pos.line X.env = pure false := by rfl) : DS X W (.Assign [.Subscript o i pos'] value pos) (wSetD wo wi wv) := by
  refine ⟨PS.imp (ps_dput hu ho.pe hi.pe hv.pe hs) fun B σ H ⟨ι, h, s, hr, sr, q⟩ => ?_, fun A B s h l q => hv.mono s h _ _ _ _ (fun d h1 q => ho.mono s h1 _ _ _ _ (fun o h2 q => hi.mono s h2 _ _ _ _ (fun i h3 ⟨n, kvs, k, e1, e2, z, y, q⟩ => ⟨n, kvs, k, e1, e2, z, y, l.nx _ _ q⟩) (fun x h q => l.ex s x h q) q) (fun x h q => l.ex s x h q) q) (fun x h q => l.ex s x h q) q⟩
  refine ⟨ι, h, s, hr, sr, hv.mono s h _ _ _ _ (fun d h1 q v H1 ι1 g1 hr1 rd => ?_) (QD.exq sr) q⟩
  refine ⟨ι1, h1, s, hr1, sr.mono g1, ho.mono s h1 _ _ _ _ (fun o h2 q u H2 ι2 g2 hr2 ro => ?_) (fun x h' q' => QX.on (QD.exq sr x h' q') g1) q⟩
  refine ⟨ι2, h2, s, hr2, sr.mono (g1.trans g2), hi.mono s h2 _ _ _ _ (fun i h3 ⟨n, kvs, k, e1, e2, z, y, qq⟩ u' H3 ι3 g3 hr3 ri => ?_) (fun x h' q' => QX.on (QD.exq sr x h' q') (g1.trans g2)) q⟩
  subst e1
  obtain ⟨p, ep, rfl⟩ := ro
  have ep3 := pre_get g3.pre ep
  obtain ⟨vs, q1, rs⟩ := hr3.obj _ _ _ z ep3
  obtain ⟨w0, ew, w1, w2⟩ := (hr3.obj _ _ _ z ep3).there
  have g : Gr X.K H3 (upd H3 p (.dK (putK vs k v))) ι3 ι3 := Gr.write ew w1 w2
  obtain ⟨_, hr4⟩ := hr3.write (u := .dK (putK vs k v)) (o' := .dic (putKD kvs k d)) z ep3 ⟨_, upd_same, (put_rel (rd.mono (g2.trans g3)) rs).mono g⟩
  exact ⟨p, _, rfl, .inl ⟨vs, k, q1, key_rel ri e2, by rw [rs.length]; exact y, rfl⟩, qq σ _ ι3 (((g1.trans g2).trans g3).trans g) hr4 (sr.mono (((g1.trans g2).trans g3).trans g))⟩
/-- {} -/
def wDNew : WE := fun _ h Q _ => Q (.ref h.length) (h ++ [.dic []])
theorem dic_new {H : Hp} {ι : List Addr} {h : Hh} {kvs : List (Key × D)} {vs : List (Key × V)} {Q : VK} (hr : HRel X.K H ι X.mg h) (rs : RelKs X.K H ι kvs vs) (q : QV X H ι Q (.ref h.length) (h ++ [.dic kvs])) (p : Addr) (hp : H p = none) : Q (.ref p) (upd H p (.dK vs)) := by
  have g : Gr X.K H (upd H p (.dK vs)) ι (ι ++ [p]) := Gr.fresh hp _ (List.prefix_append _ _)
  refine q _ _ (ι ++ [p]) g (hr.push hp ⟨vs, upd_same, rs.mono g⟩) ⟨p, ?_, rfl⟩
  rw [← hr.len, List.getElem?_append_right (Nat.le_refl _), Nat.sub_self]
  rfl
theorem de_dnew : DE X W (.Dict [] [] pos) wDNew := ⟨PE.imp pe_dnewK fun σ H Q ⟨ι, h, s, hr, sr, q⟩ p hp => dic_new (kvs := []) (vs := []) hr rfl q p hp, fun s h Q Q' E E' hq _ q => hq _ _ q⟩

/-! ### a def by its body -/
theorem start_rel {K : PySem.W.Frag} {H : Hp} {ι : List Addr} {N : List Str} {ds : List D} {vs : List V} (r : RelDs K H ι ds vs) : SRel K H ι (L2.start N vs) (ds.map some ++ List.replicate (N.length - ds.length) none) := by
  unfold L2.start
  refine ⟨by rw [List.length_append, List.length_append, List.length_map, List.length_map, List.length_replicate, List.length_replicate, r.length], fun i d hd => ?_⟩
  by_cases hi : i < ds.length
  · rw [List.getElem?_append_left (by rw [List.length_map]; exact hi), List.getElem?_map] at hd
    cases z : ds[i]? with
    | none => rw [z] at hd; cases hd
    | some d' =>
      rw [z] at hd
      cases hd
      obtain ⟨v, ev, rv⟩ := r.get z
      exact ⟨v, by rw [List.getElem?_append_left (by rw [List.length_map, r.length]; exact hi), List.getElem?_map, ev]; rfl, rv⟩
  · rw [List.getElem?_append_right (by rw [List.length_map]; omega), List.getElem?_replicate] at hd
    split at hd <;> cases hd
/-- the slots at a def's entry -/
def slots0 (N : List Str) (ds : List D) : Sl := ds.map some ++ List.replicate (N.length - ds.length) none
/-- what a def's body is to reach -/
def endsOf (post : PV) (xp : PX) : DEnds := { nx := fun _ h => post .non h, rt := post, ex := fun _ => xp }
theorem fn_ok {P : Program} {w : World} {K : PySem.W.Frag} {mg : Str → Option Value} {base : Heap} {x qual : Str} {st : Stmt} {f : Addr} {fd : FuncData} {N ps : List Str} {k : Nat} {pre : List D → Hh → Prop} {post : List D → Hh → D → Hh → Prop} {xp : List D → Hh → XD → Hh → Prop} {wb : WS}
    (F : Fun K x qual st f fd) (S : FnScope N ps (defScope st)) (len : ∀ ds h, pre ds h → ds.length = ps.length) (hw : ∀ ds h, pre ds h → wb (endsOf (post ds h) (xp ds h)) (slots0 N ds) h)
    (hb : ∀ (X : Cx) (E : XK), X.prog = P → X.w = w → X.K = K → X.mg = mg → X.base = base → X.N = N → X.env.scope = defScope st → X.fn = (fun _ => true) → X.calm = true → Room k X.A → Takes X (nS E) → PassesOwn (model X.prog X.w) X.A X.env X.xe → DSs X (nS E) (defBody st) wb) :
    FnOk P w K mg base (L2.CX P w) (k + 1) f fd ps (LSp K mg (spOf pre post xp)) := by
  refine F.okX S (fun vs H Q E ⟨ι, h, ds, hr, rs, pr, _⟩ => by rw [rs.length]; exact len ds h pr) (fun cdv A outer s H vs Q E hr hsp => ?_)
  obtain ⟨ι, h, ds, hrel, rs, pr, q1, q2⟩ := hsp
  have D := hb (cxOf (L2.CX P w) P w K mg base N qual (defScope st) f cdv A outer s H E) E rfl rfl rfl rfl rfl rfl rfl rfl rfl hr (takes_of rfl rfl rfl rfl) (passes_of rfl)
  refine ⟨_, D.ps, ι, h, slots0 N ds, hrel, start_rel rs, D.mono (endsOf (post ds h) (xp ds h)) _ _ _ ⟨fun s' h' z σ' H' ι' g hr' _ => ?_, fun d h' z => ?_, fun _ _ z => False.elim z, fun _ _ z => False.elim z, fun s' y h' z c d σ' H' ι' g hr' _ xr => ?_⟩ (hw ds h pr)⟩
  · exact q1 _ _ z .non H' ι' g hr' rfl
  · exact q1 _ _ z
  · exact q2 y h' z c d H' ι' g hr' xr
end
end EV

namespace EV
open PySem PySem.Spec PyProof.Rows L2

section
variable {X : Cx} {W : WX} {pos : Pos} {a b c e : Expr} {wa wb wc we : WE} {st : Stmt} {rest : List Stmt} {w v : WS}
/-- a def by its body, over the very context that the call makes -/
theorem fn_ok2 {P : Program} {w : World} {K : PySem.W.Frag} {mg : Str → Option Value} {base : Heap} {x qual : Str} {st : Stmt} {f : Addr} {fd : FuncData} {N ps : List Str} {k : Nat} {pre : List D → Hh → Prop} {post : List D → Hh → D → Hh → Prop} {xp : List D → Hh → XD → Hh → Prop} {wb : WS}
    (F : Fun K x qual st f fd) (S : FnScope N ps (defScope st)) (len : ∀ ds h, pre ds h → ds.length = ps.length) (hw : ∀ ds h, pre ds h → wb (endsOf (post ds h) (xp ds h)) (slots0 N ds) h)
    (hb : ∀ (cdv : Value) (A : Around) (outer : List Env) (s : Shared) (H : Hp) (E : XK), Room k (cxOf (L2.CX P w) P w K mg base N qual (defScope st) f cdv A outer s H E).A → Takes (cxOf (L2.CX P w) P w K mg base N qual (defScope st) f cdv A outer s H E) (nS E) →
      PassesOwn (model P w) (cxOf (L2.CX P w) P w K mg base N qual (defScope st) f cdv A outer s H E).A (cxOf (L2.CX P w) P w K mg base N qual (defScope st) f cdv A outer s H E).env (cxOf (L2.CX P w) P w K mg base N qual (defScope st) f cdv A outer s H E).xe →
      DSs (cxOf (L2.CX P w) P w K mg base N qual (defScope st) f cdv A outer s H E) (nS E) (defBody st) wb) :
    FnOk P w K mg base (L2.CX P w) (k + 1) f fd ps (LSp K mg (spOf pre post xp)) := by
  refine F.okX S (fun vs H Q E ⟨ι, h, ds, hr, rs, pr, _⟩ => by rw [rs.length]; exact len ds h pr) (fun cdv A outer s H vs Q E hr hsp => ?_)
  obtain ⟨ι, h, ds, hrel, rs, pr, q1, q2⟩ := hsp
  have D := hb cdv A outer s H E hr (takes_of rfl rfl rfl rfl) (passes_of rfl)
  refine ⟨_, D.ps, ι, h, slots0 N ds, hrel, start_rel rs, D.mono (endsOf (post ds h) (xp ds h)) _ _ _ ⟨fun s' h' z σ' H' ι' g hr' _ => ?_, fun d h' z => ?_, fun _ _ z => False.elim z, fun _ _ z => False.elim z, fun s' y h' z c d σ' H' ι' g hr' _ xr => ?_⟩ (hw ds h pr)⟩
  · exact q1 _ _ z .non H' ι' g hr' rfl
  · exact q1 _ _ z
  · exact q2 y h' z c d H' ι' g hr' xr
theorem hu64 {k : Nat} {A : Around} (hr : Room k A) : A.units + 64 < cLine := hr.units
theorem hu1 {k : Nat} {A : Around} (hr : Room k A) : A.units + 1 < cLine := hu_of hr

/-! ### code that is never come to -/
def wNever : WS := fun _ _ _ => False
theorem ds_never : DS X W st wNever := ⟨PS.imp ps_never fun B σ H ⟨ι, h, s, hr, sr, q⟩ => q, fun _ _ _ _ _ q => q⟩
theorem dss_never {sts : List Stmt} : DSs X W sts wNever := ⟨PSs.imp pss_never fun B σ H ⟨ι, h, s, hr, sr, q⟩ => q, fun _ _ _ _ _ q => q⟩

/-! ### zip and enumerate of texts -/
/-- pairs of values that are known by the turn, each in a new tuple -/
def Itp (n : Nat) (f g : Nat → V) : It := ⟨fun i _ => i < n, fun i H v H' => ∃ T, v = .ref T ∧ H T = none ∧ H' = upd H T (.tup [f i, g i]), fun i _ => i = n⟩
theorem turn_pairs {P : Program} {w : World} {K : PySem.W.Frag} {elts : List Expr} {kk : Nat} {tpos : Pos} {it : Addr} {fp wr : List Addr} {n : Nat} {f g : Nat → V} {tn : Nat → Heap → Prop} (mem : it ∈ fp) (sub : ∀ b ∈ wr, b ∈ fp)
    (obj : ∀ i h, tn i h → ∀ b ∈ fp, ∃ o, h.get? b = some o ∧ ∀ v, o.data ≠ .cell v)
    (G : ∀ A : Around, A.handled = none → GoesN P w A (.Tuple elts kk tpos) it fp wr n (fun i h₀ v h => ∃ T x y, v = .ref T ∧ h₀.objs.size ≤ T ∧ RelV (f i) x ∧ RelV (g i) y ∧ h.IsTuple T #[x, y]) tn)
    (self : ∀ (A : Around) (i : Nat) (s : Shared) (Q : Value → Shared → Prop) (E : Value → Shared → Prop), tn i s.heap → Q (.ref it) s → wpAny (model P w) A (pyIter (.ref it)) Q E s) (frame : ∀ i h h', tn i h → (∀ b ∈ fp, ∀ o, h.get? b = some o → h'.get? b = some o) → tn i h') :
    Turn P w K (.Tuple elts kk tpos) (Itp n f g) fp it tn where
  mem := mem
  obj := obj
  keep := frame
  item := by
    intro X hP hw hK hc i pins s σ H E I hf st hg
    subst hP hw hK
    refine (G X.A (I.ok.hd hc)).goes i s (fun v s2 => ∃ x H', Inv X pins σ H' s2 ∧ RelV x v ∧ (Itp n f g).yld i H x H' ∧ tn (i + 1) s2.heap ∧ ∀ b ∈ fp, H' b = none) E hg st fun v h' tk hy st' hk _ => ?_
    obtain ⟨T, x, y, rfl, hT, rx, ry, ⟨o, ho, hcls, m, hdt⟩⟩ := hy
    have hn : H T = none := I.hok.fresh hT
    have new : ObjOk X.prog X.w (upd H T (.tup [f i, g i])) h' T (.tup [f i, g i]) := ⟨by show 2 ≤ sizeLine; decide, [x, y], .cons rx (.cons ry .nil), ⟨o, ho, hcls, m, hdt⟩⟩
    refine ⟨.ref T, _, I.turnedNew (t' := tk) (ch := wr) (fun b o hb e => hk b o hb e) (fun b hb => hf b (sub b hb)) hT new, rfl, ⟨T, rfl, hn, rfl⟩, st', fun b hb => ?_⟩
    rw [upd_ne]
    · exact (hf b hb).1
    · intro z
      obtain ⟨ob, e, _⟩ := obj i _ st b hb
      rw [z] at e
      exact Nat.lt_irrefl _ (Nat.lt_of_lt_of_le (Heap.lt_size e) hT)
  done := by
    intro X hP hw hK hc i pins s σ H E I hf st hg
    subst hP hw hK
    have hg : i = n := hg
    subst hg
    refine (G X.A (I.ok.hd hc)).stops s (fun s1 => Inv X pins σ H s1) E st fun h' tk hk _ => ?_
    refine I.step (g' := s.gens) (d' := s.drawn) (ch := wr) (fun b hb => ⟨(hf b (sub b hb)).2.2.2.1, (hf b (sub b hb)).2.1, (hf b (sub b hb)).2.2.2.2.1, (hf b (sub b hb)).2.2.2.2.2⟩) (fun b o _ _ hc e _ => hk b o hc e) (fun b o _ _ hc e _ => ⟨o.slots, hk b o hc e⟩) (fun _ _ _ _ n => n) (fun b o hc e => ⟨o, hk b o hc e⟩) (fun _ _ e => e) (fun _ _ _ e => e) (fun b ps e => ⟨#[], by rw [e]; simp⟩) (fun m hm => ?_) (fun b u e => ?_) I.bare
    · obtain ⟨ob, es, ep, ho, r⟩ := hm
      exact ⟨ob, es, ep, hk _ ob (fun z => (hf _ (sub _ z)).2.1 rfl) ho, r⟩
    · have nit : ∀ b u, H b = some u → b ∉ wr := fun b u e z => by
        have q := (hf b (sub b z)).1
        rw [q] at e
        cases e
      refine (I.hok b u e).stay (fun c v hc q => hk c v ?_ q) (fun _ q => q) fun _ _ q => q
      rcases hc with z | z
      · rw [z]; exact nit b u e
      · exact nit c _ z
  self := self
def chV (x : Str) (i : Nat) : V := match x.cps[i]? with | some c => .str ⟨#[c]⟩ | none => .non
theorem chV_rel {x : Str} {i : Nat} {v : Value} (h : ∃ c u, x.cps[i]? = some c ∧ v = .str ⟨#[c]⟩ u) : RelV (chV x i) v := by
  obtain ⟨c, u, e, rfl⟩ := h
  unfold chV
  rw [e]
  exact ⟨u, rfl⟩
theorem strIter_ok {h : Heap} {it : Addr} {T : String} {x : Str} {t : Tok} {i : Nat} (st : h.IsStrIter it T x t i) : ∃ o, h.get? it = some o ∧ ∀ v, o.data ≠ .cell v := by
  obtain ⟨o, e, _, d⟩ := st
  exact ⟨o, e, fun v z => by rw [d] at z; cases z⟩
theorem conf_pairs {H : Hp} {ι : List Addr} {n : Nat} {f g : Nat → V} {F G : Nat → D} (hf : ∀ i, i < n → ∀ H ι, RelD X.K H ι (F i) (f i)) (hg : ∀ i, i < n → ∀ H ι, RelD X.K H ι (G i) (g i)) : Conf X (Itp n f g) ((List.range n).map fun i => .tup [F i, G i], fun _ => True) H ι := by
  have hl : ((List.range n).map fun i => D.tup [F i, G i]).length = n := by rw [List.length_map, List.length_range]
  refine ⟨fun i H' ι' h g' hr e hi => ?_, fun i H' ι' h g' hr e hi => ?_, fun i H' ι' h d y H2 g' hr e hd yy => ?_⟩
  · exact (by rw [hl] at hi; exact hi : i < n)
  · exact (by rw [hl] at hi; exact hi : i = n)
  · obtain ⟨T, rfl, hT, rfl⟩ := yy
    have hi : i < n := by have := (List.getElem?_eq_some_iff.mp hd).1; rwa [hl] at this
    rw [List.getElem?_map, List.getElem?_range hi] at hd
    cases hd
    exact pair_new hr hT (hf i hi _ _) (hg i hi _ _)
def chD (x : Str) (i : Nat) : D := match x.cps[i]? with | some c => .str ⟨#[c]⟩ | none => .non
theorem chD_rel {K : PySem.W.Frag} {x : Str} {i : Nat} (H : Hp) (ι : List Addr) : RelD K H ι (chD x i) (chV x i) := by
  unfold chD chV
  split <;> rfl
def zipS (x y : Str) : List D := (List.range (min x.cps.size y.cps.size)).map fun i => .tup [chD x i, chD y i]
def wiZipS (w : WA) : WI := fun s h Q E => w s h (fun es h1 => ∃ x y, es = [.str x, .str y] ∧ Q (zipS x y, fun _ => True) h1) E
theorem zip_loop (prog : Program) (w : World) (elts : List Expr) (kk : Nat) (tpos : Pos) (N : Nat) (x y : Str) (t u : Tok) (A : Around) (hA : A.handled = none) :
    GoesN prog w A (.Tuple elts kk tpos) (N + 4) ((N + 4) :: (N + 2) :: (N + 3) :: ([N] ++ [N + 1])) [N + 4, N + 3, N, N + 1] (min x.cps.size y.cps.size) (fun i h₀ v h => ∃ T a b, v = .ref T ∧ h₀.objs.size ≤ T ∧ RelV (chV x i) a ∧ RelV (chV y i) b ∧ h.IsTuple T #[a, b])
      (fun i h => IsZip h (N + 4) (N + 2) (N + 3) .none ∧ IsTupOf2 h (N + 2) (.ref N) (.ref (N + 1)) ∧ (∃ a1 a2, IsTupOf2 h (N + 3) a1 a2) ∧ h.IsStrIter N (strIterType x) x t i ∧ h.IsStrIter (N + 1) (strIterType y) y u i) :=
  (GoesN.zip2 (zip_sep2 (N := N) (fp1 := []) (fp2 := []) (fun _ z => nomatch z) (fun _ z => nomatch z)) (Draws.text (A := A.in1) hA N x t) (Draws.text (A := A.in1) hA (N + 1) y u)).mono
    fun i h₀ v h _ ⟨T, a, b, e, hn, p1, p2, hT⟩ => ⟨T, a, b, e, hn, chV_rel p1, chV_rel p2, hT⟩
theorem di_zipS {w : WA} {p pos tpos : Pos} {elts : List Expr} {kk : Nat} (hm : X.mg "zip" = none) (hcalm : X.calm = true) (ha : DA X W [a, b] w) (hg : Gl X "zip" := by rfl) (hs : starEach [a, b] X.env = (false, eval a X.env) :: starEach [b] X.env := by rfl)
    (hs2 : (backTo pos (starEach [b] X.env)).any (·.1) = false := by rfl) : DI X W (.Tuple elts kk tpos) (.Call (.Name "zip" p) [a, b] [] pos) (wiZipS w) := by
  refine ⟨⟨fun pins s σ H R I q => ?_⟩, fun s h Q Q' E E' hq he q => ha.mono s h _ _ _ _ (fun d h1 ⟨x, y, e, q⟩ => ⟨x, y, e, hq _ _ q⟩) he q⟩
  obtain ⟨ι, h, sl, hr, sr, q⟩ := q
  have q' : LA X W w σ H (fun vs H1 => ∃ x y, vs = [V.str x, V.str y] ∧ ∃ ι1 h1, HRel X.K H1 ι1 X.mg h1 ∧ R (Itp (min x.cps.size y.cps.size) (chV x) (chV y)) H1) := by
    refine ⟨ι, h, sl, hr, sr, ha.mono sl h _ _ _ _ (fun es h1 ⟨x, y, e, q⟩ us H1 ι1 g hr1 rs => ?_) (fun _ _ e => e) q⟩
    subst e
    obtain ⟨v, u, rfl, rv, v', u2, rfl, rv', rn⟩ := rs
    rw [show u2 = [] from rn]
    cases rv; cases rv'
    exact ⟨x, y, rfl, ι1, h1, hr1, q _ H1 ι1 g hr1 (conf_pairs (fun i _ H ι => chD_rel H ι) (fun i _ H ι => chD_rel H ι))⟩
  refine Call_ (ld_blt I hg hm boot_zip (callWith_type1 (thn (ha.pa.run pos pins s σ H _ I q') fun us s1 ⟨vs, H1, I1, r1, q1⟩ => ?_) hs hs2))
  obtain ⟨x, y, rfl, ι1, h1, hr1, qR⟩ := q1
  cases r1 with
  | cons r rr =>
    cases rr with
    | cons r' rr =>
      cases rr
      obtain ⟨t, rfl⟩ := r
      obtain ⟨t', rfl⟩ := r'
      refine zip_begins2 (begins_text x t) (begins_text y t') trivial trivial fun h' hz hTI hTO g1 g2 hsz hk => wpAny_pyIter_zip hz ?_
      have I2 : Inv X pins σ H1 { s1 with heap := h' } := I1.kept (t' := s1.toks) hk
      have st1 : h'.IsStrIter s1.heap.objs.size (strIterType x) x t 0 := ⟨_, g1, rfl, rfl⟩
      have st2 : h'.IsStrIter (s1.heap.objs.size + 1) (strIterType y) y t' 0 := ⟨_, g2, rfl, rfl⟩
      refine ⟨s1.heap.objs.size + 4, _, _, _, H1, rfl, I2, turn_pairs (it := s1.heap.objs.size + 4) (by simp) (fun b hb => ?_) (fun i h st b hb => ?_) (fun A hA => zip_loop X.prog X.w elts kk tpos s1.heap.objs.size x y t t' A hA) (fun A i s Q E st q => wpAny_pyIter_zip st.1 q) (fun i h h' st k => (zip_loop X.prog X.w elts kk tpos s1.heap.objs.size x y t t' X.A (I.ok.hd hcalm)).frame i h h' st k), ⟨hz, hTI, ⟨_, _, hTO⟩, st1, st2⟩, fun b hb => ?_, qR⟩
      · simp only [List.mem_cons, List.mem_append, List.not_mem_nil, or_false] at hb ⊢
        rcases hb with z | z | z | z
        · exact .inl z
        · exact .inr (.inr (.inl z))
        · exact .inr (.inr (.inr (.inl z)))
        · exact .inr (.inr (.inr (.inr z)))
      · obtain ⟨z1, z2, ⟨a1, a2, z3⟩, z4, z5⟩ := st
        simp only [List.mem_cons, List.mem_append, List.not_mem_nil, or_false] at hb
        rcases hb with z | z | z | z | z
        · rw [z]; exact ⟨_, z1, fun v q => nomatch q⟩
        · rw [z]; exact ⟨_, z2, fun v q => nomatch q⟩
        · rw [z]; exact ⟨_, z3, fun v q => nomatch q⟩
        · rw [z]; exact strIter_ok z4
        · rw [z]; exact strIter_ok z5
      · have hle : s1.heap.objs.size ≤ b := by
          simp only [List.mem_cons, List.mem_append, List.not_mem_nil, or_false] at hb
          rcases hb with z | z | z | z | z
          · rw [z]; exact Nat.le_add_right _ _
          · rw [z]; exact Nat.le_add_right _ _
          · rw [z]; exact Nat.le_add_right _ _
          · rw [z]; exact Nat.le_refl _
          · rw [z]; exact Nat.le_add_right _ _
        exact I1.fpOk hle (I1.hok.fresh hle)
end
end EV

namespace EV
open PySem PySem.Spec PyProof.Rows L2

section
variable {X : Cx} {W : WX} {pos : Pos} {a b c e : Expr} {wa wb wc we : WE} {st : Stmt} {rest : List Stmt} {w v : WS}
theorem ok_le : OpOk X (compareOp .LtE) gLe := (ok_int0 (g' := fun i j => .bl (decide (i ≤ j))) op_le fun _ _ _ _ => rfl).or (ok_s2 op_le_str)

/-! ### a dict that the module's top has written, with text keys: what it has at some keys -/
def toVal : D → Option Value
  | .non => some .none
  | .bl b => some (.bool b)
  | _ => none
structure WD (K : PySem.W.Frag) (mg : Str → Option Value) (w : World) (x : Str) (tbl : List (Str × Option D)) : Prop where
  ex : ∃ d es n, mg x = some (.ref d) ∧ KDict K w d es n ∧ ∀ z o, tbl.lookup z = some o → ∃ r : Option Value, PySem.W.nsIn K d z = some r ∧ match o with
    | none => r = none
    | some dd => ∃ u v0, r = some u ∧ RelV v0 u ∧ ∀ H ι, RelD K H ι dd v0
def kWIn (tbl : List (Str × Option D)) (neg : Bool) : K1 := fun _ d h Q _ => ∃ z o, d = .str z ∧ tbl.lookup z = some o ∧ Q (.bl (o.isSome ^^ neg)) h
def kWGet (tbl : List (Str × Option D)) : K1 := fun _ d h Q _ => ∃ z o, d = .str z ∧ tbl.lookup z = some (some o) ∧ Q o h
theorem mono_wIn {tbl : List (Str × Option D)} {neg : Bool} : Mono1 (kWIn tbl neg) := fun s d h Q Q' E E' hq _ ⟨z, o, e, l, q⟩ => ⟨z, o, e, l, hq _ _ q⟩
theorem mono_wGet {tbl : List (Str × Option D)} : Mono1 (kWGet tbl) := fun s d h Q Q' E E' hq _ ⟨z, o, e, l, q⟩ => ⟨z, o, e, l, hq _ _ q⟩
theorem le_win {tbl : List (Str × Option D)} {neg : Bool} {x : Str} {d : Addr} {p : Pos} (hm : X.mg x = some (.ref d)) (fct : ∀ z o, tbl.lookup z = some o → ∃ r : Option Value, PySem.W.nsIn X.K d z = some r ∧ match o with
    | none => r = none
    | some dd => ∃ u v0, r = some u ∧ RelV v0 u ∧ ∀ H ι, RelD X.K H ι dd v0) (ma : Mono wa) {σ : St} {H : Hp} {Q : VK} (q : LE X W (wUn (kWIn tbl neg) wa) σ H Q) :
    LE X W wa σ H fun y H1 => tC (.ref d) σ H1 fun x' H2 => ∃ (z : Str) (r : Option Value), y = .str z ∧ x' = .ref d ∧ PySem.W.nsIn X.K d z = some r ∧ Q (.bl (r.isSome ^^ neg)) H2 := by
  obtain ⟨ι, h, s, hr, sr, q⟩ := q
  refine ⟨ι, h, s, hr, sr, ma s h _ _ _ _ (fun dd h1 ⟨z, o, e, l, q⟩ v H1 ι1 g1 hr1 rd => ?_) (fun _ _ e => e) q⟩
  subst e
  cases rd
  obtain ⟨r, er, mo⟩ := fct z o l
  refine ⟨z, r, rfl, rfl, er, ?_⟩
  have e2 : r.isSome = o.isSome := by
    cases o with
    | none => rw [show r = none from mo]; rfl
    | some dd => obtain ⟨u, v0, rfl, _⟩ := mo; rfl
  rw [e2]
  exact q _ H1 ι1 g1 hr1 rfl
theorem de_win {x : Str} {tbl : List (Str × Option D)} {p : Pos} (wd : WD X.K X.mg X.w x tbl) (ha : DE X W a wa) (hg : Gl X x := by rfl) (hd : (x == ("__debug__" : Str)) = false := by decide) (hm : behindInMarks .In (.Name x p) = false := by first | rfl | with_unfolding_all rfl) : DE X W (.Compare a [.In] [.Name x p] pos) (wUn (kWIn tbl false) wa) := by
  obtain ⟨d, es, n, mgx, kd, fct⟩ := wd.ex
  refine ⟨PE.imp (pe_cmpR (op_in_kd kd) ha.pe (pe_glob (v := .ref d) hg mgx rfl hd) hm) fun σ H Q q => ?_, mono_un ha.mono mono_wIn⟩
  have := le_win (p := p) mgx fct ha.mono q
  simp only [Bool.xor_false] at this
  exact this
theorem dt_win {x : Str} {tbl : List (Str × Option D)} {p : Pos} (wd : WD X.K X.mg X.w x tbl) (ha : DE X W a wa) (hg : Gl X x := by rfl) (hd : (x == ("__debug__" : Str)) = false := by decide) (hm : behindInMarks .In (.Name x p) = false := by first | rfl | with_unfolding_all rfl) : DT X W (.Compare a [.In] [.Name x p] pos) (wB (wUn (kWIn tbl false) wa)) := by
  obtain ⟨d, es, n, mgx, kd, fct⟩ := wd.ex
  refine ⟨PT.imp (pt_cmpR (op_in_kd kd) ha.pe (pe_glob (v := .ref d) hg mgx rfl hd) hm) fun σ H Q q => ?_, mono_b (mono_un ha.mono mono_wIn)⟩
  have := le_win (p := p) mgx fct ha.mono (LT.bool (mono_un ha.mono mono_wIn) q)
  simp only [Bool.xor_false] at this
  exact this
theorem dt_wnotin {x : Str} {tbl : List (Str × Option D)} {p : Pos} (wd : WD X.K X.mg X.w x tbl) (ha : DE X W a wa) (hg : Gl X x := by rfl) (hd : (x == ("__debug__" : Str)) = false := by decide) (hm : behindInMarks .NotIn (.Name x p) = false := by first | rfl | with_unfolding_all rfl) : DT X W (.Compare a [.NotIn] [.Name x p] pos) (wB (wUn (kWIn tbl true) wa)) := by
  obtain ⟨d, es, n, mgx, kd, fct⟩ := wd.ex
  refine ⟨PT.imp (pt_cmpR (op_notIn_kd kd) ha.pe (pe_glob (v := .ref d) hg mgx rfl hd) hm) fun σ H Q q => ?_, mono_b (mono_un ha.mono mono_wIn)⟩
  have := le_win (p := p) mgx fct ha.mono (LT.bool (mono_un ha.mono mono_wIn) q)
  simp only [Bool.xor_true] at this
  exact this
theorem ix_kd {d : Addr} {es : Array DictEntry} {n : Nat} (D : KDict X.K X.w d es n) : IxR X (fun x y H Q => ∃ (z : Str) (u0 : Value) (v0 : V), x = .ref d ∧ y = .str z ∧ PySem.W.nsIn X.K d z = some (some u0) ∧ RelV v0 u0 ∧ Q v0 H) := by
  intro value slice pins s σ H x y v u Q I rx ry h hs
  obtain ⟨z, u0, v0, rfl, rfl, e0, r0, q⟩ := h
  cases rx
  obtain ⟨t, rfl⟩ := ry
  refine subscriptTail_builtinR (x := u0) (kd_type D I) PySem.F.slot_dict_getitem.lookup ?_ hs
  refine wpAny_getItem_of (PySem.strKind_is X.prog X.w z t) (PySem.W.mapOf_K (prog := X.prog) I.kIn D.at_ D.lit) (PySem.W.find_K D.at_ e0) ?_
  exact ⟨rfl, ⟨v0, H, I.tok _, r0, q⟩⟩
theorem de_wget {x : Str} {tbl : List (Str × Option D)} {p : Pos} (wd : WD X.K X.mg X.w x tbl) (hb : DE X W b wb) (hg : Gl X x := by rfl) (hd : (x == ("__debug__" : Str)) = false := by decide) (hs : PlainIx b := by intro _ _; rfl) : DE X W (.Subscript (.Name x p) b pos) (wUn (kWGet tbl) wb) := by
  obtain ⟨d, es, n, mgx, kd, fct⟩ := wd.ex
  refine ⟨PE.imp (pe_ix (ix_kd kd) (pe_glob (v := .ref d) hg mgx rfl hd) hb.pe hs) fun σ H Q q => ?_, mono_un hb.mono mono_wGet⟩
  obtain ⟨ι, h, s, hr, sr, q⟩ := q
  refine ⟨ι, h, s, hr, sr, hb.mono s h _ _ _ _ (fun dd h1 ⟨z, o, e, l, q⟩ v H1 ι1 g1 hr1 rd => ?_) (fun _ _ e => e) q⟩
  subst e
  cases rd
  obtain ⟨r, er, u, v0, rfl, rv, rel⟩ := fct z (some o) l
  exact ⟨z, u, v0, rfl, rfl, er, rv, q v0 H1 ι1 g1 hr1 (rel H1 ι1)⟩

/-! ### {k: v, ..} -/
abbrev WP := Sl → Hh → (List (D × D) → Hh → Prop) → PX → Prop
def wPnil : WP := fun _ h Q _ => Q [] h
def wPcons (wk wv : WE) (wr : WP) : WP := fun s h Q E => wk s h (fun k h1 => wv s h1 (fun d h2 => wr s h2 (fun ps h3 => Q ((k, d) :: ps) h3) E) E) E
def RelPs (K : PySem.W.Frag) (H : Hp) (ι : List Addr) : List (D × D) → List (V × V) → Prop
  | [], vs => vs = []
  | p :: ps, vs => ∃ k v r, vs = (k, v) :: r ∧ RelD K H ι p.1 k ∧ RelD K H ι p.2 v ∧ RelPs K H ι ps r
theorem RelPs.mono {K : PySem.W.Frag} {H H' : Hp} {ι ι' : List Addr} (g : Gr K H H' ι ι') : ∀ {ps : List (D × D)} {vs : List (V × V)}, RelPs K H ι ps vs → RelPs K H' ι' ps vs
  | [], _, h => h
  | _ :: _, _, h => by
    obtain ⟨k, v, r, e, h1, h2, h3⟩ := h
    exact ⟨k, v, r, e, h1.mono g, h2.mono g, h3.mono g⟩
def QP (X : Cx) (H : Hp) (ι : List Addr) (Q : List (V × V) → Hp → Prop) : List (D × D) → Hh → Prop := fun ps h' => ∀ vs H' ι', Gr X.K H H' ι ι' → HRel X.K H' ι' X.mg h' → RelPs X.K H' ι' ps vs → Q vs H'
structure DP (X : Cx) (W : WX) (pos : Pos) (keys : List (Option Expr)) (values : List Expr) (w : WP) : Prop where
  ex : ∃ trs, PPs X pos keys values trs ∧ ∀ σ H Q, (∃ ι h s, HRel X.K H ι X.mg h ∧ SRel X.K H ι σ s ∧ w s h (QP X H ι Q) (QX X W H ι σ)) → tPairs trs σ H Q
  mono : Mono w
theorem dp_nil : DP X W pos [] [] wPnil := ⟨⟨[], pps_nil, fun σ H Q ⟨ι, h, s, hr, sr, q⟩ => q [] H ι .refl hr rfl⟩, fun s h Q Q' E E' hq _ q => hq _ _ q⟩
theorem dp_cons {k v : Expr} {ks : List (Option Expr)} {vs : List Expr} {wk wv : WE} {wr : WP} (hk : DE X W k wk) (hv : DE X W v wv) (hr : DP X W pos ks vs wr) : DP X W pos (some k :: ks) (v :: vs) (wPcons wk wv wr) := by
  obtain ⟨trs, pp, red⟩ := hr.ex
  refine ⟨⟨_, pps_cons hk.pe hv.pe pp, fun σ H Q ⟨ι, h, s, hr0, sr, q⟩ => ?_⟩, fun s h Q Q' E E' hq he q => hk.mono s h _ _ _ _ (fun k h1 q => hv.mono s h1 _ _ _ _ (fun d h2 q => hr.mono s h2 _ _ _ _ (fun ps h3 q => hq _ _ q) he q) he q) he q⟩
  refine ⟨ι, h, s, hr0, sr, hk.mono s h _ _ _ _ (fun k h1 q x H1 ι1 g1 hr1 rk => ?_) (fun _ _ e => e) q⟩
  refine ⟨ι1, h1, s, hr1, sr.mono g1, hv.mono s h1 _ _ _ _ (fun d h2 q y H2 ι2 g2 hr2 rd => ?_) (fun x h' q' => QX.on q' g1) q⟩
  refine red σ H2 _ ⟨ι2, h2, s, hr2, sr.mono (g1.trans g2), hr.mono s h2 _ _ _ _ (fun ps h3 q us H3 ι3 g3 hr3 rs => ?_) (fun x h' q' => QX.on q' (g1.trans g2)) q⟩
  exact q _ H3 ι3 ((g1.trans g2).trans g3) hr3 ⟨x, y, us, rfl, rk.mono (g2.trans g3), rd.mono g3, rs⟩
def keysOf : List (D × D) → Option (List (Key × D))
  | [] => some []
  | (k, d) :: ps => match keyOf k, keysOf ps with | some kk, some r => some ((kk, d) :: r) | _, _ => none
def mergeD (kvs more : List (Key × D)) : List (Key × D) := more.foldl (fun acc kv => putKD acc kv.1 kv.2) kvs
def wDisp (w : WP) : WE := fun s h Q E => w s (h ++ [.dic []]) (fun ps h1 => ∃ kvs, h1[h.length]? = some (.dic []) ∧ keysOf ps = some kvs ∧ kvs.length ≤ 15 ∧ Q (.ref h.length) (h1.set h.length (.dic (mergeD [] kvs)))) E
theorem keys_rel {K : PySem.W.Frag} {H : Hp} {ι : List Addr} : ∀ {ps : List (D × D)} {vs : List (V × V)} {kvs : List (Key × D)}, RelPs K H ι ps vs → keysOf ps = some kvs → ∃ us : List (Key × V), vs = us.map (fun kv => (kV kv.1, kv.2)) ∧ RelKs K H ι kvs us
  | [], _, _, r, e => by
    rw [show _ = _ from r]
    cases e
    exact ⟨[], rfl, rfl⟩
  | (k, d) :: ps, _, kvs, r, e => by
    obtain ⟨x, y, r', rfl, h1, h2, h3⟩ := r
    simp only [keysOf] at e
    cases z1 : keyOf k with
    | none => rw [z1] at e; cases e
    | some kk =>
      cases z2 : keysOf ps with
      | none => rw [z1, z2] at e; cases e
      | some rr =>
        rw [z1, z2] at e
        cases e
        obtain ⟨us, e1, r1⟩ := keys_rel h3 z2
        refine ⟨(kk, y) :: us, ?_, y, us, rfl, h2, r1⟩
        rw [List.map_cons, ← e1, key_rel h1 z1]
theorem merge_rel {K : PySem.W.Frag} {H : Hp} {ι : List Addr} : ∀ {more : List (Key × D)} {ms : List (Key × V)} {kvs : List (Key × D)} {vs : List (Key × V)}, RelKs K H ι more ms → RelKs K H ι kvs vs → RelKs K H ι (mergeD kvs more) (mergeK vs ms)
  | [], _, _, _, r, q => by rw [show _ = _ from r]; exact q
  | (k, d) :: more, _, kvs, vs, r, q => by
    obtain ⟨v, u, rfl, r1, r2⟩ := r
    exact merge_rel (more := more) (ms := u) (kvs := putKD kvs k d) (vs := putK vs k v) r2 (put_rel r1 q)
theorem de_disp {keys : List (Option Expr)} {values : List Expr} {w : WP} (hp : DP X W pos keys values w) (h1 : (keys.all fun x => x.isSome) = true := by rfl) (h2 : keys.length = values.length := by rfl) (h3 : keys ≠ [] := by intro z; cases z) (h4 : keys.length ≤ 15 := by decide) : DE X W (.Dict keys values pos) (wDisp w) := by
  obtain ⟨trs, pp, red⟩ := hp.ex
  refine ⟨PE.imp (pe_disp pp h1 h2 h3 h4) fun σ H Q ⟨ι, h, s, hr, sr, q⟩ => ?_, fun s h Q Q' E E' hq he q => hp.mono s _ _ _ _ _ (fun ps h1 ⟨kvs, a, b, c, q⟩ => ⟨kvs, a, b, c, hq _ _ q⟩) he q⟩
  intro p hpn
  have g0 : Gr X.K H (upd H p (.dK [])) ι (ι ++ [p]) := Gr.fresh hpn _ (List.prefix_append _ _)
  have hr0 : HRel X.K (upd H p (.dK [])) (ι ++ [p]) X.mg (h ++ [.dic []]) := hr.push hpn ⟨[], upd_same, rfl⟩
  have ix : (ι ++ [p])[h.length]? = some p := by rw [← hr.len, List.getElem?_append_right (Nat.le_refl _), Nat.sub_self]; rfl
  refine red σ _ _ ⟨ι ++ [p], _, s, hr0, sr.mono g0, hp.mono s _ _ _ _ _ (fun ps h1 ⟨kvs, z, e, l, q⟩ vs H1 ι1 g1 hr1 rs => ?_) (fun x h' q' => QX.on q' g0) q⟩
  have ix1 := pre_get g1.pre ix
  obtain ⟨us, q1, r1⟩ := hr1.obj _ _ _ z ix1
  have : us = [] := r1
  subst this
  obtain ⟨ms, e1, r2⟩ := keys_rel rs e
  obtain ⟨w0, ew, w1, w2⟩ := (hr1.obj _ _ _ z ix1).there
  have g : Gr X.K H1 (upd H1 p (.dK (mergeK [] ms))) ι1 ι1 := Gr.write ew w1 w2
  obtain ⟨_, hr2⟩ := hr1.write (u := .dK (mergeK [] ms)) (o' := .dic (mergeD [] kvs)) z ix1 ⟨_, upd_same, (merge_rel r2 (kvs := []) (vs := []) rfl).mono g⟩
  exact ⟨q1, ms, e1, by rw [r2.length]; exact l, q _ _ ι1 ((g0.trans g1).trans g) hr2 ⟨p, ix1, rfl⟩⟩
end
end EV

namespace EV
open PySem PySem.Spec PyProof.Rows L2
/-! ### running the combinators by simp -/
theorem str_inj (a b : String) : (Str.ofString a = Str.ofString b) ↔ a = b := by
  refine ⟨fun h => ?_, fun h => by rw [h]⟩
  rw [Str.ofString_eq_toList, Str.ofString_eq_toList] at h
  injection h with h
  have h2 := congrArg Array.toList h
  simp only [] at h2
  have h3 : a.toList = b.toList := by
    refine List.map_inj_right (f := Char.toNat) (fun x y e => ?_) |>.mp h2
    exact Char.toNat_inj.mp e
  exact String.toList_inj.mp h3
@[simp] theorem str_eq (a b : String) : (Str.ofString a = Str.ofString b) = (a = b) := propext (str_inj a b)
@[simp] theorem str_beq (a b : String) : (Str.ofString a == Str.ofString b) = (a == b) := by
  rw [Bool.eq_iff_iff]; simp
def Get (o : Option (D × Hh)) (Q : PV) : Prop := ∃ r h', o = some (r, h') ∧ Q r h'
@[simp] theorem Get_some (a : D) (h : Hh) (Q : PV) : Get (some (a, h)) Q = Q a h := propext ⟨fun ⟨_, _, e, q⟩ => by cases e; exact q, fun q => ⟨_, _, rfl, q⟩⟩
@[simp] theorem Get_none (Q : PV) : Get none Q = False := propext ⟨(fun ⟨_, _, e, q⟩ => (by cases e)), (fun q => q.elim)⟩
def GetV (o : Option (Option D)) (k : D → Prop) : Prop := ∃ d, o = some (some d) ∧ k d
@[simp] theorem GetV_some (a : D) (k : D → Prop) : GetV (some (some a)) k = k a := propext ⟨fun ⟨_, e, q⟩ => by cases e; exact q, fun q => ⟨_, rfl, q⟩⟩
def GetS (o : Option Sl) (k : Sl → Prop) : Prop := ∃ s, o = some s ∧ k s
@[simp] theorem GetS_some (a : Sl) (k : Sl → Prop) : GetS (some a) k = k a := propext ⟨fun ⟨_, e, q⟩ => by cases e; exact q, fun q => ⟨_, rfl, q⟩⟩
def GetK (o : Option Bool) (k : Bool → Prop) : Prop := ∃ b, o = some b ∧ k b
@[simp] theorem GetK_some (a : Bool) (k : Bool → Prop) : GetK (some a) k = k a := propext ⟨fun ⟨_, e, q⟩ => by cases e; exact q, fun q => ⟨_, rfl, q⟩⟩
def IsB (d : D) (k : Bool → Prop) : Prop := ∃ b, d = .bl b ∧ k b
@[simp] theorem IsB_bl (b : Bool) (k : Bool → Prop) : IsB (.bl b) k = k b := propext ⟨fun ⟨_, e, q⟩ => by cases e; exact q, fun q => ⟨_, rfl, q⟩⟩
def IsI (d : D) (k : Int → Prop) : Prop := ∃ i, d = .int i ∧ k i
@[simp] theorem IsI_int (i : Int) (k : Int → Prop) : IsI (.int i) k = k i := propext ⟨fun ⟨_, e, q⟩ => by cases e; exact q, fun q => ⟨_, rfl, q⟩⟩
def IsIns (C : Str) (o : Option O) (k : List (Str × D) → Prop) : Prop := ∃ fs, o = some (.ins C fs) ∧ k fs
@[simp] theorem IsIns_ins (C : Str) (fs : List (Str × D)) (k : List (Str × D) → Prop) : IsIns C (some (.ins C fs)) k = k fs := propext ⟨fun ⟨_, e, q⟩ => by cases e; exact q, fun q => ⟨_, rfl, q⟩⟩
def IsLst (o : Option O) (k : List D → Prop) : Prop := ∃ ds, o = some (.lst ds) ∧ k ds
@[simp] theorem IsLst_lst (ds : List D) (k : List D → Prop) : IsLst (some (.lst ds)) k = k ds := propext ⟨fun ⟨_, e, q⟩ => by cases e; exact q, fun q => ⟨_, rfl, q⟩⟩
def GetD (o : Option D) (k : D → Prop) : Prop := ∃ d, o = some d ∧ k d
@[simp] theorem GetD_some (a : D) (k : D → Prop) : GetD (some a) k = k a := propext ⟨fun ⟨_, e, q⟩ => by cases e; exact q, fun q => ⟨_, rfl, q⟩⟩
def IsRef (d : D) (k : Nat → Prop) : Prop := ∃ n, d = .ref n ∧ k n
@[simp] theorem IsRef_ref (n : Nat) (k : Nat → Prop) : IsRef (.ref n) k = k n := propext ⟨fun ⟨_, e, q⟩ => by cases e; exact q, fun q => ⟨_, rfl, q⟩⟩
section
variable {w v : WS} {B : DEnds} {s : Sl} {h : Hh} {Q : PV} {E : PX} {wa wb wc we wo wi wv : WE} {wt wu : WT} {i : Nat} {d : D} {g g' : G2} {QB : Bool → Hh → Prop} {wr : WA} {QA : List D → Hh → Prop}
@[simp] theorem e_seq : wSeq w v B s h = w { B with nx := v B } s h := rfl
@[simp] theorem e_next : wNext B s h = B.nx s h := rfl
@[simp] theorem e_pass : wPass B s h = B.nx s h := rfl
@[simp] theorem e_break : wBreak B s h = B.bk s h := rfl
@[simp] theorem e_cont : wCont B s h = B.ct s h := rfl
@[simp] theorem e_never : wNever B s h = False := rfl
@[simp] theorem e_expr : wExpr we B s h = we s h (fun _ h1 => B.nx s h1) (B.ex s) := rfl
@[simp] theorem e_ret : wRet we B s h = we s h B.rt (B.ex s) := rfl
@[simp] theorem e_retN : wRetN B s h = B.rt .non h := rfl
@[simp] theorem e_if : wIf wt w v B s h = wt s h (fun c h1 => if c = true then w B s h1 else v B s h1) (B.ex s) := rfl
@[simp] theorem e_asg {t : Tg} : wAsg t we B s h = we s h (fun d h1 => GetS (asgD t d s) fun s' => B.nx s' h1) (B.ex s) := rfl
@[simp] theorem e_par {is : List Nat} : wPar is wr B s h = wr s h (fun ds h1 => ds.length = is.length ∧ B.nx ((is.zip ds).foldl (fun s p => s.set p.1 (some p.2)) s) h1) (B.ex s) := rfl
@[simp] theorem e_var : wVar i s h Q E = GetV s[i]? fun d => Q d h := rfl
@[simp] theorem e_c : wC d s h Q E = Q d h := rfl
@[simp] theorem e_op : wOp g wa wb s h Q E = wa s h (fun d h1 => wb s h1 (fun e h2 => Get (g d e h2) Q) E) E := rfl
@[simp] theorem e_k1 {g : G1} : wUn (k1 g) wa s h Q E = wa s h (fun d h1 => Get (g d h1) Q) E := rfl
@[simp] theorem e_b : wB we s h QB E = we s h (fun d h1 => IsB d fun k => QB k h1) E := rfl
@[simp] theorem e_tru : wTru we s h QB E = we s h (fun d h1 => GetK (truD d h1) fun k => QB k h1) E := rfl
@[simp] theorem e_and : wAnd wt wu s h QB E = wt s h (fun c h1 => if c = true then wu s h1 QB E else QB false h1) E := rfl
@[simp] theorem e_or : wOr wt wu s h QB E = wt s h (fun c h1 => if c = true then QB true h1 else wu s h1 QB E) E := rfl
@[simp] theorem e_not : wNot wt s h QB E = wt s h (fun c h1 => QB (!c) h1) E := rfl
@[simp] theorem e_andV : wAndV wa wb s h Q E = wa s h (fun d h1 => IsB d fun c => if c = true then wb s h1 Q E else Q (.bl false) h1) E := rfl
@[simp] theorem e_orV : wOrV wa wb s h Q E = wa s h (fun d h1 => IsB d fun c => if c = true then Q (.bl true) h1 else wb s h1 Q E) E := rfl
@[simp] theorem e_notV : wNotV wa s h Q E = wa s h (fun d h1 => IsB d fun c => Q (.bl (!c)) h1) E := rfl
@[simp] theorem e_ifE : wIfE wt wa wb s h Q E = wt s h (fun c h1 => if c = true then wa s h1 Q E else wb s h1 Q E) E := rfl
@[simp] theorem e_chain : wChain g g' wa wb wc s h Q E = wa s h (fun x h1 => wb s h1 (fun y h2 => Get (g x y h2) fun r h3 => IsB r fun k => if k = true then wc s h3 (fun z h4 => Get (g' y z h4) Q) E else Q (.bl false) h3) E) E := rfl
@[simp] theorem e_nil : wNil s h QA E = QA [] h := rfl
@[simp] theorem e_cons : wCons we wr s h QA E = we s h (fun d h1 => wr s h1 (fun ds h2 => QA (d :: ds) h2) E) E := rfl
@[simp] theorem e_tup : wTup wr s h Q E = wr s h (fun ds h1 => ds.length ≤ sizeLine ∧ Q (.tup ds) h1) E := rfl
@[simp] theorem e_lst : wLst wr s h Q E = wr s h (fun ds h1 => ds.length ≤ sizeLine ∧ Q (.ref h1.length) (h1 ++ [.lst ds])) E := rfl
@[simp] theorem e_ca {g : GA} : wCa g wr s h Q E = wr s h (fun ds h1 => Get (g ds h1) Q) E := rfl
@[simp] theorem e_mt {T : String} {g : GM} : wMt T g wo wr s h Q E = wo s h (fun d h1 => isT T d h1 = true ∧ wr s h1 (fun ds h2 => Get (g d ds h2) Q) E) E := rfl
@[simp] theorem e_fld {C f : Str} : wUn (kFld C f) wa s h Q E = wa s h (fun d h1 => IsRef d fun n => IsIns C h1[n]? fun fs => GetD (fs.lookup f) fun v => Q v h1) E := by
  refine congrArg (fun k => wa s h k E) (funext fun d => funext fun h1 => propext ⟨?_, ?_⟩)
  · rintro ⟨n, fs, v, e, z, l, q⟩; exact ⟨n, e, fs, z, v, l, q⟩
  · rintro ⟨n, e, fs, z, v, l, q⟩; exact ⟨n, fs, v, e, z, l, q⟩
@[simp] theorem e_call {sp : SpD} : wCall sp wr s h Q E = wr s h (fun ds h1 => sp ds h1 Q E) E := rfl
@[simp] theorem e_meth {C m : Str} {sp : SpD} : wMeth C m sp wo wr s h Q E = wo s h (fun d h1 => IsRef d fun n => IsIns C h1[n]? fun fs => fs.lookup m = none ∧ wr s h1 (fun ds h2 => sp (d :: ds) h2 Q E) E) E := by
  refine congrArg (fun k => wo s h k E) (funext fun d => funext fun h1 => propext ⟨?_, ?_⟩)
  · rintro ⟨n, fs, e, z, l, q⟩; exact ⟨n, e, fs, z, l, q⟩
  · rintro ⟨n, e, fs, z, l, q⟩; exact ⟨n, fs, e, z, l, q⟩
@[simp] theorem e_make {C : Str} {sp : SpD} : wMake C sp wr s h Q E = wr s h (fun ds h1 => sp (.ref h1.length :: ds) (h1 ++ [.ins C []]) (fun r h2 => r = .non ∧ Q (.ref h1.length) h2) E) E := rfl
@[simp] theorem e_setF {C f : Str} : wSetF C f wo wv B s h = wv s h (fun d h1 => wo s h1 (fun o h2 => IsRef o fun n => IsIns C h2[n]? fun fs => fs.length < 1000 ∧ B.nx s (h2.set n (.ins C (putD f d fs)))) (B.ex s)) (B.ex s) := by
  refine congrArg (fun k => wv s h k (B.ex s)) (funext fun d => funext fun h1 => congrArg (fun k => wo s h1 k (B.ex s)) (funext fun o => funext fun h2 => propext ⟨?_, ?_⟩))
  · rintro ⟨n, fs, e, z, l, q⟩; exact ⟨n, e, fs, z, l, q⟩
  · rintro ⟨n, e, fs, z, l, q⟩; exact ⟨n, fs, e, z, l, q⟩
@[simp] theorem e_setIx : wSetIx wo wi wv B s h = wv s h (fun d h1 => wo s h1 (fun o h2 => wi s h2 (fun i h3 => IsRef o fun n => IsI i fun k => IsLst h3[n]? fun ds => ∃ j, ixN ds.length k = some j ∧ B.nx s (h3.set n (.lst (ds.set j d)))) (B.ex s)) (B.ex s)) (B.ex s) := by
  refine congrArg (fun k => wv s h k (B.ex s)) (funext fun d => funext fun h1 => congrArg (fun k => wo s h1 k (B.ex s)) (funext fun o => funext fun h2 => congrArg (fun k => wi s h2 k (B.ex s)) (funext fun i => funext fun h3 => propext ⟨?_, ?_⟩)))
  · rintro ⟨n, ds, k, j, e1, e2, z, y, q⟩; exact ⟨n, e1, k, e2, ds, z, j, y, q⟩
  · rintro ⟨n, e1, k, e2, ds, z, j, y, q⟩; exact ⟨n, ds, k, j, e1, e2, z, y, q⟩
@[simp] theorem e_sl {wl wh : WO} : wSl we wl wh s h Q E = we s h (fun d h1 => wl s h1 (fun lo h2 => wh s h2 (fun hi h3 => Get (gSl lo hi d h3) Q) E) E) E := rfl
@[simp] theorem e_part {q : Option Int → Hh → Prop} : wPart we s h q E = we s h (fun d h1 => IsI d fun i => q (some i) h1) E := rfl
@[simp] theorem e_nopart {q : Option Int → Hh → Prop} : wNoPart s h q E = q none h := rfl
@[simp] theorem e_yes : wYes s h QB E = QB true h := rfl
@[simp] theorem e_dnew : wDNew s h Q E = Q (.ref h.length) (h ++ [.dic []]) := rfl
def IsS (d : D) (k : Str → Prop) : Prop := ∃ z, d = .str z ∧ k z
@[simp] theorem IsS_str (z : Str) (k : Str → Prop) : IsS (.str z) k = k z := propext ⟨fun ⟨_, e, q⟩ => by cases e; exact q, fun q => ⟨_, rfl, q⟩⟩
def GetT (o : Option (Option D)) (k : Option D → Prop) : Prop := ∃ d, o = some d ∧ k d
@[simp] theorem GetT_some (a : Option D) (k : Option D → Prop) : GetT (some a) k = k a := propext ⟨fun ⟨_, e, q⟩ => by cases e; exact q, fun q => ⟨_, rfl, q⟩⟩
@[simp] theorem e_win {tbl : List (Str × Option D)} {neg : Bool} : wUn (kWIn tbl neg) wa s h Q E = wa s h (fun d h1 => IsS d fun z => GetT (tbl.lookup z) fun o => Q (.bl (o.isSome ^^ neg)) h1) E := by
  refine congrArg (fun k => wa s h k E) (funext fun d => funext fun h1 => propext ⟨?_, ?_⟩)
  · rintro ⟨z, o, e, l, q⟩; exact ⟨z, e, o, l, q⟩
  · rintro ⟨z, e, o, l, q⟩; exact ⟨z, o, e, l, q⟩
@[simp] theorem e_wget {tbl : List (Str × Option D)} : wUn (kWGet tbl) wa s h Q E = wa s h (fun d h1 => IsS d fun z => GetV (tbl.lookup z) fun o => Q o h1) E := by
  refine congrArg (fun k => wa s h k E) (funext fun d => funext fun h1 => propext ⟨?_, ?_⟩)
  · rintro ⟨z, o, e, l, q⟩; exact ⟨z, e, o, l, q⟩
  · rintro ⟨z, e, o, l, q⟩; exact ⟨z, o, e, l, q⟩
@[simp] theorem e_for {wi : WI} {t : Tg} : wFor wi t w B s h = wi s h (fun p h1 => wLoop p.2 t w B p.1 s h1) (B.ex s) := rfl
@[simp] theorem e_lc {wi : WI} {own : List Nat} {t : Tg} : wLc wi own t wt we s h Q E = wi s h (fun p h1 => wLcGo h1.length p.2 t wt we (wipeD s own) Q p.1 (h1 ++ [.lst []])) E := rfl
def IsTup (d : D) (k : List D → Prop) : Prop := ∃ ds, d = .tup ds ∧ k ds
@[simp] theorem IsTup_tup (ds : List D) (k : List D → Prop) : IsTup (.tup ds) k = k ds := propext ⟨fun ⟨_, e, q⟩ => by cases e; exact q, fun q => ⟨_, rfl, q⟩⟩
def GetL (o : Option (List D)) (k : List D → Prop) : Prop := ∃ d, o = some d ∧ k d
@[simp] theorem GetL_some (a : List D) (k : List D → Prop) : GetL (some a) k = k a := propext ⟨fun ⟨_, e, q⟩ => by cases e; exact q, fun q => ⟨_, rfl, q⟩⟩
variable {QI : IT → Hh → Prop}
@[simp] theorem e_iList : wiList we s h QI E = we s h (fun d h1 => IsRef d fun n => GetL (lsOf h1 n) fun ds => QI (ds, fun h => lsOf h n = some ds) h1) E := by
  refine congrArg (fun k => we s h k E) (funext fun d => funext fun h1 => propext ⟨?_, ?_⟩)
  · rintro ⟨n, ds, e, z, q⟩; exact ⟨n, e, ds, z, q⟩
  · rintro ⟨n, e, ds, z, q⟩; exact ⟨n, ds, e, z, q⟩
@[simp] theorem e_iTup : wiTup we s h QI E = we s h (fun d h1 => IsTup d fun ds => QI (ds, fun _ => True) h1) E := rfl
@[simp] theorem e_iStr : wiStr we s h QI E = we s h (fun d h1 => IsS d fun x => QI (chrs x, fun _ => True) h1) E := rfl
end
@[simp] theorem sizeLine_is : sizeLine = 16777216 := sizeLine_eq
@[simp] theorem asgD_nm {i : Nat} {d : D} {s : Sl} : asgD (.nm i) d s = some (s.set i (some d)) := by simp only [asgD]
@[simp] theorem asgD_tp {ts : List Tg} {ds : List D} {s : Sl} : asgD (.tp ts) (.tup ds) s = asgDs ts ds s := by simp only [asgD]
@[simp] theorem asgDs_nil {s : Sl} : asgDs [] [] s = some s := by simp only [asgDs]
@[simp] theorem asgDs_cons {t : Tg} {ts : List Tg} {d : D} {ds : List D} {s : Sl} : asgDs (t :: ts) (d :: ds) s = (asgD t d s).bind (asgDs ts ds) := by
  rw [asgDs]; cases asgD t d s <;> rfl
@[simp] theorem nx_of {p q r t u} : (DEnds.mk p q r t u).nx = p := rfl
@[simp] theorem rt_of {p q r t u} : (DEnds.mk p q r t u).rt = q := rfl
@[simp] theorem bk_of {p q r t u} : (DEnds.mk p q r t u).bk = r := rfl
@[simp] theorem ct_of {p q r t u} : (DEnds.mk p q r t u).ct = t := rfl
@[simp] theorem ex_of {p q r t u} : (DEnds.mk p q r t u).ex = u := rfl
@[simp] theorem ends_nx {p : PV} {x : PX} {s : Sl} {h : Hh} : (endsOf p x).nx s h = p .non h := rfl
@[simp] theorem ends_rt {p : PV} {x : PX} : (endsOf p x).rt = p := rfl
@[simp] theorem ends_ex {p : PV} {x : PX} {s : Sl} : (endsOf p x).ex s = x := rfl
/-! items of lists -/
theorem atI_ofNat {α : Type} (xs : List α) (i : Nat) : atI xs (i : Int) = xs[i]? := by
  unfold atI ixN
  rw [if_pos (Int.natCast_nonneg i)]
  by_cases h : i < xs.length
  · simp [h]
  · simp [h]
@[simp] theorem atI_0 {α : Type} (xs : List α) : atI xs 0 = xs[0]? := atI_ofNat xs 0
@[simp] theorem atI_1 {α : Type} (xs : List α) : atI xs 1 = xs[1]? := atI_ofNat xs 1
@[simp] theorem atI_2 {α : Type} (xs : List α) : atI xs 2 = xs[2]? := atI_ofNat xs 2
@[simp] theorem atI_3 {α : Type} (xs : List α) : atI xs 3 = xs[3]? := atI_ofNat xs 3
@[simp] theorem get_app {h g : Hh} {n : Nat} (hn : n < h.length) : (h ++ g)[n]? = h[n]? := List.getElem?_append_left hn
@[simp] theorem get_new {h g : Hh} : (h ++ g)[h.length]? = g[0]? := by rw [List.getElem?_append_right (Nat.le_refl _), Nat.sub_self]
theorem spOf_go {pre : List D → Hh → Prop} {post : List D → Hh → D → Hh → Prop} {xp : List D → Hh → XD → Hh → Prop} {ds : List D} {h : Hh} {Q : PV} {E : PX} (hp : pre ds h) (hq : ∀ d h', post ds h d h' → Q d h') (hx : ∀ x h', xp ds h x h' → E x h') : spOf pre post xp ds h Q E := ⟨hp, hq, hx⟩
end EV

namespace EV
open PySem PySem.Spec PyProof.Rows L2
/-! ### own exceptions as values -/
section
variable {X : Cx} {W : WX} {pos p p1 p2 pos' : Pos} {a e o : Expr} {es : List Expr} {wa we wo wv : WE} {wr : WA}
/-- C(..) as a value, C an own exception class with its own __init__ -/
def tMkV (C : Addr) (sp : Sp) (E : XK) (ta : TA) : TE := fun σ H Q => ta σ H fun vs H1 => vs.length ≤ 1000 ∧ ∀ a, H1 a = none → sp (.ref a :: vs) (upd H1 a (exo a C none)) (fun v H2 => v = .non ∧ Q (.ref a) H2) E
theorem pe_mkV {CX : CXT} {x : Str} {C fI : Addr} {k : Nat} {fd : FuncData} {ps : List Str} {sp : Sp} {E : XK} {ta : TA} (T : OexC X.K C) (iC : PySem.W.findIn X.K (.ref C) "__init__" = some (some (.ref fI)))
    (tI : PySem.W.typeIn X.K (.ref fI) = some (.type "function")) (F1 : FnOk X.prog X.w X.K X.mg X.base CX k fI fd ps sp) (hr : Room (k + 1) X.A) (hb : Binds X.K fd ps []) (hx : Passes CX X E) (hg : Gl X x)
    (hm : X.mg x = some (.ref C)) (ha : PA X (e :: es) ta) (hdb : (x == ("__debug__" : Str)) = false) (he : starEach (e :: es) X.env = (false, eval e X.env) :: starEach es X.env) (hpl : (backTo pos (starEach es X.env)).any (·.1) = false) :
    PE X (.Call (.Name x p) (e :: es) [] pos) (tMkV C sp E ta) := by
  constructor
  intro pins s σ H Q I h
  obtain ⟨nm, q, N, bs, bm, sn, sub, ab, col, dd, k0, k1, k2, k3, k5, hC, hbm⟩ := T.cls
  apply wpAny_Call_Name_kw
  apply ld_glob I hg hm ?_ hdb
  apply PySem.W.callWith_K (h₀ := X.base) I.ok.mod.kin T.kC (thn (ha.run pos pins s σ H _ I h) ?_) he hpl
  rintro us ⟨hp, g, dr, tk, os⟩ ⟨vs, H1, I1, r1, hz, q1⟩
  refine ⟨I1.kIn, ?_⟩
  have hsz : hp.objs.size ≤ hp.objs.size + 1 := Nat.le_succ _
  have hq := q1 (hp.objs.size + 1) (I1.hok.fresh hsz)
  have hget : ((hp.push (PySem.W.kdv_tup us)).push (PySem.HandSPX.excO C hp.objs.size)).get? (hp.objs.size + 1) = some (PySem.HandSPX.excO C hp.objs.size) := by heap_get
  have I2 := I1.laid (t' := tk) (a := hp.objs.size + 1) (o := exo (hp.objs.size + 1) C none) (h' := (hp.push (PySem.W.kdv_tup us)).push (PySem.HandSPX.excO C hp.objs.size))
    (fun b o e => Heap.get?_push_of_some _ (Heap.get?_push_of_some _ e)) hsz (exo_ok hget)
  have r2 : Vals (V.ref (hp.objs.size + 1) :: vs) (Value.ref (hp.objs.size + 1) :: us) := .cons rfl r1
  have hl : (Value.ref (hp.objs.size + 1) :: us).length = ps.length := by rw [← r2.length]; exact F1.len _ _ _ _ hq
  have hus : us.length ≤ sizeLine := by rw [← Paired.length r1, sizeLine_eq]; omega
  have hl' : (Value.ref (hp.objs.size + 1) :: us ++ []).length = ps.length := by rw [List.append_nil]; exact hl
  have bb := hb ⟨(hp.push (PySem.W.kdv_tup us)).push (PySem.HandSPX.excO C hp.objs.size), g, dr, tk, os⟩ (Value.ref (hp.objs.size + 1) :: us) I2.kIn hl'
  rw [List.append_nil] at bb
  refine wpAny_call (PySem.HandSPX.call_own F.excBase_ValueError (fun Y => PySem.HandSPX.refsVE_contains Y bm hbm) (I1.kIn _ _ hC) (PySem.W.looks_findIn I1.kIn iC) (fun self => PySem.W.bind_fn I1.kIn self tI) hus ?_)
  refine codeAny_mono (F1.run _ X.stack _ _ ⟨Value.ref (hp.objs.size + 1) :: us, []⟩ _ _ _ E (hr.make C us []) (I2.env0.make C us []) bb r2 hq) ?_
  intro r s' hq'
  cases r with
  | error er => exact hx pins σ _ _ er s' I2 hq'
  | ok fl =>
    cases fl with
    | ret u =>
      obtain ⟨v, H2, os2, bare2, un2, hok2, rv, ev, q2⟩ := hq'
      subst ev
      exact ⟨rv, .ref _, H2, I2.call' (ch := []) os2 un2 hok2 bare2 (fun b z => absurd z (by simp)), rfl, q2⟩
    | next => exact False.elim hq'
    | brk => exact False.elim hq'
    | cont => exact False.elim hq'
structure GX (P : Program) (w : World) (K : PySem.W.Frag) (mg : Str → Option Value) (base : Heap) (C : Str) (k : Nat) (sp : SpD) : Prop where
  ex : ∃ c f fd ps, FnOk P w K mg base (L2.CX P w) k f fd ps (LSp K mg sp) ∧ mg C = some (.ref c) ∧ OexC K c ∧ PySem.W.findIn K (.ref c) "__init__" = some (some (.ref f)) ∧ PySem.W.typeIn K (.ref f) = some (.type "function") ∧ Binds K fd ps []
  mono : MonoSp sp
def wMkX (C : Str) (sp : SpD) (w : WA) : WE := fun s h Q E => w s h (fun ds h1 => ds.length ≤ 1000 ∧ sp (.ref h1.length :: ds) (h1 ++ [.exo C none]) (fun r h2 => r = .non ∧ Q (.ref h1.length) h2) E) E
theorem mono_mkX {C : Str} {sp : SpD} {w : WA} (ms : MonoSp sp) (n : Mono w) : Mono (wMkX C sp w) := fun s h Q Q' E E' hq he q =>
  n s h _ _ _ _ (fun ds h1 ⟨l, q⟩ => ⟨l, ms _ _ _ _ _ _ (fun d h2 ⟨e, q⟩ => ⟨e, hq _ _ q⟩) he q⟩) he q
theorem de_mkX {C : Str} {k j : Nat} {sp : SpD} {E : XK} {w : WA} (G : GX X.prog X.w X.K X.mg X.base C k sp) (tk : Takes X (nS E)) (hr : Room j X.A) (ha : DA X (nS E) (e :: es) w) (hj : k + 1 ≤ j := by decide) (hg : Gl X C := by rfl)
    (hdb : (C == ("__debug__" : Str)) = false := by decide) (he : starEach (e :: es) X.env = (false, eval e X.env) :: starEach es X.env := by rfl) (hpl : (backTo pos (starEach es X.env)).any (·.1) = false := by rfl) : DE X (nS E) (.Call (.Name C p) (e :: es) [] pos) (wMkX C sp w) := by
  obtain ⟨c, f, fd, ps, F, mc, T, iC, tI, hb⟩ := G.ex
  refine ⟨PE.imp (pe_mkV T iC tI F (hr.mono hj) hb (passes_call tk fun _ _ _ _ h => h) hg mc ha.pa hdb he hpl) fun σ H Q ⟨ι, h, s, hr, sr, q⟩ => ?_, mono_mkX G.mono ha.mono⟩
  refine ⟨ι, h, s, hr, sr, ha.mono s h _ _ _ _ (fun ds h1 ⟨hl, q⟩ vs H1 ι1 g1 hr1 rs => ⟨by rw [rs.length]; exact hl, fun x hx => ?_⟩) (fun _ _ e => e) q⟩
  have gb : Gr X.K H1 (upd H1 x (exo x c none)) ι1 (ι1 ++ [x]) := Gr.fresh hx _ (List.prefix_append _ _)
  have hr2 : HRel X.K (upd H1 x (exo x c none)) (ι1 ++ [x]) X.mg (h1 ++ [.exo C none]) := hr1.push hx ⟨c, mc, upd_same⟩
  have ix : (ι1 ++ [x])[h1.length]? = some x := by rw [← hr1.len, List.getElem?_append_right (Nat.le_refl _), Nat.sub_self]; rfl
  refine ⟨ι1 ++ [x], h1 ++ [.exo C none], .ref h1.length :: ds, hr2, ⟨.ref x, vs, rfl, ⟨x, ix, rfl⟩, rs.mono gb⟩, G.mono _ _ _ _ _ _ (fun d h3 ⟨ed, q⟩ v H3 ι3 g3 hr3 rv => ?_) (fun y h3 q c d H' ι' g' hr' xr => q c d H' ι' ((g1.trans gb).trans g') hr' xr) q⟩
  subst ed
  exact ⟨rv, q _ H3 ι3 (g1.trans (gb.trans g3)) hr3 ⟨x, pre_get g3.pre ix, rfl⟩⟩
/-- C(), an own exception class without an __init__ -/
structure GX0 (K : PySem.W.Frag) (mg : Str → Option Value) (C : Str) : Prop where
  ex : ∃ c bm, mg C = some (.ref c) ∧ PySem.W.excIn K c bm "ValueError.__new__" = true ∧ ExcBaseFacts "ValueError" "ValueError.__new__" "ValueError.__init__" bm ∧ PySem.W.keepIn K (.ref c) = true
def wMkX0 (C : Str) : WE := fun _ h Q _ => Q (.ref h.length) (h ++ [.exo C none])
theorem de_mkX0 {C : Str} (G : GX0 X.K X.mg C) (hg : Gl X C := by rfl) (hdb : (C == ("__debug__" : Str)) = false := by decide) : DE X W (.Call (.Name C p) [] [] pos) (wMkX0 C) := by
  obtain ⟨c, bm, mc, hq, Fx, kC⟩ := G.ex
  refine ⟨⟨fun pins s σ H Q I ⟨ι, h, sl, hr, sr, q⟩ => ?_⟩, fun s h Q Q' E E' hq he q => hq _ _ q⟩
  apply wpAny_Call_Name_kw
  apply ld_glob I hg mc ?_ hdb
  apply PySem.W.callWith_K0 I.kIn kC
  obtain ⟨bm', N, nm, qn, bs, hdct, sn, sub, ab, col, dd, k0, k1, k2, k3, k5, mN, hC, hN, hni, T⟩ := exc_obj I.kIn hq
  apply wpAny_call_exc_subT Fx T hC hN hni ?_ (by show 0 ≤ sizeLine; omega)
  intro h' x hm
  obtain ⟨t, he, _, _⟩ := hm.there
  have hn : H x = none := I.hok.gone hm.new
  have J := I.laidN (t' := s.toks) (o := exo x c none) hm.keeps hm.new hn (exo_ok he)
  refine ⟨.ref x, _, J, rfl, q _ _ (ι ++ [x]) (Gr.fresh hn _ (List.prefix_append _ _)) (hr.push hn ⟨c, mc, upd_same⟩) ⟨x, ?_, rfl⟩⟩
  rw [← hr.len, List.getElem?_append_right (Nat.le_refl _), Nat.sub_self]; rfl
/-- B.__init__(self, ..), B an own exception class without an __init__ -/
structure GXI (K : PySem.W.Frag) (mg : Str → Option Value) (B : Str) : Prop where
  ex : ∃ b, mg B = some (.ref b) ∧ PySem.W.specialIn K (.ref b) "__getattribute__" = some (some (.builtin "type.__getattribute__")) ∧ PySem.W.readsIn K b (.type "type") = true ∧ PySem.W.findCls K (.ref b) (.type "type") "__init__" = some (.val (.builtin "ValueError.__init__"))
structure GXC (K : PySem.W.Frag) (mg : Str → Option Value) (C : Str) : Prop where
  ex : ∃ c, mg C = some (.ref c) ∧ OexC K c
def wXIni (C : Str) (w : WA) : WE := fun s h Q E => w s h (fun ds h1 => ∃ n es, ds = .ref n :: es ∧ es.length ≤ 1000 ∧ h1[n]? = some (.exo C none) ∧ Q .non h1) E
theorem de_xini {B C : Str} {pl : Sem Bool} (G : GXI X.K X.mg B) (T : GXC X.K X.mg C) (ha : DA X W (e :: es) wr) (hg : Gl X B := by rfl) (hdb : (B == ("__debug__" : Str)) = false := by decide)
    (hc : eval (.Call (.Attribute (.Name B p1) "__init__" p2) (e :: es) [] pos) X.env = (do
      let ov ← eval (.Name B p1) X.env
      standAt p2.atName
      let (f, first) ← holding [ov] (getMethod ov "__init__" pl)
      callWith pos f first (backTo pos (starEach (e :: es) X.env)) (backToKw pos (keywordEach [] X.env))) := by rfl)
    (he : starEach (e :: es) X.env = (false, eval e X.env) :: starEach es X.env := by rfl) (hpl : (backTo pos (starEach es X.env)).any (·.1) = false := by rfl) : DE X W (.Call (.Attribute (.Name B p1) "__init__" p2) (e :: es) [] pos) (wXIni C wr) := by
  obtain ⟨b, mb, hsp, hrd, hf⟩ := G.ex
  obtain ⟨c, mc, oc⟩ := T.ex
  refine ⟨⟨fun pins s σ H Q I ⟨ι, h, sl, hr, sr, q⟩ => ?_⟩, fun s h Q Q' E E' hq hE q => ha.mono s h _ _ _ _ (fun ds h1 ⟨n, es, a, b, c, q⟩ => ⟨n, es, a, b, c, hq _ _ q⟩) hE q⟩
  apply PySem.W.methodCall_KW (ld_glob I hg mb ?_ hdb) hc
  apply PySem.W.method_cls I.kIn hsp
  apply PySem.W.cls_value I.kIn hrd hf (by decide +kernel)
  show wpAny _ _ (callWith pos (Value.builtin "ValueError.__init__") [] (backTo pos (starEach (e :: es) X.env)) []) _ _ _
  apply PyProof.Rows.callWith_method1 ?_ he hpl
  refine thn (ha.pa.run pos pins _ σ H (fun vs H1 => ∃ a ws, vs = .ref a :: ws ∧ ws.length ≤ 1000 ∧ H1 a = some (exo a c none) ∧ Q .non H1) (I.tok _ |>.tok _) ⟨ι, h, sl, hr, sr, ha.mono sl h _ _ _ _ (fun ds h1 ⟨n, es', ed, hl, z, q⟩ vs H1 ι1 g1 hr1 rs => ?_) (fun _ _ e => e) q⟩) ?_
  · rintro us s1 ⟨vs, H1, I1, r1, x, ws, ev, hl, ea, q⟩
    subst ev
    cases r1 with
    | @cons _ u0 _ ur ra rw' =>
      obtain rfl : u0 = Value.ref x := ra
      have hlen : ur.length ≤ sizeLine := by rw [← Paired.length rw', sizeLine_eq]; omega
      exact oinit_ok oc I1 ea hlen fun s' J => ⟨.non, H1, J, rfl, q⟩
  · subst ed
    obtain ⟨v, ws, rfl, ⟨x, ix, rfl⟩, rw'⟩ := rs
    obtain ⟨c', mc', ho⟩ := hr1.obj _ _ _ z ix
    rw [mc] at mc'
    cases mc'
    exact ⟨x, ws, rfl, by rw [rw'.length]; exact hl, ho, q _ H1 ι1 g1 hr1 rfl⟩
/-- self.f = v in such an __init__ -/
structure GXF (K : PySem.W.Frag) (mg : Str → Option Value) (C f : Str) : Prop where
  ex : ∃ c, mg C = some (.ref c) ∧ OexC K c ∧ ExcC K c ∧ PySem.W.findIn K (.ref c) f = some none
def wSetX (C f : Str) (wo wv : WE) : WS := fun B s h => wv s h (fun d h1 => wo s h1 (fun o h2 => ∃ n, o = .ref n ∧
  ((h2[n]? = some (.exo C none) ∧ B.nx s ((h2 ++ [O.exd [(f, d)]]).set n (.exo C (some h2.length)))) ∨
   ∃ m fs, h2[n]? = some (.exo C (some m)) ∧ h2[m]? = some (.exd fs) ∧ fs.length ≤ 900 ∧ B.nx s (h2.set m (.exd ((f, d) :: fs))))) (B.ex s)) (B.ex s)
theorem ds_xfld {C f : Str} {value : Expr} (cf : GXF X.K X.mg C f) (ho : DE X W o wo) (hv : DE X W value wv) (hs : swapsWith value (some (.Attribute o f pos')) pos.line X.env = pure false := by rfl) : DS X W (.Assign [.Attribute o f pos'] value pos) (wSetX C f wo wv) := by
  obtain ⟨c, mc, oc, ec, nf⟩ := cf.ex
  refine ⟨PS.imp (ps_ost ho.pe hv.pe hs) fun B σ H ⟨ι, h, s, hr, sr, q⟩ => ?_, fun A B s h l q => hv.mono s h _ _ _ _ (fun d h1 q => ho.mono s h1 _ _ _ _ (fun o h2 ⟨n, e, q⟩ => ⟨n, e, q.elim (fun ⟨z, q⟩ => .inl ⟨z, l.nx _ _ q⟩) (fun ⟨m, fs, z, y, k, q⟩ => .inr ⟨m, fs, z, y, k, l.nx _ _ q⟩)⟩) (fun x h q => l.ex s x h q) q) (fun x h q => l.ex s x h q) q⟩
  refine ⟨ι, h, s, hr, sr, hv.mono s h _ _ _ _ (fun d h1 q v H1 ι1 g1 hr1 rd => ?_) (QD.exq sr) q⟩
  refine ⟨ι1, h1, s, hr1, sr.mono g1, ho.mono s h1 _ _ _ _ (fun o h2 ⟨n, e, q⟩ u H2 ι2 g2 hr2 ro => ?_) (fun x h' q' => QX.on (QD.exq sr x h' q') g1) q⟩
  subst e
  obtain ⟨x, ex, rfl⟩ := ro
  rcases q with ⟨z, q⟩ | ⟨m, fs, z, y, k, q⟩
  · obtain ⟨c', mc', e1⟩ := hr2.obj _ _ _ z ex
    rw [mc] at mc'
    cases mc'
    refine ⟨x, c, rfl, oc, nf, .inl ⟨e1, fun dx hdx ne => ?_⟩⟩
    have ga : Gr X.K H2 (upd H2 dx (exd dx [(f, v)])) ι2 (ι2 ++ [dx]) := Gr.fresh hdx _ (List.prefix_append _ _)
    have hr3 : HRel X.K (upd H2 dx (exd dx [(f, v)])) (ι2 ++ [dx]) X.mg (h2 ++ [.exd [(f, d)]]) := hr2.push hdx ⟨[(f, v)], upd_same, v, [], rfl, rd.mono (g2.trans ga), rfl⟩
    have hn : n < h2.length := (List.getElem?_eq_some_iff.mp z).1
    have z' : (h2 ++ [O.exd [(f, d)]])[n]? = some (.exo C none) := by rw [List.getElem?_append_left hn]; exact z
    have ix : (ι2 ++ [dx])[h2.length]? = some dx := by rw [← hr2.len, List.getElem?_append_right (Nat.le_refl _), Nat.sub_self]; rfl
    obtain ⟨gb, hr4⟩ := hr3.write (u := exo x c (some dx)) (o' := .exo C (some h2.length)) z' (pre_get ga.pre ex) ⟨c, dx, mc, ix, upd_same⟩
    exact q σ _ _ ((g1.trans g2).trans (ga.trans gb)) hr4 (sr.mono ((g1.trans g2).trans (ga.trans gb)))
  · obtain ⟨c', dx, mc', im, e1⟩ := hr2.obj _ _ _ z ex
    rw [mc] at mc'
    cases mc'
    obtain ⟨vs, e2, rs⟩ := hr2.obj _ _ _ y im
    refine ⟨x, c, rfl, oc, nf, .inr ⟨dx, vs, e1, e2, by rw [rs.length]; exact k, ?_⟩⟩
    obtain ⟨w0, ew, w1, w2⟩ := (hr2.obj _ _ _ y im).there
    have g : Gr X.K H2 (upd H2 dx (exd dx ((f, v) :: vs))) ι2 ι2 := Gr.write ew w1 w2
    obtain ⟨_, hr3⟩ := hr2.write (u := exd dx ((f, v) :: vs)) (o' := .exd ((f, d) :: fs)) y im ⟨_, upd_same, v, vs, rfl, rd.mono (g2.trans g), rs.mono g⟩
    exact q σ _ ι2 ((g1.trans g2).trans g) hr3 (sr.mono ((g1.trans g2).trans g))
/-- x.f, x an exception of one of the classes Cs -/
def kXf (f : Str) (Cs : List Str) : K1 := fun _ d h Q _ => ∃ n C m fs v, d = .ref n ∧ h[n]? = some (.exo C (some m)) ∧ C ∈ Cs ∧ h[m]? = some (.exd fs) ∧ fs.lookup f = some v ∧ Q v h
theorem mono_xf {f : Str} {Cs : List Str} : Mono1 (kXf f Cs) := fun s d h Q Q' E E' hq _ ⟨n, C, m, fs, v, e, z, i, y, l, q⟩ => ⟨n, C, m, fs, v, e, z, i, y, l, hq _ _ q⟩
def tXv (K : PySem.W.Frag) (f : Str) (te : TE) : TE := fun σ H Q => te σ H fun x H1 => ∃ a c d fs v, x = .ref a ∧ ExcC K c ∧ PySem.W.findIn K (.ref c) f = some none ∧ H1 a = some (exo a c (some d)) ∧ H1 d = some (exd d fs) ∧ fs.lookup f = some v ∧ Q v H1
theorem pe_xv {f : Str} {te : TE} (he : PE X a te) (hb : attributeBase a f X.env (eval a X.env) = eval a X.env) : PE X (.Attribute a f pos) (tXv X.K f te) := by
  constructor
  intro pins s σ H Q I h
  apply attr_of hb
  refine thn (he.run pins s σ H _ I h) ?_
  rintro u s1 ⟨x, H1, I1, rx, ad, c, d, fs, v, rfl, ec, nf, e1, e2, l, q⟩
  obtain rfl : u = Value.ref ad := rx
  obtain ⟨t1, ha⟩ := exo_at I1.hok e1
  obtain ⟨mA, hns, hr⟩ := exd_at I1.hok e2
  obtain ⟨od, hod, hl⟩ := lookIn_ns hns
  obtain ⟨u, hu, ru⟩ := RelO.some_of (v := v) (o := mA f) (by rw [← l]; exact hr f)
  exact HandSPX.exc_get (od := some od) I1.kIn ⟨ha, rfl, rfl, hod⟩ ec.hg ec.hk ec.hs (PySem.W.findObj_own ec.hd nf rfl (by rw [hl, hu])) (handed_of ru) ⟨v, H1, I1.tok _, ru, q⟩
theorem de_xf {f : Str} {Cs : List Str} (cf : ∀ C ∈ Cs, GXF X.K X.mg C f) (ha : DE X W a wa) (hb : attributeBase a f X.env (eval a X.env) = eval a X.env := by rfl) : DE X W (.Attribute a f pos) (wUn (kXf f Cs) wa) := by
  refine ⟨PE.imp (pe_xv ha.pe hb) fun σ H Q ⟨ι, h, s, hr, sr, q⟩ => ?_, mono_un ha.mono mono_xf⟩
  refine ⟨ι, h, s, hr, sr, ha.mono s h _ _ _ _ (fun d h1 ⟨n, C, m, fs, v, ed, z, i, y, l, q⟩ x H1 ι1 g1 hr1 rd => ?_) (fun _ _ e => e) q⟩
  subst ed
  obtain ⟨p, ep, rfl⟩ := rd
  obtain ⟨c, dx, mc, im, e1⟩ := hr1.obj _ _ _ z ep
  obtain ⟨c', mc', oc, ec, nf⟩ := (cf C i).ex
  rw [mc] at mc'
  cases mc'
  obtain ⟨vs, e2, rs⟩ := hr1.obj _ _ _ y im
  obtain ⟨u, eu, ru⟩ := rs.look l
  exact ⟨p, c, dx, vs, u, rfl, ec, nf, e1, e2, eu, q u H1 ι1 g1 hr1 ru⟩
/-! isinstance of such a value -/
theorem kit_exo {pins : List (Addr × Obj)} {s : Shared} {σ : St} {H : Hp} {x c : Addr} {d : Option Addr} (I : L2.Inv X pins σ H s) (ec : ExcC X.K c) (e : H x = some (exo x c d)) (hd : ∀ dx, d = some dx → (∃ o, H dx = some o) ∨ ∃ o, X.K.lookup dx = some o) :
    ∃ P : Heap → Prop, PySem.W.KitX X.K (.ref x) (.ref c) P ∧ P s.heap ∧ Value.ref x ≠ .builtin "__main__.__loader__#opaque" := by
  obtain ⟨t1, ho⟩ := exo_at I.hok e
  have hc : (PySem.W.clsIn X.K c).isSome = true := by
    obtain ⟨cd, q, _⟩ := PySem.W.any_some ec.hd
    rw [q]; rfl
  cases d with
  | none => exact ⟨_, PySem.W.kitx_exc (od := none) hc ec.hg ec.hk ec.hs ec.ha ec.hn ec.ht ec.hm, ⟨ho, rfl, rfl, trivial⟩, fun z => nomatch z⟩
  | some dx =>
    have hx : ∃ od, s.heap.get? dx = some od := by
      rcases hd dx rfl with ⟨u, hu⟩ | ⟨u, hu⟩
      · exact objOk_get (I.hok dx u hu)
      · exact ⟨u, I.kIn dx u hu⟩
    obtain ⟨od, hod⟩ := hx
    exact ⟨_, PySem.W.kitx_exc (od := some od) hc ec.hg ec.hk ec.hs ec.ha ec.hn ec.ht ec.hm, ⟨ho, rfl, rfl, hod⟩, fun z => nomatch z⟩
def rIsX (K : PySem.W.Frag) (cs : List V) (us : List Value) : List V → Hp → VK → Prop := fun xs H Q => ∃ (x c : Addr) (d : Option Addr) (y : V) (b : Bool), xs = [.ref x, y] ∧ H x = some (exo x c d) ∧ (∀ dx, d = some dx → (∃ o, H dx = some o) ∨ ∃ o, K.lookup dx = some o) ∧ ExcC K c ∧ Paired ClsV cs us ∧
  ((∃ v u, cs = [v] ∧ us = [u] ∧ y = v ∧ PySem.W.kitOne K (.ref c) u = some b) ∨ (∃ tp, y = .ref tp ∧ SqT K H tp cs ∧ PySem.W.kitAny K (.ref c) us = some b)) ∧ Q (.bl b) H
theorem call_isX {cs : List V} {us : List Value} : CallR X (.builtin "isinstance") (rIsX X.K cs us) := by
  rintro pins s σ H xs ws Q I r ⟨x, c, d, y, b, rfl, ex, hd, ec, pc, alt, q⟩
  cases r with
  | cons r1 rr =>
    cases rr with
    | cons r2 rr =>
      cases rr
      cases r1
      obtain ⟨P, Z, hp, hx⟩ := kit_exo I ec ex hd
      rcases alt with ⟨v, u, rfl, rfl, rfl, ek⟩ | ⟨tp, rfl, sq, ek⟩
      · cases pc with
        | cons k _ =>
          obtain rfl := k.eq r2
          exact PySem.W.kia_one Z I.kIn hp ek hx fun tk => ⟨.bl b, H, I.tok tk, rfl, q⟩
      · cases r2
        obtain ⟨its, rv, ⟨ob, g1, g2, n, g3⟩, _⟩ := I.tuple sq
        have e3 := ClsV.all pc rv
        subst e3
        obtain ⟨oc, od, dt, sl⟩ := ob
        dsimp only at g2 g3
        subst g2
        subst g3
        exact PySem.W.kia_tup Z I.kIn hp g1 ek hx fun tk => ⟨.bl b, H, I.tok tk, rfl, q⟩
/-- what isinstance tells of exceptions of the classes of the table -/
def kIsX (tab : List (Str × Bool)) : K1 := fun _ d h Q _ => ∃ n C m b, d = .ref n ∧ h[n]? = some (.exo C m) ∧ tab.lookup C = some b ∧ Q (.bl b) h
theorem mono_isX {tab : List (Str × Bool)} : Mono1 (kIsX tab) := fun s d h Q Q' E E' hq _ ⟨n, C, m, b, e, z, l, q⟩ => ⟨n, C, m, b, e, z, l, hq _ _ q⟩
structure GIs (K : PySem.W.Frag) (mg : Str → Option Value) (cs : List V) (us : List Value) (tab : List (Str × Bool)) : Prop where
  pc : Paired ClsV cs us
  tb : ∀ C b, tab.lookup C = some b → ∃ c, mg C = some (.ref c) ∧ ExcC K c ∧ PySem.W.kitAny K (.ref c) us = some b
theorem exo_dict {K : PySem.W.Frag} {H : Hp} {ι : List Addr} {mg : Str → Option Value} {h : Hh} {n : Nat} {C : Str} {m : Option Nat} {x : Addr} (hr : HRel K H ι mg h) (z : h[n]? = some (.exo C m)) (ex : ι[n]? = some x) : ∃ c d, mg C = some (.ref c) ∧ H x = some (exo x c d) ∧ ∀ dx, d = some dx → (∃ o, H dx = some o) ∨ ∃ o, K.lookup dx = some o := by
  cases m with
  | none => obtain ⟨c, mc, e1⟩ := hr.obj _ _ _ z ex; exact ⟨c, none, mc, e1, fun dx e => nomatch e⟩
  | some m =>
    obtain ⟨c, dx, mc, im, e1⟩ := hr.obj _ _ _ z ex
    refine ⟨c, some dx, mc, e1, fun d e => ?_⟩
    cases e
    have hm : m < h.length := by rw [← hr.len]; exact (List.getElem?_eq_some_iff.mp im).1
    have r := hr.obj m h[m] dx (List.getElem?_eq_getElem hm) im
    by_cases hn : ∃ ds, h[m] = .rol ds
    · obtain ⟨ds, q⟩ := hn
      rw [q] at r
      obtain ⟨vs, ⟨o, z⟩ | ⟨o, its, k, z, _⟩, _⟩ := r
      · exact .inl ⟨_, z⟩
      · exact .inr ⟨o, z⟩
    · obtain ⟨u, hu, _⟩ := r.there fun ds q => hn ⟨ds, q⟩
      exact .inl ⟨u, hu⟩
theorem kitAny1 {K : PySem.W.Frag} {t u : Value} {b : Bool} (h : PySem.W.kitAny K t [u] = some b) : PySem.W.kitOne K t u = some b := by
  simp only [PySem.W.kitAny] at h
  cases e : PySem.W.kitOne K t u with
  | none => rw [e] at h; cases h
  | some k => rw [e] at h; cases k <;> exact h
theorem de_isX1 {c : Expr} {v : V} {u : Value} {tab : List (Str × Bool)} (G : GIs X.K X.mg [v] [u] tab) (hm : X.mg "isinstance" = none) (ha : Mono wa) (hda : DA X W [a, c] (wCons wa (wCons (wC (.opq v)) wNil))) (hg : Gl X "isinstance" := by rfl)
    (he : starEach [a, c] X.env = (false, eval a X.env) :: starEach [c] X.env := by rfl) (hpl : (backTo pos (starEach [c] X.env)).any (·.1) = false := by rfl) : DE X W (.Call (.Name "isinstance" p) [a, c] [] pos) (wUn (kIsX tab) wa) := by
  refine ⟨PE.imp (pe_callB (call_isX (cs := [v]) (us := [u])) hg hm (by decide +kernel) hda.pa (by decide) (by decide) he hpl) fun σ H Q ⟨ι, h, s, hr, sr, q⟩ => ?_, mono_un ha mono_isX⟩
  refine ⟨ι, h, s, hr, sr, ha s h _ _ _ _ (fun d h1 ⟨n, C, m, b, ed, z, l, q⟩ xs H1 ι1 g1 hr1 rs => ?_) (fun _ _ e => e) q⟩
  subst ed
  obtain ⟨_, _, rfl, ⟨x, ex, rfl⟩, _, _, rfl, rv, rn⟩ := rs
  cases rn
  cases rv
  obtain ⟨c0, d, mc, e1, hd⟩ := exo_dict hr1 z ex
  obtain ⟨c1, mc1, ec, ek⟩ := G.tb C b l
  rw [mc] at mc1
  cases mc1
  exact ⟨x, c0, d, _, b, rfl, e1, hd, ec, G.pc, .inl ⟨_, _, rfl, rfl, rfl, kitAny1 ek⟩, q _ H1 ι1 g1 hr1 rfl⟩
theorem rel_opqs {K : PySem.W.Frag} {H : Hp} {ι : List Addr} : ∀ {vs us : List V}, RelDs K H ι (vs.map .opq) us → us = vs
  | [], _, h => h
  | v :: vs, _, h => by
    obtain ⟨u, r, rfl, e, h⟩ := h
    rw [rel_opqs h, show u = v from e]
theorem de_isXs {cs : List V} {us : List Value} {c : Expr} {wr : WA} {tab : List (Str × Bool)} (G : GIs X.K X.mg cs us tab) (hm : X.mg "isinstance" = none) (ha : Mono wa) (hw : ∀ s h Q E, Q (cs.map .opq) h → wr s h Q E) (hl : cs.length ≤ sizeLine)
    (hda : DA X W [a, c] (wCons wa (wCons (wTup wr) wNil))) (hg : Gl X "isinstance" := by rfl)
    (he : starEach [a, c] X.env = (false, eval a X.env) :: starEach [c] X.env := by rfl) (hpl : (backTo pos (starEach [c] X.env)).any (·.1) = false := by rfl) : DE X W (.Call (.Name "isinstance" p) [a, c] [] pos) (wUn (kIsX tab) wa) := by
  refine ⟨PE.imp (pe_callB (call_isX (cs := cs) (us := us)) hg hm (by decide +kernel) hda.pa (by decide) (by decide) he hpl) fun σ H Q ⟨ι, h, s, hr, sr, q⟩ => ?_, mono_un ha mono_isX⟩
  refine ⟨ι, h, s, hr, sr, ha s h _ _ _ _ (fun d h1 ⟨n, C, m, b, ed, z, l, q⟩ => hw _ _ _ _ ⟨by rw [List.length_map]; exact hl, fun xs H1 ι1 g1 hr1 rs => ?_⟩) (fun _ _ e => e) q⟩
  subst ed
  obtain ⟨_, _, rfl, ⟨x, ex, rfl⟩, _, _, rfl, ⟨tp, vs, rfl, sq, rv⟩, rn⟩ := rs
  cases rn
  cases rel_opqs rv
  obtain ⟨c0, d, mc, e1, hd⟩ := exo_dict hr1 z ex
  obtain ⟨c1, mc1, ec, ek⟩ := G.tb C b l
  rw [mc] at mc1
  cases mc1
  exact ⟨x, c0, d, _, b, rfl, e1, hd, ec, G.pc, .inr ⟨tp, rfl, sq, ek⟩, q _ H1 ι1 g1 hr1 rfl⟩
end
end EV

namespace EV
open PySem PySem.Spec PyProof.Rows L2
/-! ### functional specs -/
def spR (r : List D → Hh → Option (D × Hh)) : SpD := fun ds h Q _ => Get (r ds h) Q
theorem mono_spR (r : List D → Hh → Option (D × Hh)) : MonoSp (spR r) := fun ds h Q Q' E E' hq he ⟨d, h', e, q⟩ => ⟨d, h', e, hq _ _ q⟩
section
variable {X : Cx} {W : WX} {pos p p1 p2 p3 pos' : Pos} {a e o : Expr} {wa : WE}
theorem fn_ok3 {P : Program} {w : World} {K : PySem.W.Frag} {mg : Str → Option Value} {base : Heap} {x qual : Str} {st : Stmt} {f : Addr} {fd : FuncData} {N ps : List Str} {k : Nat} {sp : SpD} {wb : WS}
    (F : Fun K x qual st f fd) (S : FnScope N ps (defScope st)) (len : ∀ ds h Q E, sp ds h Q E → ds.length = ps.length) (hw : ∀ ds h Q E, sp ds h Q E → wb (endsOf Q E) (slots0 N ds) h)
    (hb : ∀ (cdv : Value) (A : Around) (outer : List Env) (s : Shared) (H : Hp) (E : XK), Room k (cxOf (L2.CX P w) P w K mg base N qual (defScope st) f cdv A outer s H E).A → Takes (cxOf (L2.CX P w) P w K mg base N qual (defScope st) f cdv A outer s H E) (nS E) →
      PassesOwn (model P w) (cxOf (L2.CX P w) P w K mg base N qual (defScope st) f cdv A outer s H E).A (cxOf (L2.CX P w) P w K mg base N qual (defScope st) f cdv A outer s H E).env (cxOf (L2.CX P w) P w K mg base N qual (defScope st) f cdv A outer s H E).xe →
      DSs (cxOf (L2.CX P w) P w K mg base N qual (defScope st) f cdv A outer s H E) (nS E) (defBody st) wb) :
    FnOk P w K mg base (L2.CX P w) (k + 1) f fd ps (LSp K mg sp) := by
  refine F.okX S (fun vs H Q E ⟨ι, h, ds, hr, rs, pr⟩ => by rw [rs.length]; exact len ds h _ _ pr) (fun cdv A outer s H vs Q E hr hsp => ?_)
  obtain ⟨ι, h, ds, hrel, rs, pr⟩ := hsp
  have D := hb cdv A outer s H E hr (takes_of rfl rfl rfl rfl) (passes_of rfl)
  refine ⟨_, D.ps, ι, h, slots0 N ds, hrel, start_rel rs, D.mono _ _ _ _ ⟨fun s' h' z σ' H' ι' g hr' _ => ?_, fun d h' z => ?_, fun _ _ z => False.elim z, fun _ _ z => False.elim z, fun s' y h' z c d σ' H' ι' g hr' _ xr => ?_⟩ (hw ds h _ _ pr)⟩
  · exact z .non H' ι' g hr' rfl
  · exact z
  · exact z c d H' ι' g hr' xr
/-! ### isinstance, the class by its name -/
structure GIsN (K : PySem.W.Frag) (mg : Str → Option Value) (Cs : List Str) (tab : List (Str × Bool)) : Prop where
  ex : ∃ cs : List Addr, Paired (fun C c => mg C = some (.ref c)) Cs cs ∧ ∀ C b, tab.lookup C = some b → ∃ c, mg C = some (.ref c) ∧ ExcC K c ∧ PySem.W.kitAny K (.ref c) (cs.map Value.ref) = some b
structure GIsB (K : PySem.W.Frag) (mg : Str → Option Value) (T : String) (tab : List (Str × Bool)) : Prop where
  no : mg (Str.ofString T) = none
  tb : ∀ C b, tab.lookup C = some b → ∃ c, mg C = some (.ref c) ∧ ExcC K c ∧ PySem.W.kitAny K (.ref c) [.type T] = some b
theorem de_isN {C : Str} {tab : List (Str × Bool)} (G : GIsN X.K X.mg [C] tab) (hm : X.mg "isinstance" = none) (ha : DE X W a wa) (hg : Gl X "isinstance" := by rfl) (hC : Gl X C := by rfl) (hd : (C == ("__debug__" : Str)) = false := by decide)
    (he : starEach [a, .Name C p2] X.env = (false, eval a X.env) :: starEach [.Name C p2] X.env := by rfl) (hpl : (backTo pos (starEach [.Name C p2] X.env)).any (·.1) = false := by rfl) : DE X W (.Call (.Name "isinstance" p) [a, .Name C p2] [] pos) (wUn (kIsX tab) wa) := by
  obtain ⟨cs, pc, tb⟩ := G.ex
  cases pc with
  | cons m r =>
    rename_i c _
    cases r
    have hc : DE X W (.Name C p2) (wC (.opq (.ref c))) := de_glob ⟨.ref c, .ref c, m, rfl, fun _ _ => rfl⟩ hC hd
    exact de_isX1 (v := .ref c) (u := .ref c) ⟨.cons (.own c) .nil, tb⟩ hm ha.mono (da_cons ha (da_cons hc da_nil (by rfl)) he) hg he hpl
theorem de_isB {T : String} {tab : List (Str × Bool)} (G : GIsB X.K X.mg T tab) (hm : X.mg "isinstance" = none) (hv : bootBuiltins (Str.ofString T) = some (.type T)) (ha : DE X W a wa) (hg : Gl X "isinstance" := by rfl) (hC : Gl X (Str.ofString T) := by rfl) (hn : Str.ofString T ≠ "__name__" := by decide) (hd : (Str.ofString T == ("__debug__" : Str)) = false := by decide)
    (he : starEach [a, .Name (Str.ofString T) p2] X.env = (false, eval a X.env) :: starEach [.Name (Str.ofString T) p2] X.env := by rfl) (hpl : (backTo pos (starEach [.Name (Str.ofString T) p2] X.env)).any (·.1) = false := by rfl) : DE X W (.Call (.Name "isinstance" p) [a, .Name (Str.ofString T) p2] [] pos) (wUn (kIsX tab) wa) := by
  have hc : DE X W (.Name (Str.ofString T) p2) (wC (.opq (.ty T))) := de_ty G.no hv hC hn hd
  exact de_isX1 (v := .ty T) (u := .type T) ⟨.cons (.ty T) .nil, G.tb⟩ hm ha.mono (da_cons ha (da_cons hc da_nil (by rfl)) he) hg he hpl
theorem de_is3 {C1 C2 C3 : Str} {tab : List (Str × Bool)} {kk : Nat} (G : GIsN X.K X.mg [C1, C2, C3] tab) (hm : X.mg "isinstance" = none) (ha : DE X W a wa) (hg : Gl X "isinstance" := by rfl) (h1 : Gl X C1 := by rfl) (h2 : Gl X C2 := by rfl) (h3 : Gl X C3 := by rfl)
    (d1 : (C1 == ("__debug__" : Str)) = false := by decide) (d2 : (C2 == ("__debug__" : Str)) = false := by decide) (d3 : (C3 == ("__debug__" : Str)) = false := by decide)
    (he : starEach [a, .Tuple [.Name C1 p1, .Name C2 p2, .Name C3 p3] kk pos'] X.env = (false, eval a X.env) :: starEach [.Tuple [.Name C1 p1, .Name C2 p2, .Name C3 p3] kk pos'] X.env := by rfl) (hpl : (backTo pos (starEach [.Tuple [.Name C1 p1, .Name C2 p2, .Name C3 p3] kk pos'] X.env)).any (·.1) = false := by rfl) :
    DE X W (.Call (.Name "isinstance" p) [a, .Tuple [.Name C1 p1, .Name C2 p2, .Name C3 p3] kk pos'] [] pos) (wUn (kIsX tab) wa) := by
  obtain ⟨cs, pc, tb⟩ := G.ex
  cases pc with
  | cons m1 r =>
    rename_i c1 _
    cases r with
    | cons m2 r =>
      rename_i c2 _
      cases r with
      | cons m3 r =>
        rename_i c3 _
        cases r
        have e1 : DE X W (.Name C1 p1) (wC (.opq (.ref c1))) := de_glob ⟨.ref c1, .ref c1, m1, rfl, fun _ _ => rfl⟩ h1 d1
        have e2 : DE X W (.Name C2 p2) (wC (.opq (.ref c2))) := de_glob ⟨.ref c2, .ref c2, m2, rfl, fun _ _ => rfl⟩ h2 d2
        have e3 : DE X W (.Name C3 p3) (wC (.opq (.ref c3))) := de_glob ⟨.ref c3, .ref c3, m3, rfl, fun _ _ => rfl⟩ h3 d3
        exact de_isXs (cs := [.ref c1, .ref c2, .ref c3]) (us := [.ref c1, .ref c2, .ref c3]) ⟨.cons (.own c1) (.cons (.own c2) (.cons (.own c3) .nil)), tb⟩ hm ha.mono (fun s h Q E q => q) (by show 3 ≤ sizeLine; decide) (da_cons ha (da_cons (de_tup (da_cons e1 (da_cons e2 (da_cons e3 da_nil)))) da_nil (by rfl)) he) hg he hpl
end
section
variable {wa wo wv : WE} {B : DEnds} {s : Sl} {h : Hh} {Q : PV} {E : PX} {wr : WA}
@[simp] theorem e_mkX {C : Str} {sp : SpD} : wMkX C sp wr s h Q E = wr s h (fun ds h1 => ds.length ≤ 1000 ∧ sp (.ref h1.length :: ds) (h1 ++ [.exo C none]) (fun r h2 => r = .non ∧ Q (.ref h1.length) h2) E) E := rfl
@[simp] theorem e_mkX0 {C : Str} : wMkX0 C s h Q E = Q (.ref h.length) (h ++ [.exo C none]) := rfl
@[simp] theorem e_spR {r : List D → Hh → Option (D × Hh)} {ds : List D} : spR r ds h Q E = Get (r ds h) Q := rfl
end
end EV

namespace EV
open PySem PySem.Spec PyProof.Rows L2
def topS (i : Nat) : Stmt := PySem.Challenge.pw_leastregs_k45_errors_of_one_family.main.body.getD i (.Pass ⟨0, 0, 0, 0⟩)
def tab_RegsError : List (Str × Bool) := [("RegsError", true), ("NoPattern", true), ("NoText", true), ("NoControl", true), ("NoNumber", true), ("TooMany", true), ("NoState", true), ("NoValue", true), ("NoWish", true), ("NoMachine", true), ("NoUpdates", true), ("NoSpare", true), ("NoWord", true)]
def tab_NoPattern : List (Str × Bool) := [("RegsError", false), ("NoPattern", true), ("NoText", false), ("NoControl", false), ("NoNumber", false), ("TooMany", false), ("NoState", false), ("NoValue", false), ("NoWish", false), ("NoMachine", false), ("NoUpdates", false), ("NoSpare", false), ("NoWord", false)]
def tab_NoText : List (Str × Bool) := [("RegsError", false), ("NoPattern", false), ("NoText", true), ("NoControl", false), ("NoNumber", false), ("TooMany", false), ("NoState", false), ("NoValue", false), ("NoWish", false), ("NoMachine", false), ("NoUpdates", false), ("NoSpare", false), ("NoWord", false)]
def tab_NoControl : List (Str × Bool) := [("RegsError", false), ("NoPattern", false), ("NoText", false), ("NoControl", true), ("NoNumber", false), ("TooMany", false), ("NoState", false), ("NoValue", false), ("NoWish", false), ("NoMachine", false), ("NoUpdates", false), ("NoSpare", false), ("NoWord", false)]
def tab_NoNumber : List (Str × Bool) := [("RegsError", false), ("NoPattern", false), ("NoText", false), ("NoControl", false), ("NoNumber", true), ("TooMany", false), ("NoState", false), ("NoValue", false), ("NoWish", false), ("NoMachine", false), ("NoUpdates", false), ("NoSpare", false), ("NoWord", false)]
def tab_TooMany : List (Str × Bool) := [("RegsError", false), ("NoPattern", false), ("NoText", false), ("NoControl", false), ("NoNumber", false), ("TooMany", true), ("NoState", false), ("NoValue", false), ("NoWish", false), ("NoMachine", false), ("NoUpdates", false), ("NoSpare", false), ("NoWord", false)]
def tab_NoState : List (Str × Bool) := [("RegsError", false), ("NoPattern", false), ("NoText", false), ("NoControl", false), ("NoNumber", false), ("TooMany", false), ("NoState", true), ("NoValue", false), ("NoWish", false), ("NoMachine", false), ("NoUpdates", false), ("NoSpare", false), ("NoWord", false)]
def tab_NoValue : List (Str × Bool) := [("RegsError", false), ("NoPattern", false), ("NoText", false), ("NoControl", false), ("NoNumber", false), ("TooMany", false), ("NoState", false), ("NoValue", true), ("NoWish", false), ("NoMachine", false), ("NoUpdates", false), ("NoSpare", false), ("NoWord", false)]
def tab_NoWish : List (Str × Bool) := [("RegsError", false), ("NoPattern", false), ("NoText", false), ("NoControl", false), ("NoNumber", false), ("TooMany", false), ("NoState", false), ("NoValue", false), ("NoWish", true), ("NoMachine", false), ("NoUpdates", false), ("NoSpare", false), ("NoWord", false)]
def tab_NoMachine : List (Str × Bool) := [("RegsError", false), ("NoPattern", false), ("NoText", false), ("NoControl", false), ("NoNumber", false), ("TooMany", false), ("NoState", false), ("NoValue", false), ("NoWish", false), ("NoMachine", true), ("NoUpdates", false), ("NoSpare", false), ("NoWord", false)]
def tab_NoUpdates : List (Str × Bool) := [("RegsError", false), ("NoPattern", false), ("NoText", false), ("NoControl", false), ("NoNumber", false), ("TooMany", false), ("NoState", false), ("NoValue", false), ("NoWish", false), ("NoMachine", false), ("NoUpdates", true), ("NoSpare", false), ("NoWord", false)]
def tab_NoSpare : List (Str × Bool) := [("RegsError", false), ("NoPattern", false), ("NoText", false), ("NoControl", false), ("NoNumber", false), ("TooMany", false), ("NoState", false), ("NoValue", false), ("NoWish", false), ("NoMachine", false), ("NoUpdates", false), ("NoSpare", true), ("NoWord", false)]
def tab_NoWord : List (Str × Bool) := [("RegsError", false), ("NoPattern", false), ("NoText", false), ("NoControl", false), ("NoNumber", false), ("TooMany", false), ("NoState", false), ("NoValue", false), ("NoWish", false), ("NoMachine", false), ("NoUpdates", false), ("NoSpare", false), ("NoWord", true)]
def tab_ValueError : List (Str × Bool) := [("RegsError", true), ("NoPattern", true), ("NoText", true), ("NoControl", true), ("NoNumber", true), ("TooMany", true), ("NoState", true), ("NoValue", true), ("NoWish", true), ("NoMachine", true), ("NoUpdates", true), ("NoSpare", true), ("NoWord", true)]
def tab_NoText_NoUpdates_NoWord : List (Str × Bool) := [("RegsError", false), ("NoPattern", false), ("NoText", true), ("NoControl", false), ("NoNumber", false), ("TooMany", false), ("NoState", false), ("NoValue", false), ("NoWish", false), ("NoMachine", false), ("NoUpdates", true), ("NoSpare", false), ("NoWord", true)]
def spIni1 (C f : Str) : SpD := fun ds h Q _ => ∃ n v, ds = [.ref n, v] ∧ h[n]? = some (.exo C none) ∧ Q .non ((h ++ [O.exd [(f, v)]]).set n (.exo C (some h.length)))
theorem mono_ini1 (C f : Str) : MonoSp (spIni1 C f) := fun ds h Q Q' E E' hq he ⟨n, v, a, b, q⟩ => ⟨n, v, a, b, hq _ _ q⟩
abbrev sp_NoTextDD_initDD : SpD := spIni1 "NoText" "at"
abbrev sp_TooManyDD_initDD : SpD := spIni1 "TooMany" "most"
abbrev sp_NoStateDD_initDD : SpD := spIni1 "NoState" "state"
abbrev sp_NoValueDD_initDD : SpD := spIni1 "NoValue" "value"
abbrev sp_NoMachineDD_initDD : SpD := spIni1 "NoMachine" "why"
abbrev sp_NoUpdatesDD_initDD : SpD := spIni1 "NoUpdates" "at"
abbrev sp_NoSpareDD_initDD : SpD := spIni1 "NoSpare" "spare"
abbrev sp_NoWordDD_initDD : SpD := spIni1 "NoWord" "at"
def sp_NoPatternDD_initDD : SpD := fun ds h Q _ => ∃ n a b, ds = [.ref n, a, b] ∧ h[n]? = some (.exo "NoPattern" none) ∧ Q .non (((h ++ [O.exd [("at", a)]]).set n (.exo "NoPattern" (some h.length))).set h.length (.exd [("why", b), ("at", a)]))
theorem mono_nop : MonoSp sp_NoPatternDD_initDD := fun ds h Q Q' E E' hq he ⟨n, v, w, a, b, q⟩ => ⟨n, v, w, a, b, hq _ _ q⟩
def madeL (n : Nat) : List D := [.tup [.ref (n + 0), .ref (n + 2)], .tup [.ref (n + 3), .ref (n + 5)], .tup [.ref (n + 6), .ref (n + 7)], .tup [.ref (n + 8), .ref (n + 9)], .tup [.ref (n + 11), .ref (n + 13)], .tup [.ref (n + 14), .ref (n + 16)], .tup [.ref (n + 17), .ref (n + 19)], .tup [.ref (n + 20), .ref (n + 21)], .tup [.ref (n + 24), .ref (n + 26)], .tup [.ref (n + 27), .ref (n + 29)], .tup [.ref (n + 30), .ref (n + 32)], .tup [.ref (n + 35), .ref (n + 37)]]
def madeG (n : Nat) (v : D) : List O := [.exo "NoPattern" (some (n + 1)), .exd [("why", .str "why"), ("at", v)], .lst [v, .str "why"], .exo "NoText" (some (n + 4)), .exd [("at", v)], .lst [v], .exo "NoControl" none, .lst [], .exo "NoNumber" none, .lst [], .lst [.tup [.ref (n + 0), .ref (n + 2)], .tup [.ref (n + 3), .ref (n + 5)], .tup [.ref (n + 6), .ref (n + 7)], .tup [.ref (n + 8), .ref (n + 9)]], .exo "TooMany" (some (n + 12)), .exd [("most", v)], .lst [v], .exo "NoState" (some (n + 15)), .exd [("state", v)], .lst [v], .exo "NoValue" (some (n + 18)), .exd [("value", v)], .lst [v], .exo "NoWish" none, .lst [], .lst [.tup [.ref (n + 11), .ref (n + 13)], .tup [.ref (n + 14), .ref (n + 16)], .tup [.ref (n + 17), .ref (n + 19)], .tup [.ref (n + 20), .ref (n + 21)]], .lst [.tup [.ref (n + 0), .ref (n + 2)], .tup [.ref (n + 3), .ref (n + 5)], .tup [.ref (n + 6), .ref (n + 7)], .tup [.ref (n + 8), .ref (n + 9)], .tup [.ref (n + 11), .ref (n + 13)], .tup [.ref (n + 14), .ref (n + 16)], .tup [.ref (n + 17), .ref (n + 19)], .tup [.ref (n + 20), .ref (n + 21)]], .exo "NoMachine" (some (n + 25)), .exd [("why", v)], .lst [v], .exo "NoUpdates" (some (n + 28)), .exd [("at", v)], .lst [v], .exo "NoSpare" (some (n + 31)), .exd [("spare", v)], .lst [v], .lst [.tup [.ref (n + 24), .ref (n + 26)], .tup [.ref (n + 27), .ref (n + 29)], .tup [.ref (n + 30), .ref (n + 32)]], .lst (madeL n), .exo "NoWord" (some (n + 36)), .exd [("at", v)], .lst [v]]
def sp__law_made : SpD := fun ds h Q _ => ∃ v, ds = [v] ∧ Q (.ref (h.length + 34)) (h ++ madeG h.length v)
theorem mono_made : MonoSp sp__law_made := fun ds h Q Q' E E' hq he ⟨v, a, q⟩ => ⟨v, a, hq _ _ q⟩
def names12 : List Str := ["NoPattern", "NoText", "NoControl", "NoNumber", "TooMany", "NoState", "NoValue", "NoWish", "NoMachine", "NoUpdates", "NoSpare", "NoWord"]
def marks (C : Str) : List D := names12.map fun c => .bl (c == C)
def marksG (C : Str) : List O := [.lst ((marks C).take 3), .lst (((marks C).drop 3).take 3), .lst ((marks C).take 6), .lst (((marks C).drop 6).take 3), .lst ((marks C).take 9), .lst ((marks C).drop 9), .lst (marks C)]
def sp__law_marks_of : SpD := fun ds h Q _ => ∃ n C m, ds = [.ref n] ∧ h[n]? = some (.exo C m) ∧ C ∈ ("RegsError" : Str) :: names12 ∧ Q (.ref (h.length + 6)) (h ++ marksG C)
theorem mono_marks : MonoSp sp__law_marks_of := fun ds h Q Q' E E' hq he ⟨n, C, m, a, b, c, q⟩ => ⟨n, C, m, a, b, c, hq _ _ q⟩
def flds : List (Str × Str) := [("NoText", "at"), ("TooMany", "most"), ("NoState", "state"), ("NoValue", "value"), ("NoMachine", "why"), ("NoUpdates", "at"), ("NoSpare", "spare"), ("NoWord", "at")]
def PartsOf (h : Hh) (n : Nat) (ps : List D) : Prop := (∃ a b m, h[n]? = some (.exo "NoPattern" (some m)) ∧ h[m]? = some (.exd [("why", b), ("at", a)]) ∧ ps = [a, b]) ∨ (∃ p v m, p ∈ flds ∧ h[n]? = some (.exo p.1 (some m)) ∧ h[m]? = some (.exd [(p.2, v)]) ∧ ps = [v]) ∨
  (∃ C, C ∈ (["NoControl", "NoNumber", "NoWish"] : List Str) ∧ h[n]? = some (.exo C none) ∧ ps = [])
def sp__law_parts : SpD := fun ds h Q _ => ∃ n ps, ds = [.ref n] ∧ PartsOf h n ps ∧ Q (.ref h.length) (h ++ [.lst ps])
theorem mono_parts : MonoSp sp__law_parts := fun ds h Q Q' E E' hq he ⟨n, ps, a, b, q⟩ => ⟨n, ps, a, b, hq _ _ q⟩
def sp_law : SpD := fun ds h Q _ => ∃ (ns : List Int), ds = [.ref 0] ∧ h = [.rol (ns.map .int)] ∧ ns.length ≤ 63 ∧ ∀ h', Q (.bl true) h'
theorem mono_law : MonoSp sp_law := fun ds h Q Q' E E' hq he ⟨ns, a, b, c, q⟩ => ⟨ns, a, b, c, fun h' => hq _ _ (q h')⟩
def w_NoPatternDD_initDD : WS := wSeq (wExpr (wXIni "NoPattern" (wCons (wVar 0) (wCons (wC (.str "an object that is no tree")) (wNil))))) (wSeq (wSetX "NoPattern" "at" (wVar 0) (wVar 1)) (wSetX "NoPattern" "why" (wVar 0) (wVar 2)))
def w_NoTextDD_initDD : WS := wSeq (wExpr (wXIni "NoText" (wCons (wVar 0) (wCons (wC (.str "an object that is no text of these letters or of this form")) (wNil))))) (wSetX "NoText" "at" (wVar 0) (wVar 1))
def w_TooManyDD_initDD : WS := wSeq (wExpr (wXIni "TooMany" (wCons (wVar 0) (wCons (wC (.str "a control with more states than this")) (wNil))))) (wSetX "TooMany" "most" (wVar 0) (wVar 1))
def w_NoStateDD_initDD : WS := wSeq (wExpr (wXIni "NoState" (wCons (wVar 0) (wCons (wC (.str "an object that is no number")) (wNil))))) (wSetX "NoState" "state" (wVar 0) (wVar 1))
def w_NoValueDD_initDD : WS := wSeq (wExpr (wXIni "NoValue" (wCons (wVar 0) (wCons (wC (.str "an object that is no value")) (wNil))))) (wSetX "NoValue" "value" (wVar 0) (wVar 1))
def w_NoMachineDD_initDD : WS := wSeq (wExpr (wXIni "NoMachine" (wCons (wVar 0) (wCons (wC (.str "an object that is no machine")) (wNil))))) (wSetX "NoMachine" "why" (wVar 0) (wVar 1))
def w_NoUpdatesDD_initDD : WS := wSeq (wExpr (wXIni "NoUpdates" (wCons (wVar 0) (wCons (wC (.str "an object that is no row of updates of distinct registers")) (wNil))))) (wSetX "NoUpdates" "at" (wVar 0) (wVar 1))
def w_NoSpareDD_initDD : WS := wSeq (wExpr (wXIni "NoSpare" (wCons (wVar 0) (wCons (wC (.str "an object that is no register beside those of some updates")) (wNil))))) (wSetX "NoSpare" "spare" (wVar 0) (wVar 1))
def w_NoWordDD_initDD : WS := wSeq (wExpr (wXIni "NoWord" (wCons (wVar 0) (wCons (wC (.str "an object that is no row of texts with powers")) (wNil))))) (wSetX "NoWord" "at" (wVar 0) (wVar 1))
def w__law_made : WS := wSeq (wAsg (.nm 1) (wLst (wCons (wTup (wCons (wMkX "NoPattern" sp_NoPatternDD_initDD (wCons (wVar 0) (wCons (wC (.str "why")) (wNil)))) (wCons (wLst (wCons (wVar 0) (wCons (wC (.str "why")) (wNil)))) (wNil)))) (wCons (wTup (wCons (wMkX "NoText" sp_NoTextDD_initDD (wCons (wVar 0) (wNil))) (wCons (wLst (wCons (wVar 0) (wNil))) (wNil)))) (wCons (wTup (wCons (wMkX0 "NoControl") (wCons (wLst (wNil)) (wNil)))) (wCons (wTup (wCons (wMkX0 "NoNumber") (wCons (wLst (wNil)) (wNil)))) (wNil))))))) (wSeq (wAsg (.nm 1) (wOp gAdd (wVar 1) (wLst (wCons (wTup (wCons (wMkX "TooMany" sp_TooManyDD_initDD (wCons (wVar 0) (wNil))) (wCons (wLst (wCons (wVar 0) (wNil))) (wNil)))) (wCons (wTup (wCons (wMkX "NoState" sp_NoStateDD_initDD (wCons (wVar 0) (wNil))) (wCons (wLst (wCons (wVar 0) (wNil))) (wNil)))) (wCons (wTup (wCons (wMkX "NoValue" sp_NoValueDD_initDD (wCons (wVar 0) (wNil))) (wCons (wLst (wCons (wVar 0) (wNil))) (wNil)))) (wCons (wTup (wCons (wMkX0 "NoWish") (wCons (wLst (wNil)) (wNil)))) (wNil)))))))) (wSeq (wAsg (.nm 1) (wOp gAdd (wVar 1) (wLst (wCons (wTup (wCons (wMkX "NoMachine" sp_NoMachineDD_initDD (wCons (wVar 0) (wNil))) (wCons (wLst (wCons (wVar 0) (wNil))) (wNil)))) (wCons (wTup (wCons (wMkX "NoUpdates" sp_NoUpdatesDD_initDD (wCons (wVar 0) (wNil))) (wCons (wLst (wCons (wVar 0) (wNil))) (wNil)))) (wCons (wTup (wCons (wMkX "NoSpare" sp_NoSpareDD_initDD (wCons (wVar 0) (wNil))) (wCons (wLst (wCons (wVar 0) (wNil))) (wNil)))) (wNil))))))) (wSeq (wExpr (wMt "list" gAppend (wVar 1) (wCons (wTup (wCons (wMkX "NoWord" sp_NoWordDD_initDD (wCons (wVar 0) (wNil))) (wCons (wLst (wCons (wVar 0) (wNil))) (wNil)))) (wNil)))) (wRet (wVar 1)))))
def w__law_marks_of : WS := wSeq (wAsg (.nm 1) (wLst (wCons (wUn (kIsX tab_NoPattern) (wVar 0)) (wCons (wUn (kIsX tab_NoText) (wVar 0)) (wCons (wUn (kIsX tab_NoControl) (wVar 0)) (wNil)))))) (wSeq (wAsg (.nm 1) (wOp gAdd (wVar 1) (wLst (wCons (wUn (kIsX tab_NoNumber) (wVar 0)) (wCons (wUn (kIsX tab_TooMany) (wVar 0)) (wCons (wUn (kIsX tab_NoState) (wVar 0)) (wNil))))))) (wSeq (wAsg (.nm 1) (wOp gAdd (wVar 1) (wLst (wCons (wUn (kIsX tab_NoValue) (wVar 0)) (wCons (wUn (kIsX tab_NoWish) (wVar 0)) (wCons (wUn (kIsX tab_NoMachine) (wVar 0)) (wNil))))))) (wRet (wOp gAdd (wVar 1) (wLst (wCons (wUn (kIsX tab_NoUpdates) (wVar 0)) (wCons (wUn (kIsX tab_NoSpare) (wVar 0)) (wCons (wUn (kIsX tab_NoWord) (wVar 0)) (wNil)))))))))
def w__law_parts : WS := wSeq (wIf (wTru (wUn (kIsX tab_NoPattern) (wVar 0))) (wRet (wLst (wCons (wUn (kXf "at" ["NoPattern", "NoText", "NoUpdates", "NoWord"]) (wVar 0)) (wCons (wUn (kXf "why" ["NoPattern", "NoMachine"]) (wVar 0)) (wNil))))) (wNext)) (wSeq (wIf (wTru (wUn (kIsX tab_NoText_NoUpdates_NoWord) (wVar 0))) (wRet (wLst (wCons (wUn (kXf "at" ["NoPattern", "NoText", "NoUpdates", "NoWord"]) (wVar 0)) (wNil)))) (wNext)) (wSeq (wIf (wTru (wUn (kIsX tab_TooMany) (wVar 0))) (wRet (wLst (wCons (wUn (kXf "most" ["TooMany"]) (wVar 0)) (wNil)))) (wNext)) (wSeq (wIf (wTru (wUn (kIsX tab_NoState) (wVar 0))) (wRet (wLst (wCons (wUn (kXf "state" ["NoState"]) (wVar 0)) (wNil)))) (wNext)) (wSeq (wIf (wTru (wUn (kIsX tab_NoValue) (wVar 0))) (wRet (wLst (wCons (wUn (kXf "value" ["NoValue"]) (wVar 0)) (wNil)))) (wNext)) (wSeq (wIf (wTru (wUn (kIsX tab_NoMachine) (wVar 0))) (wRet (wLst (wCons (wUn (kXf "why" ["NoPattern", "NoMachine"]) (wVar 0)) (wNil)))) (wNext)) (wRet (wIfE (wTru (wUn (kIsX tab_NoSpare) (wVar 0))) (wLst (wCons (wUn (kXf "spare" ["NoSpare"]) (wVar 0)) (wNil))) (wLst (wNil)))))))))
def w_law1 : WS := wSeq (wIf (wOr (wNot (wTru (wUn (kIsX tab_RegsError) (wVar 5)))) (wNot (wTru (wUn (kIsX tab_ValueError) (wVar 5))))) (wRet (wC (.bl false))) (wNext)) (wIf (wOr (wB (wOp gNe (wCall sp__law_marks_of (wCons (wVar 5) (wNil))) (wLc (wiRg1 (wCons (wC (.int 12)) (wNil))) [7] (.nm 7) (wYes) (wOp gEq (wVar 7) (wVar 3))))) (wB (wOp gNe (wCall sp__law_parts (wCons (wVar 5) (wNil))) (wVar 6)))) (wRet (wC (.bl false))) (wNext))
def w_law2 : WS := wFor (wiEnum (wCons (wCall sp__law_made (wCons (wVar 2) (wNil))) (wNil))) (.tp [.nm 3, .tp [.nm 5, .nm 6]]) (w_law1)
def w_law : WS := wSeq (wAsg (.nm 1) (wMkX0 "RegsError")) (wSeq (wIf (wOr (wNot (wTru (wUn (kIsX tab_ValueError) (wVar 1)))) (wB (wOp gIn (wC (.bl true)) (wCall sp__law_marks_of (wCons (wVar 1) (wNil)))))) (wRet (wC (.bl false))) (wNext)) (wSeq (wFor (wiList (wOp gAdd (wLst (wCons (wC (.str "why")) (wCons (wC (.int 5)) (wCons (wC .non) (wCons (wTup (wCons (wC (.int 1)) (wCons (wC (.int 2)) (wNil)))) (wCons (wLst (wCons (wC (.int 1)) (wCons (wC (.int 2)) (wNil)))) (wCons (wOp gPow (wC (.int 10)) (wC (.int 20))) (wNil)))))))) (wLc (wiList (wSl (wVar 0) (wNoPart) (wPart (wC (.int 3))))) [4] (.nm 4) (wYes) (wOp gMod (wCa gInt (wCons (wVar 4) (wNil))) (wOp gPow (wC (.int 10)) (wC (.int 30))))))) (.nm 2) (w_law2)) (wRet (wC (.bl true)))))
abbrev st_NoPatternDD_initDD : Stmt := inClass (topS 2) 0
theorem sc_NoPatternDD_initDD : FnScope ["self", "at", "why"] ["self", "at", "why"] (defScope st_NoPatternDD_initDD) := ⟨rfl, rfl, rfl, by decide +kernel, rfl, by decide +kernel, by decide +kernel⟩
theorem d_NoPatternDD_initDD {P : Program} {w : World} {K : PySem.W.Frag} {mg : Str → Option Value} {base : Heap} {f : Addr} (xc_NoPattern : GXC K mg "NoPattern") (xf_NoPattern_at : GXF K mg "NoPattern" "at") (xf_NoPattern_why : GXF K mg "NoPattern" "why") (xi_RegsError : GXI K mg "RegsError") (cdv : Value) (A : Around) (outer : List Env) (s : Shared) (H : Hp) (E : XK) (hr : Room 0 (cxOf (L2.CX P w) P w K mg base ["self", "at", "why"] "NoPattern.__init__" (defScope st_NoPatternDD_initDD) f cdv A outer s H E).A) (tk : Takes (cxOf (L2.CX P w) P w K mg base ["self", "at", "why"] "NoPattern.__init__" (defScope st_NoPatternDD_initDD) f cdv A outer s H E) (nS E)) (hp : PassesOwn (model P w) (cxOf (L2.CX P w) P w K mg base ["self", "at", "why"] "NoPattern.__init__" (defScope st_NoPatternDD_initDD) f cdv A outer s H E).A (cxOf (L2.CX P w) P w K mg base ["self", "at", "why"] "NoPattern.__init__" (defScope st_NoPatternDD_initDD) f cdv A outer s H E).env (cxOf (L2.CX P w) P w K mg base ["self", "at", "why"] "NoPattern.__init__" (defScope st_NoPatternDD_initDD) f cdv A outer s H E).xe) :
    DSs (cxOf (L2.CX P w) P w K mg base ["self", "at", "why"] "NoPattern.__init__" (defScope st_NoPatternDD_initDD) f cdv A outer s H E) (nS E) (defBody st_NoPatternDD_initDD) (w_NoPatternDD_initDD) := by
  have nd := sc_NoPatternDD_initDD.nd
  exact dss_cons (ds_expr (de_xini xi_RegsError xc_NoPattern (da_cons (de_var 0) (da_cons (de_str) (da_nil))))) (dss_cons (ds_xfld xf_NoPattern_at (de_var 0) (de_var 1)) (dss_one (ds_xfld xf_NoPattern_why (de_var 0) (de_var 2))))
abbrev st_NoTextDD_initDD : Stmt := inClass (topS 3) 0
theorem sc_NoTextDD_initDD : FnScope ["self", "at"] ["self", "at"] (defScope st_NoTextDD_initDD) := ⟨rfl, rfl, rfl, by decide +kernel, rfl, by decide +kernel, by decide +kernel⟩
theorem d_NoTextDD_initDD {P : Program} {w : World} {K : PySem.W.Frag} {mg : Str → Option Value} {base : Heap} {f : Addr} (xc_NoText : GXC K mg "NoText") (xf_NoText_at : GXF K mg "NoText" "at") (xi_RegsError : GXI K mg "RegsError") (cdv : Value) (A : Around) (outer : List Env) (s : Shared) (H : Hp) (E : XK) (hr : Room 0 (cxOf (L2.CX P w) P w K mg base ["self", "at"] "NoText.__init__" (defScope st_NoTextDD_initDD) f cdv A outer s H E).A) (tk : Takes (cxOf (L2.CX P w) P w K mg base ["self", "at"] "NoText.__init__" (defScope st_NoTextDD_initDD) f cdv A outer s H E) (nS E)) (hp : PassesOwn (model P w) (cxOf (L2.CX P w) P w K mg base ["self", "at"] "NoText.__init__" (defScope st_NoTextDD_initDD) f cdv A outer s H E).A (cxOf (L2.CX P w) P w K mg base ["self", "at"] "NoText.__init__" (defScope st_NoTextDD_initDD) f cdv A outer s H E).env (cxOf (L2.CX P w) P w K mg base ["self", "at"] "NoText.__init__" (defScope st_NoTextDD_initDD) f cdv A outer s H E).xe) :
    DSs (cxOf (L2.CX P w) P w K mg base ["self", "at"] "NoText.__init__" (defScope st_NoTextDD_initDD) f cdv A outer s H E) (nS E) (defBody st_NoTextDD_initDD) (w_NoTextDD_initDD) := by
  have nd := sc_NoTextDD_initDD.nd
  exact dss_cons (ds_expr (de_xini xi_RegsError xc_NoText (da_cons (de_var 0) (da_cons (de_str) (da_nil))))) (dss_one (ds_xfld xf_NoText_at (de_var 0) (de_var 1)))
abbrev st_TooManyDD_initDD : Stmt := inClass (topS 6) 0
theorem sc_TooManyDD_initDD : FnScope ["self", "most"] ["self", "most"] (defScope st_TooManyDD_initDD) := ⟨rfl, rfl, rfl, by decide +kernel, rfl, by decide +kernel, by decide +kernel⟩
theorem d_TooManyDD_initDD {P : Program} {w : World} {K : PySem.W.Frag} {mg : Str → Option Value} {base : Heap} {f : Addr} (xc_TooMany : GXC K mg "TooMany") (xf_TooMany_most : GXF K mg "TooMany" "most") (xi_RegsError : GXI K mg "RegsError") (cdv : Value) (A : Around) (outer : List Env) (s : Shared) (H : Hp) (E : XK) (hr : Room 0 (cxOf (L2.CX P w) P w K mg base ["self", "most"] "TooMany.__init__" (defScope st_TooManyDD_initDD) f cdv A outer s H E).A) (tk : Takes (cxOf (L2.CX P w) P w K mg base ["self", "most"] "TooMany.__init__" (defScope st_TooManyDD_initDD) f cdv A outer s H E) (nS E)) (hp : PassesOwn (model P w) (cxOf (L2.CX P w) P w K mg base ["self", "most"] "TooMany.__init__" (defScope st_TooManyDD_initDD) f cdv A outer s H E).A (cxOf (L2.CX P w) P w K mg base ["self", "most"] "TooMany.__init__" (defScope st_TooManyDD_initDD) f cdv A outer s H E).env (cxOf (L2.CX P w) P w K mg base ["self", "most"] "TooMany.__init__" (defScope st_TooManyDD_initDD) f cdv A outer s H E).xe) :
    DSs (cxOf (L2.CX P w) P w K mg base ["self", "most"] "TooMany.__init__" (defScope st_TooManyDD_initDD) f cdv A outer s H E) (nS E) (defBody st_TooManyDD_initDD) (w_TooManyDD_initDD) := by
  have nd := sc_TooManyDD_initDD.nd
  exact dss_cons (ds_expr (de_xini xi_RegsError xc_TooMany (da_cons (de_var 0) (da_cons (de_str) (da_nil))))) (dss_one (ds_xfld xf_TooMany_most (de_var 0) (de_var 1)))
abbrev st_NoStateDD_initDD : Stmt := inClass (topS 7) 0
theorem sc_NoStateDD_initDD : FnScope ["self", "state"] ["self", "state"] (defScope st_NoStateDD_initDD) := ⟨rfl, rfl, rfl, by decide +kernel, rfl, by decide +kernel, by decide +kernel⟩
theorem d_NoStateDD_initDD {P : Program} {w : World} {K : PySem.W.Frag} {mg : Str → Option Value} {base : Heap} {f : Addr} (xc_NoState : GXC K mg "NoState") (xf_NoState_state : GXF K mg "NoState" "state") (xi_RegsError : GXI K mg "RegsError") (cdv : Value) (A : Around) (outer : List Env) (s : Shared) (H : Hp) (E : XK) (hr : Room 0 (cxOf (L2.CX P w) P w K mg base ["self", "state"] "NoState.__init__" (defScope st_NoStateDD_initDD) f cdv A outer s H E).A) (tk : Takes (cxOf (L2.CX P w) P w K mg base ["self", "state"] "NoState.__init__" (defScope st_NoStateDD_initDD) f cdv A outer s H E) (nS E)) (hp : PassesOwn (model P w) (cxOf (L2.CX P w) P w K mg base ["self", "state"] "NoState.__init__" (defScope st_NoStateDD_initDD) f cdv A outer s H E).A (cxOf (L2.CX P w) P w K mg base ["self", "state"] "NoState.__init__" (defScope st_NoStateDD_initDD) f cdv A outer s H E).env (cxOf (L2.CX P w) P w K mg base ["self", "state"] "NoState.__init__" (defScope st_NoStateDD_initDD) f cdv A outer s H E).xe) :
    DSs (cxOf (L2.CX P w) P w K mg base ["self", "state"] "NoState.__init__" (defScope st_NoStateDD_initDD) f cdv A outer s H E) (nS E) (defBody st_NoStateDD_initDD) (w_NoStateDD_initDD) := by
  have nd := sc_NoStateDD_initDD.nd
  exact dss_cons (ds_expr (de_xini xi_RegsError xc_NoState (da_cons (de_var 0) (da_cons (de_str) (da_nil))))) (dss_one (ds_xfld xf_NoState_state (de_var 0) (de_var 1)))
abbrev st_NoValueDD_initDD : Stmt := inClass (topS 8) 0
theorem sc_NoValueDD_initDD : FnScope ["self", "value"] ["self", "value"] (defScope st_NoValueDD_initDD) := ⟨rfl, rfl, rfl, by decide +kernel, rfl, by decide +kernel, by decide +kernel⟩
theorem d_NoValueDD_initDD {P : Program} {w : World} {K : PySem.W.Frag} {mg : Str → Option Value} {base : Heap} {f : Addr} (xc_NoValue : GXC K mg "NoValue") (xf_NoValue_value : GXF K mg "NoValue" "value") (xi_RegsError : GXI K mg "RegsError") (cdv : Value) (A : Around) (outer : List Env) (s : Shared) (H : Hp) (E : XK) (hr : Room 0 (cxOf (L2.CX P w) P w K mg base ["self", "value"] "NoValue.__init__" (defScope st_NoValueDD_initDD) f cdv A outer s H E).A) (tk : Takes (cxOf (L2.CX P w) P w K mg base ["self", "value"] "NoValue.__init__" (defScope st_NoValueDD_initDD) f cdv A outer s H E) (nS E)) (hp : PassesOwn (model P w) (cxOf (L2.CX P w) P w K mg base ["self", "value"] "NoValue.__init__" (defScope st_NoValueDD_initDD) f cdv A outer s H E).A (cxOf (L2.CX P w) P w K mg base ["self", "value"] "NoValue.__init__" (defScope st_NoValueDD_initDD) f cdv A outer s H E).env (cxOf (L2.CX P w) P w K mg base ["self", "value"] "NoValue.__init__" (defScope st_NoValueDD_initDD) f cdv A outer s H E).xe) :
    DSs (cxOf (L2.CX P w) P w K mg base ["self", "value"] "NoValue.__init__" (defScope st_NoValueDD_initDD) f cdv A outer s H E) (nS E) (defBody st_NoValueDD_initDD) (w_NoValueDD_initDD) := by
  have nd := sc_NoValueDD_initDD.nd
  exact dss_cons (ds_expr (de_xini xi_RegsError xc_NoValue (da_cons (de_var 0) (da_cons (de_str) (da_nil))))) (dss_one (ds_xfld xf_NoValue_value (de_var 0) (de_var 1)))
abbrev st_NoMachineDD_initDD : Stmt := inClass (topS 10) 0
theorem sc_NoMachineDD_initDD : FnScope ["self", "why"] ["self", "why"] (defScope st_NoMachineDD_initDD) := ⟨rfl, rfl, rfl, by decide +kernel, rfl, by decide +kernel, by decide +kernel⟩
theorem d_NoMachineDD_initDD {P : Program} {w : World} {K : PySem.W.Frag} {mg : Str → Option Value} {base : Heap} {f : Addr} (xc_NoMachine : GXC K mg "NoMachine") (xf_NoMachine_why : GXF K mg "NoMachine" "why") (xi_RegsError : GXI K mg "RegsError") (cdv : Value) (A : Around) (outer : List Env) (s : Shared) (H : Hp) (E : XK) (hr : Room 0 (cxOf (L2.CX P w) P w K mg base ["self", "why"] "NoMachine.__init__" (defScope st_NoMachineDD_initDD) f cdv A outer s H E).A) (tk : Takes (cxOf (L2.CX P w) P w K mg base ["self", "why"] "NoMachine.__init__" (defScope st_NoMachineDD_initDD) f cdv A outer s H E) (nS E)) (hp : PassesOwn (model P w) (cxOf (L2.CX P w) P w K mg base ["self", "why"] "NoMachine.__init__" (defScope st_NoMachineDD_initDD) f cdv A outer s H E).A (cxOf (L2.CX P w) P w K mg base ["self", "why"] "NoMachine.__init__" (defScope st_NoMachineDD_initDD) f cdv A outer s H E).env (cxOf (L2.CX P w) P w K mg base ["self", "why"] "NoMachine.__init__" (defScope st_NoMachineDD_initDD) f cdv A outer s H E).xe) :
    DSs (cxOf (L2.CX P w) P w K mg base ["self", "why"] "NoMachine.__init__" (defScope st_NoMachineDD_initDD) f cdv A outer s H E) (nS E) (defBody st_NoMachineDD_initDD) (w_NoMachineDD_initDD) := by
  have nd := sc_NoMachineDD_initDD.nd
  exact dss_cons (ds_expr (de_xini xi_RegsError xc_NoMachine (da_cons (de_var 0) (da_cons (de_str) (da_nil))))) (dss_one (ds_xfld xf_NoMachine_why (de_var 0) (de_var 1)))
abbrev st_NoUpdatesDD_initDD : Stmt := inClass (topS 11) 0
theorem sc_NoUpdatesDD_initDD : FnScope ["self", "at"] ["self", "at"] (defScope st_NoUpdatesDD_initDD) := ⟨rfl, rfl, rfl, by decide +kernel, rfl, by decide +kernel, by decide +kernel⟩
theorem d_NoUpdatesDD_initDD {P : Program} {w : World} {K : PySem.W.Frag} {mg : Str → Option Value} {base : Heap} {f : Addr} (xc_NoUpdates : GXC K mg "NoUpdates") (xf_NoUpdates_at : GXF K mg "NoUpdates" "at") (xi_RegsError : GXI K mg "RegsError") (cdv : Value) (A : Around) (outer : List Env) (s : Shared) (H : Hp) (E : XK) (hr : Room 0 (cxOf (L2.CX P w) P w K mg base ["self", "at"] "NoUpdates.__init__" (defScope st_NoUpdatesDD_initDD) f cdv A outer s H E).A) (tk : Takes (cxOf (L2.CX P w) P w K mg base ["self", "at"] "NoUpdates.__init__" (defScope st_NoUpdatesDD_initDD) f cdv A outer s H E) (nS E)) (hp : PassesOwn (model P w) (cxOf (L2.CX P w) P w K mg base ["self", "at"] "NoUpdates.__init__" (defScope st_NoUpdatesDD_initDD) f cdv A outer s H E).A (cxOf (L2.CX P w) P w K mg base ["self", "at"] "NoUpdates.__init__" (defScope st_NoUpdatesDD_initDD) f cdv A outer s H E).env (cxOf (L2.CX P w) P w K mg base ["self", "at"] "NoUpdates.__init__" (defScope st_NoUpdatesDD_initDD) f cdv A outer s H E).xe) :
    DSs (cxOf (L2.CX P w) P w K mg base ["self", "at"] "NoUpdates.__init__" (defScope st_NoUpdatesDD_initDD) f cdv A outer s H E) (nS E) (defBody st_NoUpdatesDD_initDD) (w_NoUpdatesDD_initDD) := by
  have nd := sc_NoUpdatesDD_initDD.nd
  exact dss_cons (ds_expr (de_xini xi_RegsError xc_NoUpdates (da_cons (de_var 0) (da_cons (de_str) (da_nil))))) (dss_one (ds_xfld xf_NoUpdates_at (de_var 0) (de_var 1)))
abbrev st_NoSpareDD_initDD : Stmt := inClass (topS 12) 0
theorem sc_NoSpareDD_initDD : FnScope ["self", "spare"] ["self", "spare"] (defScope st_NoSpareDD_initDD) := ⟨rfl, rfl, rfl, by decide +kernel, rfl, by decide +kernel, by decide +kernel⟩
theorem d_NoSpareDD_initDD {P : Program} {w : World} {K : PySem.W.Frag} {mg : Str → Option Value} {base : Heap} {f : Addr} (xc_NoSpare : GXC K mg "NoSpare") (xf_NoSpare_spare : GXF K mg "NoSpare" "spare") (xi_RegsError : GXI K mg "RegsError") (cdv : Value) (A : Around) (outer : List Env) (s : Shared) (H : Hp) (E : XK) (hr : Room 0 (cxOf (L2.CX P w) P w K mg base ["self", "spare"] "NoSpare.__init__" (defScope st_NoSpareDD_initDD) f cdv A outer s H E).A) (tk : Takes (cxOf (L2.CX P w) P w K mg base ["self", "spare"] "NoSpare.__init__" (defScope st_NoSpareDD_initDD) f cdv A outer s H E) (nS E)) (hp : PassesOwn (model P w) (cxOf (L2.CX P w) P w K mg base ["self", "spare"] "NoSpare.__init__" (defScope st_NoSpareDD_initDD) f cdv A outer s H E).A (cxOf (L2.CX P w) P w K mg base ["self", "spare"] "NoSpare.__init__" (defScope st_NoSpareDD_initDD) f cdv A outer s H E).env (cxOf (L2.CX P w) P w K mg base ["self", "spare"] "NoSpare.__init__" (defScope st_NoSpareDD_initDD) f cdv A outer s H E).xe) :
    DSs (cxOf (L2.CX P w) P w K mg base ["self", "spare"] "NoSpare.__init__" (defScope st_NoSpareDD_initDD) f cdv A outer s H E) (nS E) (defBody st_NoSpareDD_initDD) (w_NoSpareDD_initDD) := by
  have nd := sc_NoSpareDD_initDD.nd
  exact dss_cons (ds_expr (de_xini xi_RegsError xc_NoSpare (da_cons (de_var 0) (da_cons (de_str) (da_nil))))) (dss_one (ds_xfld xf_NoSpare_spare (de_var 0) (de_var 1)))
abbrev st_NoWordDD_initDD : Stmt := inClass (topS 13) 0
theorem sc_NoWordDD_initDD : FnScope ["self", "at"] ["self", "at"] (defScope st_NoWordDD_initDD) := ⟨rfl, rfl, rfl, by decide +kernel, rfl, by decide +kernel, by decide +kernel⟩
theorem d_NoWordDD_initDD {P : Program} {w : World} {K : PySem.W.Frag} {mg : Str → Option Value} {base : Heap} {f : Addr} (xc_NoWord : GXC K mg "NoWord") (xf_NoWord_at : GXF K mg "NoWord" "at") (xi_RegsError : GXI K mg "RegsError") (cdv : Value) (A : Around) (outer : List Env) (s : Shared) (H : Hp) (E : XK) (hr : Room 0 (cxOf (L2.CX P w) P w K mg base ["self", "at"] "NoWord.__init__" (defScope st_NoWordDD_initDD) f cdv A outer s H E).A) (tk : Takes (cxOf (L2.CX P w) P w K mg base ["self", "at"] "NoWord.__init__" (defScope st_NoWordDD_initDD) f cdv A outer s H E) (nS E)) (hp : PassesOwn (model P w) (cxOf (L2.CX P w) P w K mg base ["self", "at"] "NoWord.__init__" (defScope st_NoWordDD_initDD) f cdv A outer s H E).A (cxOf (L2.CX P w) P w K mg base ["self", "at"] "NoWord.__init__" (defScope st_NoWordDD_initDD) f cdv A outer s H E).env (cxOf (L2.CX P w) P w K mg base ["self", "at"] "NoWord.__init__" (defScope st_NoWordDD_initDD) f cdv A outer s H E).xe) :
    DSs (cxOf (L2.CX P w) P w K mg base ["self", "at"] "NoWord.__init__" (defScope st_NoWordDD_initDD) f cdv A outer s H E) (nS E) (defBody st_NoWordDD_initDD) (w_NoWordDD_initDD) := by
  have nd := sc_NoWordDD_initDD.nd
  exact dss_cons (ds_expr (de_xini xi_RegsError xc_NoWord (da_cons (de_var 0) (da_cons (de_str) (da_nil))))) (dss_one (ds_xfld xf_NoWord_at (de_var 0) (de_var 1)))
abbrev st__law_made : Stmt := topS 15
theorem sc__law_made : FnScope ["_law_value", "_law_found"] ["_law_value"] (defScope st__law_made) := ⟨rfl, rfl, rfl, by decide +kernel, rfl, by decide +kernel, by decide +kernel⟩
theorem d__law_made {P : Program} {w : World} {K : PySem.W.Frag} {mg : Str → Option Value} {base : Heap} {f : Addr} (x0_NoControl : GX0 K mg "NoControl") (x0_NoNumber : GX0 K mg "NoNumber") (x0_NoWish : GX0 K mg "NoWish") (x_NoMachine : GX P w K mg base "NoMachine" 1 sp_NoMachineDD_initDD) (x_NoPattern : GX P w K mg base "NoPattern" 1 sp_NoPatternDD_initDD) (x_NoSpare : GX P w K mg base "NoSpare" 1 sp_NoSpareDD_initDD) (x_NoState : GX P w K mg base "NoState" 1 sp_NoStateDD_initDD) (x_NoText : GX P w K mg base "NoText" 1 sp_NoTextDD_initDD) (x_NoUpdates : GX P w K mg base "NoUpdates" 1 sp_NoUpdatesDD_initDD) (x_NoValue : GX P w K mg base "NoValue" 1 sp_NoValueDD_initDD) (x_NoWord : GX P w K mg base "NoWord" 1 sp_NoWordDD_initDD) (x_TooMany : GX P w K mg base "TooMany" 1 sp_TooManyDD_initDD) (cdv : Value) (A : Around) (outer : List Env) (s : Shared) (H : Hp) (E : XK) (hr : Room 2 (cxOf (L2.CX P w) P w K mg base ["_law_value", "_law_found"] "_law_made" (defScope st__law_made) f cdv A outer s H E).A) (tk : Takes (cxOf (L2.CX P w) P w K mg base ["_law_value", "_law_found"] "_law_made" (defScope st__law_made) f cdv A outer s H E) (nS E)) (hp : PassesOwn (model P w) (cxOf (L2.CX P w) P w K mg base ["_law_value", "_law_found"] "_law_made" (defScope st__law_made) f cdv A outer s H E).A (cxOf (L2.CX P w) P w K mg base ["_law_value", "_law_found"] "_law_made" (defScope st__law_made) f cdv A outer s H E).env (cxOf (L2.CX P w) P w K mg base ["_law_value", "_law_found"] "_law_made" (defScope st__law_made) f cdv A outer s H E).xe) :
    DSs (cxOf (L2.CX P w) P w K mg base ["_law_value", "_law_found"] "_law_made" (defScope st__law_made) f cdv A outer s H E) (nS E) (defBody st__law_made) (w__law_made) := by
  have nd := sc__law_made.nd
  exact dss_cons (ds_set 1 nd (de_lst (da_cons (de_tup (da_cons (de_mkX x_NoPattern tk hr (da_cons (de_var 0) (da_cons (de_str) (da_nil))) (hj := by omega)) (da_cons (de_lst (da_cons (de_var 0) (da_cons (de_str) (da_nil)))) (da_nil)))) (da_cons (de_tup (da_cons (de_mkX x_NoText tk hr (da_cons (de_var 0) (da_nil)) (hj := by omega)) (da_cons (de_lst (da_cons (de_var 0) (da_nil))) (da_nil)))) (da_cons (de_tup (da_cons (de_mkX0 x0_NoControl) (da_cons (de_lst (da_nil)) (da_nil)))) (da_cons (de_tup (da_cons (de_mkX0 x0_NoNumber) (da_cons (de_lst (da_nil)) (da_nil)))) (da_nil))))))) (dss_cons (ds_set 1 nd (de_op ok_add (de_var 1) (de_lst (da_cons (de_tup (da_cons (de_mkX x_TooMany tk hr (da_cons (de_var 0) (da_nil)) (hj := by omega)) (da_cons (de_lst (da_cons (de_var 0) (da_nil))) (da_nil)))) (da_cons (de_tup (da_cons (de_mkX x_NoState tk hr (da_cons (de_var 0) (da_nil)) (hj := by omega)) (da_cons (de_lst (da_cons (de_var 0) (da_nil))) (da_nil)))) (da_cons (de_tup (da_cons (de_mkX x_NoValue tk hr (da_cons (de_var 0) (da_nil)) (hj := by omega)) (da_cons (de_lst (da_cons (de_var 0) (da_nil))) (da_nil)))) (da_cons (de_tup (da_cons (de_mkX0 x0_NoWish) (da_cons (de_lst (da_nil)) (da_nil)))) (da_nil)))))))) (dss_cons (ds_set 1 nd (de_op ok_add (de_var 1) (de_lst (da_cons (de_tup (da_cons (de_mkX x_NoMachine tk hr (da_cons (de_var 0) (da_nil)) (hj := by omega)) (da_cons (de_lst (da_cons (de_var 0) (da_nil))) (da_nil)))) (da_cons (de_tup (da_cons (de_mkX x_NoUpdates tk hr (da_cons (de_var 0) (da_nil)) (hj := by omega)) (da_cons (de_lst (da_cons (de_var 0) (da_nil))) (da_nil)))) (da_cons (de_tup (da_cons (de_mkX x_NoSpare tk hr (da_cons (de_var 0) (da_nil)) (hj := by omega)) (da_cons (de_lst (da_cons (de_var 0) (da_nil))) (da_nil)))) (da_nil))))))) (dss_cons (ds_expr (de_mt PySem.F.plainAttrs_list PySem.F.slot_list_append PySem.F.type_list_append ok_append (de_var 1) (da_cons (de_tup (da_cons (de_mkX x_NoWord tk hr (da_cons (de_var 0) (da_nil)) (hj := by omega)) (da_cons (de_lst (da_cons (de_var 0) (da_nil))) (da_nil)))) (da_nil)))) (dss_one (ds_ret (de_var 1))))))
abbrev st__law_marks_of : Stmt := topS 16
theorem sc__law_marks_of : FnScope ["_law_error", "_law_found"] ["_law_error"] (defScope st__law_marks_of) := ⟨rfl, rfl, rfl, by decide +kernel, rfl, by decide +kernel, by decide +kernel⟩
theorem d__law_marks_of {P : Program} {w : World} {K : PySem.W.Frag} {mg : Str → Option Value} {base : Heap} {f : Addr} (b_isinstance : mg "isinstance" = none) (is_NoControl : GIsN K mg ["NoControl"] tab_NoControl) (is_NoMachine : GIsN K mg ["NoMachine"] tab_NoMachine) (is_NoNumber : GIsN K mg ["NoNumber"] tab_NoNumber) (is_NoPattern : GIsN K mg ["NoPattern"] tab_NoPattern) (is_NoSpare : GIsN K mg ["NoSpare"] tab_NoSpare) (is_NoState : GIsN K mg ["NoState"] tab_NoState) (is_NoText : GIsN K mg ["NoText"] tab_NoText) (is_NoUpdates : GIsN K mg ["NoUpdates"] tab_NoUpdates) (is_NoValue : GIsN K mg ["NoValue"] tab_NoValue) (is_NoWish : GIsN K mg ["NoWish"] tab_NoWish) (is_NoWord : GIsN K mg ["NoWord"] tab_NoWord) (is_TooMany : GIsN K mg ["TooMany"] tab_TooMany) (cdv : Value) (A : Around) (outer : List Env) (s : Shared) (H : Hp) (E : XK) (hr : Room 0 (cxOf (L2.CX P w) P w K mg base ["_law_error", "_law_found"] "_law_marks_of" (defScope st__law_marks_of) f cdv A outer s H E).A) (tk : Takes (cxOf (L2.CX P w) P w K mg base ["_law_error", "_law_found"] "_law_marks_of" (defScope st__law_marks_of) f cdv A outer s H E) (nS E)) (hp : PassesOwn (model P w) (cxOf (L2.CX P w) P w K mg base ["_law_error", "_law_found"] "_law_marks_of" (defScope st__law_marks_of) f cdv A outer s H E).A (cxOf (L2.CX P w) P w K mg base ["_law_error", "_law_found"] "_law_marks_of" (defScope st__law_marks_of) f cdv A outer s H E).env (cxOf (L2.CX P w) P w K mg base ["_law_error", "_law_found"] "_law_marks_of" (defScope st__law_marks_of) f cdv A outer s H E).xe) :
    DSs (cxOf (L2.CX P w) P w K mg base ["_law_error", "_law_found"] "_law_marks_of" (defScope st__law_marks_of) f cdv A outer s H E) (nS E) (defBody st__law_marks_of) (w__law_marks_of) := by
  have nd := sc__law_marks_of.nd
  exact dss_cons (ds_set 1 nd (de_lst (da_cons (de_isN is_NoPattern b_isinstance (de_var 0)) (da_cons (de_isN is_NoText b_isinstance (de_var 0)) (da_cons (de_isN is_NoControl b_isinstance (de_var 0)) (da_nil)))))) (dss_cons (ds_set 1 nd (de_op ok_add (de_var 1) (de_lst (da_cons (de_isN is_NoNumber b_isinstance (de_var 0)) (da_cons (de_isN is_TooMany b_isinstance (de_var 0)) (da_cons (de_isN is_NoState b_isinstance (de_var 0)) (da_nil))))))) (dss_cons (ds_set 1 nd (de_op ok_add (de_var 1) (de_lst (da_cons (de_isN is_NoValue b_isinstance (de_var 0)) (da_cons (de_isN is_NoWish b_isinstance (de_var 0)) (da_cons (de_isN is_NoMachine b_isinstance (de_var 0)) (da_nil))))))) (dss_one (ds_ret (de_op ok_add (de_var 1) (de_lst (da_cons (de_isN is_NoUpdates b_isinstance (de_var 0)) (da_cons (de_isN is_NoSpare b_isinstance (de_var 0)) (da_cons (de_isN is_NoWord b_isinstance (de_var 0)) (da_nil))))))))))
abbrev st__law_parts : Stmt := topS 17
theorem sc__law_parts : FnScope ["_law_error"] ["_law_error"] (defScope st__law_parts) := ⟨rfl, rfl, rfl, by decide +kernel, rfl, by decide +kernel, by decide +kernel⟩
theorem d__law_parts {P : Program} {w : World} {K : PySem.W.Frag} {mg : Str → Option Value} {base : Heap} {f : Addr} (b_isinstance : mg "isinstance" = none) (is_NoMachine : GIsN K mg ["NoMachine"] tab_NoMachine) (is_NoPattern : GIsN K mg ["NoPattern"] tab_NoPattern) (is_NoSpare : GIsN K mg ["NoSpare"] tab_NoSpare) (is_NoState : GIsN K mg ["NoState"] tab_NoState) (is_NoText_NoUpdates_NoWord : GIsN K mg ["NoText", "NoUpdates", "NoWord"] tab_NoText_NoUpdates_NoWord) (is_NoValue : GIsN K mg ["NoValue"] tab_NoValue) (is_TooMany : GIsN K mg ["TooMany"] tab_TooMany) (xf_NoMachine_why : GXF K mg "NoMachine" "why") (xf_NoPattern_at : GXF K mg "NoPattern" "at") (xf_NoPattern_why : GXF K mg "NoPattern" "why") (xf_NoSpare_spare : GXF K mg "NoSpare" "spare") (xf_NoState_state : GXF K mg "NoState" "state") (xf_NoText_at : GXF K mg "NoText" "at") (xf_NoUpdates_at : GXF K mg "NoUpdates" "at") (xf_NoValue_value : GXF K mg "NoValue" "value") (xf_NoWord_at : GXF K mg "NoWord" "at") (xf_TooMany_most : GXF K mg "TooMany" "most") (cdv : Value) (A : Around) (outer : List Env) (s : Shared) (H : Hp) (E : XK) (hr : Room 0 (cxOf (L2.CX P w) P w K mg base ["_law_error"] "_law_parts" (defScope st__law_parts) f cdv A outer s H E).A) (tk : Takes (cxOf (L2.CX P w) P w K mg base ["_law_error"] "_law_parts" (defScope st__law_parts) f cdv A outer s H E) (nS E)) (hp : PassesOwn (model P w) (cxOf (L2.CX P w) P w K mg base ["_law_error"] "_law_parts" (defScope st__law_parts) f cdv A outer s H E).A (cxOf (L2.CX P w) P w K mg base ["_law_error"] "_law_parts" (defScope st__law_parts) f cdv A outer s H E).env (cxOf (L2.CX P w) P w K mg base ["_law_error"] "_law_parts" (defScope st__law_parts) f cdv A outer s H E).xe) :
    DSs (cxOf (L2.CX P w) P w K mg base ["_law_error"] "_law_parts" (defScope st__law_parts) f cdv A outer s H E) (nS E) (defBody st__law_parts) (w__law_parts) := by
  have nd := sc__law_parts.nd
  exact dss_cons (ds_if (dt_tru (de_isN is_NoPattern b_isinstance (de_var 0))) (dss_one (ds_ret (de_lst (da_cons (de_xf (by intro C hC; simp only [List.mem_cons, List.not_mem_nil, or_false] at hC; rcases hC with rfl | rfl | rfl | rfl <;> assumption) (de_var 0)) (da_cons (de_xf (by intro C hC; simp only [List.mem_cons, List.not_mem_nil, or_false] at hC; rcases hC with rfl | rfl <;> assumption) (de_var 0)) (da_nil)))))) (dss_nil)) (dss_cons (ds_if (dt_tru (de_is3 is_NoText_NoUpdates_NoWord b_isinstance (de_var 0))) (dss_one (ds_ret (de_lst (da_cons (de_xf (by intro C hC; simp only [List.mem_cons, List.not_mem_nil, or_false] at hC; rcases hC with rfl | rfl | rfl | rfl <;> assumption) (de_var 0)) (da_nil))))) (dss_nil)) (dss_cons (ds_if (dt_tru (de_isN is_TooMany b_isinstance (de_var 0))) (dss_one (ds_ret (de_lst (da_cons (de_xf (by intro C hC; simp only [List.mem_cons, List.not_mem_nil, or_false] at hC; rcases hC with rfl <;> assumption) (de_var 0)) (da_nil))))) (dss_nil)) (dss_cons (ds_if (dt_tru (de_isN is_NoState b_isinstance (de_var 0))) (dss_one (ds_ret (de_lst (da_cons (de_xf (by intro C hC; simp only [List.mem_cons, List.not_mem_nil, or_false] at hC; rcases hC with rfl <;> assumption) (de_var 0)) (da_nil))))) (dss_nil)) (dss_cons (ds_if (dt_tru (de_isN is_NoValue b_isinstance (de_var 0))) (dss_one (ds_ret (de_lst (da_cons (de_xf (by intro C hC; simp only [List.mem_cons, List.not_mem_nil, or_false] at hC; rcases hC with rfl <;> assumption) (de_var 0)) (da_nil))))) (dss_nil)) (dss_cons (ds_if (dt_tru (de_isN is_NoMachine b_isinstance (de_var 0))) (dss_one (ds_ret (de_lst (da_cons (de_xf (by intro C hC; simp only [List.mem_cons, List.not_mem_nil, or_false] at hC; rcases hC with rfl | rfl <;> assumption) (de_var 0)) (da_nil))))) (dss_nil)) (dss_one (ds_ret (de_ifE (dt_tru (de_isN is_NoSpare b_isinstance (de_var 0))) (de_lst (da_cons (de_xf (by intro C hC; simp only [List.mem_cons, List.not_mem_nil, or_false] at hC; rcases hC with rfl <;> assumption) (de_var 0)) (da_nil))) (de_lst (da_nil))))))))))
abbrev st_law : Stmt := topS 18
theorem sc_law : FnScope ["_law_script", "_law_base", "_law_value", "_law_at", "_law_cell", "_law_error", "_law_wanted", "_law_k"] ["_law_script"] (defScope st_law) := ⟨rfl, rfl, rfl, by decide +kernel, rfl, by decide +kernel, by decide +kernel⟩
theorem d_law {P : Program} {w : World} {K : PySem.W.Frag} {mg : Str → Option Value} {base : Heap} {f : Addr} (b_enumerate : mg "enumerate" = none) (b_int : mg "int" = none) (b_isinstance : mg "isinstance" = none) (b_range : mg "range" = none) (g__law_made : GF P w K mg base "_law_made" 3 sp__law_made) (g__law_marks_of : GF P w K mg base "_law_marks_of" 1 sp__law_marks_of) (g__law_parts : GF P w K mg base "_law_parts" 1 sp__law_parts) (is_RegsError : GIsN K mg ["RegsError"] tab_RegsError) (isb_ValueError : GIsB K mg "ValueError" tab_ValueError) (x0_RegsError : GX0 K mg "RegsError") (cdv : Value) (A : Around) (outer : List Env) (s : Shared) (H : Hp) (E : XK) (hr : Room 3 (cxOf (L2.CX P w) P w K mg base ["_law_script", "_law_base", "_law_value", "_law_at", "_law_cell", "_law_error", "_law_wanted", "_law_k"] "law" (defScope st_law) f cdv A outer s H E).A) (tk : Takes (cxOf (L2.CX P w) P w K mg base ["_law_script", "_law_base", "_law_value", "_law_at", "_law_cell", "_law_error", "_law_wanted", "_law_k"] "law" (defScope st_law) f cdv A outer s H E) (nS E)) (hp : PassesOwn (model P w) (cxOf (L2.CX P w) P w K mg base ["_law_script", "_law_base", "_law_value", "_law_at", "_law_cell", "_law_error", "_law_wanted", "_law_k"] "law" (defScope st_law) f cdv A outer s H E).A (cxOf (L2.CX P w) P w K mg base ["_law_script", "_law_base", "_law_value", "_law_at", "_law_cell", "_law_error", "_law_wanted", "_law_k"] "law" (defScope st_law) f cdv A outer s H E).env (cxOf (L2.CX P w) P w K mg base ["_law_script", "_law_base", "_law_value", "_law_at", "_law_cell", "_law_error", "_law_wanted", "_law_k"] "law" (defScope st_law) f cdv A outer s H E).xe) :
    DSs (cxOf (L2.CX P w) P w K mg base ["_law_script", "_law_base", "_law_value", "_law_at", "_law_cell", "_law_error", "_law_wanted", "_law_k"] "law" (defScope st_law) f cdv A outer s H E) (nS E) (defBody st_law) (w_law) := by
  have nd := sc_law.nd
  exact dss_cons (ds_set 1 nd (de_mkX0 x0_RegsError)) (dss_cons (ds_if (DW.dt (dw_or (dt_not (dt_tru (de_isB (T := "ValueError") isb_ValueError b_isinstance (by decide +kernel) (de_var 1)))) (dw_or1 (dt_cmp ok_in (de_bl) (de_call g__law_marks_of tk hr (da_cons (de_var 1) (da_nil)) (hj := by omega)))))) (dss_one (ds_ret (de_bl))) (dss_nil)) (dss_cons (ds_for hp rfl (di_list (de_op ok_add (de_lst (da_cons (de_str) (da_cons (de_int) (da_cons (de_non) (da_cons (de_tup (da_cons (de_int) (da_cons (de_int) (da_nil)))) (da_cons (de_lst (da_cons (de_int) (da_cons (de_int) (da_nil)))) (da_cons (de_op ok_pow (de_int) (de_int)) (da_nil)))))))) (de_lc (own := [("_law_cell", 4)]) rfl nd (di_list (de_sl (de_var 0) (do_none) (do_some (de_int)))) (blkOk_by (N := ["_law_script", "_law_base", "_law_value", "_law_at", "_law_cell", "_law_error", "_law_wanted", "_law_k"]) (sc := defScope st_law) (own := [("_law_cell", 4)]) (by decide +kernel)) (fun _ _ _ _ _ => dg_name 4 nd) (fun _ _ _ _ _ => dts_nil) (fun _ _ _ _ _ => de_op ok_mod (de_callTy (ok_int1) b_int (by decide +kernel) (da_cons (de_var 4) (da_nil))) (de_op ok_pow (de_int) (de_int)))))) (dg_name 2 nd) (dss_one (ds_for hp rfl (di_enum b_enumerate (da_cons (de_call g__law_made tk hr (da_cons (de_var 2) (da_nil)) (hj := by omega)) (da_nil))) (dg_tup rfl (dgs_cons (dg_name 3 nd) (dgs_cons (dg_tup rfl (dgs_cons (dg_name 5 nd) (dgs_cons (dg_name 6 nd) (dgs_nil)))) (dgs_nil)))) (dss_cons (ds_if (DW.dt (dw_or (dt_not (dt_tru (de_isN is_RegsError b_isinstance (de_var 5)))) (dw_or1 (dt_not (dt_tru (de_isB (T := "ValueError") isb_ValueError b_isinstance (by decide +kernel) (de_var 5))))))) (dss_one (ds_ret (de_bl))) (dss_nil)) (dss_one (ds_if (DW.dt (dw_or (dt_cmp (ok_ne (hu64 hr)) (de_call g__law_marks_of tk hr (da_cons (de_var 5) (da_nil)) (hj := by omega)) (de_lc (own := [("_law_k", 7)]) rfl nd (di_rg1 b_range (da_cons (de_int) (da_nil))) (blkOk_by (N := ["_law_script", "_law_base", "_law_value", "_law_at", "_law_cell", "_law_error", "_law_wanted", "_law_k"]) (sc := defScope st_law) (own := [("_law_k", 7)]) (by decide +kernel)) (fun _ _ _ _ _ => dg_name 7 nd) (fun _ _ _ _ _ => dts_nil) (fun _ _ _ _ _ => de_cmp (ok_eq (hu64 hr)) (de_var 7) (de_var 3)))) (dw_or1 (dt_cmp (ok_ne (hu64 hr)) (de_call g__law_parts tk hr (da_cons (de_var 5) (da_nil)) (hj := by omega)) (de_var 6))))) (dss_one (ds_ret (de_bl))) (dss_nil))))))) (dss_one (ds_ret (de_bl)))))
end EV

namespace EV
open PySem PySem.Spec PyProof.Rows L2
theorem ap_get (h g : Hh) (k : Nat) : (h ++ g)[h.length + k]? = g[k]? := by rw [List.getElem?_append_right (Nat.le_add_right _ _), Nat.add_sub_cancel_left]
theorem ap_get0 (h g : Hh) : (h ++ g)[h.length]? = g[0]? := ap_get h g 0
theorem ap_set (h g : Hh) (k : Nat) (x : O) : (h ++ g).set (h.length + k) x = h ++ g.set k x := by rw [List.set_append_right _ _ (Nat.le_add_right _ _), Nat.add_sub_cancel_left]
theorem ap_set0 (h g : Hh) (x : O) : (h ++ g).set h.length x = h ++ g.set 0 x := ap_set h g 0 x
theorem get_in {h : Hh} {n : Nat} {o : O} (e : h[n]? = some o) (g : Hh) : (h ++ g)[n]? = some o := by
  rw [List.getElem?_append_left (List.getElem?_eq_some_iff.mp e).1]; exact e
section
variable {wa wo wv : WE} {B : DEnds} {s : Sl} {h g : Hh} {Q : PV} {E : PX} {wr : WA} {C f : Str}
def IsExo (o : Option O) (k : Str → Option Nat → Prop) : Prop := ∃ C m, o = some (.exo C m) ∧ k C m
@[simp] theorem IsExo_exo (C : Str) (m : Option Nat) (k : Str → Option Nat → Prop) : IsExo (some (.exo C m)) k = k C m := propext ⟨fun ⟨_, _, e, q⟩ => by cases e; exact q, fun q => ⟨_, _, rfl, q⟩⟩
@[simp] theorem e_isX {tab : List (Str × Bool)} : wUn (kIsX tab) wa s h Q E = wa s h (fun d h1 => IsRef d fun n => IsExo h1[n]? fun C m => GetK (tab.lookup C) fun b => Q (.bl b) h1) E := by
  refine congrArg (fun k => wa s h k E) (funext fun d => funext fun h1 => propext ⟨?_, ?_⟩)
  · rintro ⟨n, C, m, b, e, z, l, q⟩; exact ⟨n, e, C, m, z, b, l, q⟩
  · rintro ⟨n, e, C, m, z, b, l, q⟩; exact ⟨n, C, m, b, e, z, l, q⟩
def IsExd (o : Option O) (k : List (Str × D) → Prop) : Prop := ∃ fs, o = some (.exd fs) ∧ k fs
@[simp] theorem IsExd_exd (fs : List (Str × D)) (k : List (Str × D) → Prop) : IsExd (some (.exd fs)) k = k fs := propext ⟨fun ⟨_, e, q⟩ => by cases e; exact q, fun q => ⟨_, rfl, q⟩⟩
def GetN (o : Option Nat) (k : Nat → Prop) : Prop := ∃ m, o = some m ∧ k m
@[simp] theorem GetN_some (n : Nat) (k : Nat → Prop) : GetN (some n) k = k n := propext ⟨fun ⟨_, e, q⟩ => by cases e; exact q, fun q => ⟨_, rfl, q⟩⟩
@[simp] theorem e_xf {Cs : List Str} : wUn (kXf f Cs) wa s h Q E = wa s h (fun d h1 => IsRef d fun n => IsExo h1[n]? fun C m => GetN m fun j => C ∈ Cs ∧ IsExd h1[j]? fun fs => GetD (fs.lookup f) fun v => Q v h1) E := by
  refine congrArg (fun k => wa s h k E) (funext fun d => funext fun h1 => propext ⟨?_, ?_⟩)
  · rintro ⟨n, C, m, fs, v, e, z, i, y, l, q⟩; exact ⟨n, e, C, _, z, m, rfl, i, fs, y, v, l, q⟩
  · rintro ⟨n, e, C, m', z, m, rfl, i, fs, y, v, l, q⟩; exact ⟨n, C, m, fs, v, e, z, i, y, l, q⟩
end
/-! equality of rows of plain data -/
def OkY (y : PyData) : Prop := y.canLay0 = true ∧ y.depth ≤ 20 ∧ y.eqv y = true
theorem okY_all : ∀ {ys : List PyData}, (∀ y ∈ ys, OkY y) → PyData.canLayAll0 ys = true ∧ PyData.depthAll ys ≤ 20 ∧ PyData.eqvAll ys ys = true
  | [], _ => by simp [PyData.canLayAll0, PyData.depthAll, PyData.eqvAll]
  | y :: ys, h => by
    obtain ⟨a, b, c⟩ := h y (by simp)
    obtain ⟨a', b', c'⟩ := okY_all (ys := ys) fun z hz => h z (by simp [hz])
    simp [PyData.canLayAll0, PyData.depthAll, PyData.eqvAll, a, b, c, a', c']
    omega
theorem eqD_same {h : Hh} {a b : Nat} {ds : List D} {ys : List PyData} (ea : lsOf h a = some ds) (eb : lsOf h b = some ds) (ey : pyDs h 1999 ds = some ys) (hy : ∀ y ∈ ys, OkY y) : eqD (.ref a) (.ref b) h = some true := by
  obtain ⟨p, q, r⟩ := okY_all hy
  have e1 : pyD h 2000 (.ref a) = some (.list ys) := by rw [show (2000 : Nat) = 1999 + 1 from rfl]; simp only [pyD, ea, ey, Option.map_some]
  have e2 : pyD h 2000 (.ref b) = some (.list ys) := by rw [show (2000 : Nat) = 1999 + 1 from rfl]; simp only [pyD, eb, ey, Option.map_some]
  have s1 : SeqAt.shaped (.list ys) = true := by
    unfold SeqAt.shaped
    simp [PyData.canLay0, PyData.depth, p]
    omega
  unfold eqD
  rw [e1, e2]
  simp [s1, PyData.eqv, r]
theorem gNe_same {h : Hh} {a b : Nat} {ds : List D} {ys : List PyData} (ea : lsOf h a = some ds) (eb : lsOf h b = some ds) (ey : pyDs h 1999 ds = some ys) (hy : ∀ y ∈ ys, OkY y) : gNe (.ref a) (.ref b) h = some (.bl false, h) := by
  simp [gNe, orG, gS2, gEqD, eqD_same ea eb ey hy]
theorem gEq_int {h : Hh} {i j : Int} : gEq (.int i) (.int j) h = some (.bl (i == j), h) := by
  have e1 : ∀ i : Int, pyD h 2000 (.int i) = some (.int i) := fun i => by rw [show (2000 : Nat) = 1999 + 1 from rfl]; simp only [pyD]
  simp [gEq, orG, gS2, gEqD, eqD, e1, SeqAt.shaped, PyData.canLay0, PyData.depth, PyData.eqv]
end EV

namespace EV
open PySem PySem.Spec PyProof.Rows L2
section
variable {wa wo wv : WE} {B : DEnds} {s : Sl} {h g : Hh} {Q : PV} {E : PX} {wr : WA} {C f : Str}
def IsC (ds : List D) (k : D → List D → Prop) : Prop := ∃ d es, ds = d :: es ∧ k d es
@[simp] theorem IsC_cons (d : D) (es : List D) (k : D → List D → Prop) : IsC (d :: es) k = k d es := propext ⟨fun ⟨_, _, e, q⟩ => by cases e; exact q, fun q => ⟨_, _, rfl, q⟩⟩
@[simp] theorem e_xini : wXIni C wr s h Q E = wr s h (fun ds h1 => IsC ds fun d es => IsRef d fun n => es.length ≤ 1000 ∧ h1[n]? = some (.exo C none) ∧ Q .non h1) E := by
  refine congrArg (fun k => wr s h k E) (funext fun ds => funext fun h1 => propext ⟨?_, ?_⟩)
  · rintro ⟨n, es, e, a, b, q⟩; exact ⟨_, es, e, n, rfl, a, b, q⟩
  · rintro ⟨_, es, e, n, rfl, a, b, q⟩; exact ⟨n, es, e, a, b, q⟩
@[simp] theorem e_setX : wSetX C f wo wv B s h = wv s h (fun d h1 => wo s h1 (fun o h2 => IsRef o fun n =>
  ((h2[n]? = some (.exo C none) ∧ B.nx s ((h2 ++ [O.exd [(f, d)]]).set n (.exo C (some h2.length)))) ∨
   ∃ m fs, h2[n]? = some (.exo C (some m)) ∧ h2[m]? = some (.exd fs) ∧ fs.length ≤ 900 ∧ B.nx s (h2.set m (.exd ((f, d) :: fs))))) (B.ex s)) (B.ex s) := rfl
theorem mk1 : wMkX C (spIni1 C f) wr s h Q E = wr s h (fun ds h1 => ∃ v, ds = [v] ∧ Q (.ref h1.length) (h1 ++ [.exo C (some (h1.length + 1)), .exd [(f, v)]])) E := by
  refine congrArg (fun k => wr s h k E) (funext fun ds => funext fun h1 => propext ⟨?_, ?_⟩)
  · rintro ⟨_, n, v, e, z, _, q⟩
    cases e
    refine ⟨v, rfl, ?_⟩
    simpa [List.append_assoc, ap_set0, ap_get0] using q
  · rintro ⟨v, rfl, q⟩
    refine ⟨by simp, h1.length, v, rfl, by simp, rfl, ?_⟩
    simpa [List.append_assoc, ap_set0, ap_get0] using q
theorem mkP : wMkX "NoPattern" sp_NoPatternDD_initDD wr s h Q E = wr s h (fun ds h1 => ∃ a b, ds = [a, b] ∧ Q (.ref h1.length) (h1 ++ [.exo "NoPattern" (some (h1.length + 1)), .exd [("why", b), ("at", a)]])) E := by
  refine congrArg (fun k => wr s h k E) (funext fun ds => funext fun h1 => propext ⟨?_, ?_⟩)
  · rintro ⟨_, n, v, w, e, z, _, q⟩
    cases e
    refine ⟨v, w, rfl, ?_⟩
    simpa [List.append_assoc, ap_set0, ap_get0, ap_set] using q
  · rintro ⟨v, w, rfl, q⟩
    refine ⟨by simp, h1.length, v, w, rfl, by simp, rfl, ?_⟩
    simpa [List.append_assoc, ap_set0, ap_get0, ap_set] using q
end
theorem b_NoText : ∀ ds h Q E, spIni1 "NoText" "at" ds h Q E → w_NoTextDD_initDD (endsOf Q E) (slots0 ["self", "at"] ds) h := by
  rintro ds h Q E ⟨n, v, rfl, hn, q⟩
  simp [w_NoTextDD_initDD, slots0, hn, q]
theorem b_TooMany : ∀ ds h Q E, spIni1 "TooMany" "most" ds h Q E → w_TooManyDD_initDD (endsOf Q E) (slots0 ["self", "most"] ds) h := by
  rintro ds h Q E ⟨n, v, rfl, hn, q⟩
  simp [w_TooManyDD_initDD, slots0, hn, q]
theorem b_NoState : ∀ ds h Q E, spIni1 "NoState" "state" ds h Q E → w_NoStateDD_initDD (endsOf Q E) (slots0 ["self", "state"] ds) h := by
  rintro ds h Q E ⟨n, v, rfl, hn, q⟩
  simp [w_NoStateDD_initDD, slots0, hn, q]
theorem b_NoValue : ∀ ds h Q E, spIni1 "NoValue" "value" ds h Q E → w_NoValueDD_initDD (endsOf Q E) (slots0 ["self", "value"] ds) h := by
  rintro ds h Q E ⟨n, v, rfl, hn, q⟩
  simp [w_NoValueDD_initDD, slots0, hn, q]
theorem b_NoMachine : ∀ ds h Q E, spIni1 "NoMachine" "why" ds h Q E → w_NoMachineDD_initDD (endsOf Q E) (slots0 ["self", "why"] ds) h := by
  rintro ds h Q E ⟨n, v, rfl, hn, q⟩
  simp [w_NoMachineDD_initDD, slots0, hn, q]
theorem b_NoUpdates : ∀ ds h Q E, spIni1 "NoUpdates" "at" ds h Q E → w_NoUpdatesDD_initDD (endsOf Q E) (slots0 ["self", "at"] ds) h := by
  rintro ds h Q E ⟨n, v, rfl, hn, q⟩
  simp [w_NoUpdatesDD_initDD, slots0, hn, q]
theorem b_NoSpare : ∀ ds h Q E, spIni1 "NoSpare" "spare" ds h Q E → w_NoSpareDD_initDD (endsOf Q E) (slots0 ["self", "spare"] ds) h := by
  rintro ds h Q E ⟨n, v, rfl, hn, q⟩
  simp [w_NoSpareDD_initDD, slots0, hn, q]
theorem b_NoWord : ∀ ds h Q E, spIni1 "NoWord" "at" ds h Q E → w_NoWordDD_initDD (endsOf Q E) (slots0 ["self", "at"] ds) h := by
  rintro ds h Q E ⟨n, v, rfl, hn, q⟩
  simp [w_NoWordDD_initDD, slots0, hn, q]
theorem b_NoPattern : ∀ ds h Q E, sp_NoPatternDD_initDD ds h Q E → w_NoPatternDD_initDD (endsOf Q E) (slots0 ["self", "at", "why"] ds) h := by
  rintro ds h Q E ⟨n, v, w, rfl, hn, q⟩
  have hlt : n < h.length := (List.getElem?_eq_some_iff.mp hn).1
  have e1 : ((h ++ [O.exd [("at", v)]]).set n (.exo "NoPattern" (some h.length)))[n]? = some (.exo "NoPattern" (some h.length)) := by rw [List.getElem?_set_self (by simp; omega)]
  have e2 : ((h ++ [O.exd [("at", v)]]).set n (.exo "NoPattern" (some h.length)))[h.length]? = some (.exd [("at", v)]) := by rw [List.getElem?_set_ne (by omega)]; simp
  simp only [w_NoPatternDD_initDD, slots0, e_seq, e_expr, e_xini, e_setX]
  simp [hn]
  exact .inr ⟨h.length, e1, _, e2, by simp, q⟩
theorem b_made : ∀ ds h Q E, sp__law_made ds h Q E → w__law_made (endsOf Q E) (slots0 ["_law_value", "_law_found"] ds) h := by
  rintro ds h Q E ⟨v, rfl, q⟩
  simp [-e_mkX, w__law_made, slots0, mk1, mkP, ap_get, ap_get0, ap_set, ap_set0, List.append_assoc, Nat.add_assoc, gAdd, gAppend, lsOf, isT]
  exact ⟨v, _, ⟨rfl, rfl⟩, q⟩
theorem b_marks : ∀ ds h Q E, sp__law_marks_of ds h Q E → w__law_marks_of (endsOf Q E) (slots0 ["_law_error", "_law_found"] ds) h := by
  rintro ds h Q E ⟨n, C, m, rfl, hn, hC, q⟩
  have ga : ∀ g, (h ++ g)[n]? = some (.exo C m) := get_in hn
  simp only [names12, List.mem_cons, List.not_mem_nil, or_false] at hC
  rcases hC with rfl | rfl | rfl | rfl | rfl | rfl | rfl | rfl | rfl | rfl | rfl | rfl | rfl <;>
  · simp [w__law_marks_of, slots0, hn, ga, ap_get, ap_get0, List.append_assoc, Nat.add_assoc, gAdd, List.lookup, tab_NoPattern, tab_NoText, tab_NoControl, tab_NoNumber, tab_TooMany, tab_NoState, tab_NoValue, tab_NoWish, tab_NoMachine, tab_NoUpdates, tab_NoSpare, tab_NoWord]
    simpa [marksG, marks, names12] using q
theorem b_parts : ∀ ds h Q E, sp__law_parts ds h Q E → w__law_parts (endsOf Q E) (slots0 ["_law_error"] ds) h := by
  rintro ds h Q E ⟨n, ps, rfl, hp, q⟩
  rcases hp with ⟨a, b, m, hn, hm, rfl⟩ | ⟨⟨C, f⟩, v, m, hC, hn, hm, rfl⟩ | ⟨C, hC, hn, rfl⟩
  · simp [w__law_parts, slots0, truD, hn, hm, List.lookup, tab_NoPattern, q]
  · simp only [flds, List.mem_cons, List.not_mem_nil, or_false, Prod.mk.injEq] at hC
    rcases hC with ⟨rfl, rfl⟩ | ⟨rfl, rfl⟩ | ⟨rfl, rfl⟩ | ⟨rfl, rfl⟩ | ⟨rfl, rfl⟩ | ⟨rfl, rfl⟩ | ⟨rfl, rfl⟩ | ⟨rfl, rfl⟩ <;>
    simp at hn hm <;> simp [w__law_parts, slots0, truD, hn, hm, List.lookup, tab_NoPattern, tab_TooMany, tab_NoState, tab_NoValue, tab_NoMachine, tab_NoSpare, tab_NoText_NoUpdates_NoWord, q]
  · simp only [List.mem_cons, List.not_mem_nil, or_false] at hC
    rcases hC with rfl | rfl | rfl <;>
    simp [w__law_parts, slots0, truD, hn, List.lookup, tab_NoPattern, tab_TooMany, tab_NoState, tab_NoValue, tab_NoMachine, tab_NoSpare, tab_NoText_NoUpdates_NoWord, q]
end EV

namespace EV
open PySem PySem.Spec PyProof.Rows L2
theorem PartsOf.ext {h : Hh} {n : Nat} {ps : List D} (p : PartsOf h n ps) (g : Hh) : PartsOf (h ++ g) n ps := by
  rcases p with ⟨a, b, m, hn, hm, e⟩ | ⟨p, v, m, hC, hn, hm, e⟩ | ⟨C, hC, hn, e⟩
  · exact .inl ⟨a, b, m, get_in hn g, get_in hm g, e⟩
  · exact .inr (.inl ⟨p, v, m, hC, get_in hn g, get_in hm g, e⟩)
  · exact .inr (.inr ⟨C, hC, get_in hn g, e⟩)
def rowK (i : Int) : List D := (List.range 12).map fun k => .bl (((k : Nat) : Int) == i)
theorem lc12 {h : Hh} {i : Int} {x0 x1 x2 x4 x5 x6 : Option D} {Q : PV} (q : Q (.ref h.length) (h ++ [.lst (rowK i)])) :
    wLcGo h.length (fun _ => True) (.nm 7) wYes (wOp gEq (wVar 7) (wVar 3)) [x0, x1, x2, some (.int i), x4, x5, x6, none] Q (rgD 0 12) (h ++ [.lst []]) := by
  have e : rgD 0 12 = [.int 0, .int 1, .int 2, .int 3, .int 4, .int 5, .int 6, .int 7, .int 8, .int 9, .int 10, .int 11] := by rfl
  have e2 : rowK i = [.bl (0 == i), .bl (1 == i), .bl (2 == i), .bl (3 == i), .bl (4 == i), .bl (5 == i), .bl (6 == i), .bl (7 == i), .bl (8 == i), .bl (9 == i), .bl (10 == i), .bl (11 == i)] := by rfl
  rw [e2] at q
  rw [e]
  simp [wLcGo, gEq_int, ap_get0, ap_set0]
  exact q
def Vok (h : Hh) (v : D) : Prop := ∃ y, OkY y ∧ ∀ g k, pyD (h ++ g) (k + 10) v = some y
theorem in_ok {h : Hh} {B : DEnds} {i : Nat} {e w : Nat} {C : Str} {m : Option Nat} {ps : List D} {ys : List PyData} {x0 x1 x2 x4 x7 : Option D} (he : h[e]? = some (.exo C m)) (hC : C ∈ names12) (hm : marks C = rowK (i : Int)) (hp : PartsOf h e ps) (hw : h[w]? = some (.lst ps))
    (hy : ∀ g, pyDs (h ++ g) 1999 ps = some ys) (oy : ∀ y ∈ ys, OkY y) (q : ∀ g, B.nx [x0, x1, x2, some (.int i), x4, some (.ref e), some (.ref w), x7] (h ++ g)) :
    w_law1 B [x0, x1, x2, some (.int i), x4, some (.ref e), some (.ref w), x7] h := by
  have t1 : tab_RegsError.lookup C = some true := by
    simp only [names12, List.mem_cons, List.not_mem_nil, or_false] at hC
    rcases hC with rfl | rfl | rfl | rfl | rfl | rfl | rfl | rfl | rfl | rfl | rfl | rfl <;> simp [tab_RegsError, List.lookup]
  have t2 : tab_ValueError.lookup C = some true := by
    simp only [names12, List.mem_cons, List.not_mem_nil, or_false] at hC
    rcases hC with rfl | rfl | rfl | rfl | rfl | rfl | rfl | rfl | rfl | rfl | rfl | rfl <;> simp [tab_ValueError, List.lookup]
  simp [w_law1, he, t1, t2, truD]
  refine ⟨e, C, m, rfl, he, List.mem_cons_of_mem _ hC, ?_⟩
  refine ⟨12, rfl, by decide, ?_⟩
  refine lc12 (h := h ++ marksG C) ?_
  have hl : ∀ g, lsOf ((h ++ marksG C) ++ g) (h.length + 6) = some (marks C) := fun g => by
    have z : (h ++ (marksG C ++ g))[h.length + 6]? = (marksG C ++ g)[6]? := ap_get h _ 6
    rw [List.append_assoc]
    unfold lsOf
    rw [z]
    rfl
  have hr : lsOf ((h ++ marksG C) ++ [.lst (rowK (i : Int))]) (h ++ marksG C).length = some (marks C) := by
    unfold lsOf
    rw [ap_get0, hm]
    rfl
  have py : ∀ hh : Hh, pyDs hh 1999 (marks C) = some (names12.map fun c => .bool (c == C)) := fun hh => by
    simp only [marks, names12, List.map_cons, List.map_nil]
    simp [pyDs, pyD]
  have ne := gNe_same (hl _) hr (py _) (by
    intro y hy
    obtain ⟨c, _, rfl⟩ := List.mem_map.mp hy
    exact ⟨by simp [PyData.canLay0], by simp [PyData.depth], by simp [PyData.eqv]⟩)
  rw [ne]
  simp
  refine ⟨e, ps, rfl, (hp.ext _).ext _ |> fun z => by simpa using z, ?_⟩
  have n2 := gNe_same (h := (h ++ (marksG C ++ [O.lst (rowK (i : Int))])) ++ [O.lst ps]) (a := (h ++ (marksG C ++ [O.lst (rowK (i : Int))])).length) (b := w) (ds := ps) (ys := ys) (by unfold lsOf; rw [ap_get0]; rfl)
    (by unfold lsOf; rw [get_in (get_in hw _) _]) (by rw [List.append_assoc]; exact hy _) oy
  simp at n2 ⊢
  rw [n2]
  simp
  exact q _
def ItemOk (hb : Hh) (i : Nat) (d : D) : Prop := ∃ e w C m ps ys, d = .tup [.ref e, .ref w] ∧ hb[e]? = some (.exo C m) ∧ C ∈ names12 ∧ marks C = rowK (i : Int) ∧ PartsOf hb e ps ∧ hb[w]? = some (.lst ps) ∧ (∀ g, pyDs (hb ++ g) 1999 ps = some ys) ∧ ∀ y ∈ ys, OkY y
def enF (i : Nat) : List D → List D
  | [] => []
  | d :: ds => .tup [.int (i : Nat), d] :: enF (i + 1) ds
def ItemsOk (hb : Hh) (i : Nat) : List D → Prop
  | [] => True
  | d :: ds => ItemOk hb i d ∧ ItemsOk hb (i + 1) ds
theorem loop_in {hb : Hh} {chk : Hh → Prop} {B : DEnds} {x0 x1 x2 x4 x7 : Option D} (hc : ∀ g, chk (hb ++ g)) (q : ∀ g x3 x5 x6, B.nx [x0, x1, x2, x3, x4, x5, x6, x7] (hb ++ g)) :
    ∀ (ds : List D) (i : Nat) (g : Hh) (x3 x5 x6 : Option D), ItemsOk hb i ds → wLoop chk (.tp [.nm 3, .tp [.nm 5, .nm 6]]) w_law1 B (enF i ds) [x0, x1, x2, x3, x4, x5, x6, x7] (hb ++ g)
  | [], i, g, x3, x5, x6, _ => ⟨hc g, q g x3 x5 x6⟩
  | d :: ds, i, g, x3, x5, x6, ⟨⟨e, w, C, m, ps, ys, ed, he, hC, hm, hp, hw, hy, oy⟩, rest⟩ => by
    subst ed
    refine ⟨hc g, [x0, x1, x2, some (.int (i : Nat)), x4, some (.ref e), some (.ref w), x7], by simp, ?_⟩
    refine in_ok (get_in he g) hC hm (hp.ext g) (get_in hw g) (fun g' => by rw [List.append_assoc]; exact hy _) oy fun g' => ?_
    rw [List.append_assoc]
    exact loop_in hc q ds (i + 1) (g ++ g') _ _ _ rest
theorem items_ok {h : Hh} {v : D} {n : Nat} (hn : n = h.length) (hv : Vok h v) : ItemsOk (h ++ madeG n v) 0 (madeL n) := by
  subst hn
  obtain ⟨y, oy, hy⟩ := hv
  have p1 : ∀ g, pyDs ((h ++ madeG h.length v) ++ g) 1999 [v] = some [y] := fun g => by
    have z := hy (madeG h.length v ++ g) 1988
    rw [List.append_assoc, show (1999 : Nat) = 1998 + 1 from rfl]
    simp only [pyDs]
    rw [show (1998 : Nat) = 1988 + 10 from rfl, z]
  have oW : OkY (.str "why") := ⟨by decide +kernel, by simp [PyData.depth], by simp [PyData.eqv]⟩
  have p2 : ∀ g, pyDs ((h ++ madeG h.length v) ++ g) 1999 [v, .str "why"] = some [y, .str "why"] := fun g => by
    have z := hy (madeG h.length v ++ g) 1988
    rw [List.append_assoc, show (1999 : Nat) = 1998 + 1 from rfl]
    simp only [pyDs]
    rw [show (1998 : Nat) = 1988 + 10 from rfl, z]
    simp [pyDs, pyD]
  have p0 : ∀ g, pyDs ((h ++ madeG h.length v) ++ g) 1999 [] = some [] := fun g => by simp [pyDs]
  have o1 : ∀ z ∈ [y], OkY z := fun z hz => by simp at hz; subst hz; exact oy
  have o2 : ∀ z ∈ [y, PyData.str "why"], OkY z := fun z hz => by simp at hz; rcases hz with rfl | rfl <;> assumption
  have o0 : ∀ z ∈ ([] : List PyData), OkY z := fun z hz => by simp at hz
  have G : ∀ k, (h ++ madeG h.length v)[h.length + k]? = (madeG h.length v)[k]? := ap_get h _
  have G0 : (h ++ madeG h.length v)[h.length + 0]? = (madeG h.length v)[0]? := G 0
  refine ⟨⟨h.length + 0, h.length + 2, "NoPattern", _, _, _, rfl, (G 0), by simp [names12], rfl, .inl ⟨v, .str "why", _, (G 0), (G 1), rfl⟩, G 2, p2, o2⟩, ?_⟩
  refine ⟨⟨h.length + 3, h.length + 5, "NoText", _, _, _, rfl, (G 3), by simp [names12], rfl, .inr (.inl ⟨("NoText", "at"), v, _, by simp [flds], (G 3), (G 4), rfl⟩), G 5, p1, o1⟩, ?_⟩
  refine ⟨⟨h.length + 6, h.length + 7, "NoControl", _, _, _, rfl, (G 6), by simp [names12], rfl, .inr (.inr ⟨"NoControl", by simp, (G 6), rfl⟩), G 7, p0, o0⟩, ?_⟩
  refine ⟨⟨h.length + 8, h.length + 9, "NoNumber", _, _, _, rfl, (G 8), by simp [names12], rfl, .inr (.inr ⟨"NoNumber", by simp, (G 8), rfl⟩), G 9, p0, o0⟩, ?_⟩
  refine ⟨⟨h.length + 11, h.length + 13, "TooMany", _, _, _, rfl, (G 11), by simp [names12], rfl, .inr (.inl ⟨("TooMany", "most"), v, _, by simp [flds], (G 11), (G 12), rfl⟩), G 13, p1, o1⟩, ?_⟩
  refine ⟨⟨h.length + 14, h.length + 16, "NoState", _, _, _, rfl, (G 14), by simp [names12], rfl, .inr (.inl ⟨("NoState", "state"), v, _, by simp [flds], (G 14), (G 15), rfl⟩), G 16, p1, o1⟩, ?_⟩
  refine ⟨⟨h.length + 17, h.length + 19, "NoValue", _, _, _, rfl, (G 17), by simp [names12], rfl, .inr (.inl ⟨("NoValue", "value"), v, _, by simp [flds], (G 17), (G 18), rfl⟩), G 19, p1, o1⟩, ?_⟩
  refine ⟨⟨h.length + 20, h.length + 21, "NoWish", _, _, _, rfl, (G 20), by simp [names12], rfl, .inr (.inr ⟨"NoWish", by simp, (G 20), rfl⟩), G 21, p0, o0⟩, ?_⟩
  refine ⟨⟨h.length + 24, h.length + 26, "NoMachine", _, _, _, rfl, (G 24), by simp [names12], rfl, .inr (.inl ⟨("NoMachine", "why"), v, _, by simp [flds], (G 24), (G 25), rfl⟩), G 26, p1, o1⟩, ?_⟩
  refine ⟨⟨h.length + 27, h.length + 29, "NoUpdates", _, _, _, rfl, (G 27), by simp [names12], rfl, .inr (.inl ⟨("NoUpdates", "at"), v, _, by simp [flds], (G 27), (G 28), rfl⟩), G 29, p1, o1⟩, ?_⟩
  refine ⟨⟨h.length + 30, h.length + 32, "NoSpare", _, _, _, rfl, (G 30), by simp [names12], rfl, .inr (.inl ⟨("NoSpare", "spare"), v, _, by simp [flds], (G 30), (G 31), rfl⟩), G 32, p1, o1⟩, ?_⟩
  exact ⟨⟨h.length + 35, h.length + 37, "NoWord", _, _, _, rfl, (G 35), by simp [names12], rfl, .inr (.inl ⟨("NoWord", "at"), v, _, by simp [flds], (G 35), (G 36), rfl⟩), G 37, p1, o1⟩, trivial⟩
theorem out_ok {h : Hh} {B : DEnds} {v : D} {x0 x1 x3 x4 x5 x6 x7 : Option D} (hv : Vok h v) (q : ∀ g x3 x5 x6, B.nx [x0, x1, some v, x3, x4, x5, x6, x7] (h ++ g)) : w_law2 B [x0, x1, some v, x3, x4, x5, x6, x7] h := by
  have hl : ∀ g, lsOf ((h ++ madeG h.length v) ++ g) (h.length + 34) = some (madeL h.length) := fun g => by
    have z : (h ++ (madeG h.length v ++ g))[h.length + 34]? = (madeG h.length v ++ g)[34]? := ap_get h _ 34
    rw [List.append_assoc]
    unfold lsOf
    rw [z]
    rfl
  have hl0 := hl []
  rw [List.append_nil] at hl0
  refine ⟨v, rfl, v, rfl, h.length + 34, madeL h.length, rfl, hl0, ?_⟩
  have e : enD (madeL h.length) = enF 0 (madeL h.length) := rfl
  have L := loop_in (hb := h ++ madeG h.length v) (chk := fun h' => lsOf h' (h.length + 34) = some (madeL h.length)) (B := B) (x0 := x0) (x1 := x1) (x2 := some v) (x4 := x4) (x7 := x7) hl (fun g x3 x5 x6 => by rw [List.append_assoc]; exact q _ _ _ _) (madeL h.length) 0 [] x3 x5 x6 (items_ok rfl hv)
  rw [List.append_nil] at L
  rw [e]
  exact L
end EV

namespace EV
open PySem PySem.Spec PyProof.Rows L2
theorem elM {s : Sl} {hh : Hh} {i : Int} {Q : PV} {E : PX} (e4 : s[4]? = some (some (.int i))) : wOp gMod (wCa gInt (wCons (wVar 4) wNil)) (wOp gPow (wC (.int 10)) (wC (.int 30))) s hh Q E = Q (.int (i.fmod (10 ^ 30))) hh := by
  simp [e4, gInt, gMod, gPow, gI]
theorem lcM {chk : Hh → Prop} {h : Hh} {s : Sl} {Q : PV} (hl : 4 < s.length) (hc : ∀ acc, chk (h ++ [.lst acc])) : ∀ (is : List Int) (acc : List D), acc.length + is.length ≤ 1000 → Q (.ref h.length) (h ++ [.lst (acc ++ is.map fun i => .int (i.fmod (10 ^ 30)))]) →
    wLcGo h.length chk (.nm 4) wYes (wOp gMod (wCa gInt (wCons (wVar 4) wNil)) (wOp gPow (wC (.int 10)) (wC (.int 30)))) s Q (is.map .int) (h ++ [.lst acc])
  | [], acc, _, q => ⟨hc acc, by simpa using q⟩
  | i :: is, acc, hn, q => by
    have ih := lcM (Q := Q) hl hc is (acc ++ [.int (i.fmod (10 ^ 30))]) (by simp at hn ⊢; omega) (by simpa using q)
    refine ⟨hc acc, s.set 4 (some (.int i)), by simp, ?_⟩
    have e4 : (s.set 4 (some (D.int i)))[4]? = some (some (.int i)) := by rw [List.getElem?_set_self hl]
    simp at hn
    rw [e_yes, if_pos rfl, elM e4]
    refine ⟨acc, ap_get0 _ _, by simp; omega, ?_⟩
    rw [ap_set0]
    exact ih
theorem loop_out {h : Hh} {chk : Hh → Prop} {B : DEnds} {x0 x1 x4 x7 : Option D} (hc : ∀ g, chk (h ++ g)) (q : ∀ g x2 x3 x5 x6, B.nx [x0, x1, x2, x3, x4, x5, x6, x7] (h ++ g)) :
    ∀ (vs : List D) (g : Hh) (x2 x3 x5 x6 : Option D), (∀ v ∈ vs, Vok h v) → wLoop chk (.nm 2) w_law2 B vs [x0, x1, x2, x3, x4, x5, x6, x7] (h ++ g)
  | [], g, x2, x3, x5, x6, _ => ⟨hc g, q g x2 x3 x5 x6⟩
  | v :: vs, g, x2, x3, x5, x6, hv => by
    refine ⟨hc g, [x0, x1, some v, x3, x4, x5, x6, x7], by simp, ?_⟩
    obtain ⟨y, oy, hy⟩ := hv v (by simp)
    refine out_ok ⟨y, oy, fun g' k => by rw [List.append_assoc]; exact hy _ k⟩ fun g' x3 x5 x6 => ?_
    rw [List.append_assoc]
    exact loop_out hc q vs (g ++ g') _ _ _ _ fun w hw => hv w (by simp [hw])
theorem cut3 (ns : List Int) : ∃ ms : List Int, ms.length ≤ ns.length ∧ cutD (ns.map D.int) none (some 3) = ms.map D.int := by
  refine ⟨cutD ns none (some 3), ?_, ?_⟩
  · unfold cutD; rw [List.length_take, List.length_drop]; omega
  · unfold cutD; rw [List.length_map, ← List.map_drop, ← List.map_take]
def six : List D := [.str "why", .int 5, .non, .tup [.int 1, .int 2], .ref 9, .int 100000000000000000000]
def H12 (ns ms : List Int) : Hh := O.rol (ns.map .int) :: .exo "RegsError" none :: (marksG "RegsError" ++ [.lst [.int 1, .int 2], .lst six, .lst (ms.map .int)])
theorem b_law : ∀ ds h Q E, sp_law ds h Q E → w_law (endsOf Q E) (slots0 ["_law_script", "_law_base", "_law_value", "_law_at", "_law_cell", "_law_error", "_law_wanted", "_law_k"] ds) h := by
  rintro ds h Q E ⟨ns, rfl, rfl, hn, q⟩
  obtain ⟨ms, hms, ec⟩ := cut3 ns
  simp [w_law, slots0, tab_ValueError, List.lookup, truD]
  refine ⟨1, "RegsError", none, rfl, rfl, by simp, ?_⟩
  have g1 : gIn (.bl true) (.ref 8) (O.rol (ns.map .int) :: .exo "RegsError" none :: marksG "RegsError") = some (.bl false, O.rol (ns.map .int) :: .exo "RegsError" none :: marksG "RegsError") := by
    simp [marksG, marks, names12, gIn, orG, gInS, gInL, sqOf, lsOf, flatD, eqF]
  have p20 : ∀ hh, gPow (.int 10) (.int 20) hh = some (.int 100000000000000000000, hh) := fun hh => by simp [gPow, gI]
  have s3 : ∀ g : Hh, gSl none (some 3) (.ref 0) (O.rol (ns.map .int) :: g) = some (.ref (g.length + 1), O.rol (ns.map .int) :: (g ++ [.lst (ms.map .int)])) := fun g => by simp [gSl, lsOf, ec]
  have ml : (marksG "RegsError").length = 7 := rfl
  simp [g1, p20, s3, ml]
  refine ⟨ms.map .int, rfl, ?_⟩
  refine lcM (h := H12 ns ms) (by decide) (fun acc => rfl) ms [] (by simp; omega) ?_
  rw [List.nil_append]
  generalize hz : (ms.map fun i => D.int (i.fmod (10 ^ 30))) = zs
  have hzl : zs.length ≤ 63 := by rw [← hz, List.length_map]; omega
  have ga : gAdd (.ref 10) (.ref (H12 ns ms).length) (H12 ns ms ++ [.lst zs]) = some (.ref 13, (H12 ns ms ++ [.lst zs]) ++ [.lst (six ++ zs)]) := by
    show (if six.length + zs.length ≤ sizeLine then _ else _) = _
    rw [if_pos (by rw [sizeLine_eq]; show 6 + zs.length ≤ _; omega)]
    rfl
  rw [ga]
  refine ⟨_, _, rfl, 13, rfl, six ++ zs, rfl, ?_⟩
  have L := loop_out (h := (H12 ns ms ++ [.lst zs]) ++ [.lst (six ++ zs)]) (chk := fun h => lsOf h 13 = some (six ++ zs)) (B := { nx := wRet (wC (.bl true)) (endsOf Q E), rt := Q, bk := (endsOf Q E).bk, ct := (endsOf Q E).ct, ex := (endsOf Q E).ex })
    (x0 := some (.ref 0)) (x1 := some (.ref 1)) (x4 := none) (x7 := none) (fun g => rfl) (fun g x2 x3 x5 x6 => q _) (six ++ zs) [] none none none none ?_
  · rw [List.append_nil] at L
    exact L
  · intro v hv
    rcases List.mem_append.mp hv with hv | hv
    · simp only [six, List.mem_cons, List.not_mem_nil, or_false] at hv
      rcases hv with rfl | rfl | rfl | rfl | rfl | rfl
      · exact ⟨.str "why", ⟨by decide +kernel, by simp [PyData.depth], by simp [PyData.eqv]⟩, fun g k => by simp [pyD]⟩
      · exact ⟨.int 5, ⟨by simp [PyData.canLay0], by simp [PyData.depth], by simp [PyData.eqv]⟩, fun g k => by simp [pyD]⟩
      · exact ⟨.none, ⟨by simp [PyData.canLay0], by simp [PyData.depth], by simp [PyData.eqv]⟩, fun g k => by simp [pyD]⟩
      · exact ⟨.tuple [.int 1, .int 2], ⟨by simp [PyData.canLay0, PyData.canLayAll0], by simp [PyData.depth, PyData.depthAll], by simp [PyData.eqv, PyData.eqvAll]⟩, fun g k => by simp [pyD, pyDs]⟩
      · refine ⟨.list [.int 1, .int 2], ⟨by simp [PyData.canLay0, PyData.canLayAll0], by simp [PyData.depth, PyData.depthAll], by simp [PyData.eqv, PyData.eqvAll]⟩, fun g k => ?_⟩
        have l9 : lsOf (((H12 ns ms ++ [.lst zs]) ++ [.lst (six ++ zs)]) ++ g) 9 = some [.int 1, .int 2] := rfl
        simp only [pyD, l9]
        simp [pyDs, pyD]
      · exact ⟨.int 100000000000000000000, ⟨by simp [PyData.canLay0], by simp [PyData.depth], by simp [PyData.eqv]⟩, fun g k => by simp [pyD]⟩
    · rw [← hz] at hv
      obtain ⟨i, _, rfl⟩ := List.mem_map.mp hv
      exact ⟨.int (i.fmod (10 ^ 30)), ⟨by simp [PyData.canLay0], by simp [PyData.depth], by simp [PyData.eqv]⟩, fun g k => by simp only [pyD]⟩
end EV

namespace EV
open PySem PySem.Spec PyProof.Rows L2
/-! what the written part is asked, all at once -/
def excB (K : PySem.W.Frag) (c : Addr) : Bool :=
  decide (PySem.W.findIn K (.ref c) "__getattribute__" = some (some (.builtin "BaseException.__getattribute__"))) && (decide (PySem.W.findIn K (.ref c) "__getattr__" = some none) && (decide (PySem.W.subIn K (.ref c) (.type "BaseException") = some true) &&
  (PySem.W.hasDictIn K c && (decide (PySem.W.findIn K (.ref c) "__class__" = some (some (.builtin "object.__class__"))) && (decide (PySem.W.specialIn K (.builtin "object.__class__") "__get__" = some (some (.builtin "getset_descriptor.__get__"))) &&
  (decide (PySem.W.takesIn K (.builtin "object.__class__") = some true) && (decide (PySem.W.mroIn K c (.type "object") = some true) && (decide (PySem.W.findIn K (.ref c) "__setattr__" = some (some (.builtin "object.__setattr__"))) && (decide (PySem.W.typeIn K (.ref c) = some (.type "type")) && PySem.W.keepIn K (.ref c))))))))))
structure XB (K : PySem.W.Frag) (c : Addr) : Prop where
  ec : ExcC K c
  sa : PySem.W.findIn K (.ref c) "__setattr__" = some (some (.builtin "object.__setattr__"))
  ty : PySem.W.typeIn K (.ref c) = some (.type "type")
  kc : PySem.W.keepIn K (.ref c) = true
theorem xb_of {K : PySem.W.Frag} {c : Addr} (h : excB K c = true) : XB K c := by
  simp only [excB, Bool.and_eq_true, decide_eq_true_eq] at h
  obtain ⟨h1, h2, h3, h4, h5, h6, h7, h8, h9, h10, h11⟩ := h
  exact ⟨⟨h1, h2, h3, h4, h5, h6, h7, h8⟩, h9, h10, h11⟩
def tbB (K : PySem.W.Frag) (us : List Value) : List (Str × Addr) → List (Str × Bool) → Bool
  | (n, c) :: cs, (m, b) :: tab => decide (n = m) && (decide (PySem.W.kitAny K (.ref c) us = some b) && tbB K us cs tab)
  | [], [] => true
  | _, _ => false
theorem tb_of {K : PySem.W.Frag} {mg : Str → Option Value} {us : List Value} : ∀ {cs : List (Str × Addr)} {tab : List (Str × Bool)}, tbB K us cs tab = true → (∀ p ∈ cs, mg p.1 = some (.ref p.2) ∧ ExcC K p.2) → ∀ C b, tab.lookup C = some b → ∃ c, mg C = some (.ref c) ∧ ExcC K c ∧ PySem.W.kitAny K (.ref c) us = some b
  | [], [], _, _, C, b, e => by cases e
  | [], _ :: _, h, _, _, _, _ => by cases h
  | _ :: _, [], h, _, _, _, _ => by cases h
  | (n, c) :: cs, (m, b') :: tab, h, hc, C, b, e => by
    simp only [tbB, Bool.and_eq_true, decide_eq_true_eq] at h
    obtain ⟨rfl, hk, hr⟩ := h
    by_cases hC : C = n
    · subst hC
      simp [List.lookup] at e
      subst e
      obtain ⟨m1, m2⟩ := hc (C, c) (by simp)
      exact ⟨c, m1, m2, hk⟩
    · have hb : (C == n) = false := by simpa using hC
      simp only [List.lookup, hb] at e
      exact tb_of hr (fun p hp => hc p (by simp [hp])) C b e
def OexL (K : PySem.W.Frag) (c r : Addr) : Prop := ∃ nm q N bs sn sub ab col dd k0 k1 k2 k3 k5, K.lookup c = some (excClassObj nm q c N bs [.ref r, .type "ValueError", .type "Exception", .type "BaseException", .type "object"] true sn sub ab col dd k0 k1 k2 k3 k5 "ValueError.__new__")
theorem oex_of {K : PySem.W.Frag} {c r : Addr} (h : OexL K c r) (x : XB K c) : OexC K c := by
  obtain ⟨nm, q, N, bs, sn, sub, ab, col, dd, k0, k1, k2, k3, k5, e⟩ := h
  exact ⟨⟨nm, q, N, bs, _, sn, sub, ab, col, dd, k0, k1, k2, k3, k5, e, rfl⟩, x.sa, x.ec.hs, x.ty, x.kc⟩
theorem oexL_mk {K : PySem.W.Frag} {c r : Addr} {nm q N bs sn sub ab col dd k0 k1 k2 k3 k5} (e : K.lookup c = some (excClassObj nm q c N bs [.ref r, .type "ValueError", .type "Exception", .type "BaseException", .type "object"] true sn sub ab col dd k0 k1 k2 k3 k5 "ValueError.__new__")) : OexL K c r := ⟨_, _, _, _, _, _, _, _, _, _, _, _, _, _, e⟩
theorem fun_ex {K : PySem.W.Frag} {x qual : Str} {st : Stmt} {f : Addr} {oc : Value} {od an : Option Addr} {osl : Array (Option Value)} {kV doc pm cdv ct : Value} (l : K.lookup f = some ⟨oc, od, .func (PySem.W.fnOf x qual (defArgs st) (defBody st) (defScope st) .none kV doc pm an cdv ct), osl⟩)
    (c : PySem.W.codeIn K cdv qual = true) (k : PySem.W.keepIn K (.ref f) = true) : ∃ fd, Fun K x qual st f fd := ⟨_, fun_mk l c k⟩
abbrev veM : List Value := [.type "ValueError", .type "Exception", .type "BaseException", .type "object"]
def spLaw (K : PySem.W.Frag) : Sp := fun vs H Q _ => ∃ (a : Addr) (ns : List Int), vs = [.ref a] ∧ Only H ∧ SqL K H a (ns.map V.int) ∧ ns.length ≤ 63 ∧ ∀ H', Q (.bl true) H'
theorem rel_ints {K : PySem.W.Frag} {H : Hp} {ι : List Addr} : ∀ ns : List Int, RelDs K H ι (ns.map .int) (ns.map V.int)
  | [] => rfl
  | n :: ns => ⟨_, _, rfl, rfl, rel_ints ns⟩
theorem hrel_script {K : PySem.W.Frag} {mg : Str → Option Value} {H : Hp} {a : Addr} {ns : List Int} (hO : Only H) (hS : SqL K H a (ns.map V.int)) : HRel K H [a] mg [.rol (ns.map .int)] := by
  refine ⟨rfl, fun i j b e1 e2 => ?_, fun n o b e1 e2 => ?_⟩
  · have h1 := (List.getElem?_eq_some_iff.mp e1).1
    have h2 := (List.getElem?_eq_some_iff.mp e2).1
    simp at h1 h2
    exact .inl (h1.trans h2.symm)
  · have h1 := (List.getElem?_eq_some_iff.mp e1).1
    simp at h1
    subst h1
    simp at e1 e2
    subst e1 e2
    refine ⟨_, ?_, rel_ints ns⟩
    rcases hS with (q | q) | q
    · rcases hO a with z | ⟨o, xs, z⟩
      · rw [q] at z; cases z
      · rw [q] at z; cases z
    · exact .inl q
    · exact .inr q
theorem law_imp {K : PySem.W.Frag} {mg : Str → Option Value} : ∀ vs H Q E, spLaw K vs H Q E → LSp K mg sp_law vs H Q E := by
  rintro vs H Q E ⟨a, ns, rfl, hO, hS, hl, k⟩
  refine ⟨[a], [.rol (ns.map .int)], [.ref 0], hrel_script hO hS, ⟨.ref a, [], rfl, ⟨a, rfl, rfl⟩, rfl⟩, ns, rfl, rfl, hl, fun h' v H' ι' g hr' rd => ?_⟩
  cases rd
  exact k H'
theorem len_ini1 {C f : Str} (a : Str) : ∀ ds h Q E, spIni1 C f ds h Q E → ds.length = (["self", a] : List Str).length := by
  rintro ds h Q E ⟨n, v, rfl, _⟩; rfl
theorem len_nop : ∀ ds h Q E, sp_NoPatternDD_initDD ds h Q E → ds.length = (["self", "at", "why"] : List Str).length := by
  rintro ds h Q E ⟨n, v, w, rfl, _⟩; rfl
theorem len_made : ∀ ds h Q E, sp__law_made ds h Q E → ds.length = (["_law_value"] : List Str).length := by
  rintro ds h Q E ⟨v, rfl, _⟩; rfl
theorem len_marks : ∀ ds h Q E, sp__law_marks_of ds h Q E → ds.length = (["_law_error"] : List Str).length := by
  rintro ds h Q E ⟨n, C, m, rfl, _⟩; rfl
theorem len_parts : ∀ ds h Q E, sp__law_parts ds h Q E → ds.length = (["_law_error"] : List Str).length := by
  rintro ds h Q E ⟨n, ps, rfl, _⟩; rfl
theorem len_law : ∀ ds h Q E, sp_law ds h Q E → ds.length = (["_law_script"] : List Str).length := by
  rintro ds h Q E ⟨ns, rfl, _⟩; rfl
theorem all_mk {P : Program} {w : World} {K : PySem.W.Frag} {mg : Str → Option Value} {h : Heap} {fa : Addr} {c_RegsError c_NoPattern c_NoText c_NoControl c_NoNumber c_TooMany c_NoState c_NoValue c_NoWish c_NoMachine c_NoUpdates c_NoSpare c_NoWord : Addr} {f_NoPattern f_NoText f_TooMany f_NoState f_NoValue f_NoMachine f_NoUpdates f_NoSpare f_NoWord f_law_made f_law_marks_of f_law_parts flaw : Addr} (X : K.In h) (G : h.Ns mainGlobals mg) (hfa : mg "law" = some (.ref fa))
    (a_RegsError : PySem.W.nsIn K mainGlobals "RegsError" = some (some (.ref c_RegsError)))
    (a_NoPattern : PySem.W.nsIn K mainGlobals "NoPattern" = some (some (.ref c_NoPattern)))
    (a_NoText : PySem.W.nsIn K mainGlobals "NoText" = some (some (.ref c_NoText)))
    (a_NoControl : PySem.W.nsIn K mainGlobals "NoControl" = some (some (.ref c_NoControl)))
    (a_NoNumber : PySem.W.nsIn K mainGlobals "NoNumber" = some (some (.ref c_NoNumber)))
    (a_TooMany : PySem.W.nsIn K mainGlobals "TooMany" = some (some (.ref c_TooMany)))
    (a_NoState : PySem.W.nsIn K mainGlobals "NoState" = some (some (.ref c_NoState)))
    (a_NoValue : PySem.W.nsIn K mainGlobals "NoValue" = some (some (.ref c_NoValue)))
    (a_NoWish : PySem.W.nsIn K mainGlobals "NoWish" = some (some (.ref c_NoWish)))
    (a_NoMachine : PySem.W.nsIn K mainGlobals "NoMachine" = some (some (.ref c_NoMachine)))
    (a_NoUpdates : PySem.W.nsIn K mainGlobals "NoUpdates" = some (some (.ref c_NoUpdates)))
    (a_NoSpare : PySem.W.nsIn K mainGlobals "NoSpare" = some (some (.ref c_NoSpare)))
    (a_NoWord : PySem.W.nsIn K mainGlobals "NoWord" = some (some (.ref c_NoWord)))
    (e_RegsError : excB K c_RegsError = true)
    (e_NoPattern : excB K c_NoPattern = true)
    (e_NoText : excB K c_NoText = true)
    (e_NoControl : excB K c_NoControl = true)
    (e_NoNumber : excB K c_NoNumber = true)
    (e_TooMany : excB K c_TooMany = true)
    (e_NoState : excB K c_NoState = true)
    (e_NoValue : excB K c_NoValue = true)
    (e_NoWish : excB K c_NoWish = true)
    (e_NoMachine : excB K c_NoMachine = true)
    (e_NoUpdates : excB K c_NoUpdates = true)
    (e_NoSpare : excB K c_NoSpare = true)
    (e_NoWord : excB K c_NoWord = true)
    (xl_NoPattern : OexL K c_NoPattern c_RegsError)
    (xl_NoText : OexL K c_NoText c_RegsError)
    (xl_TooMany : OexL K c_TooMany c_RegsError)
    (xl_NoState : OexL K c_NoState c_RegsError)
    (xl_NoValue : OexL K c_NoValue c_RegsError)
    (xl_NoMachine : OexL K c_NoMachine c_RegsError)
    (xl_NoUpdates : OexL K c_NoUpdates c_RegsError)
    (xl_NoSpare : OexL K c_NoSpare c_RegsError)
    (xl_NoWord : OexL K c_NoWord c_RegsError)
    (x0_RegsError : PySem.W.excIn K c_RegsError veM "ValueError.__new__" = true)
    (x0_NoControl : PySem.W.excIn K c_NoControl veM "ValueError.__new__" = true)
    (x0_NoNumber : PySem.W.excIn K c_NoNumber veM "ValueError.__new__" = true)
    (x0_NoWish : PySem.W.excIn K c_NoWish veM "ValueError.__new__" = true)
    (i_NoPattern : PySem.W.findIn K (.ref c_NoPattern) "__init__" = some (some (.ref f_NoPattern)))
    (t_NoPattern : PySem.W.typeIn K (.ref f_NoPattern) = some (.type "function"))
    (F_NoPattern : ∃ fd, Fun K "__init__" "NoPattern.__init__" st_NoPatternDD_initDD f_NoPattern fd)
    (n_NoPattern_at : PySem.W.findIn K (.ref c_NoPattern) "at" = some none)
    (n_NoPattern_why : PySem.W.findIn K (.ref c_NoPattern) "why" = some none)
    (i_NoText : PySem.W.findIn K (.ref c_NoText) "__init__" = some (some (.ref f_NoText)))
    (t_NoText : PySem.W.typeIn K (.ref f_NoText) = some (.type "function"))
    (F_NoText : ∃ fd, Fun K "__init__" "NoText.__init__" st_NoTextDD_initDD f_NoText fd)
    (n_NoText_at : PySem.W.findIn K (.ref c_NoText) "at" = some none)
    (i_TooMany : PySem.W.findIn K (.ref c_TooMany) "__init__" = some (some (.ref f_TooMany)))
    (t_TooMany : PySem.W.typeIn K (.ref f_TooMany) = some (.type "function"))
    (F_TooMany : ∃ fd, Fun K "__init__" "TooMany.__init__" st_TooManyDD_initDD f_TooMany fd)
    (n_TooMany_most : PySem.W.findIn K (.ref c_TooMany) "most" = some none)
    (i_NoState : PySem.W.findIn K (.ref c_NoState) "__init__" = some (some (.ref f_NoState)))
    (t_NoState : PySem.W.typeIn K (.ref f_NoState) = some (.type "function"))
    (F_NoState : ∃ fd, Fun K "__init__" "NoState.__init__" st_NoStateDD_initDD f_NoState fd)
    (n_NoState_state : PySem.W.findIn K (.ref c_NoState) "state" = some none)
    (i_NoValue : PySem.W.findIn K (.ref c_NoValue) "__init__" = some (some (.ref f_NoValue)))
    (t_NoValue : PySem.W.typeIn K (.ref f_NoValue) = some (.type "function"))
    (F_NoValue : ∃ fd, Fun K "__init__" "NoValue.__init__" st_NoValueDD_initDD f_NoValue fd)
    (n_NoValue_value : PySem.W.findIn K (.ref c_NoValue) "value" = some none)
    (i_NoMachine : PySem.W.findIn K (.ref c_NoMachine) "__init__" = some (some (.ref f_NoMachine)))
    (t_NoMachine : PySem.W.typeIn K (.ref f_NoMachine) = some (.type "function"))
    (F_NoMachine : ∃ fd, Fun K "__init__" "NoMachine.__init__" st_NoMachineDD_initDD f_NoMachine fd)
    (n_NoMachine_why : PySem.W.findIn K (.ref c_NoMachine) "why" = some none)
    (i_NoUpdates : PySem.W.findIn K (.ref c_NoUpdates) "__init__" = some (some (.ref f_NoUpdates)))
    (t_NoUpdates : PySem.W.typeIn K (.ref f_NoUpdates) = some (.type "function"))
    (F_NoUpdates : ∃ fd, Fun K "__init__" "NoUpdates.__init__" st_NoUpdatesDD_initDD f_NoUpdates fd)
    (n_NoUpdates_at : PySem.W.findIn K (.ref c_NoUpdates) "at" = some none)
    (i_NoSpare : PySem.W.findIn K (.ref c_NoSpare) "__init__" = some (some (.ref f_NoSpare)))
    (t_NoSpare : PySem.W.typeIn K (.ref f_NoSpare) = some (.type "function"))
    (F_NoSpare : ∃ fd, Fun K "__init__" "NoSpare.__init__" st_NoSpareDD_initDD f_NoSpare fd)
    (n_NoSpare_spare : PySem.W.findIn K (.ref c_NoSpare) "spare" = some none)
    (i_NoWord : PySem.W.findIn K (.ref c_NoWord) "__init__" = some (some (.ref f_NoWord)))
    (t_NoWord : PySem.W.typeIn K (.ref f_NoWord) = some (.type "function"))
    (F_NoWord : ∃ fd, Fun K "__init__" "NoWord.__init__" st_NoWordDD_initDD f_NoWord fd)
    (n_NoWord_at : PySem.W.findIn K (.ref c_NoWord) "at" = some none)
    (g1 : PySem.W.specialIn K (.ref c_RegsError) "__getattribute__" = some (some (.builtin "type.__getattribute__")))
    (g2 : PySem.W.readsIn K c_RegsError (.type "type") = true)
    (g3 : PySem.W.findCls K (.ref c_RegsError) (.type "type") "__init__" = some (.val (.builtin "ValueError.__init__")))
    (a_law_made : PySem.W.nsIn K mainGlobals "_law_made" = some (some (.ref f_law_made)))
    (F_law_made : ∃ fd, Fun K "_law_made" "_law_made" st__law_made f_law_made fd)
    (a_law_marks_of : PySem.W.nsIn K mainGlobals "_law_marks_of" = some (some (.ref f_law_marks_of)))
    (F_law_marks_of : ∃ fd, Fun K "_law_marks_of" "_law_marks_of" st__law_marks_of f_law_marks_of fd)
    (a_law_parts : PySem.W.nsIn K mainGlobals "_law_parts" = some (some (.ref f_law_parts)))
    (F_law_parts : ∃ fd, Fun K "_law_parts" "_law_parts" st__law_parts f_law_parts fd)
    (alaw : PySem.W.nsIn K mainGlobals "law" = some (some (.ref flaw)))
    (Flaw : ∃ fd, Fun K "law" "law" st_law flaw fd)
    (z_isinstance : PySem.W.nsIn K mainGlobals "isinstance" = some none)
    (z_enumerate : PySem.W.nsIn K mainGlobals "enumerate" = some none)
    (z_range : PySem.W.nsIn K mainGlobals "range" = some none)
    (z_int : PySem.W.nsIn K mainGlobals "int" = some none)
    (z_ValueError : PySem.W.nsIn K mainGlobals "ValueError" = some none)
    (tb_RegsError : tbB K [.ref c_RegsError] [("RegsError", c_RegsError), ("NoPattern", c_NoPattern), ("NoText", c_NoText), ("NoControl", c_NoControl), ("NoNumber", c_NoNumber), ("TooMany", c_TooMany), ("NoState", c_NoState), ("NoValue", c_NoValue), ("NoWish", c_NoWish), ("NoMachine", c_NoMachine), ("NoUpdates", c_NoUpdates), ("NoSpare", c_NoSpare), ("NoWord", c_NoWord)] tab_RegsError = true)
    (tb_NoPattern : tbB K [.ref c_NoPattern] [("RegsError", c_RegsError), ("NoPattern", c_NoPattern), ("NoText", c_NoText), ("NoControl", c_NoControl), ("NoNumber", c_NoNumber), ("TooMany", c_TooMany), ("NoState", c_NoState), ("NoValue", c_NoValue), ("NoWish", c_NoWish), ("NoMachine", c_NoMachine), ("NoUpdates", c_NoUpdates), ("NoSpare", c_NoSpare), ("NoWord", c_NoWord)] tab_NoPattern = true)
    (tb_NoText : tbB K [.ref c_NoText] [("RegsError", c_RegsError), ("NoPattern", c_NoPattern), ("NoText", c_NoText), ("NoControl", c_NoControl), ("NoNumber", c_NoNumber), ("TooMany", c_TooMany), ("NoState", c_NoState), ("NoValue", c_NoValue), ("NoWish", c_NoWish), ("NoMachine", c_NoMachine), ("NoUpdates", c_NoUpdates), ("NoSpare", c_NoSpare), ("NoWord", c_NoWord)] tab_NoText = true)
    (tb_NoControl : tbB K [.ref c_NoControl] [("RegsError", c_RegsError), ("NoPattern", c_NoPattern), ("NoText", c_NoText), ("NoControl", c_NoControl), ("NoNumber", c_NoNumber), ("TooMany", c_TooMany), ("NoState", c_NoState), ("NoValue", c_NoValue), ("NoWish", c_NoWish), ("NoMachine", c_NoMachine), ("NoUpdates", c_NoUpdates), ("NoSpare", c_NoSpare), ("NoWord", c_NoWord)] tab_NoControl = true)
    (tb_NoNumber : tbB K [.ref c_NoNumber] [("RegsError", c_RegsError), ("NoPattern", c_NoPattern), ("NoText", c_NoText), ("NoControl", c_NoControl), ("NoNumber", c_NoNumber), ("TooMany", c_TooMany), ("NoState", c_NoState), ("NoValue", c_NoValue), ("NoWish", c_NoWish), ("NoMachine", c_NoMachine), ("NoUpdates", c_NoUpdates), ("NoSpare", c_NoSpare), ("NoWord", c_NoWord)] tab_NoNumber = true)
    (tb_TooMany : tbB K [.ref c_TooMany] [("RegsError", c_RegsError), ("NoPattern", c_NoPattern), ("NoText", c_NoText), ("NoControl", c_NoControl), ("NoNumber", c_NoNumber), ("TooMany", c_TooMany), ("NoState", c_NoState), ("NoValue", c_NoValue), ("NoWish", c_NoWish), ("NoMachine", c_NoMachine), ("NoUpdates", c_NoUpdates), ("NoSpare", c_NoSpare), ("NoWord", c_NoWord)] tab_TooMany = true)
    (tb_NoState : tbB K [.ref c_NoState] [("RegsError", c_RegsError), ("NoPattern", c_NoPattern), ("NoText", c_NoText), ("NoControl", c_NoControl), ("NoNumber", c_NoNumber), ("TooMany", c_TooMany), ("NoState", c_NoState), ("NoValue", c_NoValue), ("NoWish", c_NoWish), ("NoMachine", c_NoMachine), ("NoUpdates", c_NoUpdates), ("NoSpare", c_NoSpare), ("NoWord", c_NoWord)] tab_NoState = true)
    (tb_NoValue : tbB K [.ref c_NoValue] [("RegsError", c_RegsError), ("NoPattern", c_NoPattern), ("NoText", c_NoText), ("NoControl", c_NoControl), ("NoNumber", c_NoNumber), ("TooMany", c_TooMany), ("NoState", c_NoState), ("NoValue", c_NoValue), ("NoWish", c_NoWish), ("NoMachine", c_NoMachine), ("NoUpdates", c_NoUpdates), ("NoSpare", c_NoSpare), ("NoWord", c_NoWord)] tab_NoValue = true)
    (tb_NoWish : tbB K [.ref c_NoWish] [("RegsError", c_RegsError), ("NoPattern", c_NoPattern), ("NoText", c_NoText), ("NoControl", c_NoControl), ("NoNumber", c_NoNumber), ("TooMany", c_TooMany), ("NoState", c_NoState), ("NoValue", c_NoValue), ("NoWish", c_NoWish), ("NoMachine", c_NoMachine), ("NoUpdates", c_NoUpdates), ("NoSpare", c_NoSpare), ("NoWord", c_NoWord)] tab_NoWish = true)
    (tb_NoMachine : tbB K [.ref c_NoMachine] [("RegsError", c_RegsError), ("NoPattern", c_NoPattern), ("NoText", c_NoText), ("NoControl", c_NoControl), ("NoNumber", c_NoNumber), ("TooMany", c_TooMany), ("NoState", c_NoState), ("NoValue", c_NoValue), ("NoWish", c_NoWish), ("NoMachine", c_NoMachine), ("NoUpdates", c_NoUpdates), ("NoSpare", c_NoSpare), ("NoWord", c_NoWord)] tab_NoMachine = true)
    (tb_NoUpdates : tbB K [.ref c_NoUpdates] [("RegsError", c_RegsError), ("NoPattern", c_NoPattern), ("NoText", c_NoText), ("NoControl", c_NoControl), ("NoNumber", c_NoNumber), ("TooMany", c_TooMany), ("NoState", c_NoState), ("NoValue", c_NoValue), ("NoWish", c_NoWish), ("NoMachine", c_NoMachine), ("NoUpdates", c_NoUpdates), ("NoSpare", c_NoSpare), ("NoWord", c_NoWord)] tab_NoUpdates = true)
    (tb_NoSpare : tbB K [.ref c_NoSpare] [("RegsError", c_RegsError), ("NoPattern", c_NoPattern), ("NoText", c_NoText), ("NoControl", c_NoControl), ("NoNumber", c_NoNumber), ("TooMany", c_TooMany), ("NoState", c_NoState), ("NoValue", c_NoValue), ("NoWish", c_NoWish), ("NoMachine", c_NoMachine), ("NoUpdates", c_NoUpdates), ("NoSpare", c_NoSpare), ("NoWord", c_NoWord)] tab_NoSpare = true)
    (tb_NoWord : tbB K [.ref c_NoWord] [("RegsError", c_RegsError), ("NoPattern", c_NoPattern), ("NoText", c_NoText), ("NoControl", c_NoControl), ("NoNumber", c_NoNumber), ("TooMany", c_TooMany), ("NoState", c_NoState), ("NoValue", c_NoValue), ("NoWish", c_NoWish), ("NoMachine", c_NoMachine), ("NoUpdates", c_NoUpdates), ("NoSpare", c_NoSpare), ("NoWord", c_NoWord)] tab_NoWord = true)
    (tb_VE : tbB K [.type "ValueError"] [("RegsError", c_RegsError), ("NoPattern", c_NoPattern), ("NoText", c_NoText), ("NoControl", c_NoControl), ("NoNumber", c_NoNumber), ("TooMany", c_TooMany), ("NoState", c_NoState), ("NoValue", c_NoValue), ("NoWish", c_NoWish), ("NoMachine", c_NoMachine), ("NoUpdates", c_NoUpdates), ("NoSpare", c_NoSpare), ("NoWord", c_NoWord)] tab_ValueError = true)
    (tb_3 : tbB K [.ref c_NoText, .ref c_NoUpdates, .ref c_NoWord] [("RegsError", c_RegsError), ("NoPattern", c_NoPattern), ("NoText", c_NoText), ("NoControl", c_NoControl), ("NoNumber", c_NoNumber), ("TooMany", c_TooMany), ("NoState", c_NoState), ("NoValue", c_NoValue), ("NoWish", c_NoWish), ("NoMachine", c_NoMachine), ("NoUpdates", c_NoUpdates), ("NoSpare", c_NoSpare), ("NoWord", c_NoWord)] tab_NoText_NoUpdates_NoWord = true)
    : ∃ fd : FuncData, (∀ (s : Shared) (v : Value), BindsTo s fd ⟨[v], []⟩ [("_law_script", v)]) ∧ ∀ base : Heap, K.In base → base.Ns mainGlobals mg → FnOk P w K mg base (L2.CX P w) 4 fa fd ["_law_script"] (spLaw K) := by
  have e := hfa.symm.trans (PySem.W.mg_of X G alaw)
  cases e
  have hm_RegsError := PySem.W.mg_of X G a_RegsError
  have xb_RegsError := xb_of e_RegsError
  have hm_NoPattern := PySem.W.mg_of X G a_NoPattern
  have xb_NoPattern := xb_of e_NoPattern
  have hm_NoText := PySem.W.mg_of X G a_NoText
  have xb_NoText := xb_of e_NoText
  have hm_NoControl := PySem.W.mg_of X G a_NoControl
  have xb_NoControl := xb_of e_NoControl
  have hm_NoNumber := PySem.W.mg_of X G a_NoNumber
  have xb_NoNumber := xb_of e_NoNumber
  have hm_TooMany := PySem.W.mg_of X G a_TooMany
  have xb_TooMany := xb_of e_TooMany
  have hm_NoState := PySem.W.mg_of X G a_NoState
  have xb_NoState := xb_of e_NoState
  have hm_NoValue := PySem.W.mg_of X G a_NoValue
  have xb_NoValue := xb_of e_NoValue
  have hm_NoWish := PySem.W.mg_of X G a_NoWish
  have xb_NoWish := xb_of e_NoWish
  have hm_NoMachine := PySem.W.mg_of X G a_NoMachine
  have xb_NoMachine := xb_of e_NoMachine
  have hm_NoUpdates := PySem.W.mg_of X G a_NoUpdates
  have xb_NoUpdates := xb_of e_NoUpdates
  have hm_NoSpare := PySem.W.mg_of X G a_NoSpare
  have xb_NoSpare := xb_of e_NoSpare
  have hm_NoWord := PySem.W.mg_of X G a_NoWord
  have xb_NoWord := xb_of e_NoWord
  have oc_NoPattern := oex_of xl_NoPattern xb_NoPattern
  have xc_NoPattern : GXC K mg "NoPattern" := ⟨⟨_, hm_NoPattern, oc_NoPattern⟩⟩
  have xf_NoPattern_at : GXF K mg "NoPattern" "at" := ⟨⟨_, hm_NoPattern, oc_NoPattern, xb_NoPattern.ec, n_NoPattern_at⟩⟩
  have xf_NoPattern_why : GXF K mg "NoPattern" "why" := ⟨⟨_, hm_NoPattern, oc_NoPattern, xb_NoPattern.ec, n_NoPattern_why⟩⟩
  obtain ⟨fd_NoPattern, F_NoPattern⟩ := F_NoPattern
  have oc_NoText := oex_of xl_NoText xb_NoText
  have xc_NoText : GXC K mg "NoText" := ⟨⟨_, hm_NoText, oc_NoText⟩⟩
  have xf_NoText_at : GXF K mg "NoText" "at" := ⟨⟨_, hm_NoText, oc_NoText, xb_NoText.ec, n_NoText_at⟩⟩
  obtain ⟨fd_NoText, F_NoText⟩ := F_NoText
  have oc_TooMany := oex_of xl_TooMany xb_TooMany
  have xc_TooMany : GXC K mg "TooMany" := ⟨⟨_, hm_TooMany, oc_TooMany⟩⟩
  have xf_TooMany_most : GXF K mg "TooMany" "most" := ⟨⟨_, hm_TooMany, oc_TooMany, xb_TooMany.ec, n_TooMany_most⟩⟩
  obtain ⟨fd_TooMany, F_TooMany⟩ := F_TooMany
  have oc_NoState := oex_of xl_NoState xb_NoState
  have xc_NoState : GXC K mg "NoState" := ⟨⟨_, hm_NoState, oc_NoState⟩⟩
  have xf_NoState_state : GXF K mg "NoState" "state" := ⟨⟨_, hm_NoState, oc_NoState, xb_NoState.ec, n_NoState_state⟩⟩
  obtain ⟨fd_NoState, F_NoState⟩ := F_NoState
  have oc_NoValue := oex_of xl_NoValue xb_NoValue
  have xc_NoValue : GXC K mg "NoValue" := ⟨⟨_, hm_NoValue, oc_NoValue⟩⟩
  have xf_NoValue_value : GXF K mg "NoValue" "value" := ⟨⟨_, hm_NoValue, oc_NoValue, xb_NoValue.ec, n_NoValue_value⟩⟩
  obtain ⟨fd_NoValue, F_NoValue⟩ := F_NoValue
  have oc_NoMachine := oex_of xl_NoMachine xb_NoMachine
  have xc_NoMachine : GXC K mg "NoMachine" := ⟨⟨_, hm_NoMachine, oc_NoMachine⟩⟩
  have xf_NoMachine_why : GXF K mg "NoMachine" "why" := ⟨⟨_, hm_NoMachine, oc_NoMachine, xb_NoMachine.ec, n_NoMachine_why⟩⟩
  obtain ⟨fd_NoMachine, F_NoMachine⟩ := F_NoMachine
  have oc_NoUpdates := oex_of xl_NoUpdates xb_NoUpdates
  have xc_NoUpdates : GXC K mg "NoUpdates" := ⟨⟨_, hm_NoUpdates, oc_NoUpdates⟩⟩
  have xf_NoUpdates_at : GXF K mg "NoUpdates" "at" := ⟨⟨_, hm_NoUpdates, oc_NoUpdates, xb_NoUpdates.ec, n_NoUpdates_at⟩⟩
  obtain ⟨fd_NoUpdates, F_NoUpdates⟩ := F_NoUpdates
  have oc_NoSpare := oex_of xl_NoSpare xb_NoSpare
  have xc_NoSpare : GXC K mg "NoSpare" := ⟨⟨_, hm_NoSpare, oc_NoSpare⟩⟩
  have xf_NoSpare_spare : GXF K mg "NoSpare" "spare" := ⟨⟨_, hm_NoSpare, oc_NoSpare, xb_NoSpare.ec, n_NoSpare_spare⟩⟩
  obtain ⟨fd_NoSpare, F_NoSpare⟩ := F_NoSpare
  have oc_NoWord := oex_of xl_NoWord xb_NoWord
  have xc_NoWord : GXC K mg "NoWord" := ⟨⟨_, hm_NoWord, oc_NoWord⟩⟩
  have xf_NoWord_at : GXF K mg "NoWord" "at" := ⟨⟨_, hm_NoWord, oc_NoWord, xb_NoWord.ec, n_NoWord_at⟩⟩
  obtain ⟨fd_NoWord, F_NoWord⟩ := F_NoWord
  have xi_RegsError : GXI K mg "RegsError" := ⟨⟨_, hm_RegsError, g1, g2, g3⟩⟩
  have x0g_RegsError : GX0 K mg "RegsError" := ⟨⟨_, _, hm_RegsError, x0_RegsError, PySem.F.excBase_ValueError, xb_RegsError.kc⟩⟩
  have x0g_NoControl : GX0 K mg "NoControl" := ⟨⟨_, _, hm_NoControl, x0_NoControl, PySem.F.excBase_ValueError, xb_NoControl.kc⟩⟩
  have x0g_NoNumber : GX0 K mg "NoNumber" := ⟨⟨_, _, hm_NoNumber, x0_NoNumber, PySem.F.excBase_ValueError, xb_NoNumber.kc⟩⟩
  have x0g_NoWish : GX0 K mg "NoWish" := ⟨⟨_, _, hm_NoWish, x0_NoWish, PySem.F.excBase_ValueError, xb_NoWish.kc⟩⟩
  have allc : ∀ p ∈ ([("RegsError", c_RegsError), ("NoPattern", c_NoPattern), ("NoText", c_NoText), ("NoControl", c_NoControl), ("NoNumber", c_NoNumber), ("TooMany", c_TooMany), ("NoState", c_NoState), ("NoValue", c_NoValue), ("NoWish", c_NoWish), ("NoMachine", c_NoMachine), ("NoUpdates", c_NoUpdates), ("NoSpare", c_NoSpare), ("NoWord", c_NoWord)] : List (Str × Addr)), mg p.1 = some (.ref p.2) ∧ ExcC K p.2 := by
    intro p hp
    simp only [List.mem_cons, List.not_mem_nil, or_false] at hp
    rcases hp with rfl | rfl | rfl | rfl | rfl | rfl | rfl | rfl | rfl | rfl | rfl | rfl | rfl
    · exact ⟨hm_RegsError, xb_RegsError.ec⟩
    · exact ⟨hm_NoPattern, xb_NoPattern.ec⟩
    · exact ⟨hm_NoText, xb_NoText.ec⟩
    · exact ⟨hm_NoControl, xb_NoControl.ec⟩
    · exact ⟨hm_NoNumber, xb_NoNumber.ec⟩
    · exact ⟨hm_TooMany, xb_TooMany.ec⟩
    · exact ⟨hm_NoState, xb_NoState.ec⟩
    · exact ⟨hm_NoValue, xb_NoValue.ec⟩
    · exact ⟨hm_NoWish, xb_NoWish.ec⟩
    · exact ⟨hm_NoMachine, xb_NoMachine.ec⟩
    · exact ⟨hm_NoUpdates, xb_NoUpdates.ec⟩
    · exact ⟨hm_NoSpare, xb_NoSpare.ec⟩
    · exact ⟨hm_NoWord, xb_NoWord.ec⟩
  have is_RegsError : GIsN K mg ["RegsError"] tab_RegsError := ⟨⟨[c_RegsError], .cons hm_RegsError .nil, tb_of tb_RegsError allc⟩⟩
  have is_NoPattern : GIsN K mg ["NoPattern"] tab_NoPattern := ⟨⟨[c_NoPattern], .cons hm_NoPattern .nil, tb_of tb_NoPattern allc⟩⟩
  have is_NoText : GIsN K mg ["NoText"] tab_NoText := ⟨⟨[c_NoText], .cons hm_NoText .nil, tb_of tb_NoText allc⟩⟩
  have is_NoControl : GIsN K mg ["NoControl"] tab_NoControl := ⟨⟨[c_NoControl], .cons hm_NoControl .nil, tb_of tb_NoControl allc⟩⟩
  have is_NoNumber : GIsN K mg ["NoNumber"] tab_NoNumber := ⟨⟨[c_NoNumber], .cons hm_NoNumber .nil, tb_of tb_NoNumber allc⟩⟩
  have is_TooMany : GIsN K mg ["TooMany"] tab_TooMany := ⟨⟨[c_TooMany], .cons hm_TooMany .nil, tb_of tb_TooMany allc⟩⟩
  have is_NoState : GIsN K mg ["NoState"] tab_NoState := ⟨⟨[c_NoState], .cons hm_NoState .nil, tb_of tb_NoState allc⟩⟩
  have is_NoValue : GIsN K mg ["NoValue"] tab_NoValue := ⟨⟨[c_NoValue], .cons hm_NoValue .nil, tb_of tb_NoValue allc⟩⟩
  have is_NoWish : GIsN K mg ["NoWish"] tab_NoWish := ⟨⟨[c_NoWish], .cons hm_NoWish .nil, tb_of tb_NoWish allc⟩⟩
  have is_NoMachine : GIsN K mg ["NoMachine"] tab_NoMachine := ⟨⟨[c_NoMachine], .cons hm_NoMachine .nil, tb_of tb_NoMachine allc⟩⟩
  have is_NoUpdates : GIsN K mg ["NoUpdates"] tab_NoUpdates := ⟨⟨[c_NoUpdates], .cons hm_NoUpdates .nil, tb_of tb_NoUpdates allc⟩⟩
  have is_NoSpare : GIsN K mg ["NoSpare"] tab_NoSpare := ⟨⟨[c_NoSpare], .cons hm_NoSpare .nil, tb_of tb_NoSpare allc⟩⟩
  have is_NoWord : GIsN K mg ["NoWord"] tab_NoWord := ⟨⟨[c_NoWord], .cons hm_NoWord .nil, tb_of tb_NoWord allc⟩⟩
  have is_NoText_NoUpdates_NoWord : GIsN K mg ["NoText", "NoUpdates", "NoWord"] tab_NoText_NoUpdates_NoWord := ⟨⟨[c_NoText, c_NoUpdates, c_NoWord], .cons hm_NoText (.cons hm_NoUpdates (.cons hm_NoWord .nil)), tb_of tb_3 allc⟩⟩
  have b_isinstance := PySem.W.mg_none_of X G z_isinstance
  have b_enumerate := PySem.W.mg_none_of X G z_enumerate
  have b_range := PySem.W.mg_none_of X G z_range
  have b_int := PySem.W.mg_none_of X G z_int
  have isb_ValueError : GIsB K mg "ValueError" tab_ValueError := ⟨PySem.W.mg_none_of X G z_ValueError, tb_of tb_VE allc⟩
  obtain ⟨fd_law_made, F_law_made⟩ := F_law_made
  obtain ⟨fd_law_marks_of, F_law_marks_of⟩ := F_law_marks_of
  obtain ⟨fd_law_parts, F_law_parts⟩ := F_law_parts
  obtain ⟨fdlaw, Flaw⟩ := Flaw
  refine ⟨fdlaw, fun s v => ?_, fun base _ _ => ?_⟩
  · obtain ⟨oc, od, kV, doc, pm, an, cdv, ct, osl, rfl, lk, hcd⟩ := Flaw.ex
    exact .of_eq rfl
  have ok_NoPattern : FnOk P w K mg base (L2.CX P w) 1 f_NoPattern fd_NoPattern ["self", "at", "why"] (LSp K mg sp_NoPatternDD_initDD) := fn_ok3 F_NoPattern sc_NoPatternDD_initDD (len_nop) b_NoPattern (d_NoPatternDD_initDD xc_NoPattern xf_NoPattern_at xf_NoPattern_why xi_RegsError)
  have x_NoPattern : GX P w K mg base "NoPattern" 1 sp_NoPatternDD_initDD := ⟨⟨_, _, _, _, ok_NoPattern, hm_NoPattern, oc_NoPattern, i_NoPattern, t_NoPattern, F_NoPattern.binds (ps := ["self", "at", "why"]) fun _ _ _ _ _ _ us hl => match us, hl with | [_, _, _], _ => rfl⟩, mono_nop⟩
  have ok_NoText : FnOk P w K mg base (L2.CX P w) 1 f_NoText fd_NoText ["self", "at"] (LSp K mg sp_NoTextDD_initDD) := fn_ok3 F_NoText sc_NoTextDD_initDD (len_ini1 "at") b_NoText (d_NoTextDD_initDD xc_NoText xf_NoText_at xi_RegsError)
  have x_NoText : GX P w K mg base "NoText" 1 sp_NoTextDD_initDD := ⟨⟨_, _, _, _, ok_NoText, hm_NoText, oc_NoText, i_NoText, t_NoText, F_NoText.binds (ps := ["self", "at"]) fun _ _ _ _ _ _ us hl => match us, hl with | [_, _], _ => rfl⟩, mono_ini1 _ _⟩
  have ok_TooMany : FnOk P w K mg base (L2.CX P w) 1 f_TooMany fd_TooMany ["self", "most"] (LSp K mg sp_TooManyDD_initDD) := fn_ok3 F_TooMany sc_TooManyDD_initDD (len_ini1 "most") b_TooMany (d_TooManyDD_initDD xc_TooMany xf_TooMany_most xi_RegsError)
  have x_TooMany : GX P w K mg base "TooMany" 1 sp_TooManyDD_initDD := ⟨⟨_, _, _, _, ok_TooMany, hm_TooMany, oc_TooMany, i_TooMany, t_TooMany, F_TooMany.binds (ps := ["self", "most"]) fun _ _ _ _ _ _ us hl => match us, hl with | [_, _], _ => rfl⟩, mono_ini1 _ _⟩
  have ok_NoState : FnOk P w K mg base (L2.CX P w) 1 f_NoState fd_NoState ["self", "state"] (LSp K mg sp_NoStateDD_initDD) := fn_ok3 F_NoState sc_NoStateDD_initDD (len_ini1 "state") b_NoState (d_NoStateDD_initDD xc_NoState xf_NoState_state xi_RegsError)
  have x_NoState : GX P w K mg base "NoState" 1 sp_NoStateDD_initDD := ⟨⟨_, _, _, _, ok_NoState, hm_NoState, oc_NoState, i_NoState, t_NoState, F_NoState.binds (ps := ["self", "state"]) fun _ _ _ _ _ _ us hl => match us, hl with | [_, _], _ => rfl⟩, mono_ini1 _ _⟩
  have ok_NoValue : FnOk P w K mg base (L2.CX P w) 1 f_NoValue fd_NoValue ["self", "value"] (LSp K mg sp_NoValueDD_initDD) := fn_ok3 F_NoValue sc_NoValueDD_initDD (len_ini1 "value") b_NoValue (d_NoValueDD_initDD xc_NoValue xf_NoValue_value xi_RegsError)
  have x_NoValue : GX P w K mg base "NoValue" 1 sp_NoValueDD_initDD := ⟨⟨_, _, _, _, ok_NoValue, hm_NoValue, oc_NoValue, i_NoValue, t_NoValue, F_NoValue.binds (ps := ["self", "value"]) fun _ _ _ _ _ _ us hl => match us, hl with | [_, _], _ => rfl⟩, mono_ini1 _ _⟩
  have ok_NoMachine : FnOk P w K mg base (L2.CX P w) 1 f_NoMachine fd_NoMachine ["self", "why"] (LSp K mg sp_NoMachineDD_initDD) := fn_ok3 F_NoMachine sc_NoMachineDD_initDD (len_ini1 "why") b_NoMachine (d_NoMachineDD_initDD xc_NoMachine xf_NoMachine_why xi_RegsError)
  have x_NoMachine : GX P w K mg base "NoMachine" 1 sp_NoMachineDD_initDD := ⟨⟨_, _, _, _, ok_NoMachine, hm_NoMachine, oc_NoMachine, i_NoMachine, t_NoMachine, F_NoMachine.binds (ps := ["self", "why"]) fun _ _ _ _ _ _ us hl => match us, hl with | [_, _], _ => rfl⟩, mono_ini1 _ _⟩
  have ok_NoUpdates : FnOk P w K mg base (L2.CX P w) 1 f_NoUpdates fd_NoUpdates ["self", "at"] (LSp K mg sp_NoUpdatesDD_initDD) := fn_ok3 F_NoUpdates sc_NoUpdatesDD_initDD (len_ini1 "at") b_NoUpdates (d_NoUpdatesDD_initDD xc_NoUpdates xf_NoUpdates_at xi_RegsError)
  have x_NoUpdates : GX P w K mg base "NoUpdates" 1 sp_NoUpdatesDD_initDD := ⟨⟨_, _, _, _, ok_NoUpdates, hm_NoUpdates, oc_NoUpdates, i_NoUpdates, t_NoUpdates, F_NoUpdates.binds (ps := ["self", "at"]) fun _ _ _ _ _ _ us hl => match us, hl with | [_, _], _ => rfl⟩, mono_ini1 _ _⟩
  have ok_NoSpare : FnOk P w K mg base (L2.CX P w) 1 f_NoSpare fd_NoSpare ["self", "spare"] (LSp K mg sp_NoSpareDD_initDD) := fn_ok3 F_NoSpare sc_NoSpareDD_initDD (len_ini1 "spare") b_NoSpare (d_NoSpareDD_initDD xc_NoSpare xf_NoSpare_spare xi_RegsError)
  have x_NoSpare : GX P w K mg base "NoSpare" 1 sp_NoSpareDD_initDD := ⟨⟨_, _, _, _, ok_NoSpare, hm_NoSpare, oc_NoSpare, i_NoSpare, t_NoSpare, F_NoSpare.binds (ps := ["self", "spare"]) fun _ _ _ _ _ _ us hl => match us, hl with | [_, _], _ => rfl⟩, mono_ini1 _ _⟩
  have ok_NoWord : FnOk P w K mg base (L2.CX P w) 1 f_NoWord fd_NoWord ["self", "at"] (LSp K mg sp_NoWordDD_initDD) := fn_ok3 F_NoWord sc_NoWordDD_initDD (len_ini1 "at") b_NoWord (d_NoWordDD_initDD xc_NoWord xf_NoWord_at xi_RegsError)
  have x_NoWord : GX P w K mg base "NoWord" 1 sp_NoWordDD_initDD := ⟨⟨_, _, _, _, ok_NoWord, hm_NoWord, oc_NoWord, i_NoWord, t_NoWord, F_NoWord.binds (ps := ["self", "at"]) fun _ _ _ _ _ _ us hl => match us, hl with | [_, _], _ => rfl⟩, mono_ini1 _ _⟩
  have x0_RegsError := x0g_RegsError
  have x0_NoControl := x0g_NoControl
  have x0_NoNumber := x0g_NoNumber
  have x0_NoWish := x0g_NoWish
  have g__law_made : GF P w K mg base "_law_made" 3 sp__law_made := ⟨⟨_, _, _, fn_ok3 F_law_made sc__law_made len_made b_made (d__law_made x0_NoControl x0_NoNumber x0_NoWish x_NoMachine x_NoPattern x_NoSpare x_NoState x_NoText x_NoUpdates x_NoValue x_NoWord x_TooMany), PySem.W.mg_of X G a_law_made, F_law_made.kp, F_law_made.binds (ps := ["_law_value"]) fun _ _ _ _ _ _ us hl => match us, hl with | [_], _ => rfl⟩, mono_made⟩
  have g__law_marks_of : GF P w K mg base "_law_marks_of" 1 sp__law_marks_of := ⟨⟨_, _, _, fn_ok3 F_law_marks_of sc__law_marks_of len_marks b_marks (d__law_marks_of b_isinstance is_NoControl is_NoMachine is_NoNumber is_NoPattern is_NoSpare is_NoState is_NoText is_NoUpdates is_NoValue is_NoWish is_NoWord is_TooMany), PySem.W.mg_of X G a_law_marks_of, F_law_marks_of.kp, F_law_marks_of.binds (ps := ["_law_error"]) fun _ _ _ _ _ _ us hl => match us, hl with | [_], _ => rfl⟩, mono_marks⟩
  have g__law_parts : GF P w K mg base "_law_parts" 1 sp__law_parts := ⟨⟨_, _, _, fn_ok3 F_law_parts sc__law_parts len_parts b_parts (d__law_parts b_isinstance is_NoMachine is_NoPattern is_NoSpare is_NoState is_NoText_NoUpdates_NoWord is_NoValue is_TooMany xf_NoMachine_why xf_NoPattern_at xf_NoPattern_why xf_NoSpare_spare xf_NoState_state xf_NoText_at xf_NoUpdates_at xf_NoValue_value xf_NoWord_at xf_TooMany_most), PySem.W.mg_of X G a_law_parts, F_law_parts.kp, F_law_parts.binds (ps := ["_law_error"]) fun _ _ _ _ _ _ us hl => match us, hl with | [_], _ => rfl⟩, mono_parts⟩
  exact FnOk.imp (fn_ok3 Flaw sc_law len_law b_law (d_law b_enumerate b_int b_isinstance b_range g__law_made g__law_marks_of g__law_parts is_RegsError isb_ValueError x0_RegsError)) law_imp
theorem cx_no {P : Program} {w : World} (H : Hp) (s : Shared) (e : Value) (s' : Shared) (h : L2.CX P w [] H s (fun _ _ _ => False) e s') : False := by
  obtain ⟨_, _, _, _, _, _, _, _, _, _, _, _, z⟩ := h
  exact z
theorem walk {l : PySem.W.OpenLaw} {q : Program} {loose : List Str} {XP : (Str → Option Value) → Heap → Prop} {YP : World → Heap → Prop} {d : DefRec} {K : Params → PySem.W.Frag} (hn : l.most = some 63) (hdf : d.params.defaults = [])
    (hY : ∀ (w : World) (h : Heap), YP w h → (K w.params).In h)
    (F : ∀ (w : World) (mg : Str → Option Value) (fa : Addr) (h : Heap), (K w.params).In h → h.Ns mainGlobals mg → mg d.name = some (.ref fa) →
      ∃ fd : FuncData, (∀ (s : Shared) (u : Value), BindsTo s fd ⟨[u], []⟩ [("_law_script", u)]) ∧ ∀ base : Heap, (K w.params).In base → base.Ns mainGlobals mg → FnOk l.prog w (K w.params) mg base (L2.CX l.prog w) 4 fa fd ["_law_script"] (spLaw (K w.params))) :
    PySem.W.WalkO q loose XP YP l.row.toRowW d [] (fun f vs => PySem.call f vs) :=
  L2.walk_of (n := 63) (k := 4) (x := "_law_script") (CX := fun w => L2.CX l.prog w) (sp := fun w => spLaw (K w.params)) hn (by decide) hdf ⟨rfl, by decide, by decide⟩ hY F (fun _ _ a ns hl hO hS => ⟨a, ns, rfl, hO, hS, hl, fun _ => rfl⟩) fun _ H s e s' z => cx_no H s e s' z
end EV

open PySem PySem.W PyProof.Rows in
set_option maxRecDepth 100000 in
set_option maxHeartbeats 0 in
theorem PySem.Challenge.cw_leastregs_k45_errors_of_one_family_holds : PySem.Challenge.rw_leastregs_k45_errors_of_one_family.Holds := by
  w_on; o_law; k_head; (case hw => w_witness2)
  k_fill
  refine EV.walk (l := PySem.Challenge.rw_leastregs_k45_errors_of_one_family) rfl rfl (fun w h Y => PySem.W.kIn_of Y) ?F
  case F =>
    intro w mg fa h KX G hmg
    refine' EV.all_mk KX G hmg ?a_RegsError ?a_NoPattern ?a_NoText ?a_NoControl ?a_NoNumber ?a_TooMany ?a_NoState ?a_NoValue ?a_NoWish ?a_NoMachine ?a_NoUpdates ?a_NoSpare ?a_NoWord ?e_RegsError ?e_NoPattern ?e_NoText ?e_NoControl ?e_NoNumber ?e_TooMany ?e_NoState ?e_NoValue ?e_NoWish ?e_NoMachine ?e_NoUpdates ?e_NoSpare ?e_NoWord ?xl_NoPattern ?xl_NoText ?xl_TooMany ?xl_NoState ?xl_NoValue ?xl_NoMachine ?xl_NoUpdates ?xl_NoSpare ?xl_NoWord ?x0_RegsError ?x0_NoControl ?x0_NoNumber ?x0_NoWish ?i_NoPattern ?t_NoPattern ?F_NoPattern ?n_NoPattern_at ?n_NoPattern_why ?i_NoText ?t_NoText ?F_NoText ?n_NoText_at ?i_TooMany ?t_TooMany ?F_TooMany ?n_TooMany_most ?i_NoState ?t_NoState ?F_NoState ?n_NoState_state ?i_NoValue ?t_NoValue ?F_NoValue ?n_NoValue_value ?i_NoMachine ?t_NoMachine ?F_NoMachine ?n_NoMachine_why ?i_NoUpdates ?t_NoUpdates ?F_NoUpdates ?n_NoUpdates_at ?i_NoSpare ?t_NoSpare ?F_NoSpare ?n_NoSpare_spare ?i_NoWord ?t_NoWord ?F_NoWord ?n_NoWord_at ?g1 ?g2 ?g3 ?a_law_made ?F_law_made ?a_law_marks_of ?F_law_marks_of ?a_law_parts ?F_law_parts ?alaw ?Flaw ?z_isinstance ?z_enumerate ?z_range ?z_int ?z_ValueError ?tb_RegsError ?tb_NoPattern ?tb_NoText ?tb_NoControl ?tb_NoNumber ?tb_TooMany ?tb_NoState ?tb_NoValue ?tb_NoWish ?tb_NoMachine ?tb_NoUpdates ?tb_NoSpare ?tb_NoWord ?tb_VE ?tb_3
    (case a_RegsError => k_is)
    (case a_NoPattern => k_is)
    (case a_NoText => k_is)
    (case a_NoControl => k_is)
    (case a_NoNumber => k_is)
    (case a_TooMany => k_is)
    (case a_NoState => k_is)
    (case a_NoValue => k_is)
    (case a_NoWish => k_is)
    (case a_NoMachine => k_is)
    (case a_NoUpdates => k_is)
    (case a_NoSpare => k_is)
    (case a_NoWord => k_is)
    (case e_RegsError => kernel_rfl)
    (case e_NoPattern => kernel_rfl)
    (case e_NoText => kernel_rfl)
    (case e_NoControl => kernel_rfl)
    (case e_NoNumber => kernel_rfl)
    (case e_TooMany => kernel_rfl)
    (case e_NoState => kernel_rfl)
    (case e_NoValue => kernel_rfl)
    (case e_NoWish => kernel_rfl)
    (case e_NoMachine => kernel_rfl)
    (case e_NoUpdates => kernel_rfl)
    (case e_NoSpare => kernel_rfl)
    (case e_NoWord => kernel_rfl)
    (case xl_NoPattern => (refine' EV.oexL_mk ?z; (case z => k_is)))
    (case xl_NoText => (refine' EV.oexL_mk ?z; (case z => k_is)))
    (case xl_TooMany => (refine' EV.oexL_mk ?z; (case z => k_is)))
    (case xl_NoState => (refine' EV.oexL_mk ?z; (case z => k_is)))
    (case xl_NoValue => (refine' EV.oexL_mk ?z; (case z => k_is)))
    (case xl_NoMachine => (refine' EV.oexL_mk ?z; (case z => k_is)))
    (case xl_NoUpdates => (refine' EV.oexL_mk ?z; (case z => k_is)))
    (case xl_NoSpare => (refine' EV.oexL_mk ?z; (case z => k_is)))
    (case xl_NoWord => (refine' EV.oexL_mk ?z; (case z => k_is)))
    (case x0_RegsError => k_exc)
    (case x0_NoControl => k_exc)
    (case x0_NoNumber => k_exc)
    (case x0_NoWish => k_exc)
    (case i_NoPattern => k_is)
    (case t_NoPattern => k_is)
    (case F_NoPattern => (refine' EV.fun_ex (st := EV.st_NoPatternDD_initDD) ?l ?c ?k; (case l => k_is); (case c => k_is); (case k => k_is)))
    (case n_NoPattern_at => k_is)
    (case n_NoPattern_why => k_is)
    (case i_NoText => k_is)
    (case t_NoText => k_is)
    (case F_NoText => (refine' EV.fun_ex (st := EV.st_NoTextDD_initDD) ?l ?c ?k; (case l => k_is); (case c => k_is); (case k => k_is)))
    (case n_NoText_at => k_is)
    (case i_TooMany => k_is)
    (case t_TooMany => k_is)
    (case F_TooMany => (refine' EV.fun_ex (st := EV.st_TooManyDD_initDD) ?l ?c ?k; (case l => k_is); (case c => k_is); (case k => k_is)))
    (case n_TooMany_most => k_is)
    (case i_NoState => k_is)
    (case t_NoState => k_is)
    (case F_NoState => (refine' EV.fun_ex (st := EV.st_NoStateDD_initDD) ?l ?c ?k; (case l => k_is); (case c => k_is); (case k => k_is)))
    (case n_NoState_state => k_is)
    (case i_NoValue => k_is)
    (case t_NoValue => k_is)
    (case F_NoValue => (refine' EV.fun_ex (st := EV.st_NoValueDD_initDD) ?l ?c ?k; (case l => k_is); (case c => k_is); (case k => k_is)))
    (case n_NoValue_value => k_is)
    (case i_NoMachine => k_is)
    (case t_NoMachine => k_is)
    (case F_NoMachine => (refine' EV.fun_ex (st := EV.st_NoMachineDD_initDD) ?l ?c ?k; (case l => k_is); (case c => k_is); (case k => k_is)))
    (case n_NoMachine_why => k_is)
    (case i_NoUpdates => k_is)
    (case t_NoUpdates => k_is)
    (case F_NoUpdates => (refine' EV.fun_ex (st := EV.st_NoUpdatesDD_initDD) ?l ?c ?k; (case l => k_is); (case c => k_is); (case k => k_is)))
    (case n_NoUpdates_at => k_is)
    (case i_NoSpare => k_is)
    (case t_NoSpare => k_is)
    (case F_NoSpare => (refine' EV.fun_ex (st := EV.st_NoSpareDD_initDD) ?l ?c ?k; (case l => k_is); (case c => k_is); (case k => k_is)))
    (case n_NoSpare_spare => k_is)
    (case i_NoWord => k_is)
    (case t_NoWord => k_is)
    (case F_NoWord => (refine' EV.fun_ex (st := EV.st_NoWordDD_initDD) ?l ?c ?k; (case l => k_is); (case c => k_is); (case k => k_is)))
    (case n_NoWord_at => k_is)
    (case g1 => k_is)
    (case g2 => k_is)
    (case g3 => k_is)
    (case a_law_made => k_is)
    (case F_law_made => (refine' EV.fun_ex (st := EV.st__law_made) ?l ?c ?k; (case l => k_is); (case c => k_is); (case k => k_is)))
    (case a_law_marks_of => k_is)
    (case F_law_marks_of => (refine' EV.fun_ex (st := EV.st__law_marks_of) ?l ?c ?k; (case l => k_is); (case c => k_is); (case k => k_is)))
    (case a_law_parts => k_is)
    (case F_law_parts => (refine' EV.fun_ex (st := EV.st__law_parts) ?l ?c ?k; (case l => k_is); (case c => k_is); (case k => k_is)))
    (case alaw => k_is)
    (case Flaw => (refine' EV.fun_ex (st := EV.st_law) ?l ?c ?k; (case l => k_is); (case c => k_is); (case k => k_is)))
    (case z_isinstance => k_is)
    (case z_enumerate => k_is)
    (case z_range => k_is)
    (case z_int => k_is)
    (case z_ValueError => k_is)
    (case tb_RegsError => kernel_rfl)
    (case tb_NoPattern => kernel_rfl)
    (case tb_NoText => kernel_rfl)
    (case tb_NoControl => kernel_rfl)
    (case tb_NoNumber => kernel_rfl)
    (case tb_TooMany => kernel_rfl)
    (case tb_NoState => kernel_rfl)
    (case tb_NoValue => kernel_rfl)
    (case tb_NoWish => kernel_rfl)
    (case tb_NoMachine => kernel_rfl)
    (case tb_NoUpdates => kernel_rfl)
    (case tb_NoSpare => kernel_rfl)
    (case tb_NoWord => kernel_rfl)
    (case tb_VE => kernel_rfl)
    (case tb_3 => kernel_rfl)
#print axioms PySem.Challenge.cw_leastregs_k45_errors_of_one_family_holds
