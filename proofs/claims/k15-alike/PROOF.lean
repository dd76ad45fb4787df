import PyProof.Rows.All
import Wide.All
import OpenK.AllK
import Wide.FinOn
import HandS.ForMost
import HandS.WordsExc
import HandS.IsInst
import HandS.Wide
import HandS.ExcInit
import HandS.Lambda
import HandS.HotCalls
import HandS.ExcField
import HandS.ExcIs
import KE.KExcIs
import HandS.TupAny
import HandS.Conv
import HandS.Deep
import HandS.Style
import HandS.CallSlots
import HandS.More
import KE.GoesNew
import HandS.ExcValue
import HandS.SetFor
import PyProof.StrOps2
import PyProof.ListStr
import KE.GoesEnum
import HandS.OwnEq
import PyProof.InstNe
import HandS.EndOwn
import PySem.Challenge.RW_leastregs_k15_whole_texts_alike_and_unli
set_option Elab.async false
set_option linter.all false
set_option maxRecDepth 100000
set_option maxHeartbeats 4000000
namespace EV
open PySem PySem.Spec PyProof.Rows L2

/-! ### data -/
abbrev St := L2.St
inductive D where
  | non | bl (b : Bool) | int (i : Int) | str (x : Str) | tup (ds : List D) | ref (n : Nat) | opq (v : V)
inductive O where
  | lst (ds : List D) | rol (ds : List D) | dic (kvs : List (Key × D)) | lck (kvs : List (Key × D)) | ins (C : Str) (fs : List (Str × D)) | exo (C : Str) (d : Option Nat) | exd (fs : List (Str × D))
  /-- at the address d: the fields of a caught exception -/
  | xdo (d : Addr) (fs : List (Str × D))
  /-- at the address P: a table of code objects of the name q -/
  | tab (P : Addr) (q : Str)
abbrev Hh := List O
abbrev Sl := List (Option D)
abbrev XD := Str × List (Str × D)
def O.wr : O → Bool
  | .rol _ => false
  | .tab _ _ => false
  | _ => true
open LamX (TabS CodeO)
/-- neither a code object nor a table -/
def NoCd (u : HO) : Prop := (∀ ps, u ≠ .tbl ps) ∧ ∀ c q, u ≠ CodeO c q
def cdHeap (c : Addr) (q : Str) : Heap := { objs := Array.replicate (c + 1) { cls := .none, data := .fields #[.none, .str q 0] } }
theorem cdHeap_at {c b : Addr} {q : Str} {o : Obj} (e : (cdHeap c q).get? b = some o) : o = { cls := .none, data := .fields #[.none, .str q 0] } := by
  unfold cdHeap Heap.get? at e
  simp only [Array.getElem?_replicate] at e
  split at e
  · simp at e
  · simp at e; exact e.2.symm
theorem cdHeap_code (c : Addr) (q : Str) : ∃ (oc : Obj) (vs : Array Value) (t : Tok), (cdHeap c q).get? c = some oc ∧ oc.data = .fields vs ∧ vs[1]? = some (.str q t) := by
  refine ⟨{ cls := .none, data := .fields #[.none, .str q 0] }, _, 0, ?_, rfl, rfl⟩
  unfold cdHeap Heap.get?
  simp [Array.getElem?_replicate]
theorem code_exo {c e C : Addr} {q : Str} {d : Option Addr} (z : exo e C d = CodeO c q) : False := by
  unfold exo CodeO at z
  injection z with z
  have y := (congrFun z (cdHeap c q)).mpr (cdHeap_code c q)
  obtain ⟨t1, y⟩ := y
  have := cdHeap_at y
  cases this
theorem code_exd {c dx : Addr} {q : Str} {fs : List (Str × V)} (z : exd dx fs = CodeO c q) : False := by
  unfold exd CodeO at z
  injection z with z
  have y := (congrFun z (cdHeap c q)).mpr (cdHeap_code c q)
  obtain ⟨mA, ⟨o, es, ep, y, hd, _⟩, _⟩ := y
  rw [cdHeap_at y] at hd
  cases hd
theorem noCd_exo {e C : Addr} {d : Option Addr} : NoCd (exo e C d) := ⟨fun _ z => exo_tbl z, fun _ _ z => code_exo z⟩
theorem noCd_exd {dx : Addr} {fs : List (Str × V)} : NoCd (exd dx fs) := ⟨fun _ z => by { have y : HO.ext _ = HO.tbl _ := z; cases y }, fun _ _ z => code_exd z⟩
theorem code_ne {c : Addr} {q : Str} {u : HO} (h : ∀ f, u ≠ .ext f) : u ≠ CodeO c q := fun z => h _ z
theorem tab_write {H : Hp} {a P : Addr} {u w : HO} {q : Str} (ha : H a = some w) (nw : NoCd w) (t : TabS H P q) : TabS (upd H a u) P q := by
  obtain ⟨ps, h1, h2, h3⟩ := t
  refine ⟨ps, ?_, h2, fun pos cv hc => ?_⟩
  · rw [upd_ne]
    · exact h1
    · intro z
      rw [z, ha] at h1
      exact nw.1 ps (Option.some.inj h1)
  · obtain ⟨c, e1, e2⟩ := h3 pos cv hc
    refine ⟨c, e1, ?_⟩
    rw [upd_ne]
    · exact e2
    · intro z
      rw [z, ha] at e2
      exact nw.2 _ _ (Option.some.inj e2)
theorem tab_fresh {H : Hp} {p P : Addr} {u : HO} {q : Str} (hp : H p = none) (t : TabS H P q) : TabS (upd H p u) P q := t.ext fun b o e => by rw [upd_ne (ne_of_none e hp)]; exact e

section
variable (K : PySem.W.Frag) (H : Hp) (ι : List Addr)
mutual
def RelD : D → V → Prop
  | .non, v => v = .non
  | .bl b, v => v = .bl b
  | .int i, v => v = .int i
  | .str x, v => v = .str x
  | .tup ds, v => ∃ a vs, v = .ref a ∧ SqT K H a vs ∧ RelDs ds vs
  | .ref n, v => ∃ a, ι[n]? = some a ∧ v = .ref a
  | .opq u, v => v = u
def RelDs : List D → List V → Prop
  | [], vs => vs = []
  | d :: ds, vs => ∃ v r, vs = v :: r ∧ RelD d v ∧ RelDs ds r
end
/-- pairs with one and the same first part -/
def RelKs {κ : Type} : List (κ × D) → List (κ × V) → Prop
  | [], vs => vs = []
  | p :: ps, vs => ∃ v r, vs = (p.1, v) :: r ∧ RelD K H ι p.2 v ∧ RelKs ps r
/-- the script: a list that nobody writes, tracked or of the written part -/
def SqF (a : Addr) (vs : List V) : Prop := (∃ o, H a = some (.frz o (.lst vs))) ∨ ∃ (o : Obj) (its : Array Value) (n : Nat), K.lookup a = some o ∧ o.cls = .type "list" ∧ o.dict = none ∧ o.data = .seq its n ∧ its.size ≤ sizeLine ∧ Vals vs its.toList
def RelO (mg : Str → Option Value) : O → Addr → Prop
  | .lst ds, a => ∃ vs, H a = some (.lst vs) ∧ RelDs K H ι ds vs
  | .rol ds, a => ∃ vs, SqF K H a vs ∧ RelDs K H ι ds vs
  | .dic kvs, a => ∃ vs, H a = some (.dK vs) ∧ RelKs K H ι kvs vs
  | .lck kvs, a => ∃ o vs, H a = some (.frz o (.dK vs)) ∧ RelKs K H ι kvs vs
  | .ins C fs, a => ∃ c dx vs, mg C = some (.ref c) ∧ H a = some (.ins c dx vs) ∧ RelKs K H ι fs vs
  | .exo C none, a => ∃ c, mg C = some (.ref c) ∧ H a = some (exo a c none)
  | .exo C (some n), a => ∃ c dx, mg C = some (.ref c) ∧ ι[n]? = some dx ∧ H a = some (exo a c (some dx))
  | .exd fs, a => ∃ vs, H a = some (exd a vs) ∧ RelKs K H ι fs vs
  | .xdo d fs, a => ∃ vs, a = d ∧ H a = some (.xd vs) ∧ RelKs K H ι fs vs
  | .tab P q, a => a = P ∧ TabS H P q
structure HRel (mg : Str → Option Value) (h : Hh) : Prop where
  len : ι.length = h.length
  nd : ∀ (i j : Nat) (a : Addr), ι[i]? = some a → ι[j]? = some a → i = j ∨ (∃ ds, h[i]? = some (.rol ds)) ∨ ∃ ds, h[j]? = some (.rol ds)
  obj : ∀ (n : Nat) (o : O) (a : Addr), h[n]? = some o → ι[n]? = some a → RelO K H ι mg o a
def SRel (σ : St) (s : Sl) : Prop := σ.length = s.length ∧ ∀ (i : Nat) (d : D), s[i]? = some (some d) → ∃ v, σ[i]? = some (some v) ∧ RelD K H ι d v
end
/-- the heap has gone on: the same objects by their numbers, all tuples kept -/
structure GrW (K : PySem.W.Frag) (H H' : Hp) (ι ι' : List Addr) : Prop where
  pre : ι <+: ι'
  tup : ∀ a vs, SqT K H a vs → SqT K H' a vs
/-- .. and what has a number now and had none stands where nothing stood -/
def New (H : Hp) (ι ι' : List Addr) : Prop := ∀ (n : Nat) (a : Addr), ι'[n]? = some a → ι.length ≤ n → H a = none
structure Gr (K : PySem.W.Frag) (H H' : Hp) (ι ι' : List Addr) : Prop extends GrW K H H' ι ι' where
  kept : ∀ (a : Addr) (u : HO), H a = some u → ∃ u', H' a = some u'
  new : New H ι ι'
instance {K : PySem.W.Frag} {H H' : Hp} {ι ι' : List Addr} : Coe (Gr K H H' ι ι') (GrW K H H' ι ι') := ⟨Gr.toGrW⟩
theorem New.refl {H : Hp} {ι : List Addr} : New H ι ι := fun n a e h => by
  have := (List.getElem?_eq_some_iff.mp e).1
  omega
theorem New.one {H : Hp} {ι : List Addr} {p : Addr} (hp : H p = none) : New H ι (ι ++ [p]) := fun n a e h => by
  rw [List.getElem?_append_right h] at e
  have := (List.getElem?_eq_some_iff.mp e).1
  simp at this
  have z : n - ι.length = 0 := by omega
  rw [z] at e
  simp at e
  rw [← e]; exact hp
theorem Gr.refl {K : PySem.W.Frag} {H : Hp} {ι : List Addr} : Gr K H H ι ι := ⟨⟨List.prefix_refl _, fun _ _ h => h⟩, fun _ u h => ⟨u, h⟩, New.refl⟩
theorem Gr.trans {K : PySem.W.Frag} {H H1 H2 : Hp} {ι ι1 ι2 : List Addr} (a : Gr K H H1 ι ι1) (b : Gr K H1 H2 ι1 ι2) : Gr K H H2 ι ι2 :=
  ⟨⟨a.pre.trans b.pre, fun c vs h => b.tup c vs (a.tup c vs h)⟩, fun c u h => let ⟨u1, h1⟩ := a.kept c u h; b.kept c u1 h1, fun n c e h => by
    by_cases hn : n < ι1.length
    · refine a.new n c ?_ h
      obtain ⟨t, rfl⟩ := b.pre
      rw [List.getElem?_append_left hn] at e
      exact e
    · have z := b.new n c e (by omega)
      cases y : H c with
      | none => rfl
      | some u =>
        obtain ⟨u1, h1⟩ := a.kept c u y
        rw [z] at h1
        cases h1⟩
theorem pre_get {α : Type} {l l' : List α} {n : Nat} {a : α} (p : l <+: l') (h : l[n]? = some a) : l'[n]? = some a := by
  obtain ⟨t, rfl⟩ := p
  obtain ⟨hn, _⟩ := List.getElem?_eq_some_iff.mp h
  rw [List.getElem?_append_left hn]
  exact h
section
variable {K : PySem.W.Frag} {H H' : Hp} {ι ι' : List Addr} {mg : Str → Option Value}
mutual
theorem RelD.mono (g : GrW K H H' ι ι') : ∀ {d : D} {v : V}, RelD K H ι d v → RelD K H' ι' d v
  | .non, _, h => h
  | .bl _, _, h => h
  | .int _, _, h => h
  | .str _, _, h => h
  | .opq _, _, h => h
  | .ref _, _, h => by
    obtain ⟨a, e, r⟩ := h
    exact ⟨a, pre_get g.pre e, r⟩
  | .tup ds, _, h => by
    obtain ⟨a, vs, e, q, r⟩ := h
    exact ⟨a, vs, e, g.tup a vs q, RelDs.mono g r⟩
theorem RelDs.mono (g : GrW K H H' ι ι') : ∀ {ds : List D} {vs : List V}, RelDs K H ι ds vs → RelDs K H' ι' ds vs
  | [], _, h => h
  | _ :: _, _, h => by
    obtain ⟨v, r, e, h1, h2⟩ := h
    exact ⟨v, r, e, RelD.mono g h1, RelDs.mono g h2⟩
end
theorem RelKs.mono {κ : Type} (g : GrW K H H' ι ι') : ∀ {ps : List (κ × D)} {vs : List (κ × V)}, RelKs K H ι ps vs → RelKs K H' ι' ps vs
  | [], _, h => h
  | _ :: _, _, h => by
    obtain ⟨v, r, e, h1, h2⟩ := h
    exact ⟨v, r, e, h1.mono g, RelKs.mono g h2⟩
theorem SRel.mono (g : GrW K H H' ι ι') {σ : St} {s : Sl} (h : SRel K H ι σ s) : SRel K H' ι' σ s :=
  ⟨h.1, fun i d e => let ⟨v, e1, r⟩ := h.2 i d e; ⟨v, e1, r.mono g⟩⟩
theorem RelDs.length : ∀ {ds : List D} {vs : List V}, RelDs K H ι ds vs → vs.length = ds.length
  | [], _, h => by rw [show _ = _ from h]; rfl
  | _ :: _, _, h => by
    obtain ⟨v, r, e, h1, h2⟩ := h
    rw [e, List.length_cons, List.length_cons, h2.length]
theorem RelDs.get : ∀ {ds : List D} {vs : List V} {i : Nat} {d : D}, RelDs K H ι ds vs → ds[i]? = some d → ∃ v, vs[i]? = some v ∧ RelD K H ι d v
  | [], _, _, _, _, e => by simp at e
  | x :: xs, _, 0, d, h, e => by
    obtain ⟨v, r, rfl, h1, h2⟩ := h
    simp at e; subst e
    exact ⟨v, rfl, h1⟩
  | x :: xs, _, i + 1, d, h, e => by
    obtain ⟨v, r, rfl, h1, h2⟩ := h
    obtain ⟨u, e1, r1⟩ := RelDs.get (i := i) (d := d) h2 (by simpa using e)
    exact ⟨u, by simpa using e1, r1⟩
theorem RelDs.append : ∀ {ds es : List D} {vs us : List V}, RelDs K H ι ds vs → RelDs K H ι es us → RelDs K H ι (ds ++ es) (vs ++ us)
  | [], _, _, _, h, h' => by rw [show _ = _ from h]; exact h'
  | _ :: _, _, _, _, h, h' => by
    obtain ⟨v, r, rfl, h1, h2⟩ := h
    exact ⟨v, _, rfl, h1, h2.append h'⟩
theorem RelDs.take : ∀ {ds : List D} {vs : List V} (n : Nat), RelDs K H ι ds vs → RelDs K H ι (ds.take n) (vs.take n)
  | _, _, 0, _ => by rw [List.take_zero, List.take_zero]; rfl
  | [], _, n + 1, h => by rw [show _ = _ from h]; rfl
  | _ :: _, _, n + 1, h => by
    obtain ⟨v, r, rfl, h1, h2⟩ := h
    exact ⟨v, _, rfl, h1, h2.take n⟩
theorem RelDs.drop : ∀ {ds : List D} {vs : List V} (n : Nat), RelDs K H ι ds vs → RelDs K H ι (ds.drop n) (vs.drop n)
  | _, _, 0, h => h
  | [], _, n + 1, h => by rw [show _ = _ from h]; rfl
  | _ :: _, _, n + 1, h => by
    obtain ⟨v, r, rfl, h1, h2⟩ := h
    exact h2.drop n
theorem RelDs.set {d : D} {v : V} (hd : RelD K H ι d v) : ∀ {ds : List D} {vs : List V} (n : Nat), RelDs K H ι ds vs → RelDs K H ι (ds.set n d) (vs.set n v)
  | [], _, n, h => by rw [show _ = _ from h]; rfl
  | _ :: _, _, 0, h => by
    obtain ⟨u, r, rfl, h1, h2⟩ := h
    exact ⟨v, r, rfl, hd, h2⟩
  | _ :: _, _, n + 1, h => by
    obtain ⟨u, r, rfl, h1, h2⟩ := h
    exact ⟨u, _, rfl, h1, h2.set hd n⟩
theorem RelDs.reverse : ∀ {ds : List D} {vs : List V}, RelDs K H ι ds vs → RelDs K H ι ds.reverse vs.reverse
  | [], _, h => by rw [show _ = _ from h]; rfl
  | _ :: _, _, h => by
    obtain ⟨v, r, rfl, h1, h2⟩ := h
    rw [List.reverse_cons, List.reverse_cons]
    exact h2.reverse.append ⟨v, [], rfl, h1, rfl⟩
theorem HRel.at {h : Hh} (hr : HRel K H ι mg h) {n : Nat} {o : O} (e : h[n]? = some o) : ∃ a, ι[n]? = some a ∧ RelO K H ι mg o a := by
  have hn : n < ι.length := by rw [hr.len]; exact (List.getElem?_eq_some_iff.mp e).1
  exact ⟨ι[n], List.getElem?_eq_getElem hn, hr.obj n o _ e (List.getElem?_eq_getElem hn)⟩
/-- the address of a number is tracked -/
theorem RelO.here {o : O} {a : Addr} (r : RelO K H ι mg o a) (no : ∀ ds, o ≠ .rol ds) : ∃ u, H a = some u := by
  cases o with
  | rol ds => exact absurd rfl (no ds)
  | lst ds => obtain ⟨vs, e, _⟩ := r; exact ⟨_, e⟩
  | dic ds => obtain ⟨vs, e, _⟩ := r; exact ⟨_, e⟩
  | lck ds => obtain ⟨z, vs, e, _⟩ := r; exact ⟨_, e⟩
  | ins C fs => obtain ⟨c, dx, vs, _, e, _⟩ := r; exact ⟨_, e⟩
  | exo C d =>
    cases d with
    | none => obtain ⟨c, _, e⟩ := r; exact ⟨_, e⟩
    | some n => obtain ⟨c, dx, _, _, e⟩ := r; exact ⟨_, e⟩
  | exd fs => obtain ⟨vs, e, _⟩ := r; exact ⟨_, e⟩
  | xdo d fs => obtain ⟨vs, _, e, _⟩ := r; exact ⟨_, e⟩
  | tab P q => obtain ⟨rfl, ps, e, _⟩ := r; exact ⟨_, e⟩
theorem RelO.there {o : O} {a : Addr} (r : RelO K H ι mg o a) (no : o.wr = true := by rfl) : ∃ u, H a = some u ∧ (∀ vs, u ≠ .tup vs) ∧ (∀ z vs, u ≠ .frz z (.tup vs)) ∧ NoCd u := by
  have pl : ∀ {u : HO}, (∀ ps, u ≠ .tbl ps) → (∀ f, u ≠ .ext f) → NoCd u := fun h1 h2 => ⟨h1, fun _ _ => code_ne h2⟩
  cases o with
  | lst ds => obtain ⟨vs, e, _⟩ := r; exact ⟨_, e, (fun _ q => by cases q), (fun _ _ q => by cases q), pl (fun _ q => by cases q) (fun _ q => by cases q)⟩
  | rol ds => cases no
  | tab P q => cases no
  | dic ds => obtain ⟨vs, e, _⟩ := r; exact ⟨_, e, (fun _ q => by cases q), (fun _ _ q => by cases q), pl (fun _ q => by cases q) (fun _ q => by cases q)⟩
  | lck ds => obtain ⟨z, vs, e, _⟩ := r; exact ⟨_, e, (fun _ q => by cases q), (fun _ _ q => by cases q), pl (fun _ q => by cases q) (fun _ q => by cases q)⟩
  | ins C fs => obtain ⟨c, dx, vs, _, e, _⟩ := r; exact ⟨_, e, (fun _ q => by cases q), (fun _ _ q => by cases q), pl (fun _ q => by cases q) (fun _ q => by cases q)⟩
  | exo C d =>
    cases d with
    | none => obtain ⟨c, _, e⟩ := r; exact ⟨_, e, (fun _ q => exo_tup q), (fun _ _ q => exo_frz q), noCd_exo⟩
    | some n => obtain ⟨c, dx, _, _, e⟩ := r; exact ⟨_, e, (fun _ q => exo_tup q), (fun _ _ q => exo_frz q), noCd_exo⟩
  | exd fs => obtain ⟨vs, e, _⟩ := r; exact ⟨_, e, (fun _ q => exd_tup q), (fun _ _ q => by have z : HO.ext _ = HO.frz _ _ := q; cases z), noCd_exd⟩
  | xdo d fs => obtain ⟨vs, _, e, _⟩ := r; exact ⟨_, e, (fun _ q => by cases q), (fun _ _ q => by cases q), pl (fun _ q => by cases q) (fun _ q => by cases q)⟩
theorem RelO.nofrz {o : O} {a : Addr} (r : RelO K H ι mg o a) (no : o.wr = true := by rfl) : ∃ u, H a = some u ∧ ∀ z vs, u ≠ .frz z (.lst vs) := by
  cases o with
  | lst ds => obtain ⟨vs, e, _⟩ := r; exact ⟨_, e, (fun _ _ q => by cases q)⟩
  | rol ds => cases no
  | tab P q => cases no
  | dic ds => obtain ⟨vs, e, _⟩ := r; exact ⟨_, e, (fun _ _ q => by cases q)⟩
  | lck ds => obtain ⟨z, vs, e, _⟩ := r; exact ⟨_, e, (fun _ _ q => by cases q)⟩
  | ins C fs => obtain ⟨c, dx, vs, _, e, _⟩ := r; exact ⟨_, e, (fun _ _ q => by cases q)⟩
  | exo C d =>
    cases d with
    | none => obtain ⟨c, _, e⟩ := r; exact ⟨_, e, (fun _ _ q => exo_frz q)⟩
    | some n => obtain ⟨c, dx, _, _, e⟩ := r; exact ⟨_, e, (fun _ _ q => exo_frz q)⟩
  | exd fs => obtain ⟨vs, e, _⟩ := r; exact ⟨_, e, (fun _ _ q => by have z : HO.ext _ = HO.frz _ _ := q; cases z)⟩
  | xdo d fs => obtain ⟨vs, _, e, _⟩ := r; exact ⟨_, e, (fun _ _ q => by cases q)⟩
/-- an object is described alike in a heap that differs elsewhere -/
theorem RelO.move {o : O} {a : Addr} (r : RelO K H ι mg o a) (g : GrW K H H' ι ι') (e : H' a = H a) (ht : ∀ q, TabS H a q → TabS H' a q) : RelO K H' ι' mg o a := by
  cases o with
  | lst ds => obtain ⟨vs, q, t⟩ := r; exact ⟨vs, e.trans q, t.mono g⟩
  | rol ds =>
    obtain ⟨vs, q, t⟩ := r
    refine ⟨vs, ?_, t.mono g⟩
    rcases q with ⟨z, q⟩ | q
    · exact .inl ⟨z, e.trans q⟩
    · exact .inr q
  | dic ds => obtain ⟨vs, q, t⟩ := r; exact ⟨vs, e.trans q, t.mono g⟩
  | lck ds => obtain ⟨z, vs, q, t⟩ := r; exact ⟨z, vs, e.trans q, t.mono g⟩
  | ins C fs => obtain ⟨c, dx, vs, m, q, t⟩ := r; exact ⟨c, dx, vs, m, e.trans q, t.mono g⟩
  | exo C d =>
    cases d with
    | none => obtain ⟨c, m, q⟩ := r; exact ⟨c, m, e.trans q⟩
    | some n => obtain ⟨c, dx, m, i, q⟩ := r; exact ⟨c, dx, m, pre_get g.pre i, e.trans q⟩
  | exd fs => obtain ⟨vs, q, t⟩ := r; exact ⟨vs, e.trans q, t.mono g⟩
  | xdo d fs => obtain ⟨vs, z, q, t⟩ := r; exact ⟨vs, z, e.trans q, t.mono g⟩
  | tab P q => obtain ⟨rfl, t⟩ := r; exact ⟨rfl, ht q t⟩
/-- a new thing at a free address -/
theorem GrW.fresh {p : Addr} {u : HO} (hp : H p = none) (ι2 : List Addr) (hi : ι <+: ι2) : GrW K H (upd H p u) ι ι2 := by
  refine ⟨hi, fun a vs q => ?_⟩
  rcases q with (q | ⟨z, q⟩) | q
  · exact .inl (.inl (by rw [upd_ne (ne_of_none q hp)]; exact q))
  · exact .inl (.inr ⟨z, by rw [upd_ne (ne_of_none q hp)]; exact q⟩)
  · exact .inr q
theorem Gr.fresh {p : Addr} {u : HO} (hp : H p = none) (ι2 : List Addr) (hi : ι <+: ι2) (hn : New H ι ι2 := by first | exact New.refl | exact New.one (by assumption)) : Gr K H (upd H p u) ι ι2 :=
  ⟨GrW.fresh hp ι2 hi, fun a w e => ⟨w, by rw [upd_ne (ne_of_none e hp)]; exact e⟩, hn⟩
/-- a free address is taken -/
theorem RelO.fresh {o : O} {a p : Addr} {u : HO} {ι2 : List Addr} (r : RelO K H ι mg o a) (hp : H p = none) (hi : ι <+: ι2) : RelO K (upd H p u) ι2 mg o a := by
  have g := GrW.fresh (K := K) (u := u) hp ι2 hi
  by_cases hn : ∃ ds, o = .rol ds
  · obtain ⟨ds, rfl⟩ := hn
    obtain ⟨vs, q, t⟩ := r
    refine ⟨vs, ?_, t.mono g⟩
    rcases q with ⟨z, q⟩ | q
    · exact .inl ⟨z, by rw [upd_ne (ne_of_none q hp)]; exact q⟩
    · exact .inr q
  · obtain ⟨w, e⟩ := r.here fun ds q => hn ⟨ds, q⟩
    exact r.move g (upd_ne (ne_of_none e hp)) fun q t => tab_fresh hp t
theorem HRel.fresh {h : Hh} {p : Addr} {u : HO} (hr : HRel K H ι mg h) (hp : H p = none) : HRel K (upd H p u) ι mg h := by
  refine ⟨hr.len, hr.nd, fun n o a e1 e2 => ?_⟩
  exact (hr.obj n o a e1 e2).fresh hp (List.prefix_refl _)
theorem HRel.push {h : Hh} {p : Addr} {u : HO} {o : O} (hr : HRel K H ι mg h) (hp : H p = none) (hn : RelO K (upd H p u) (ι ++ [p]) mg o p) : HRel K (upd H p u) (ι ++ [p]) mg (h ++ [o]) := by
  have g : Gr K H (upd H p u) ι (ι ++ [p]) := Gr.fresh hp _ (List.prefix_append _ _)
  refine ⟨by rw [List.length_append, List.length_append, hr.len, List.length_singleton, List.length_singleton], ?_, fun n o' a e1 e2 => ?_⟩
  · have old : ∀ (i : Nat) (a : Addr), (ι ++ [p])[i]? = some a → (i < h.length ∧ ι[i]? = some a) ∨ (i = h.length ∧ a = p) := fun i a e => by
      by_cases hlt : i < h.length
      · rw [List.getElem?_append_left (by rw [hr.len]; exact hlt)] at e
        exact .inl ⟨hlt, e⟩
      · have q := (List.getElem?_eq_some_iff.mp e).1
        rw [List.length_append, List.length_singleton, hr.len] at q
        have hi : i = h.length := by omega
        subst hi
        rw [← hr.len, List.getElem?_append_right (Nat.le_refl _), Nat.sub_self] at e
        exact .inr ⟨rfl, by simpa using e.symm⟩
    have mix : ∀ (i : Nat), i < h.length → ι[i]? = some p → ∃ ds, (h ++ [o])[i]? = some (.rol ds) := fun i hi e => by
      have r := hr.obj i h[i] p (List.getElem?_eq_getElem hi) e
      by_cases hn : ∃ ds, h[i] = .rol ds
      · obtain ⟨ds, q⟩ := hn
        exact ⟨ds, by rw [List.getElem?_append_left hi, List.getElem?_eq_getElem hi, q]⟩
      · obtain ⟨w, e'⟩ := r.here fun ds q => hn ⟨ds, q⟩
        rw [hp] at e'
        cases e'
    intro i j a e1 e2
    rcases old i a e1 with ⟨h1, f1⟩ | ⟨h1, r1⟩
    · rcases old j a e2 with ⟨h2, f2⟩ | ⟨h2, r2⟩
      · rcases hr.nd i j a f1 f2 with q | ⟨ds, q⟩ | ⟨ds, q⟩
        · exact .inl q
        · exact .inr (.inl ⟨ds, by rw [List.getElem?_append_left h1]; exact q⟩)
        · exact .inr (.inr ⟨ds, by rw [List.getElem?_append_left h2]; exact q⟩)
      · subst r2
        exact .inr (.inl (mix i h1 f1))
    · rcases old j a e2 with ⟨h2, f2⟩ | ⟨h2, r2⟩
      · subst r1
        exact .inr (.inr (mix j h2 f2))
      · exact .inl (h1.trans h2.symm)
  · by_cases hlt : n < h.length
    · rw [List.getElem?_append_left hlt] at e1
      rw [List.getElem?_append_left (by rw [hr.len]; exact hlt)] at e2
      exact (hr.obj n o' a e1 e2).fresh hp (List.prefix_append _ _)
    · have hn1 : n = h.length := by
        have q := (List.getElem?_eq_some_iff.mp e1).1
        rw [List.length_append, List.length_singleton] at q
        omega
      subst hn1
      rw [List.getElem?_append_right (Nat.le_refl _), Nat.sub_self] at e1
      rw [← hr.len, List.getElem?_append_right (Nat.le_refl _), Nat.sub_self] at e2
      simp at e1 e2
      subst e1 e2
      exact hn
/-- the object of a number is written -/
theorem Gr.write {a : Addr} {u w : HO} (ha : H a = some w) (h1 : ∀ vs, w ≠ .tup vs) (h2 : (∀ z vs, w ≠ .frz z (.tup vs)) ∧ NoCd w) : Gr K H (upd H a u) ι ι := by
  refine ⟨⟨List.prefix_refl _, fun b vs q => ?_⟩, fun b v e => ?_, New.refl⟩
  rotate_left
  · by_cases hb : b = a
    · exact ⟨u, by rw [hb, upd_same]⟩
    · exact ⟨v, by rw [upd_ne hb]; exact e⟩
  have ne : ∀ {x : HO}, H b = some x → ((∃ vs, x = .tup vs) ∨ ∃ z vs, x = .frz z (.tup vs)) → b ≠ a := fun {x} e hx z => by
    rw [z, ha] at e
    cases e
    rcases hx with ⟨vs, q⟩ | ⟨z, vs, q⟩
    · exact h1 vs q
    · exact h2.1 z vs q
  rcases q with (q | ⟨z, q⟩) | q
  · exact .inl (.inl (by rw [upd_ne (ne q (.inl ⟨_, rfl⟩))]; exact q))
  · exact .inl (.inr ⟨z, by rw [upd_ne (ne q (.inr ⟨_, _, rfl⟩))]; exact q⟩)
  · exact .inr q
theorem HRel.write {h : Hh} {n : Nat} {a : Addr} {u : HO} {o o' : O} (hr : HRel K H ι mg h) (e : h[n]? = some o) (ea : ι[n]? = some a) (hn : RelO K (upd H a u) ι mg o' a) (no : o.wr = true := by rfl) :
    Gr K H (upd H a u) ι ι ∧ HRel K (upd H a u) ι mg (h.set n o') := by
  obtain ⟨w, ew, w1, w2⟩ := (hr.obj n o a e ea).there no
  obtain ⟨w', ew', w3⟩ := (hr.obj n o a e ea).nofrz no
  have g : Gr K H (upd H a u) ι ι := Gr.write ew w1 w2
  have hlt : n < h.length := (List.getElem?_eq_some_iff.mp e).1
  have nr : ∀ ds, h[n]? ≠ some (.rol ds) := fun ds q => by rw [e] at q; cases q; cases no
  refine ⟨g, by rw [List.length_set]; exact hr.len, fun i j b e1 e2 => ?_, fun m q b e1 e2 => ?_⟩
  · rcases hr.nd i j b e1 e2 with q | ⟨ds, q⟩ | ⟨ds, q⟩
    · exact .inl q
    · have hi : n ≠ i := fun z => nr ds (by rw [z]; exact q)
      exact .inr (.inl ⟨ds, by rw [List.getElem?_set_ne hi]; exact q⟩)
    · have hi : n ≠ j := fun z => nr ds (by rw [z]; exact q)
      exact .inr (.inr ⟨ds, by rw [List.getElem?_set_ne hi]; exact q⟩)
  by_cases hm : m = n
  · subst hm
    rw [List.getElem?_set_self hlt] at e1
    rw [ea] at e2
    cases e1; cases e2
    exact hn
  · rw [List.getElem?_set_ne (Ne.symm hm)] at e1
    have r := hr.obj m q b e1 e2
    by_cases hb : b = a
    · subst hb
      rcases hr.nd m n b e2 ea with z | ⟨ds, z⟩ | ⟨ds, z⟩
      · exact absurd z hm
      · rw [e1] at z
        cases z
        obtain ⟨vs, z, t⟩ := r
        refine ⟨vs, ?_, t.mono g⟩
        rcases z with ⟨o2, z⟩ | z
        · rw [ew'] at z
          exact absurd (Option.some.inj z) (w3 o2 vs)
        · exact .inr z
      · exact absurd z (nr ds)
    · exact r.move g (upd_ne hb) fun q t => tab_write ew w2.2 t
theorem SqF.sq {a : Addr} {vs : List V} (h : SqF K H a vs) : SqL K H a vs := by
  rcases h with ⟨o, q⟩ | q
  · exact .inl (.inr ⟨o, q⟩)
  · exact .inr q
end

/-! ### the judgements -/
abbrev PV := D → Hh → Prop
abbrev PX := XD → Hh → Prop
abbrev WE := Sl → Hh → PV → PX → Prop
abbrev WT := Sl → Hh → (Bool → Hh → Prop) → PX → Prop
abbrev WA := Sl → Hh → (List D → Hh → Prop) → PX → Prop
structure DEnds where
  nx : Sl → Hh → Prop
  rt : PV
  bk : Sl → Hh → Prop := fun _ _ => False
  ct : Sl → Hh → Prop := fun _ _ => False
  ex : Sl → PX := fun _ _ _ => False
abbrev WS := DEnds → Sl → Hh → Prop
def Mono {α : Type} (w : Sl → Hh → (α → Hh → Prop) → PX → Prop) : Prop :=
  ∀ s h (Q Q' : α → Hh → Prop) (E E' : PX), (∀ d h, Q d h → Q' d h) → (∀ x h, E x h → E' x h) → w s h Q E → w s h Q' E'
structure DEnds.Le (A B : DEnds) : Prop where
  nx : ∀ s h, A.nx s h → B.nx s h
  rt : ∀ d h, A.rt d h → B.rt d h
  bk : ∀ s h, A.bk s h → B.bk s h
  ct : ∀ s h, A.ct s h → B.ct s h
  ex : ∀ s x h, A.ex s x h → B.ex s x h
def MonoS (w : WS) : Prop := ∀ A B s h, A.Le B → w A s h → w B s h

/-- an exception, by its class's name and its fields -/
def XR (K : PySem.W.Frag) (mg : Str → Option Value) (H : Hp) (ι : List Addr) (x : XD) (c : Value) (d : Option Addr) : Prop :=
  ∃ C, mg x.1 = some (.ref C) ∧ c = .ref C ∧ match d with
    | none => x.2 = []
    | some a => ∃ vs, H a = some (.xd vs) ∧ RelKs K H ι x.2 vs

section
variable (X : Cx) (W : WX)
/-- what is wanted behind a value, seen from the heap H, ι -/
def QV (H : Hp) (ι : List Addr) (Q : VK) : PV := fun d h' => ∀ v H' ι', Gr X.K H H' ι ι' → HRel X.K H' ι' X.mg h' → RelD X.K H' ι' d v → Q v H'
def QX (H : Hp) (ι : List Addr) (σ : St) : PX := fun x h' => ∀ c d H' ι', Gr X.K H H' ι ι' → HRel X.K H' ι' X.mg h' → XR X.K X.mg H' ι' x c d → W c d σ H'
def QB (H : Hp) (ι : List Addr) (Q : Bool → Hp → Prop) : Bool → Hh → Prop := fun b h' => ∀ H' ι', Gr X.K H H' ι ι' → HRel X.K H' ι' X.mg h' → Q b H'
def QA (H : Hp) (ι : List Addr) (Q : List V → Hp → Prop) : List D → Hh → Prop := fun ds h' => ∀ vs H' ι', Gr X.K H H' ι ι' → HRel X.K H' ι' X.mg h' → RelDs X.K H' ι' ds vs → Q vs H'
def LE (w : WE) : TE := fun σ H Q => ∃ ι h s, HRel X.K H ι X.mg h ∧ SRel X.K H ι σ s ∧ w s h (QV X H ι Q) (QX X W H ι σ)
def LT (w : WT) : TT := fun σ H Q => ∃ ι h s, HRel X.K H ι X.mg h ∧ SRel X.K H ι σ s ∧ w s h (QB X H ι Q) (QX X W H ι σ)
def LA (w : WA) : TA := fun σ H Q => ∃ ι h s, HRel X.K H ι X.mg h ∧ SRel X.K H ι σ s ∧ w s h (QA X H ι Q) (QX X W H ι σ)
/-- the ends of a statement, seen from the heap H, ι -/
def QD (H : Hp) (ι : List Addr) (B : Ends) : DEnds where
  nx := fun s' h' => ∀ σ' H' ι', Gr X.K H H' ι ι' → HRel X.K H' ι' X.mg h' → SRel X.K H' ι' σ' s' → B.nx σ' H'
  rt := QV X H ι B.rt
  bk := fun s' h' => ∀ σ' H' ι', Gr X.K H H' ι ι' → HRel X.K H' ι' X.mg h' → SRel X.K H' ι' σ' s' → B.bk σ' H'
  ct := fun s' h' => ∀ σ' H' ι', Gr X.K H H' ι ι' → HRel X.K H' ι' X.mg h' → SRel X.K H' ι' σ' s' → B.ct σ' H'
  ex := fun s' x h' => ∀ c d σ' H' ι', Gr X.K H H' ι ι' → HRel X.K H' ι' X.mg h' → SRel X.K H' ι' σ' s' → XR X.K X.mg H' ι' x c d → W c d σ' H'
def LS (w : WS) : TS := fun B σ H => ∃ ι h s, HRel X.K H ι X.mg h ∧ SRel X.K H ι σ s ∧ w (QD X W H ι B) s h
structure DE (e : Expr) (w : WE) : Prop where
  pe : PE X e (LE X W w)
  mono : Mono w
structure DT (e : Expr) (w : WT) : Prop where
  pt : PT X e (LT X W w)
  mono : Mono w
structure DA (es : List Expr) (w : WA) : Prop where
  pa : PA X es (LA X W w)
  mono : Mono w
structure DS (st : Stmt) (w : WS) : Prop where
  ps : PS X st (LS X W w)
  mono : MonoS w
structure DSs (sts : List Stmt) (w : WS) : Prop where
  ps : PSs X sts (LS X W w)
  mono : MonoS w
end
section
variable {X : Cx} {W : WX}
theorem PE.imp {e : Expr} {t t' : TE} (h : PE X e t) (i : ∀ σ H Q, t' σ H Q → t σ H Q) : PE X e t' := ⟨fun pins s σ H Q I q => h.run pins s σ H Q I (i σ H Q q)⟩
theorem PT.imp {e : Expr} {t t' : TT} (h : PT X e t) (i : ∀ σ H Q, t' σ H Q → t σ H Q) : PT X e t' := ⟨fun pins s σ H Q I q => h.run pins s σ H Q I (i σ H Q q)⟩
theorem PS.imp {st : Stmt} {t t' : TS} (h : PS X st t) (i : ∀ D σ H, t' D σ H → t D σ H) : PS X st t' := ⟨fun pins s σ H D I q => h.run pins s σ H D I (i D σ H q)⟩
theorem PSs.imp {st : List Stmt} {t t' : TS} (h : PSs X st t) (i : ∀ D σ H, t' D σ H → t D σ H) : PSs X st t' := ⟨fun pins s σ H D I q => h.run pins s σ H D I (i D σ H q)⟩
theorem PA.imp {es : List Expr} {t t' : TA} (h : PA X es t) (i : ∀ σ H Q, t' σ H Q → t σ H Q) : PA X es t' := ⟨fun pos pins s σ H Q I q => h.run pos pins s σ H Q I (i σ H Q q)⟩
variable {H H1 : Hp} {ι ι1 : List Addr} {σ : St}
theorem QV.on {Q : VK} {d : D} {h : Hh} (q : QV X H ι Q d h) (g : Gr X.K H H1 ι ι1) : QV X H1 ι1 Q d h := fun v H' ι' g' => q v H' ι' (g.trans g')
theorem QX.on {x : XD} {h : Hh} (q : QX X W H ι σ x h) (g : Gr X.K H H1 ι ι1) : QX X W H1 ι1 σ x h := fun c d H' ι' g' => q c d H' ι' (g.trans g')
theorem QB.on {Q : Bool → Hp → Prop} {b : Bool} {h : Hh} (q : QB X H ι Q b h) (g : Gr X.K H H1 ι ι1) : QB X H1 ι1 Q b h := fun H' ι' g' => q H' ι' (g.trans g')
theorem QA.on {Q : List V → Hp → Prop} {ds : List D} {h : Hh} (q : QA X H ι Q ds h) (g : Gr X.K H H1 ι ι1) : QA X H1 ι1 Q ds h := fun v H' ι' g' => q v H' ι' (g.trans g')
theorem QD.on {B : Ends} (g : Gr X.K H H1 ι ι1) : (QD X W H ι B).Le (QD X W H1 ι1 B) :=
  ⟨fun _ _ q σ' H' ι' g' => q σ' H' ι' (g.trans g'), fun _ h q => QV.on (h := h) q g, fun _ _ q σ' H' ι' g' => q σ' H' ι' (g.trans g'), fun _ _ q σ' H' ι' g' => q σ' H' ι' (g.trans g'), fun _ _ _ q c d σ' H' ι' g' => q c d σ' H' ι' (g.trans g')⟩
end
end EV

namespace EV
open PySem PySem.Spec PyProof.Rows L2

section
variable {X : Cx} {W : WX}

/-! ### steps on values -/
abbrev K1 := Sl → D → Hh → PV → PX → Prop
abbrev K2 := Sl → D → D → Hh → PV → PX → Prop
def Mono1 {α : Type} (k : Sl → D → Hh → (α → Hh → Prop) → PX → Prop) : Prop := ∀ s d h (Q Q' : α → Hh → Prop) (E E' : PX), (∀ d h, Q d h → Q' d h) → (∀ x h, E x h → E' x h) → k s d h Q E → k s d h Q' E'
def Mono2 (k : K2) : Prop := ∀ s d e h (Q Q' : PV) (E E' : PX), (∀ d h, Q d h → Q' d h) → (∀ x h, E x h → E' x h) → k s d e h Q E → k s d e h Q' E'
def wUn {α : Type} (k : Sl → D → Hh → (α → Hh → Prop) → PX → Prop) (wa : WE) : Sl → Hh → (α → Hh → Prop) → PX → Prop := fun s h Q E => wa s h (fun d h1 => k s d h1 Q E) E
def wBin (k : K2) (wa wb : WE) : WE := fun s h Q E => wa s h (fun d h1 => wb s h1 (fun e h2 => k s d e h2 Q E) E) E
theorem mono_un {α : Type} {k : Sl → D → Hh → (α → Hh → Prop) → PX → Prop} {wa : WE} (ma : Mono wa) (mk : Mono1 k) : Mono (wUn k wa) := fun s h Q Q' E E' hq he w =>
  ma s h _ _ _ _ (fun d h1 q => mk s d h1 _ _ _ _ hq he q) he w
theorem mono_bin {k : K2} {wa wb : WE} (ma : Mono wa) (mb : Mono wb) (mk : Mono2 k) : Mono (wBin k wa wb) := fun s h Q Q' E E' hq he w =>
  ma s h _ _ _ _ (fun d h1 q => mb s h1 _ _ _ _ (fun e h2 q2 => mk s d e h2 _ _ _ _ hq he q2) he q) he w
/-- a step on a value, lifted -/
def Lk (X : Cx) (W : WX) (k : K1) (σ : St) (x : V) (H : Hp) (Q : VK) : Prop := ∃ ι h s d, HRel X.K H ι X.mg h ∧ SRel X.K H ι σ s ∧ RelD X.K H ι d x ∧ k s d h (QV X H ι Q) (QX X W H ι σ)
def Lk2 (X : Cx) (W : WX) (k : K2) (σ : St) (x y : V) (H : Hp) (Q : VK) : Prop := ∃ ι h s d e, HRel X.K H ι X.mg h ∧ SRel X.K H ι σ s ∧ RelD X.K H ι d x ∧ RelD X.K H ι e y ∧ k s d e h (QV X H ι Q) (QX X W H ι σ)
theorem LE.bind {k : K1} {wa : WE} (ma : Mono wa) (mk : Mono1 k) {σ : St} {H : Hp} {Q : VK} (h : LE X W (wUn k wa) σ H Q) : LE X W wa σ H (fun x H1 => Lk X W k σ x H1 Q) := by
  obtain ⟨ι, hh, s, hr, sr, w⟩ := h
  refine ⟨ι, hh, s, hr, sr, ma s hh _ _ _ _ (fun d h1 q v H1 ι1 g hr1 rd => ?_) (fun _ _ e => e) w⟩
  exact ⟨ι1, h1, s, d, hr1, sr.mono g, rd, mk s d h1 _ _ _ _ (fun d' h' q' => QV.on q' g) (fun x h' q' => QX.on q' g) q⟩
theorem LE.bind2 {k : K2} {wa wb : WE} (ma : Mono wa) (mb : Mono wb) (mk : Mono2 k) {σ : St} {H : Hp} {Q : VK} (h : LE X W (wBin k wa wb) σ H Q) :
    LE X W wa σ H (fun x H1 => LE X W wb σ H1 (fun y H2 => Lk2 X W k σ x y H2 Q)) := by
  obtain ⟨ι, hh, s, hr, sr, w⟩ := h
  refine ⟨ι, hh, s, hr, sr, ma s hh _ _ _ _ (fun d h1 q v H1 ι1 g hr1 rd => ?_) (fun _ _ e => e) w⟩
  refine ⟨ι1, h1, s, hr1, sr.mono g, mb s h1 _ _ _ _ (fun e h2 q2 u H2 ι2 g2 hr2 re => ?_) (fun x h' q' => QX.on q' g) q⟩
  exact ⟨ι2, h2, s, d, e, hr2, sr.mono (g.trans g2), rd.mono g2, re, mk s d e h2 _ _ _ _ (fun d' h' q' => QV.on q' (g.trans g2)) (fun x h' q' => QX.on q' (g.trans g2)) q2⟩

/-! ### plain functions on values -/
abbrev G1 := D → Hh → Option (D × Hh)
abbrev G2 := D → D → Hh → Option (D × Hh)
abbrev GA := List D → Hh → Option (D × Hh)
def k1 (g : G1) : K1 := fun _ d h Q _ => ∃ r h', g d h = some (r, h') ∧ Q r h'
def k2 (g : G2) : K2 := fun _ d e h Q _ => ∃ r h', g d e h = some (r, h') ∧ Q r h'
theorem mono_k1 {g : G1} : Mono1 (k1 g) := fun s d h Q Q' E E' hq _ ⟨r, h', e, q⟩ => ⟨r, h', e, hq _ _ q⟩
theorem mono_k2 {g : G2} : Mono2 (k2 g) := fun s d e h Q Q' E E' hq _ ⟨r, h', e1, q⟩ => ⟨r, h', e1, hq _ _ q⟩
/-- what a function on values must keep: any end that is wanted of its result is reached by a rule -/
def OpOk (X : Cx) (f : Value → Value → Sem Value) (g : G2) : Prop := ∀ ι h d e r h' x y H Q, HRel X.K H ι X.mg h → RelD X.K H ι d x → RelD X.K H ι e y → g d e h = some (r, h') → QV X H ι Q r h' → ∃ R, OpR X f R ∧ R x y H Q
def rOp (X : Cx) (g : G2) : R2 := fun x y H Q => ∃ ι h d e r h', HRel X.K H ι X.mg h ∧ RelD X.K H ι d x ∧ RelD X.K H ι e y ∧ g d e h = some (r, h') ∧ QV X H ι Q r h'
theorem OpOk.op {f : Value → Value → Sem Value} {g : G2} (h : OpOk X f g) : OpR X f (rOp X g) := by
  rintro pins s σ H x y v u Q I rx ry ⟨ι, hh, d, e, r, h', hr, r1, r2, eg, q⟩
  obtain ⟨R, hR, q'⟩ := h ι hh d e r h' x y H Q hr r1 r2 eg q
  exact hR pins s σ H x y v u Q I rx ry q'
theorem OpOk.lk {f : Value → Value → Sem Value} {g : G2} (h : OpOk X f g) {σ : St} {x y : V} {H : Hp} {Q : VK} (q : Lk2 X W (k2 g) σ x y H Q) : rOp X g x y H Q := by
  obtain ⟨ι, hh, s, d, e, hr, _, r1, r2, r, h', eg, q⟩ := q
  exact ⟨ι, hh, d, e, r, h', hr, r1, r2, eg, q⟩
/-- one rule or another -/
def orG (g g' : G2) : G2 := fun d e h => match g d e h with | some r => some r | none => g' d e h
theorem OpOk.or {f : Value → Value → Sem Value} {g g' : G2} (a : OpOk X f g) (b : OpOk X f g') : OpOk X f (orG g g') := by
  intro ι h d e r h' x y H Q hr r1 r2 eg q
  unfold orG at eg
  cases z : g d e h with
  | some w => rw [z] at eg; cases eg; exact a ι h d e r h' x y H Q hr r1 r2 z q
  | none => rw [z] at eg; exact b ι h d e r h' x y H Q hr r1 r2 eg q

/-! ### names and constants -/
variable {pos : Pos} {a b c : Expr} {wa wb wc : WE}
def wVar (i : Nat) : WE := fun s h Q _ => ∃ d, s[i]? = some (some d) ∧ Q d h
def wC (d : D) : WE := fun _ h Q _ => Q d h
theorem mono_var {i : Nat} : Mono (wVar i) := fun s h Q Q' E E' hq _ ⟨d, e, q⟩ => ⟨d, e, hq _ _ q⟩
theorem mono_c {d : D} : Mono (wC d) := fun s h Q Q' E E' hq _ q => hq _ _ q
theorem de_var (i : Nat) {x : Str} {pos : Pos} (hN : X.N[i]? = some x := by rfl) (hv : Vis X.env.scope x := by first | exact Or.inl rfl | exact Or.inr (Or.inl rfl) | exact Or.inr (Or.inr rfl)) (hd : (x == ("__debug__" : Str)) = false := by decide)
    (hcd : (x == ("__classdict__" : Str)) = false := by decide) : DE X W (.Name x pos) (wVar i) := by
  refine ⟨PE.imp (pe_var hN hv hd hcd) fun σ H Q h => ?_, mono_var⟩
  obtain ⟨ι, hh, s, hr, sr, d, e, q⟩ := h
  obtain ⟨v, ev, rv⟩ := sr.2 i d e
  exact ⟨v, ev, q v H ι .refl hr rv⟩
theorem de_c {e : Expr} {d : D} {v : V} (h : PE X e (tC v)) (r : ∀ H ι, RelD X.K H ι d v) : DE X W e (wC d) :=
  ⟨PE.imp h fun σ H Q ⟨ι, hh, s, hr, sr, q⟩ => q v H ι .refl hr (r H ι), mono_c⟩
theorem de_int {i j pos} : DE X W (.Constant (.int i) j pos) (wC (.int i)) := de_c pe_int fun _ _ => rfl
theorem de_bl {i j pos} : DE X W (.Constant (.bool i) j pos) (wC (.bl i)) := de_c pe_bl fun _ _ => rfl
theorem de_non {j pos} : DE X W (.Constant .none j pos) (wC .non) := de_c pe_non fun _ _ => rfl
theorem de_str {x j pos} : DE X W (.Constant (.str x) j pos) (wC (.str x)) := de_c pe_str fun _ _ => rfl

/-! ### argument lists, displays -/
def wNil : WA := fun _ h Q _ => Q [] h
def wCons (we : WE) (wr : WA) : WA := fun s h Q E => we s h (fun d h1 => wr s h1 (fun ds h2 => Q (d :: ds) h2) E) E
theorem mono_nil : Mono wNil := fun s h Q Q' E E' hq _ q => hq _ _ q
theorem mono_cons {we : WE} {wr : WA} (me : Mono we) (mr : Mono wr) : Mono (wCons we wr) := fun s h Q Q' E E' hq he w =>
  me s h _ _ _ _ (fun d h1 q => mr s h1 _ _ _ _ (fun ds h2 q2 => hq _ _ q2) he q) he w
theorem da_nil : DA X W [] wNil := ⟨PA.imp pa_nil fun σ H Q ⟨ι, hh, s, hr, sr, q⟩ => q [] H ι .refl hr rfl, mono_nil⟩
theorem da_cons {e : Expr} {es : List Expr} {we : WE} {wr : WA} (he : DE X W e we) (hr : DA X W es wr) (hs : starEach (e :: es) X.env = (false, eval e X.env) :: starEach es X.env := by rfl) : DA X W (e :: es) (wCons we wr) := by
  refine ⟨PA.imp (pa_cons he.pe hr.pa hs) fun σ H Q h => ?_, mono_cons he.mono hr.mono⟩
  obtain ⟨ι, hh, s, hr0, sr, w⟩ := h
  refine ⟨ι, hh, s, hr0, sr, he.mono s hh _ _ _ _ (fun d h1 q v H1 ι1 g hr1 rd => ?_) (fun _ _ e => e) w⟩
  refine ⟨ι1, h1, s, hr1, sr.mono g, hr.mono s h1 _ _ _ _ (fun ds h2 q2 vs H2 ι2 g2 hr2 rs => ?_) (fun x h' q' => QX.on q' g) q⟩
  exact q2 (v :: vs) H2 ι2 (g.trans g2) hr2 ⟨v, vs, rfl, rd.mono g2, rs⟩
def wTup (wa : WA) : WE := fun s h Q E => wa s h (fun ds h1 => ds.length ≤ sizeLine ∧ Q (.tup ds) h1) E
def wLst (wa : WA) : WE := fun s h Q E => wa s h (fun ds h1 => ds.length ≤ sizeLine ∧ Q (.ref h1.length) (h1 ++ [.lst ds])) E
theorem mono_tup {w : WA} (m : Mono w) : Mono (wTup w) := fun s h Q Q' E E' hq he w => m s h _ _ _ _ (fun d h1 ⟨z, q⟩ => ⟨z, hq _ _ q⟩) he w
theorem mono_lst {w : WA} (m : Mono w) : Mono (wLst w) := fun s h Q Q' E E' hq he w => m s h _ _ _ _ (fun d h1 ⟨z, q⟩ => ⟨z, hq _ _ q⟩) he w
/-- a new tuple is the data -/
theorem tup_new {H : Hp} {ι : List Addr} {h : Hh} {ds : List D} {vs : List V} {Q : VK} (hr : HRel X.K H ι X.mg h) (rs : RelDs X.K H ι ds vs) (q : QV X H ι Q (.tup ds) h) (p : Addr) (hp : H p = none) : Q (.ref p) (upd H p (.tup vs)) := by
  have g : Gr X.K H (upd H p (.tup vs)) ι ι := Gr.fresh hp ι (List.prefix_refl _)
  exact q _ _ ι g (hr.fresh hp) ⟨p, vs, rfl, SqT.of upd_same, rs.mono g⟩
theorem lst_new {H : Hp} {ι : List Addr} {h : Hh} {ds : List D} {vs : List V} {Q : VK} (hr : HRel X.K H ι X.mg h) (rs : RelDs X.K H ι ds vs) (q : QV X H ι Q (.ref h.length) (h ++ [.lst ds])) (p : Addr) (hp : H p = none) : Q (.ref p) (upd H p (.lst vs)) := by
  have g : Gr X.K H (upd H p (.lst vs)) ι (ι ++ [p]) := Gr.fresh hp _ (List.prefix_append _ _)
  refine q _ _ (ι ++ [p]) g (hr.push hp ⟨vs, upd_same, rs.mono g⟩) ⟨p, ?_, rfl⟩
  rw [← hr.len, List.getElem?_append_right (Nat.le_refl _), Nat.sub_self]
  rfl
theorem de_tup {es : List Expr} {k : Nat} {w : WA} (h : DA X W es w) : DE X W (.Tuple es k pos) (wTup w) := by
  refine ⟨PE.imp (pe_tup h.pa) fun σ H Q ⟨ι, hh, s, hr, sr, q⟩ => ?_, mono_tup h.mono⟩
  refine ⟨ι, hh, s, hr, sr, h.mono s hh _ _ _ _ (fun ds h1 ⟨z, q⟩ vs H1 ι1 g hr1 rs => ⟨by rw [rs.length]; exact z, ?_⟩) (fun _ _ e => e) q⟩
  exact tup_new hr1 rs (QV.on q g)
theorem de_lst {es : List Expr} {w : WA} (h : DA X W es w) : DE X W (.List es pos) (wLst w) := by
  refine ⟨PE.imp (pe_lst h.pa) fun σ H Q ⟨ι, hh, s, hr, sr, q⟩ => ?_, mono_lst h.mono⟩
  refine ⟨ι, hh, s, hr, sr, h.mono s hh _ _ _ _ (fun ds h1 ⟨z, q⟩ vs H1 ι1 g hr1 rs => ⟨by rw [rs.length]; exact z, ?_⟩) (fun _ _ e => e) q⟩
  exact lst_new hr1 rs (QV.on q g)

/-! ### operators -/
def wOp (g : G2) (wa wb : WE) : WE := wBin (k2 g) wa wb
theorem mono_op {g : G2} (ma : Mono wa) (mb : Mono wb) : Mono (wOp g wa wb) := mono_bin ma mb mono_k2
theorem LE.op {g : G2} {f : Value → Value → Sem Value} (o : OpOk X f g) (ma : Mono wa) (mb : Mono wb) {σ : St} {H : Hp} {Q : VK} (h : LE X W (wOp g wa wb) σ H Q) : tOp (rOp X g) (LE X W wa) (LE X W wb) σ H Q := by
  obtain ⟨ι, hh, s, hr, sr, w⟩ := LE.bind2 ma mb mono_k2 h
  refine ⟨ι, hh, s, hr, sr, ma s hh _ _ _ _ (fun d h1 q v H1 ι1 g hr1 rd => ?_) (fun _ _ e => e) w⟩
  obtain ⟨ι', hh', s', hr', sr', w'⟩ := q v H1 ι1 g hr1 rd
  exact ⟨ι', hh', s', hr', sr', mb s' hh' _ _ _ _ (fun d2 h2 q2 v2 H2 ι2 g2 hr2 rd2 => o.lk (q2 v2 H2 ι2 g2 hr2 rd2)) (fun _ _ e => e) w'⟩
theorem de_op {op : Operator} {g : G2} (o : OpOk X (binaryOp op) g) (ha : DE X W a wa) (hb : DE X W b wb) : DE X W (.BinOp a op b pos) (wOp g wa wb) :=
  ⟨PE.imp (pe_op o.op ha.pe hb.pe) fun σ H Q h => h.op o ha.mono hb.mono, mono_op ha.mono hb.mono⟩
theorem de_cmp {op : CmpOp} {g : G2} (o : OpOk X (compareOp op) g) (ha : DE X W a wa) (hb : DE X W b wb) (hm : behindInMarks op b = false := by first | exact nomark _ | rfl | with_unfolding_all rfl) : DE X W (.Compare a [op] [b] pos) (wOp g wa wb) :=
  ⟨PE.imp (pe_cmpR o.op ha.pe hb.pe hm) fun σ H Q h => h.op o ha.mono hb.mono, mono_op ha.mono hb.mono⟩
/-- a value that is a bool, as a test -/
def kB : Sl → D → Hh → (Bool → Hh → Prop) → PX → Prop := fun _ d h Q _ => ∃ k, d = .bl k ∧ Q k h
def wB (w : WE) : WT := wUn kB w
theorem mono_kB : Mono1 kB := fun s d h Q Q' E E' hq _ ⟨k, e, q⟩ => ⟨k, e, hq _ _ q⟩
theorem mono_b {w : WE} (m : Mono w) : Mono (wB w) := mono_un m mono_kB
theorem LT.bool {w : WE} (m : Mono w) {σ : St} {H : Hp} {Q : Bool → Hp → Prop} (h : LT X W (wB w) σ H Q) : LE X W w σ H fun x H' => ∃ k, x = .bl k ∧ Q k H' := by
  obtain ⟨ι, hh, s, hr, sr, q⟩ := h
  refine ⟨ι, hh, s, hr, sr, m s hh _ _ _ _ (fun d h1 ⟨k, ed, q⟩ v H1 ι1 g hr1 rd => ?_) (fun _ _ e => e) q⟩
  subst ed
  exact ⟨k, rd, q H1 ι1 g hr1⟩
theorem tTest_mono {t t' : TE} {σ : St} {H : Hp} {Q : Bool → Hp → Prop} (h : ∀ Q, t' σ H Q → t σ H Q) (q : tTest t' σ H Q) : tTest t σ H Q := h _ q
theorem dt_cmp {op : CmpOp} {g : G2} (o : OpOk X (compareOp op) g) (ha : DE X W a wa) (hb : DE X W b wb) (hm : behindInMarks op b = false := by first | exact nomark _ | rfl | with_unfolding_all rfl) : DT X W (.Compare a [op] [b] pos) (wB (wOp g wa wb)) :=
  ⟨PT.imp (pt_cmpR o.op ha.pe hb.pe hm) fun σ H Q h => tTest_mono (t' := LE X W (wOp g wa wb)) (fun Q h => h.op o ha.mono hb.mono) (LT.bool (mono_op ha.mono hb.mono) h), mono_b (mono_op ha.mono hb.mono)⟩
/-- any value as a test -/
def lsOf (h : Hh) (n : Nat) : Option (List D) := match h[n]? with | some (.lst ds) => some ds | some (.rol ds) => some ds | _ => none
def truD : D → Hh → Option Bool
  | .non, _ => some false
  | .bl b, _ => some b
  | .int i, _ => some (i != 0)
  | .str x, _ => if x.length ≤ sizeLine then some ((x.length : Int) != 0) else none
  | .tup ds, _ => some (!ds.isEmpty)
  | .ref n, h => match h[n]? with
    | some (.lst ds) => some (!ds.isEmpty)
    | some (.rol ds) => some (!ds.isEmpty)
    | some (.dic ds) => some (!ds.isEmpty)
    | _ => none
  | _, _ => none
def kTru : Sl → D → Hh → (Bool → Hh → Prop) → PX → Prop := fun _ d h Q _ => ∃ k, truD d h = some k ∧ Q k h
def wTru (w : WE) : WT := wUn kTru w
theorem mono_kTru : Mono1 kTru := fun s d h Q Q' E E' hq _ ⟨k, e, q⟩ => ⟨k, e, hq _ _ q⟩
theorem mono_tru {w : WE} (m : Mono w) : Mono (wTru w) := mono_un m mono_kTru
theorem RelDs.isEmpty {K : PySem.W.Frag} {H : Hp} {ι : List Addr} {ds : List D} {vs : List V} (r : RelDs K H ι ds vs) : vs.isEmpty = ds.isEmpty := by
  cases ds with
  | nil => rw [show vs = [] from r]; rfl
  | cons d ds => obtain ⟨v, u, rfl, _⟩ := r; rfl
theorem RelKs.isEmpty {κ : Type} {K : PySem.W.Frag} {H : Hp} {ι : List Addr} {ds : List (κ × D)} {vs : List (κ × V)} (r : RelKs K H ι ds vs) : vs.isEmpty = ds.isEmpty := by
  cases ds with
  | nil => rw [show vs = [] from r]; rfl
  | cons d ds => obtain ⟨v, u, rfl, _⟩ := r; rfl
theorem truV_of {H : Hp} {ι : List Addr} {h : Hh} {d : D} {x : V} {k : Bool} (hr : HRel X.K H ι X.mg h) (rd : RelD X.K H ι d x) (e : truD d h = some k) : TruV X.K x H k := by
  cases d with
  | non => cases rd; exact (Option.some.inj e).symm
  | bl b => cases rd; exact (Option.some.inj e).symm
  | int i => cases rd; exact (Option.some.inj e).symm
  | str z =>
    cases rd
    simp only [truD] at e
    split at e
    · rename_i hz; exact ⟨hz, (Option.some.inj e).symm⟩
    · cases e
  | tup ds =>
    obtain ⟨a, vs, rfl, q, r⟩ := rd
    refine .inr (.inl ⟨vs, q, ?_⟩)
    rw [r.isEmpty]; exact (Option.some.inj e).symm
  | ref n =>
    obtain ⟨a, ea, rfl⟩ := rd
    simp only [truD] at e
    cases z : h[n]? with
    | none => rw [z] at e; cases e
    | some o =>
      have ro := hr.obj n o a z ea
      rw [z] at e
      cases o with
      | lst ds => obtain ⟨vs, q, r⟩ := ro; exact .inl ⟨vs, SqL.of q, by rw [r.isEmpty]; exact (Option.some.inj e).symm⟩
      | rol ds => obtain ⟨vs, q, r⟩ := ro; exact .inl ⟨vs, q.sq, by rw [r.isEmpty]; exact (Option.some.inj e).symm⟩
      | dic ds => obtain ⟨vs, q, r⟩ := ro; exact .inr (.inr ⟨vs, q, by rw [r.isEmpty]; exact (Option.some.inj e).symm⟩)
      | lck ds => cases e
      | ins C fs => cases e
      | exo C d => cases e
      | exd fs => cases e
      | xdo d fs => cases e
      | tab P q => cases e
  | opq v => cases e
theorem dt_tru {w : WE} (h : DE X W a w) (he : ∀ whole, isTrue a X.env whole = (do let v ← whole; standAt a.pos; holding [v] (truthy v)) := by intro _; rfl) : DT X W a (wTru w) := by
  refine ⟨PT.imp (pt_truth h.pe he) fun σ H Q ⟨ι, hh, s, hr, sr, q⟩ => ?_, mono_tru h.mono⟩
  refine ⟨ι, hh, s, hr, sr, h.mono s hh _ _ _ _ (fun d h1 ⟨k, ed, q⟩ v H1 ι1 g hr1 rd => ?_) (fun _ _ e => e) q⟩
  exact ⟨k, truV_of hr1 rd ed, q H1 ι1 g hr1⟩

/-! ### and, or, not, if -/
variable {wt wu : WT} {rest : List Expr}
def wAnd (wt wu : WT) : WT := fun s h Q E => wt s h (fun c h1 => if c = true then wu s h1 Q E else Q false h1) E
def wOr (wt wu : WT) : WT := fun s h Q E => wt s h (fun c h1 => if c = true then Q true h1 else wu s h1 Q E) E
def wNot (wt : WT) : WT := fun s h Q E => wt s h (fun c h1 => Q (!c) h1) E
theorem mono_and (m : Mono wt) (n : Mono wu) : Mono (wAnd wt wu) := fun s h Q Q' E E' hq he w => m s h _ _ _ _ (fun c h1 q => by
  cases c with
  | true => exact n s h1 _ _ _ _ hq he q
  | false => exact hq _ _ q) he w
theorem mono_or (m : Mono wt) (n : Mono wu) : Mono (wOr wt wu) := fun s h Q Q' E E' hq he w => m s h _ _ _ _ (fun c h1 q => by
  cases c with
  | false => exact n s h1 _ _ _ _ hq he q
  | true => exact hq _ _ q) he w
theorem mono_not (m : Mono wt) : Mono (wNot wt) := fun s h Q Q' E E' hq he w => m s h _ _ _ _ (fun c h1 q => hq _ _ q) he w
/-- a test whatever its whole is -/
structure DW (X : Cx) (W : WX) (e : Expr) (w : WT) : Prop where
  pw : PW X e (LT X W w)
  mono : Mono w
theorem DW.dt {e : Expr} {w : WT} (h : DW X W e w) : DT X W e w := ⟨h.pw.pt, h.mono⟩
theorem PW.imp {e : Expr} {t t' : TT} (h : PW X e t) (i : ∀ σ H Q, t' σ H Q → t σ H Q) : PW X e t' := ⟨fun wh pins s σ H Q I q => h.run wh pins s σ H Q I (i σ H Q q)⟩
theorem dw_and1 (h : DT X W a wt) : DW X W (.BoolOp .And [a] pos) wt := ⟨pw_and1 h.pt, h.mono⟩
theorem dw_or1 (h : DT X W a wt) : DW X W (.BoolOp .Or [a] pos) wt := ⟨pw_or1 h.pt, h.mono⟩
theorem dw_and (ha : DT X W a wt) (hb : DW X W (.BoolOp .And (b :: rest) pos) wu) : DW X W (.BoolOp .And (a :: b :: rest) pos) (wAnd wt wu) := by
  refine ⟨PW.imp (pw_and ha.pt hb.pw) fun σ H Q ⟨ι, hh, s, hr, sr, q⟩ => ?_, mono_and ha.mono hb.mono⟩
  refine ⟨ι, hh, s, hr, sr, ha.mono s hh _ _ _ _ (fun c h1 q H1 ι1 g hr1 => ?_) (fun _ _ e => e) q⟩
  cases c with
  | true => exact ⟨ι1, h1, s, hr1, sr.mono g, hb.mono s h1 _ _ _ _ (fun b' h' q' => QB.on q' g) (fun x h' q' => QX.on q' g) q⟩
  | false => exact q H1 ι1 g hr1
theorem dw_or (ha : DT X W a wt) (hb : DW X W (.BoolOp .Or (b :: rest) pos) wu) : DW X W (.BoolOp .Or (a :: b :: rest) pos) (wOr wt wu) := by
  refine ⟨PW.imp (pw_or ha.pt hb.pw) fun σ H Q ⟨ι, hh, s, hr, sr, q⟩ => ?_, mono_or ha.mono hb.mono⟩
  refine ⟨ι, hh, s, hr, sr, ha.mono s hh _ _ _ _ (fun c h1 q H1 ι1 g hr1 => ?_) (fun _ _ e => e) q⟩
  cases c with
  | false => exact ⟨ι1, h1, s, hr1, sr.mono g, hb.mono s h1 _ _ _ _ (fun b' h' q' => QB.on q' g) (fun x h' q' => QX.on q' g) q⟩
  | true => exact q H1 ι1 g hr1
theorem dt_not (ha : DT X W a wt) : DT X W (.UnaryOp .Not a pos) (wNot wt) := by
  refine ⟨PT.imp (pt_not ha.pt) fun σ H Q ⟨ι, hh, s, hr, sr, q⟩ => ?_, mono_not ha.mono⟩
  exact ⟨ι, hh, s, hr, sr, ha.mono s hh _ _ _ _ (fun c h1 q H1 ι1 g hr1 => q H1 ι1 g hr1) (fun _ _ e => e) q⟩
/-- .. as values, bools -/
def wAndV (wa wb : WE) : WE := fun s h Q E => wa s h (fun d h1 => ∃ c, d = .bl c ∧ if c = true then wb s h1 Q E else Q (.bl false) h1) E
def wOrV (wa wb : WE) : WE := fun s h Q E => wa s h (fun d h1 => ∃ c, d = .bl c ∧ if c = true then Q (.bl true) h1 else wb s h1 Q E) E
def wNotV (wa : WE) : WE := fun s h Q E => wa s h (fun d h1 => ∃ c, d = .bl c ∧ Q (.bl (!c)) h1) E
theorem mono_andV (m : Mono wa) (n : Mono wb) : Mono (wAndV wa wb) := fun s h Q Q' E E' hq he w => m s h _ _ _ _ (fun d h1 ⟨c, e, q⟩ => ⟨c, e, by
  cases c with
  | true => exact n s h1 _ _ _ _ hq he q
  | false => exact hq _ _ q⟩) he w
theorem mono_orV (m : Mono wa) (n : Mono wb) : Mono (wOrV wa wb) := fun s h Q Q' E E' hq he w => m s h _ _ _ _ (fun d h1 ⟨c, e, q⟩ => ⟨c, e, by
  cases c with
  | false => exact n s h1 _ _ _ _ hq he q
  | true => exact hq _ _ q⟩) he w
theorem mono_notV (m : Mono wa) : Mono (wNotV wa) := fun s h Q Q' E E' hq he w => m s h _ _ _ _ (fun d h1 ⟨c, e, q⟩ => ⟨c, e, hq _ _ q⟩) he w
theorem de_one {op} (h : DE X W a wa) : DE X W (.BoolOp op [a] pos) wa := ⟨pe_one h.pe, h.mono⟩
theorem de_and (ha : DE X W a wa) (hb : DE X W (.BoolOp .And (b :: rest) pos) wb) : DE X W (.BoolOp .And (a :: b :: rest) pos) (wAndV wa wb) := by
  refine ⟨PE.imp (pe_and ha.pe hb.pe) fun σ H Q ⟨ι, hh, s, hr, sr, q⟩ => ?_, mono_andV ha.mono hb.mono⟩
  refine ⟨ι, hh, s, hr, sr, ha.mono s hh _ _ _ _ (fun d h1 ⟨c, ed, q⟩ v H1 ι1 g hr1 rd => ?_) (fun _ _ e => e) q⟩
  subst ed
  refine ⟨c, rd, ?_⟩
  cases c with
  | true => exact ⟨ι1, h1, s, hr1, sr.mono g, hb.mono s h1 _ _ _ _ (fun b' h' q' => QV.on q' g) (fun x h' q' => QX.on q' g) q⟩
  | false => exact q _ H1 ι1 g hr1 rfl
theorem de_or (ha : DE X W a wa) (hb : DE X W (.BoolOp .Or (b :: rest) pos) wb) : DE X W (.BoolOp .Or (a :: b :: rest) pos) (wOrV wa wb) := by
  refine ⟨PE.imp (pe_or ha.pe hb.pe) fun σ H Q ⟨ι, hh, s, hr, sr, q⟩ => ?_, mono_orV ha.mono hb.mono⟩
  refine ⟨ι, hh, s, hr, sr, ha.mono s hh _ _ _ _ (fun d h1 ⟨c, ed, q⟩ v H1 ι1 g hr1 rd => ?_) (fun _ _ e => e) q⟩
  subst ed
  refine ⟨c, rd, ?_⟩
  cases c with
  | false => exact ⟨ι1, h1, s, hr1, sr.mono g, hb.mono s h1 _ _ _ _ (fun b' h' q' => QV.on q' g) (fun x h' q' => QX.on q' g) q⟩
  | true => exact q _ H1 ι1 g hr1 rfl
theorem de_not (ha : DE X W a wa) : DE X W (.UnaryOp .Not a pos) (wNotV wa) := by
  refine ⟨PE.imp (pe_not ha.pe) fun σ H Q ⟨ι, hh, s, hr, sr, q⟩ => ?_, mono_notV ha.mono⟩
  refine ⟨ι, hh, s, hr, sr, ha.mono s hh _ _ _ _ (fun d h1 ⟨c, ed, q⟩ v H1 ι1 g hr1 rd => ?_) (fun _ _ e => e) q⟩
  subst ed
  exact ⟨c, rd, q _ H1 ι1 g hr1 rfl⟩
def wIfE (wt : WT) (wa wb : WE) : WE := fun s h Q E => wt s h (fun c h1 => if c = true then wa s h1 Q E else wb s h1 Q E) E
theorem mono_ifE (m : Mono wt) (ma : Mono wa) (mb : Mono wb) : Mono (wIfE wt wa wb) := fun s h Q Q' E E' hq he w => m s h _ _ _ _ (fun c h1 q => by
  cases c with
  | true => exact ma s h1 _ _ _ _ hq he q
  | false => exact mb s h1 _ _ _ _ hq he q) he w
theorem de_ifE (hc : DT X W c wt) (ha : DE X W a wa) (hb : DE X W b wb) : DE X W (.IfExp c a b pos) (wIfE wt wa wb) := by
  refine ⟨PE.imp (pe_ifExp hc.pt ha.pe hb.pe) fun σ H Q ⟨ι, hh, s, hr, sr, q⟩ => ?_, mono_ifE hc.mono ha.mono hb.mono⟩
  refine ⟨ι, hh, s, hr, sr, hc.mono s hh _ _ _ _ (fun c h1 q H1 ι1 g hr1 => ?_) (fun _ _ e => e) q⟩
  cases c with
  | true => exact ⟨ι1, h1, s, hr1, sr.mono g, ha.mono s h1 _ _ _ _ (fun b' h' q' => QV.on q' g) (fun x h' q' => QX.on q' g) q⟩
  | false => exact ⟨ι1, h1, s, hr1, sr.mono g, hb.mono s h1 _ _ _ _ (fun b' h' q' => QV.on q' g) (fun x h' q' => QX.on q' g) q⟩
/-- a < b < c -/
def wChain (g g' : G2) (wa wb wc : WE) : WE := fun s h Q E => wa s h (fun x h1 => wb s h1 (fun y h2 => ∃ r h3, g x y h2 = some (r, h3) ∧ ∃ k, r = .bl k ∧ if k = true then wc s h3 (fun z h4 => ∃ r' h5, g' y z h4 = some (r', h5) ∧ Q r' h5) E else Q (.bl false) h3) E) E
theorem mono_chain {g g' : G2} (ma : Mono wa) (mb : Mono wb) (mc : Mono wc) : Mono (wChain g g' wa wb wc) := fun s h Q Q' E E' hq he w =>
  ma s h _ _ _ _ (fun x h1 q => mb s h1 _ _ _ _ (fun y h2 ⟨r, h3, e, k, ek, q⟩ => ⟨r, h3, e, k, ek, by
    cases k with
    | true => exact mc s h3 _ _ _ _ (fun z h4 ⟨r', h5, e', q'⟩ => ⟨r', h5, e', hq _ _ q'⟩) he q
    | false => exact hq _ _ q⟩) he q) he w
theorem LE.chain {g g' : G2} {f f' : Value → Value → Sem Value} (o : OpOk X f g) (o' : OpOk X f' g') (ma : Mono wa) (mb : Mono wb) (mc : Mono wc) {σ : St} {H : Hp} {Q : VK} (h : LE X W (wChain g g' wa wb wc) σ H Q) :
    tChain (rOp X g) (rOp X g') (LE X W wa) (LE X W wb) (LE X W wc) σ H Q := by
  obtain ⟨ι, hh, s, hr, sr, w⟩ := h
  refine ⟨ι, hh, s, hr, sr, ma s hh _ _ _ _ (fun d h1 q v H1 ι1 g1 hr1 rd => ?_) (fun _ _ e => e) w⟩
  refine ⟨ι1, h1, s, hr1, sr.mono g1, mb s h1 _ _ _ _ (fun e h2 q2 u H2 ι2 g2 hr2 re => ?_) (fun x h' q' => QX.on q' g1) q⟩
  obtain ⟨r, h3, eg, k, rfl, q⟩ := q2
  refine ⟨ι2, h2, d, e, _, h3, hr2, rd.mono g2, re, eg, fun z H3 ι3 g3 hr3 rz => ⟨k, rz, ?_⟩⟩
  have gg := (g1.trans g2).trans g3
  cases k with
  | true =>
    refine ⟨ι3, h3, s, hr3, sr.mono gg, mc s h3 _ _ _ _ (fun c h4 ⟨r', h5, e', q'⟩ u' H4 ι4 g4 hr4 rc => ?_) (fun x h' q' => QX.on q' gg) q⟩
    exact ⟨ι4, h4, e, c, r', h5, hr4, re.mono (g3.trans g4), rc, e', QV.on q' (gg.trans g4)⟩
  | false => exact q _ H3 ι3 gg hr3 rfl
theorem de_chain {op op' : CmpOp} {g g' : G2} (o : OpOk X (compareOp op) g) (o' : OpOk X (compareOp op') g') (ha : DE X W a wa) (hb : DE X W b wb) (hc : DE X W c wc) (hm : lastMarks [op, op'] [b, c] = false := by with_unfolding_all rfl) :
    DE X W (.Compare a [op, op'] [b, c] pos) (wChain g g' wa wb wc) :=
  ⟨PE.imp (pe_chain o.op o'.op ha.pe hb.pe hc.pe hm) fun σ H Q h => h.chain o o' ha.mono hb.mono hc.mono, mono_chain ha.mono hb.mono hc.mono⟩
theorem dt_chain {op op' : CmpOp} {g g' : G2} (o : OpOk X (compareOp op) g) (o' : OpOk X (compareOp op') g') (ha : DE X W a wa) (hb : DE X W b wb) (hc : DE X W c wc) (hm : lastMarks [op, op'] [b, c] = false := by with_unfolding_all rfl) :
    DT X W (.Compare a [op, op'] [b, c] pos) (wB (wChain g g' wa wb wc)) :=
  ⟨PT.imp (pt_chain o.op o'.op ha.pe hb.pe hc.pe hm) fun σ H Q h => tTest_mono (t' := LE X W (wChain g g' wa wb wc)) (fun Q h => h.chain o o' ha.mono hb.mono hc.mono) (LT.bool (mono_chain ha.mono hb.mono hc.mono) h),
    mono_b (mono_chain ha.mono hb.mono hc.mono)⟩
end
end EV

namespace EV
open PySem PySem.Spec PyProof.Rows L2

section
variable {X : Cx} {W : WX}
theorem qv_same {H : Hp} {ι : List Addr} {h : Hh} {Q : VK} {d : D} {v : V} (hr : HRel X.K H ι X.mg h) (q : QV X H ι Q d h) (r : RelD X.K H ι d v) : Q v H := q v H ι .refl hr r
/-- lists and tuples that are read -/
theorem ls_sq {H : Hp} {ι : List Addr} {h : Hh} {n : Nat} {ds : List D} {a : Addr} (hr : HRel X.K H ι X.mg h) (e : lsOf h n = some ds) (ea : ι[n]? = some a) : ∃ vs, SqL X.K H a vs ∧ RelDs X.K H ι ds vs := by
  unfold lsOf at e
  cases z : h[n]? with
  | none => rw [z] at e; cases e
  | some o =>
    rw [z] at e
    have ro := hr.obj n o a z ea
    cases o with
    | lst xs => cases e; obtain ⟨vs, q, r⟩ := ro; exact ⟨vs, SqL.of q, r⟩
    | rol xs => cases e; obtain ⟨vs, q, r⟩ := ro; exact ⟨vs, q.sq, r⟩
    | dic _ => cases e
    | lck _ => cases e
    | ins _ _ => cases e
    | exo _ _ => cases e
    | exd _ => cases e
    | xdo _ _ => cases e
    | tab _ _ => cases e

/-! ### arithmetic -/
def gAdd : G2
  | .int i, .int j, h => some (.int (i + j), h)
  | .str x, .str y, h => if x.length + y.length ≤ sizeLine then some (.str (x ++ y), h) else none
  | .tup a, .tup b, h => if a.length + b.length ≤ sizeLine then some (.tup (a ++ b), h) else none
  | .ref m, .ref n, h => match h[m]?, h[n]? with
    | some (.lst a), some (.lst b) => if a.length + b.length ≤ sizeLine then some (.ref h.length, h ++ [.lst (a ++ b)]) else none
    | _, _ => none
  | _, _, _ => none
theorem ok_add : OpOk X (binaryOp .Add) gAdd := by
  intro ι h d e r h' x y H Q hr r1 r2 eg q
  cases d <;> cases e <;> first
    | (exfalso; simp [gAdd] at eg; done)
    | skip
  · rename_i i j
    cases r1; cases r2
    simp only [gAdd, Option.some.injEq, Prod.mk.injEq] at eg
    obtain ⟨rfl, rfl⟩ := eg
    exact ⟨_, op_add, i, j, rfl, rfl, qv_same hr q rfl⟩
  · rename_i i j
    cases r1; cases r2
    simp only [gAdd] at eg
    split at eg
    · rename_i hz
      simp only [Option.some.injEq, Prod.mk.injEq] at eg
      obtain ⟨rfl, rfl⟩ := eg
      exact ⟨_, op_add_str, i, j, rfl, rfl, hz, qv_same hr q rfl⟩
    · cases eg
  · rename_i as bs
    obtain ⟨p, vs, rfl, q1, s1⟩ := r1
    obtain ⟨p', us, rfl, q2, s2⟩ := r2
    simp only [gAdd] at eg
    split at eg
    · rename_i hz
      simp only [Option.some.injEq, Prod.mk.injEq] at eg
      obtain ⟨rfl, rfl⟩ := eg
      refine ⟨_, op_catA, p, p', vs, us, rfl, rfl, q1, q2, by rw [s1.length, s2.length]; exact hz, fun ev => ?_, fun _ eu => ?_, fun _ _ => tup_new hr (s1.append s2) q⟩
      · subst ev
        have : as = [] := List.eq_nil_of_length_eq_zero (by rw [← s1.length]; rfl)
        subst this
        exact qv_same hr q ⟨p', us, rfl, q2, s2⟩
      · subst eu
        have : bs = [] := List.eq_nil_of_length_eq_zero (by rw [← s2.length]; rfl)
        subst this
        exact qv_same hr q ⟨p, vs, rfl, q1, by rw [List.append_nil]; exact s1⟩
    · cases eg
  · rename_i m n
    obtain ⟨p, ep, rfl⟩ := r1
    obtain ⟨p', ep', rfl⟩ := r2
    simp only [gAdd] at eg
    split at eg
    · rename_i as bs z1 z2
      split at eg
      · rename_i hz
        simp only [Option.some.injEq, Prod.mk.injEq] at eg
        obtain ⟨rfl, rfl⟩ := eg
        obtain ⟨vs, q1, s1⟩ := hr.obj _ _ _ z1 ep
        obtain ⟨us, q2, s2⟩ := hr.obj _ _ _ z2 ep'
        exact ⟨_, op_cat, p, p', vs, us, rfl, rfl, q1, q2, by rw [s1.length, s2.length]; exact hz, lst_new hr (s1.append s2) q⟩
      · cases eg
    · cases eg
/-- two ints -/
def gI (c : Int → Int → Bool) (f : Int → Int → D) : G2
  | .int i, .int j, h => if c i j then some (f i j, h) else none
  | _, _, _ => none
theorem ok_int {f : Value → Value → Sem Value} {C : Int → Int → Prop} {c : Int → Int → Bool} {g : Int → Int → V} {g' : Int → Int → D} (o : OpR X f (rI C g)) (hc : ∀ i j, c i j = true → C i j) (hg : ∀ H ι i j, RelD X.K H ι (g' i j) (g i j)) : OpOk X f (gI c g') := by
  intro ι h d e r h' x y H Q hr r1 r2 eg q
  cases d <;> cases e <;> first
    | (exfalso; simp [gI] at eg; done)
    | skip
  rename_i i j
  cases r1; cases r2
  simp only [gI] at eg
  split at eg
  · rename_i hz
    simp only [Option.some.injEq, Prod.mk.injEq] at eg
    obtain ⟨rfl, rfl⟩ := eg
    exact ⟨_, o, i, j, rfl, rfl, hc i j hz, qv_same hr q (hg _ _ _ _)⟩
  · cases eg
theorem ok_int0 {f : Value → Value → Sem Value} {g : Int → Int → V} {g' : Int → Int → D} (o : OpR X f (rI0 g)) (hg : ∀ H ι i j, RelD X.K H ι (g' i j) (g i j)) : OpOk X f (gI (fun _ _ => true) g') := by
  intro ι h d e r h' x y H Q hr r1 r2 eg q
  cases d <;> cases e <;> first
    | (exfalso; simp [gI] at eg; done)
    | skip
  rename_i i j
  cases r1; cases r2
  simp only [gI, if_true, Option.some.injEq, Prod.mk.injEq] at eg
  obtain ⟨rfl, rfl⟩ := eg
  exact ⟨_, o, i, j, rfl, rfl, qv_same hr q (hg _ _ _ _)⟩
def gSub : G2 := gI (fun _ _ => true) fun i j => .int (i - j)
theorem ok_sub : OpOk X (binaryOp .Sub) gSub := ok_int0 op_sub fun _ _ _ _ => rfl
def mulC (i j : Int) : Bool := decide (-(2 ^ 64) < i ∧ i < 2 ^ 64) || decide (-(2 ^ 64) < j ∧ j < 2 ^ 64)
def gMulI : G2 := gI mulC fun i j => .int (i * j)
theorem ok_mulI : OpOk X (binaryOp .Mult) gMulI := ok_int op_mul (fun i j h => by
  unfold mulC at h
  rcases Bool.or_eq_true_iff.mp h with h | h
  · exact .inl (of_decide_eq_true h)
  · exact .inr (of_decide_eq_true h)) fun _ _ _ _ => rfl
def gMulL : G2
  | .ref m, .int k, h => match h[m]? with
    | some (.lst a) => if decide (-(2 ^ 63) ≤ k ∧ k < 2 ^ 63) && decide (a.length * k.toNat ≤ sizeLine) then some (.ref h.length, h ++ [.lst (List.replicate k.toNat a).flatten]) else none
    | _ => none
  | _, _, _ => none
theorem RelDs.rep {K : PySem.W.Frag} {H : Hp} {ι : List Addr} {ds : List D} {vs : List V} (r : RelDs K H ι ds vs) : ∀ n : Nat, RelDs K H ι (List.replicate n ds).flatten (List.replicate n vs).flatten
  | 0 => rfl
  | n + 1 => by
    rw [List.replicate_succ, List.replicate_succ, List.flatten_cons, List.flatten_cons]
    exact r.append (r.rep n)
theorem ok_mulL : OpOk X (binaryOp .Mult) gMulL := by
  intro ι h d e r h' x y H Q hr r1 r2 eg q
  cases d <;> cases e <;> first
    | (exfalso; simp [gMulL] at eg; done)
    | skip
  rename_i m k
  obtain ⟨p, ep, rfl⟩ := r1
  cases r2
  simp only [gMulL] at eg
  split at eg
  · rename_i as z1
    split at eg
    · rename_i hz
      obtain ⟨h1, h2⟩ := Bool.and_eq_true_iff.mp hz
      have h1 := of_decide_eq_true h1
      simp only [Option.some.injEq, Prod.mk.injEq] at eg
      obtain ⟨rfl, rfl⟩ := eg
      obtain ⟨vs, q1, s1⟩ := hr.obj _ _ _ z1 ep
      exact ⟨_, op_rep, p, k, vs, rfl, rfl, q1, h1.1, h1.2, by rw [s1.length]; exact of_decide_eq_true h2, lst_new hr (s1.rep _) q⟩
    · cases eg
  · cases eg
def gMul : G2 := orG gMulI gMulL
theorem ok_mul : OpOk X (binaryOp .Mult) gMul := ok_mulI.or ok_mulL
def gMod : G2 := gI (fun _ j => decide (j ≠ 0)) fun i j => .int (i.fmod j)
theorem ok_mod : OpOk X (binaryOp .Mod) gMod := ok_int op_modN (fun _ _ h => of_decide_eq_true h) fun _ _ _ _ => rfl
def gDiv : G2 := gI (fun _ j => decide (0 < j ∧ j.natAbs.log2 < 9000)) fun i j => .int (i / j)
theorem ok_div : OpOk X (binaryOp .FloorDiv) gDiv := ok_int op_fdivW (fun i j h => show 0 < j ∧ j.natAbs.log2 < 9000 from of_decide_eq_true h) fun _ _ _ _ => rfl
def gPow : G2 := gI (fun i j => decide (0 ≤ j ∧ j ≤ 1000000 ∧ i.natAbs < 2 ^ 64)) fun i j => .int (i ^ j.toNat)
theorem ok_pow : OpOk X (binaryOp .Pow) gPow := ok_int op_pow (fun i j h => show 0 ≤ j ∧ j ≤ 1000000 ∧ i.natAbs < 2 ^ 64 from of_decide_eq_true h) fun _ _ _ _ => rfl

/-! ### order -/
def gLtI : G2 := gI (fun _ _ => true) fun i j => .bl (decide (i < j))
def gLeI : G2 := gI (fun _ _ => true) fun i j => .bl (decide (i ≤ j))
def gGtI : G2 := gI (fun _ _ => true) fun i j => .bl (decide (j < i))
def gGeI : G2 := gI (fun _ _ => true) fun i j => .bl (decide (j ≤ i))
def gS2 (f : Str → Str → Bool) : G2
  | .str x, .str y, h => some (.bl (f x y), h)
  | _, _, _ => none
theorem ok_s2 {f : Value → Value → Sem Value} {p : Str → Str → Bool} (o : OpR X f (fun x y H Q => ∃ i j, x = .str i ∧ y = .str j ∧ Q (.bl (p i j)) H)) : OpOk X f (gS2 p) := by
  intro ι h d e r h' x y H Q hr r1 r2 eg q
  cases d <;> cases e <;> first
    | (exfalso; simp [gS2] at eg; done)
    | skip
  rename_i i j
  cases r1; cases r2
  simp only [gS2, Option.some.injEq, Prod.mk.injEq] at eg
  obtain ⟨rfl, rfl⟩ := eg
  exact ⟨_, o, i, j, rfl, rfl, qv_same hr q rfl⟩
def gLt : G2 := orG gLtI (gS2 fun x y => decide (x.cps.toList < y.cps.toList))
def gLe : G2 := orG gLeI (gS2 fun x y => !decide (y.cps.toList < x.cps.toList))
def gGt : G2 := gGtI
def gGe : G2 := gGeI
theorem ok_lt : OpOk X (compareOp .Lt) gLt := (ok_int0 (g' := fun i j => .bl (decide (i < j))) op_lt fun _ _ _ _ => rfl).or (ok_s2 op_lt_str)
theorem ok_gt : OpOk X (compareOp .Gt) gGt := ok_int0 op_gt fun _ _ _ _ => rfl
theorem ok_ge : OpOk X (compareOp .GtE) gGe := ok_int0 op_ge fun _ _ _ _ => rfl

/-! ### equality: texts, then data of any depth -/
mutual
def pyD (h : Hh) : Nat → D → Option PyData
  | 0, _ => none
  | n + 1, d => match d with
    | .non => some .none
    | .bl b => some (.bool b)
    | .int i => some (.int i)
    | .str x => some (.str x)
    | .tup ds => (pyDs h n ds).map .tuple
    | .ref m => match lsOf h m with
      | some ds => (pyDs h n ds).map .list
      | none => none
    | .opq _ => none
def pyDs (h : Hh) : Nat → List D → Option (List PyData)
  | 0, _ => none
  | _ + 1, [] => some []
  | n + 1, d :: ds => match pyD h n d, pyDs h n ds with
    | some a, some b => some (a :: b)
    | _, _ => none
end
mutual
theorem dp_of {H : Hp} {ι : List Addr} {h : Hh} (hr : HRel X.K H ι X.mg h) : ∀ {n : Nat} {d : D} {v : V} {y : PyData}, RelD X.K H ι d v → pyD h n d = some y → Dp X.K H v y
  | 0, _, _, _, _, e => by simp only [pyD] at e; cases e
  | n + 1, d, v, y, r, e => by
    cases d with
    | non => simp only [pyD, Option.some.injEq] at e; subst e; cases r; exact .non
    | bl b => simp only [pyD, Option.some.injEq] at e; subst e; cases r; exact .bl _
    | int i => simp only [pyD, Option.some.injEq] at e; subst e; cases r; exact .int _
    | str z => simp only [pyD, Option.some.injEq] at e; subst e; cases r; exact .str _
    | tup ds =>
      obtain ⟨a, vs, rfl, q, s⟩ := r
      simp only [pyD] at e
      cases z : pyDs h n ds with
      | none => rw [z] at e; cases e
      | some ys => rw [z] at e; cases e; exact .tup q (dps_of hr s z)
    | ref m =>
      obtain ⟨a, ea, rfl⟩ := r
      simp only [pyD] at e
      cases zl : lsOf h m with
      | none => rw [zl] at e; cases e
      | some ds =>
        obtain ⟨vs, q, s⟩ := ls_sq hr zl ea
        rw [zl] at e
        simp only at e
        cases z : pyDs h n ds with
        | none => rw [z] at e; cases e
        | some ys => rw [z] at e; cases e; exact .lst q (dps_of hr s z)
    | opq v => simp only [pyD] at e; cases e
theorem dps_of {H : Hp} {ι : List Addr} {h : Hh} (hr : HRel X.K H ι X.mg h) : ∀ {n : Nat} {ds : List D} {vs : List V} {ys : List PyData}, RelDs X.K H ι ds vs → pyDs h n ds = some ys → DpAll X.K H vs ys
  | 0, _, _, _, _, e => by simp only [pyDs] at e; cases e
  | n + 1, [], vs, ys, r, e => by
    simp only [pyDs, Option.some.injEq] at e
    subst e
    rw [show vs = [] from r]
    exact .nil
  | n + 1, d :: ds, vs, ys, r, e => by
    obtain ⟨v, u, rfl, r1, r2⟩ := r
    simp only [pyDs] at e
    cases z1 : pyD h n d with
    | none => rw [z1] at e; cases e
    | some y =>
      cases z2 : pyDs h n ds with
      | none => rw [z1, z2] at e; cases e
      | some zs =>
        rw [z1, z2] at e
        cases e
        exact .cons (dp_of hr r1 z1) (dps_of hr r2 z2)
end
def eqD (d e : D) (h : Hh) : Option Bool := match pyD h 2000 d, pyD h 2000 e with
  | some a, some b => if SeqAt.shaped a && SeqAt.shaped b then some (a.eqv b) else none
  | _, _ => none
def gEqD (neg : Bool) : G2 := fun d e h => match eqD d e h with | some b => some (.bl (b ^^ neg), h) | none => none
theorem eqD_of {H : Hp} {ι : List Addr} {h : Hh} {d e : D} {x y : V} {b : Bool} (hr : HRel X.K H ι X.mg h) (r1 : RelD X.K H ι d x) (r2 : RelD X.K H ι e y) (eb : eqD d e h = some b) :
    ∃ a c, Dp X.K H x a ∧ Dp X.K H y c ∧ SeqAt.shaped a = true ∧ SeqAt.shaped c = true ∧ b = a.eqv c := by
  unfold eqD at eb
  split at eb
  · rename_i a c z1 z2
    split at eb
    · rename_i hs
      obtain ⟨s1, s2⟩ := Bool.and_eq_true_iff.mp hs
      exact ⟨a, c, dp_of hr r1 z1, dp_of hr r2 z2, s1, s2, (Option.some.inj eb).symm⟩
    · cases eb
  · cases eb
theorem ok_eqD (hu : X.A.units + 64 < cLine) : OpOk X (compareOp .Eq) (gEqD false) := by
  intro ι h d e r h' x y H Q hr r1 r2 eg q
  unfold gEqD at eg
  split at eg
  · rename_i b eb
    obtain ⟨a, c, p1, p2, s1, s2, rfl⟩ := eqD_of hr r1 r2 eb
    simp only [Bool.xor_false, Option.some.injEq, Prod.mk.injEq] at eg
    obtain ⟨rfl, rfl⟩ := eg
    exact ⟨_, op_eqD hu, a, c, p1, p2, s1, s2, qv_same hr q rfl⟩
  · cases eg
theorem ok_neD (hu : X.A.units + 64 < cLine) : OpOk X (compareOp .NotEq) (gEqD true) := by
  intro ι h d e r h' x y H Q hr r1 r2 eg q
  unfold gEqD at eg
  split at eg
  · rename_i b eb
    obtain ⟨a, c, p1, p2, s1, s2, rfl⟩ := eqD_of hr r1 r2 eb
    simp only [Bool.xor_true, Option.some.injEq, Prod.mk.injEq] at eg
    obtain ⟨rfl, rfl⟩ := eg
    exact ⟨_, op_neD hu, a, c, p1, p2, s1, s2, qv_same hr q rfl⟩
  · cases eg
theorem str_scal {x y : Str} : scal (.str x) (.str y) = true := rfl
theorem ok_eqS : OpOk X (compareOp .Eq) (gS2 fun x y => decide (x = y)) := ok_s2 (fun pins s σ H x y v u Q I rx ry ⟨i, j, ex, ey, q⟩ => by
  subst ex ey
  refine op_eq pins s σ H _ _ v u Q I rx ry ⟨rfl, ?_⟩
  have e : decide (V.str i = V.str j) = decide (i = j) := by rw [decide_eq_decide]; exact ⟨fun z => by cases z; rfl, fun z => by rw [z]⟩
  rw [e]; exact q)
theorem ok_neS : OpOk X (compareOp .NotEq) (gS2 fun x y => !decide (x = y)) := ok_s2 (fun pins s σ H x y v u Q I rx ry ⟨i, j, ex, ey, q⟩ => by
  subst ex ey
  refine op_ne pins s σ H _ _ v u Q I rx ry ⟨rfl, ?_⟩
  have e : decide (V.str i = V.str j) = decide (i = j) := by rw [decide_eq_decide]; exact ⟨fun z => by cases z; rfl, fun z => by rw [z]⟩
  rw [e]; exact q)
/-! a list or tuple beside an empty one -/
theorem isL_of {pins : List (Addr × Obj)} {s : Shared} {σ : St} {H : Hp} {a : Addr} {xs : List V} (I : Inv X pins σ H s) (h : SqL X.K H a xs) : ∃ its : Array Value, s.heap.IsList a its ∧ its.size = xs.length := by
  obtain ⟨its, r, ⟨o, n, e, c, _, d⟩, _⟩ := I.list h
  exact ⟨its.toArray, ⟨o, e, c, n, d⟩, by rw [List.size_toArray]; exact r.length.symm⟩
theorem isT_of {pins : List (Addr × Obj)} {s : Shared} {σ : St} {H : Hp} {a : Addr} {xs : List V} (I : Inv X pins σ H s) (h : SqT X.K H a xs) : ∃ its : Array Value, s.heap.IsTuple a its ∧ its.size = xs.length := by
  obtain ⟨its, r, t, _⟩ := I.tuple h
  exact ⟨its.toArray, t, by rw [List.size_toArray]; exact r.length.symm⟩
def rEqE (K : PySem.W.Frag) (neg : Bool) : R2 := fun x y H Q => ∃ a b xs ys, x = .ref a ∧ y = .ref b ∧ ((SqL K H a xs ∧ SqL K H b ys) ∨ (SqT K H a xs ∧ SqT K H b ys)) ∧ (xs = [] ∨ ys = []) ∧ Q (.bl ((xs.isEmpty && ys.isEmpty) ^^ neg)) H
theorem all_range0 (e : Nat → Bool) {n : Nat} (h : n = 0) : (List.range n).all e = true := by subst h; rfl
theorem op_eqE (hu : X.A.units < cLine) : OpR X (compareOp .Eq) (rEqE X.K false) := by
  rintro pins s σ H x y v u Q I rx ry ⟨a, b, xs, ys, rfl, rfl, hs, he, q⟩
  cases rx; cases ry
  rw [Bool.xor_false] at q
  rcases hs with ⟨ha, hb⟩ | ⟨ha, hb⟩
  · obtain ⟨ia, la, za⟩ := isL_of I ha
    obtain ⟨ib, lb, zb⟩ := isL_of I hb
    by_cases hz : ia.size = ib.size
    · have h0 : ia.size = 0 ∧ ib.size = 0 := by
        rcases he with rfl | rfl
        · rw [List.length_nil] at za; omega
        · rw [List.length_nil] at zb; omega
      have ex : xs = [] := List.eq_nil_of_length_eq_zero (by omega)
      have ey : ys = [] := List.eq_nil_of_length_eq_zero (by omega)
      subst ex ey
      refine SeqAt.eq_listAt (e := fun _ => true) la lb hz hu (fun j h1 _ => by omega) ?_
      rw [all_range0 _ h0.1]
      exact ⟨.bl true, H, I, rfl, q⟩
    · refine SeqAt.eq_list_lengthsAt la lb (by simpa using hz) hu ⟨.bl false, H, I, rfl, ?_⟩
      have e0 : (xs.isEmpty && ys.isEmpty) = false := by
        cases xs with
        | nil => cases ys with
          | nil => rw [List.length_nil] at za zb; omega
          | cons _ _ => rfl
        | cons _ _ => rfl
      rw [e0] at q
      exact q
  · obtain ⟨ia, la, za⟩ := isT_of I ha
    obtain ⟨ib, lb, zb⟩ := isT_of I hb
    have hm : min ia.size ib.size = 0 := by
      rcases he with rfl | rfl
      · rw [List.length_nil] at za; omega
      · rw [List.length_nil] at zb; omega
    refine SeqAt.eq_tupleAt (e := fun _ => true) la lb hu (fun j h1 h2 => by omega) ?_
    rw [all_range0 _ hm, Bool.true_and, za, zb]
    refine ⟨.bl _, H, I, rfl, ?_⟩
    have e0 : (xs.length == ys.length) = (xs.isEmpty && ys.isEmpty) := by
      rcases he with rfl | rfl
      · cases ys <;> rfl
      · cases xs <;> rfl
    rw [e0]; exact q
theorem op_neE (hu : X.A.units < cLine) : OpR X (compareOp .NotEq) (rEqE X.K true) := by
  rintro pins s σ H x y v u Q I rx ry ⟨a, b, xs, ys, rfl, rfl, hs, he, q⟩
  cases rx; cases ry
  rw [Bool.xor_true] at q
  rcases hs with ⟨ha, hb⟩ | ⟨ha, hb⟩
  · obtain ⟨ia, la, za⟩ := isL_of I ha
    obtain ⟨ib, lb, zb⟩ := isL_of I hb
    by_cases hz : ia.size = ib.size
    · have h0 : ia.size = 0 ∧ ib.size = 0 := by
        rcases he with rfl | rfl
        · rw [List.length_nil] at za; omega
        · rw [List.length_nil] at zb; omega
      have ex : xs = [] := List.eq_nil_of_length_eq_zero (by omega)
      have ey : ys = [] := List.eq_nil_of_length_eq_zero (by omega)
      subst ex ey
      refine SeqAt.RcNeAt.lists (e := fun _ => true) la lb hz hu (fun j h1 _ => by omega) _ _ _ _ ?_
      rw [all_range0 _ h0.1]
      exact ⟨.bl false, H, I, rfl, q⟩
    · refine SeqAt.RcNeAt.lists_lengths la lb (by simpa using hz) hu _ _ _ _ ⟨.bl true, H, I, rfl, ?_⟩
      have e0 : (xs.isEmpty && ys.isEmpty) = false := by
        cases xs with
        | nil => cases ys with
          | nil => rw [List.length_nil] at za zb; omega
          | cons _ _ => rfl
        | cons _ _ => rfl
      rw [e0] at q
      exact q
  · obtain ⟨ia, la, za⟩ := isT_of I ha
    obtain ⟨ib, lb, zb⟩ := isT_of I hb
    have hm : min ia.size ib.size = 0 := by
      rcases he with rfl | rfl
      · rw [List.length_nil] at za; omega
      · rw [List.length_nil] at zb; omega
    refine SeqAt.RcNeAt.tuples (e := fun _ => true) la lb hu (fun j h1 h2 => by omega) _ _ _ _ ?_
    rw [all_range0 _ hm, Bool.true_and, za, zb]
    refine ⟨.bl _, H, I, rfl, ?_⟩
    have e0 : (xs.length == ys.length) = (xs.isEmpty && ys.isEmpty) := by
      rcases he with rfl | rfl
      · cases ys <;> rfl
      · cases xs <;> rfl
    rw [e0]; exact q
def gEqE (neg : Bool) : G2
  | .tup ds, .tup es, h => if ds.isEmpty || es.isEmpty then some (.bl ((ds.isEmpty && es.isEmpty) ^^ neg), h) else none
  | .ref m, .ref n, h => match lsOf h m, lsOf h n with
    | some ds, some es => if ds.isEmpty || es.isEmpty then some (.bl ((ds.isEmpty && es.isEmpty) ^^ neg), h) else none
    | _, _ => none
  | _, _, _ => none
theorem gEqE_of {H : Hp} {ι : List Addr} {h h' : Hh} {d e r : D} {x y : V} {neg : Bool} {Q : VK} (hr : HRel X.K H ι X.mg h) (r1 : RelD X.K H ι d x) (r2 : RelD X.K H ι e y) (eg : gEqE neg d e h = some (r, h')) (q : QV X H ι Q r h') : rEqE X.K neg x y H Q := by
  have em : ∀ {ds es : List D} {vs us : List V}, RelDs X.K H ι ds vs → RelDs X.K H ι es us → (ds.isEmpty || es.isEmpty) = true → (vs = [] ∨ us = []) := fun {ds es vs us} a b z => by
    rcases Bool.or_eq_true_iff.mp z with z | z
    · exact .inl (List.isEmpty_iff.mp (by rw [a.isEmpty]; exact z))
    · exact .inr (List.isEmpty_iff.mp (by rw [b.isEmpty]; exact z))
  unfold gEqE at eg
  split at eg
  · split at eg
    · rename_i hz
      simp only [Option.some.injEq, Prod.mk.injEq] at eg
      obtain ⟨rfl, rfl⟩ := eg
      obtain ⟨p, vs, rfl, q1, s1⟩ := r1
      obtain ⟨p', us, rfl, q2, s2⟩ := r2
      refine ⟨p, p', vs, us, rfl, rfl, .inr ⟨q1, q2⟩, em s1 s2 hz, ?_⟩
      rw [s1.isEmpty, s2.isEmpty]
      exact qv_same hr q rfl
    · cases eg
  · split at eg
    · rename_i ds es z1 z2
      split at eg
      · rename_i hz
        simp only [Option.some.injEq, Prod.mk.injEq] at eg
        obtain ⟨rfl, rfl⟩ := eg
        obtain ⟨p, ep, rfl⟩ := r1
        obtain ⟨p', ep', rfl⟩ := r2
        obtain ⟨vs, q1, s1⟩ := ls_sq hr z1 ep
        obtain ⟨us, q2, s2⟩ := ls_sq hr z2 ep'
        refine ⟨p, p', vs, us, rfl, rfl, .inl ⟨q1, q2⟩, em s1 s2 hz, ?_⟩
        rw [s1.isEmpty, s2.isEmpty]
        exact qv_same hr q rfl
      · cases eg
    · cases eg
  · cases eg
theorem ok_eqE (hu : X.A.units < cLine) : OpOk X (compareOp .Eq) (gEqE false) := fun ι h d e r h' x y H Q hr r1 r2 eg q => ⟨_, op_eqE hu, gEqE_of hr r1 r2 eg q⟩
theorem ok_neE (hu : X.A.units < cLine) : OpOk X (compareOp .NotEq) (gEqE true) := fun ι h d e r h' x y H Q hr r1 r2 eg q => ⟨_, op_neE hu, gEqE_of hr r1 r2 eg q⟩
def gEq : G2 := orG (gS2 fun x y => decide (x = y)) (orG (gEqE false) (gEqD false))
def gNe : G2 := orG (gS2 fun x y => !decide (x = y)) (orG (gEqE true) (gEqD true))
theorem ok_eq (hu : X.A.units + 64 < cLine) : OpOk X (compareOp .Eq) gEq := ok_eqS.or ((ok_eqE (by omega)).or (ok_eqD hu))
theorem ok_ne (hu : X.A.units + 64 < cLine) : OpOk X (compareOp .NotEq) gNe := ok_neS.or ((ok_neE (by omega)).or (ok_neD hu))

/-! ### is None -/
def isN : D → Bool
  | .non => true
  | _ => false
def gIs : G2
  | .opq _, _, _ => none
  | d, .non, h => some (.bl (isN d), h)
  | _, _, _ => none
def gIsNot : G2
  | .opq _, _, _ => none
  | d, .non, h => some (.bl (!isN d), h)
  | _, _, _ => none
theorem isN_of {H : Hp} {ι : List Addr} {d : D} {x : V} (r : RelD X.K H ι d x) (n : ∀ v, d ≠ .opq v) : decide (x = .non) = isN d := by
  cases d with
  | non => cases r; rfl
  | bl b => cases r; rfl
  | int b => cases r; rfl
  | str b => cases r; rfl
  | tup ds => obtain ⟨a, vs, rfl, _⟩ := r; rfl
  | ref n => obtain ⟨a, _, rfl⟩ := r; rfl
  | opq v => exact absurd rfl (n v)
theorem ok_is : OpOk X (compareOp .Is) gIs := by
  intro ι h d e r h' x y H Q hr r1 r2 eg q
  unfold gIs at eg
  split at eg
  · cases eg
  · rename_i n
    simp only [Option.some.injEq, Prod.mk.injEq] at eg
    obtain ⟨rfl, rfl⟩ := eg
    cases r2
    exact ⟨_, op_isN, rfl, qv_same hr q (by rw [isN_of r1 n]; rfl)⟩
  · cases eg
theorem ok_isnot : OpOk X (compareOp .IsNot) gIsNot := by
  intro ι h d e r h' x y H Q hr r1 r2 eg q
  unfold gIsNot at eg
  split at eg
  · cases eg
  · rename_i n
    simp only [Option.some.injEq, Prod.mk.injEq] at eg
    obtain ⟨rfl, rfl⟩ := eg
    cases r2
    exact ⟨_, op_notN, rfl, qv_same hr q (by rw [isN_of r1 n]; rfl)⟩
  · cases eg
end
end EV

namespace EV
open PySem PySem.Spec PyProof.Rows L2

section
variable {X : Cx} {W : WX} {pos : Pos} {a b c : Expr} {wa wb wc : WE}

/-! ### in -/
def gInS (neg : Bool) : G2
  | .str x, .str z, h => match x.cps.toList with
    | [c] => some (.bl (decide (c ∈ z.cps.toList) ^^ neg), h)
    | _ => none
  | _, _, _ => none
theorem sign_eq {x : Str} {c : Nat} (e : x.cps.toList = [c]) : x = ⟨#[c]⟩ := by
  cases x with
  | mk cps =>
    have : cps = #[c] := by
      apply Array.ext'
      exact e
    rw [this]
theorem ok_inS : OpOk X (compareOp .In) (gInS false) := by
  intro ι h d e r h' x y H Q hr r1 r2 eg q
  cases d <;> cases e <;> first
    | (exfalso; simp [gInS] at eg; done)
    | skip
  rename_i i j
  cases r1; cases r2
  simp only [gInS] at eg
  split at eg
  · rename_i c ec
    simp only [Bool.xor_false, Option.some.injEq, Prod.mk.injEq] at eg
    obtain ⟨rfl, rfl⟩ := eg
    exact ⟨_, op_in_sign, c, j, by rw [sign_eq ec], rfl, qv_same hr q rfl⟩
  · cases eg
theorem ok_notInS : OpOk X (compareOp .NotIn) (gInS true) := by
  intro ι h d e r h' x y H Q hr r1 r2 eg q
  cases d <;> cases e <;> first
    | (exfalso; simp [gInS] at eg; done)
    | skip
  rename_i i j
  cases r1; cases r2
  simp only [gInS] at eg
  split at eg
  · rename_i c ec
    simp only [Bool.xor_true, Option.some.injEq, Prod.mk.injEq] at eg
    obtain ⟨rfl, rfl⟩ := eg
    exact ⟨_, op_notIn_sign, c, j, by rw [sign_eq ec], rfl, qv_same hr q rfl⟩
  · cases eg
/-- in a list or a tuple of flat things -/
def flatD : D → Bool
  | .non => true
  | .bl _ => true
  | .int _ => true
  | .str _ => true
  | _ => false
def eqF : D → D → Bool
  | .non, .non => true
  | .bl a, .bl b => a == b
  | .bl a, .int b => (if a then 1 else 0) == b
  | .int a, .bl b => a == (if b then 1 else 0)
  | .int a, .int b => a == b
  | .str a, .str b => a == b
  | _, _ => false
theorem flat_of {K : PySem.W.Frag} {H : Hp} {ι : List Addr} {d : D} {v : V} (r : RelD K H ι d v) (f : flatD d = true) : flatV v = true := by
  cases d <;> first
    | (cases r; rfl)
    | cases f
theorem eqF_of {K : PySem.W.Frag} {H : Hp} {ι : List Addr} {d e : D} {v u : V} (r : RelD K H ι d v) (r' : RelD K H ι e u) (f : flatD d = true) (f' : flatD e = true) : eqV v u = eqF d e := by
  cases d <;> first
    | cases f; done
    | (cases e <;> first
        | (cases f'; done)
        | (cases r; cases r'; rfl))
theorem flats_of {K : PySem.W.Frag} {H : Hp} {ι : List Addr} : ∀ {ds : List D} {vs : List V}, RelDs K H ι ds vs → ds.all flatD = true → vs.all flatV = true
  | [], _, r, _ => by rw [show _ = _ from r]; rfl
  | _ :: _, _, r, f => by
    obtain ⟨v, u, rfl, r1, r2⟩ := r
    rw [List.all_cons, Bool.and_eq_true] at f ⊢
    exact ⟨flat_of r1 f.1, flats_of r2 f.2⟩
theorem inF_of {K : PySem.W.Frag} {H : Hp} {ι : List Addr} {d : D} {v : V} (r : RelD K H ι d v) (f : flatD d = true) : ∀ {ds : List D} {vs : List V}, RelDs K H ι ds vs → ds.all flatD = true → inV v vs = ds.any fun e => eqF e d
  | [], _, q, _ => by rw [show _ = _ from q]; rfl
  | _ :: _, _, q, f' => by
    obtain ⟨w, u, rfl, r1, r2⟩ := q
    rw [List.all_cons, Bool.and_eq_true] at f'
    have := inF_of r f r2 f'.2
    unfold inV at this ⊢
    rw [List.any_cons, List.any_cons, this, eqF_of r1 r f'.1 f]
def sqOf (h : Hh) : D → Option (List D)
  | .tup ds => some ds
  | .ref n => lsOf h n
  | _ => none
theorem sq_of {H : Hp} {ι : List Addr} {h : Hh} {d : D} {ds : List D} {x : V} (hr : HRel X.K H ι X.mg h) (r : RelD X.K H ι d x) (e : sqOf h d = some ds) : ∃ p vs, x = .ref p ∧ (SqL X.K H p vs ∨ SqT X.K H p vs) ∧ RelDs X.K H ι ds vs := by
  cases d with
  | tup es =>
    cases e
    obtain ⟨p, vs, rfl, q, s⟩ := r
    exact ⟨p, vs, rfl, .inr q, s⟩
  | ref n =>
    obtain ⟨p, ep, rfl⟩ := r
    obtain ⟨vs, q, s⟩ := ls_sq hr e ep
    exact ⟨p, vs, rfl, .inl q, s⟩
  | _ => cases e
def gInL (neg : Bool) : G2 := fun d e h => match sqOf h e with
  | some ds => if flatD d && ds.all flatD then some (.bl ((ds.any fun z => eqF z d) ^^ neg), h) else none
  | none => none
theorem ok_inL : OpOk X (compareOp .In) (gInL false) := by
  intro ι h d e r h' x y H Q hr r1 r2 eg q
  unfold gInL at eg
  split at eg
  · rename_i ds es
    split at eg
    · rename_i hf
      obtain ⟨f1, f2⟩ := Bool.and_eq_true_iff.mp hf
      simp only [Bool.xor_false, Option.some.injEq, Prod.mk.injEq] at eg
      obtain ⟨rfl, rfl⟩ := eg
      obtain ⟨p, vs, rfl, sq, rs⟩ := sq_of hr r2 es
      refine ⟨_, op_in_seq, p, vs, rfl, sq, flat_of r1 f1, flats_of rs f2, ?_⟩
      rw [if_neg Bool.false_ne_true, inF_of r1 f1 rs f2]
      exact qv_same hr q rfl
    · cases eg
  · cases eg
theorem ok_notInL : OpOk X (compareOp .NotIn) (gInL true) := by
  intro ι h d e r h' x y H Q hr r1 r2 eg q
  unfold gInL at eg
  split at eg
  · rename_i ds es
    split at eg
    · rename_i hf
      obtain ⟨f1, f2⟩ := Bool.and_eq_true_iff.mp hf
      simp only [Bool.xor_true, Option.some.injEq, Prod.mk.injEq] at eg
      obtain ⟨rfl, rfl⟩ := eg
      obtain ⟨p, vs, rfl, sq, rs⟩ := sq_of hr r2 es
      refine ⟨_, op_notIn_seq, p, vs, rfl, sq, flat_of r1 f1, flats_of rs f2, ?_⟩
      rw [if_pos rfl, inF_of r1 f1 rs f2]
      exact qv_same hr q rfl
    · cases eg
  · cases eg
def gIn : G2 := orG (gInS false) (gInL false)
def gNotIn : G2 := orG (gInS true) (gInL true)
theorem ok_in : OpOk X (compareOp .In) gIn := ok_inS.or ok_inL
theorem ok_notIn : OpOk X (compareOp .NotIn) gNotIn := ok_notInS.or ok_notInL

/-! ### subscripts -/
def gIx : G2
  | .tup ds, .int i, h => match atI ds i with | some d => some (d, h) | none => none
  | .ref n, .int i, h => match lsOf h n with
    | some ds => match atI ds i with | some d => some (d, h) | none => none
    | none => none
  | .str z, .int i, h => if z.length ≤ sizeLine then (match atI z.cps.toList i with | some c => some (.str ⟨#[c]⟩, h) | none => none) else none
  | _, _, _ => none
theorem atI_rel {K : PySem.W.Frag} {H : Hp} {ι : List Addr} {ds : List D} {vs : List V} {i : Int} {d : D} (r : RelDs K H ι ds vs) (e : atI ds i = some d) : ∃ v, atI vs i = some v ∧ RelD K H ι d v := by
  unfold atI at e ⊢
  rw [r.length]
  cases z : ixN ds.length i with
  | none => rw [z] at e; cases e
  | some j =>
    rw [z] at e
    exact r.get e
def IxOk (X : Cx) (g : G2) : Prop := ∀ ι h d e r h' x y H Q, HRel X.K H ι X.mg h → RelD X.K H ι d x → RelD X.K H ι e y → g d e h = some (r, h') → QV X H ι Q r h' → ∃ R, IxR X R ∧ R x y H Q
theorem IxOk.ix {g : G2} (h : IxOk X g) : IxR X (rOp X g) := by
  rintro value slice pins s σ H x y v u Q I rx ry ⟨ι, hh, d, e, r, h', hr, r1, r2, eg, q⟩ hs
  obtain ⟨R, hR, q'⟩ := h ι hh d e r h' x y H Q hr r1 r2 eg q
  exact hR value slice pins s σ H x y v u Q I rx ry q' hs
theorem ok_ix : IxOk X gIx := by
  intro ι h d e r h' x y H Q hr r1 r2 eg q
  cases d <;> cases e <;> first
    | (exfalso; simp [gIx] at eg; done)
    | skip
  · rename_i z i
    cases r1; cases r2
    simp only [gIx] at eg
    split at eg
    · rename_i hz
      split at eg
      · rename_i c ec
        simp only [Option.some.injEq, Prod.mk.injEq] at eg
        obtain ⟨rfl, rfl⟩ := eg
        exact ⟨_, ix_str, z, i, c, rfl, rfl, hz, ec, qv_same hr q rfl⟩
      · cases eg
    · cases eg
  · rename_i ds i
    obtain ⟨p, vs, rfl, sq, rs⟩ := r1
    cases r2
    simp only [gIx] at eg
    split at eg
    · rename_i dd ed
      simp only [Option.some.injEq, Prod.mk.injEq] at eg
      obtain ⟨rfl, rfl⟩ := eg
      obtain ⟨v, ev, rv⟩ := atI_rel rs ed
      exact ⟨_, ix_tup, p, vs, i, v, rfl, rfl, sq, ev, qv_same hr q rv⟩
    · cases eg
  · rename_i n i
    obtain ⟨p, ep, rfl⟩ := r1
    cases r2
    simp only [gIx] at eg
    split at eg
    · rename_i ds es
      split at eg
      · rename_i dd ed
        simp only [Option.some.injEq, Prod.mk.injEq] at eg
        obtain ⟨rfl, rfl⟩ := eg
        obtain ⟨vs, sq, rs⟩ := ls_sq hr es ep
        obtain ⟨v, ev, rv⟩ := atI_rel rs ed
        exact ⟨_, ix_list, p, vs, i, v, rfl, rfl, sq, ev, qv_same hr q rv⟩
      · cases eg
    · cases eg
theorem LE.ix {g : G2} (o : IxOk X g) (ma : Mono wa) (mb : Mono wb) {σ : St} {H : Hp} {Q : VK} (h : LE X W (wOp g wa wb) σ H Q) : tOp (rOp X g) (LE X W wa) (LE X W wb) σ H Q := by
  obtain ⟨ι, hh, s, hr, sr, w⟩ := LE.bind2 ma mb mono_k2 h
  refine ⟨ι, hh, s, hr, sr, ma s hh _ _ _ _ (fun d h1 q v H1 ι1 g hr1 rd => ?_) (fun _ _ e => e) w⟩
  obtain ⟨ι', hh', s', hr', sr', w'⟩ := q v H1 ι1 g hr1 rd
  refine ⟨ι', hh', s', hr', sr', mb s' hh' _ _ _ _ (fun d2 h2 q2 v2 H2 ι2 g2 hr2 rd2 => ?_) (fun _ _ e => e) w'⟩
  obtain ⟨ι3, h3, s3, d3, e3, hr3, _, ra, rb, r, h', eg, qq⟩ := q2 v2 H2 ι2 g2 hr2 rd2
  exact ⟨ι3, h3, d3, e3, r, h', hr3, ra, rb, eg, qq⟩
theorem de_ix (ha : DE X W a wa) (hb : DE X W b wb) (hs : PlainIx b := by intro _ _; rfl) : DE X W (.Subscript a b pos) (wOp gIx wa wb) :=
  ⟨PE.imp (pe_ix ok_ix.ix ha.pe hb.pe hs) fun σ H Q h => h.ix ok_ix ha.mono hb.mono, mono_op ha.mono hb.mono⟩

/-! ### slices -/
def cutD {α : Type} (xs : List α) (lo hi : Option Int) : List α := List.take (HT.sIx xs.length xs.length hi - HT.sIx xs.length 0 lo) (List.drop (HT.sIx xs.length 0 lo) xs)
def gSl (lo hi : Option Int) : G1
  | .str z, h => if z.length ≤ sizeLine then some (.str (cutS z lo hi), h) else none
  | .tup ds, h => some (.tup (cutD ds lo hi), h)
  | .ref n, h => match lsOf h n with | some ds => some (.ref h.length, h ++ [.lst (cutD ds lo hi)]) | none => none
  | _, _ => none
def rSl (X : Cx) : V → Option Int → Option Int → Hp → VK → Prop := fun x lo hi H Q => ∃ ι h d r h', HRel X.K H ι X.mg h ∧ RelD X.K H ι d x ∧ gSl lo hi d h = some (r, h') ∧ QV X H ι Q r h'
theorem RelDs.cut {K : PySem.W.Frag} {H : Hp} {ι : List Addr} {ds : List D} {vs : List V} (r : RelDs K H ι ds vs) (lo hi : Option Int) : RelDs K H ι (cutD ds lo hi) (cutV vs lo hi) := by
  unfold cutD cutV
  rw [r.length]
  exact (r.drop _).take _
theorem sl_ok : SlR X (rSl X) := by
  rintro pins s σ H x v vl vu lo hi sl Q I rx hs pl pu ⟨ι, h, d, r, h', hr, rd, eg, q⟩
  cases d with
  | str z =>
    cases rd
    simp only [gSl] at eg
    split at eg
    · rename_i hz
      simp only [Option.some.injEq, Prod.mk.injEq] at eg
      obtain ⟨rfl, rfl⟩ := eg
      exact sl_str pins s σ H _ v vl vu lo hi sl Q I rx hs pl pu ⟨z, rfl, hz, qv_same hr q rfl⟩
    · cases eg
  | tup ds =>
    obtain ⟨p, vs, rfl, sq, rs⟩ := rd
    simp only [gSl, Option.some.injEq, Prod.mk.injEq] at eg
    obtain ⟨rfl, rfl⟩ := eg
    refine sl_tupA pins s σ H _ v vl vu lo hi sl Q I rx hs pl pu ⟨p, vs, rfl, sq, fun ⟨z1, z2⟩ => ?_, fun _ => tup_new hr (rs.cut lo hi) q⟩
    refine qv_same hr q ⟨p, vs, rfl, sq, ?_⟩
    have e : cutD ds lo hi = ds := by
      rw [rs.length] at z1 z2
      unfold cutD
      rw [z1, z2, List.drop_zero, Nat.sub_zero, List.take_length]
    rw [e]; exact rs
  | ref n =>
    obtain ⟨p, ep, rfl⟩ := rd
    simp only [gSl] at eg
    split at eg
    · rename_i ds es
      simp only [Option.some.injEq, Prod.mk.injEq] at eg
      obtain ⟨rfl, rfl⟩ := eg
      obtain ⟨vs, sq, rs⟩ := ls_sq hr es ep
      exact sl_list pins s σ H _ v vl vu lo hi sl Q I rx hs pl pu ⟨p, vs, rfl, sq, lst_new hr (rs.cut lo hi) q⟩
    · cases eg
  | _ => cases eg
/-- a part of a slice -/
abbrev WO := Sl → Hh → (Option Int → Hh → Prop) → PX → Prop
def wPart (w : WE) : WO := fun s h Q E => w s h (fun d h1 => ∃ i, d = .int i ∧ Q (some i) h1) E
def wNoPart : WO := fun _ h Q _ => Q none h
def QO (X : Cx) (H : Hp) (ι : List Addr) (Q : Option Int → Hp → Prop) : Option Int → Hh → Prop := fun o h' => ∀ H' ι', Gr X.K H H' ι ι' → HRel X.K H' ι' X.mg h' → Q o H'
structure DO (X : Cx) (W : WX) (e : Option Expr) (w : WO) : Prop where
  po : PO X e (fun σ H Q => ∃ ι h s, HRel X.K H ι X.mg h ∧ SRel X.K H ι σ s ∧ w s h (QO X H ι Q) (QX X W H ι σ))
  mono : Mono w
theorem PO.imp {e : Option Expr} {t t' : TO} (h : PO X e t) (i : ∀ σ H Q, t' σ H Q → t σ H Q) : PO X e t' := ⟨fun pins s σ H Q I q => h.run pins s σ H Q I (i σ H Q q)⟩
theorem do_none : DO X W none wNoPart := ⟨PO.imp po_none fun σ H Q ⟨ι, h, s, hr, sr, q⟩ => q H ι .refl hr, fun s h Q Q' E E' hq _ q => hq _ _ q⟩
theorem do_some {e : Expr} {w : WE} (h : DE X W e w) : DO X W (some e) (wPart w) := by
  refine ⟨PO.imp (po_some h.pe) fun σ H Q ⟨ι, hh, s, hr, sr, q⟩ => ?_, fun s h1 Q Q' E E' hq he q => h.mono s h1 _ _ _ _ (fun d h2 ⟨i, ed, q⟩ => ⟨i, ed, hq _ _ q⟩) he q⟩
  refine ⟨ι, hh, s, hr, sr, h.mono s hh _ _ _ _ (fun d h1 ⟨i, ed, q⟩ v H1 ι1 g hr1 rd => ?_) (fun _ _ e => e) q⟩
  subst ed
  exact ⟨i, rd, q H1 ι1 g hr1⟩
def wSl (we : WE) (wl wh : WO) : WE := fun s h Q E => we s h (fun d h1 => wl s h1 (fun lo h2 => wh s h2 (fun hi h3 => ∃ r h', gSl lo hi d h3 = some (r, h') ∧ Q r h') E) E) E
theorem de_sl {e : Expr} {lo hi : Option Expr} {we : WE} {wl wh : WO} {p2 : Pos} (he : DE X W e we) (hl : DO X W lo wl) (hh : DO X W hi wh) : DE X W (.Subscript e (.Slice lo hi none p2) pos) (wSl we wl wh) := by
  refine ⟨PE.imp (pe_slice sl_ok he.pe hl.po hh.po) fun σ H Q ⟨ι, h, s, hr, sr, q⟩ => ?_, fun s h Q Q' E E' hq hx q => ?_⟩
  · refine ⟨ι, h, s, hr, sr, he.mono s h _ _ _ _ (fun d h1 q v H1 ι1 g1 hr1 rd => ?_) (fun _ _ e => e) q⟩
    refine ⟨ι1, h1, s, hr1, sr.mono g1, hl.mono s h1 _ _ _ _ (fun lo h2 q H2 ι2 g2 hr2 => ?_) (fun x h' q' => QX.on q' g1) q⟩
    refine ⟨ι2, h2, s, hr2, sr.mono (g1.trans g2), hh.mono s h2 _ _ _ _ (fun hi h3 ⟨r, h', eg, q⟩ H3 ι3 g3 hr3 => ?_) (fun x h' q' => QX.on q' (g1.trans g2)) q⟩
    exact ⟨ι3, h3, d, r, h', hr3, rd.mono (g2.trans g3), eg, QV.on q ((g1.trans g2).trans g3)⟩
  · exact he.mono s h _ _ _ _ (fun d h1 q => hl.mono s h1 _ _ _ _ (fun lo h2 q => hh.mono s h2 _ _ _ _ (fun hi h3 ⟨r, h', eg, q⟩ => ⟨r, h', eg, hq _ _ q⟩) hx q) hx q) hx q
/-- xs[::-1] -/
def gRev : G1
  | .ref n, h => match lsOf h n with | some ds => some (.ref h.length, h ++ [.lst ds.reverse]) | none => none
  | _, _ => none
theorem de_rev {e : Expr} {we : WE} {k : Nat} {p1 p2 p3 : Pos} (he : DE X W e we) : DE X W (.Subscript e (.Slice none none (some (.UnaryOp .USub (.Constant (.int 1) k p1) p2)) p3) pos) (wUn (k1 gRev) we) := by
  refine ⟨PE.imp (pe_revL he.pe) fun σ H Q ⟨ι, h, s, hr, sr, q⟩ => ?_, mono_un he.mono mono_k1⟩
  refine ⟨ι, h, s, hr, sr, he.mono s h _ _ _ _ (fun d h1 ⟨r, h', eg, q⟩ v H1 ι1 g1 hr1 rd => ?_) (fun _ _ e => e) q⟩
  cases d with
  | ref n =>
    obtain ⟨p, ep, rfl⟩ := rd
    simp only [gRev] at eg
    split at eg
    · rename_i ds es
      simp only [Option.some.injEq, Prod.mk.injEq] at eg
      obtain ⟨rfl, rfl⟩ := eg
      obtain ⟨vs, sq, rs⟩ := ls_sq hr1 es ep
      exact ⟨p, vs, rfl, sq, lst_new hr1 rs.reverse (QV.on q g1)⟩
    · cases eg
  | _ => cases eg

/-! ### global constants -/
/-- the name x of the module holds the data d -/
def GC (K : PySem.W.Frag) (mg : Str → Option Value) (x : Str) (d : D) : Prop := ∃ u v, mg x = some u ∧ RelV v u ∧ ∀ H ι, RelD K H ι d v
theorem de_glob {x : Str} {d : D} {pos : Pos} (g : GC X.K X.mg x d) (hg : Gl X x := by rfl) (hd : (x == ("__debug__" : Str)) = false := by decide) : DE X W (.Name x pos) (wC d) := by
  obtain ⟨u, v, hm, r, rd⟩ := g
  exact de_c (pe_glob hg hm r hd) rd

/-! ### calls of built-ins -/
def CallOk (X : Cx) (f : Value) (g : GA) : Prop := ∀ ι h ds r h' xs H Q, HRel X.K H ι X.mg h → RelDs X.K H ι ds xs → g ds h = some (r, h') → QV X H ι Q r h' → ∃ R, CallR X f R ∧ R xs H Q
def rCa (X : Cx) (g : GA) : List V → Hp → VK → Prop := fun xs H Q => ∃ ι h ds r h', HRel X.K H ι X.mg h ∧ RelDs X.K H ι ds xs ∧ g ds h = some (r, h') ∧ QV X H ι Q r h'
theorem CallOk.call {f : Value} {g : GA} (h : CallOk X f g) : CallR X f (rCa X g) := by
  rintro pins s σ H xs us Q I rs ⟨ι, hh, ds, r, h', hr, rd, eg, q⟩
  obtain ⟨R, hR, q'⟩ := h ι hh ds r h' xs H Q hr rd eg q
  exact hR pins s σ H xs us Q I rs q'
def orA (g g' : GA) : GA := fun ds h => match g ds h with | some r => some r | none => g' ds h
theorem CallOk.or {f : Value} {g g' : GA} (a : CallOk X f g) (b : CallOk X f g') : CallOk X f (orA g g') := by
  intro ι h ds r h' xs H Q hr rd eg q
  unfold orA at eg
  cases z : g ds h with
  | some w => rw [z] at eg; cases eg; exact a ι h ds r h' xs H Q hr rd z q
  | none => rw [z] at eg; exact b ι h ds r h' xs H Q hr rd eg q
def wCa (g : GA) (w : WA) : WE := fun s h Q E => w s h (fun ds h1 => ∃ r h', g ds h1 = some (r, h') ∧ Q r h') E
theorem mono_ca {g : GA} {w : WA} (m : Mono w) : Mono (wCa g w) := fun s h Q Q' E E' hq he q => m s h _ _ _ _ (fun ds h1 ⟨r, h', e, q⟩ => ⟨r, h', e, hq _ _ q⟩) he q
theorem LE.ca {g : GA} {w : WA} (m : Mono w) {σ : St} {H : Hp} {Q : VK} (h : LE X W (wCa g w) σ H Q) : tCB (rCa X g) (LA X W w) σ H Q := by
  obtain ⟨ι, hh, s, hr, sr, q⟩ := h
  refine ⟨ι, hh, s, hr, sr, m s hh _ _ _ _ (fun ds h1 ⟨r, h', e, q⟩ vs H1 ι1 g1 hr1 rs => ?_) (fun _ _ e => e) q⟩
  exact ⟨ι1, h1, ds, r, h', hr1, rs, e, QV.on q g1⟩
theorem de_callB {x : Str} {id : String} {g : GA} {e : Expr} {es : List Expr} {w : WA} {p pos : Pos} (o : CallOk X (.builtin id) g) (hm : X.mg x = none) (hv : bootBuiltins x = some (.builtin id)) (ha : DA X W (e :: es) w) (hg : Gl X x := by rfl) (hn : x ≠ "__name__" := by decide)
    (hdb : (x == ("__debug__" : Str)) = false := by decide) (he : starEach (e :: es) X.env = (false, eval e X.env) :: starEach es X.env := by rfl) (hpl : (backTo pos (starEach es X.env)).any (·.1) = false := by rfl) : DE X W (.Call (.Name x p) (e :: es) [] pos) (wCa g w) :=
  ⟨PE.imp (pe_callB o.call hg hm hv ha.pa hn hdb he hpl) fun σ H Q h => h.ca ha.mono, mono_ca ha.mono⟩
theorem de_callTy {x : Str} {T : String} {g : GA} {e : Expr} {es : List Expr} {w : WA} {p pos : Pos} (o : CallOk X (.type T) g) (hm : X.mg x = none) (hv : bootBuiltins x = some (.type T)) (ha : DA X W (e :: es) w) (hg : Gl X x := by rfl) (hn : x ≠ "__name__" := by decide)
    (hdb : (x == ("__debug__" : Str)) = false := by decide) (he : starEach (e :: es) X.env = (false, eval e X.env) :: starEach es X.env := by rfl) (hpl : (backTo pos (starEach es X.env)).any (·.1) = false := by rfl) : DE X W (.Call (.Name x p) (e :: es) [] pos) (wCa g w) :=
  ⟨PE.imp (pe_callTy o.call hg hm hv ha.pa hn hdb he hpl) fun σ H Q h => h.ca ha.mono, mono_ca ha.mono⟩
theorem rels1 {K : PySem.W.Frag} {H : Hp} {ι : List Addr} {d : D} {xs : List V} (r : RelDs K H ι [d] xs) : ∃ v, xs = [v] ∧ RelD K H ι d v := by
  obtain ⟨v, u, rfl, h1, h2⟩ := r
  rw [show u = [] from h2]
  exact ⟨v, rfl, h1⟩
def gLen : GA
  | [.str z], h => if z.length ≤ sizeLine then some (.int z.length, h) else none
  | [.tup ds], h => some (.int ds.length, h)
  | [.ref n], h => match lsOf h n with | some ds => some (.int ds.length, h) | none => none
  | _, _ => none
theorem ok_len : CallOk X (.builtin "len") gLen := by
  intro ι h ds r h' xs H Q hr rd eg q
  unfold gLen at eg
  split at eg
  · split at eg
    · rename_i hz
      simp only [Option.some.injEq, Prod.mk.injEq] at eg
      obtain ⟨rfl, rfl⟩ := eg
      obtain ⟨v, rfl, rv⟩ := rels1 rd
      cases rv
      exact ⟨_, call_len, _, _, rfl, ⟨hz, rfl⟩, qv_same hr q rfl⟩
    · cases eg
  · simp only [Option.some.injEq, Prod.mk.injEq] at eg
    obtain ⟨rfl, rfl⟩ := eg
    obtain ⟨v, rfl, p, vs, rfl, sq, rs⟩ := rels1 rd
    exact ⟨_, call_len, _, _, rfl, .inr ⟨vs, sq, rfl⟩, qv_same hr q (by rw [rs.length]; rfl)⟩
  · split at eg
    · rename_i ds es
      simp only [Option.some.injEq, Prod.mk.injEq] at eg
      obtain ⟨rfl, rfl⟩ := eg
      obtain ⟨v, rfl, p, ep, rfl⟩ := rels1 rd
      obtain ⟨vs, sq, rs⟩ := ls_sq hr es ep
      exact ⟨_, call_len, _, _, rfl, .inl ⟨vs, sq, rfl⟩, qv_same hr q (by rw [rs.length]; rfl)⟩
    · cases eg
  · cases eg
def gList : GA
  | [.tup ds], h => some (.ref h.length, h ++ [.lst ds])
  | [.ref n], h => match lsOf h n with | some ds => some (.ref h.length, h ++ [.lst ds]) | none => none
  | _, _ => none
theorem ok_list : CallOk X (.type "list") gList := by
  intro ι h ds r h' xs H Q hr rd eg q
  unfold gList at eg
  split at eg
  · simp only [Option.some.injEq, Prod.mk.injEq] at eg
    obtain ⟨rfl, rfl⟩ := eg
    obtain ⟨v, rfl, p, vs, rfl, sq, rs⟩ := rels1 rd
    exact ⟨_, call_list_of, p, vs, rfl, .inr sq, lst_new hr rs q⟩
  · split at eg
    · rename_i ds es
      simp only [Option.some.injEq, Prod.mk.injEq] at eg
      obtain ⟨rfl, rfl⟩ := eg
      obtain ⟨v, rfl, p, ep, rfl⟩ := rels1 rd
      obtain ⟨vs, sq, rs⟩ := ls_sq hr es ep
      exact ⟨_, call_list_of, p, vs, rfl, .inl sq, lst_new hr rs q⟩
    · cases eg
  · cases eg
def gTuple : GA
  | [.tup ds], h => some (.tup ds, h)
  | [.ref n], h => match lsOf h n with | some ds => some (.tup ds, h) | none => none
  | _, _ => none
theorem ok_tuple : CallOk X (.type "tuple") gTuple := by
  intro ι h ds r h' xs H Q hr rd eg q
  unfold gTuple at eg
  split at eg
  · simp only [Option.some.injEq, Prod.mk.injEq] at eg
    obtain ⟨rfl, rfl⟩ := eg
    obtain ⟨v, rfl, p, vs, rfl, sq, rs⟩ := rels1 rd
    exact ⟨_, call_tuple_of, p, vs, rfl, .inr ⟨sq, qv_same hr q ⟨p, vs, rfl, sq, rs⟩⟩⟩
  · split at eg
    · rename_i ds es
      simp only [Option.some.injEq, Prod.mk.injEq] at eg
      obtain ⟨rfl, rfl⟩ := eg
      obtain ⟨v, rfl, p, ep, rfl⟩ := rels1 rd
      obtain ⟨vs, sq, rs⟩ := ls_sq hr es ep
      exact ⟨_, call_tuple_of, p, vs, rfl, .inl ⟨sq, tup_new hr rs q⟩⟩
    · cases eg
  · cases eg
def gInt : GA
  | [.int i], h => some (.int i, h)
  | [.bl b], h => some (.int (if b = true then 1 else 0), h)
  | _, _ => none
theorem ok_int1 : CallOk X (.type "int") gInt := by
  intro ι h ds r h' xs H Q hr rd eg q
  unfold gInt at eg
  split at eg
  · simp only [Option.some.injEq, Prod.mk.injEq] at eg
    obtain ⟨rfl, rfl⟩ := eg
    obtain ⟨v, rfl, rv⟩ := rels1 rd
    cases rv
    exact ⟨_, call_int1, .inl ⟨_, rfl, qv_same hr q rfl⟩⟩
  · simp only [Option.some.injEq, Prod.mk.injEq] at eg
    obtain ⟨rfl, rfl⟩ := eg
    obtain ⟨v, rfl, rv⟩ := rels1 rd
    cases rv
    exact ⟨_, call_int1, .inr ⟨_, rfl, qv_same hr q rfl⟩⟩
  · cases eg
/-- all, any of a list of bools -/
def blsOf : List D → Option (List Bool)
  | [] => some []
  | .bl b :: ds => match blsOf ds with | some bs => some (b :: bs) | none => none
  | _ :: _ => none
theorem bls_rel {K : PySem.W.Frag} {H : Hp} {ι : List Addr} : ∀ {ds : List D} {vs : List V} {bs : List Bool}, RelDs K H ι ds vs → blsOf ds = some bs → vs = bs.map V.bl
  | [], _, _, r, e => by
    rw [show _ = _ from r]
    cases e
    rfl
  | d :: ds, _, bs, r, e => by
    obtain ⟨v, u, rfl, r1, r2⟩ := r
    cases d with
    | bl b =>
      simp only [blsOf] at e
      cases z : blsOf ds with
      | none => rw [z] at e; cases e
      | some cs =>
        rw [z] at e
        cases e
        cases r1
        rw [bls_rel r2 z]
        rfl
    | _ => cases e
def gAll : GA
  | [.ref n], h => match lsOf h n with | some ds => (match blsOf ds with | some bs => some (.bl (bs.all id), h) | none => none) | none => none
  | _, _ => none
def gAny : GA
  | [.ref n], h => match lsOf h n with | some ds => (match blsOf ds with | some bs => some (.bl (bs.any id), h) | none => none) | none => none
  | _, _ => none
theorem ok_all (hc : X.calm = true) : CallOk X (.builtin "all") gAll := by
  intro ι h ds r h' xs H Q hr rd eg q
  unfold gAll at eg
  split at eg
  · split at eg
    · rename_i ds es
      split at eg
      · rename_i bs eb
        simp only [Option.some.injEq, Prod.mk.injEq] at eg
        obtain ⟨rfl, rfl⟩ := eg
        obtain ⟨v, rfl, p, ep, rfl⟩ := rels1 rd
        obtain ⟨vs, sq, rs⟩ := ls_sq hr es ep
        rw [bls_rel rs eb] at sq
        exact ⟨_, cr_all hc, p, bs, rfl, sq, qv_same hr q rfl⟩
      · cases eg
    · cases eg
  · cases eg
theorem ok_any (hc : X.calm = true) : CallOk X (.builtin "any") gAny := by
  intro ι h ds r h' xs H Q hr rd eg q
  unfold gAny at eg
  split at eg
  · split at eg
    · rename_i ds es
      split at eg
      · rename_i bs eb
        simp only [Option.some.injEq, Prod.mk.injEq] at eg
        obtain ⟨rfl, rfl⟩ := eg
        obtain ⟨v, rfl, p, ep, rfl⟩ := rels1 rd
        obtain ⟨vs, sq, rs⟩ := ls_sq hr es ep
        rw [bls_rel rs eb] at sq
        exact ⟨_, cr_any hc, p, bs, rfl, sq, qv_same hr q rfl⟩
      · cases eg
    · cases eg
  · cases eg
end
end EV

namespace EV
open PySem PySem.Spec PyProof.Rows L2

section
variable {X : Cx} {W : WX} {pos : Pos} {a b c : Expr} {wa wb wc : WE}
def gNeg : G1
  | .int i, h => some (.int (-i), h)
  | _, _ => none
theorem de_neg (ha : DE X W a wa) : DE X W (.UnaryOp .USub a pos) (wUn (k1 gNeg) wa) := by
  refine ⟨PE.imp (pe_un un_neg ha.pe) fun σ H Q ⟨ι, h, s, hr, sr, q⟩ => ?_, mono_un ha.mono mono_k1⟩
  refine ⟨ι, h, s, hr, sr, ha.mono s h _ _ _ _ (fun d h1 ⟨r, h', eg, q⟩ v H1 ι1 g1 hr1 rd => ?_) (fun _ _ e => e) q⟩
  cases d with
  | int i =>
    cases rd
    simp only [gNeg, Option.some.injEq, Prod.mk.injEq] at eg
    obtain ⟨rfl, rfl⟩ := eg
    exact ⟨i, rfl, q _ H1 ι1 g1 hr1 rfl⟩
  | _ => cases eg

/-! ### methods of built-in types -/
abbrev GM := D → List D → Hh → Option (D × Hh)
def MtOk (X : Cx) (id : String) (g : GM) : Prop := ∀ ι h d ds r h' x xs H Q, HRel X.K H ι X.mg h → RelD X.K H ι d x → RelDs X.K H ι ds xs → g d ds h = some (r, h') → QV X H ι Q r h' → ∃ R, MtR X id R ∧ R x xs H Q
def rMt (X : Cx) (g : GM) : V → List V → Hp → VK → Prop := fun x xs H Q => ∃ ι h d ds r h', HRel X.K H ι X.mg h ∧ RelD X.K H ι d x ∧ RelDs X.K H ι ds xs ∧ g d ds h = some (r, h') ∧ QV X H ι Q r h'
theorem MtOk.mt {id : String} {g : GM} (h : MtOk X id g) : MtR X id (rMt X g) := by
  rintro pins s σ H x xs v us Q I rx rs ⟨ι, hh, d, ds, r, h', hr, r1, r2, eg, q⟩
  obtain ⟨R, hR, q'⟩ := h ι hh d ds r h' x xs H Q hr r1 r2 eg q
  exact hR pins s σ H x xs v us Q I rx rs q'
def isT (T : String) (d : D) (h : Hh) : Bool := match T, d with
  | "str", .str _ => true
  | "list", .ref n => (lsOf h n).isSome
  | "dict", .ref n => (match h[n]? with | some (.dic _) => true | _ => false)
  | _, _ => false
theorem tyV_of {T : String} {d : D} {h : Hh} {H : Hp} {ι : List Addr} {x : V} (hr : HRel X.K H ι X.mg h) (r : RelD X.K H ι d x) (e : isT T d h = true) : tyV X.K T x H := by
  unfold isT at e
  split at e
  · cases r; rfl
  · rename_i n
    obtain ⟨p, ep, rfl⟩ := r
    obtain ⟨ds, es⟩ := Option.isSome_iff_exists.mp e
    obtain ⟨vs, sq, _⟩ := ls_sq hr es ep
    exact .inl ⟨rfl, vs, sq⟩
  · rename_i n
    obtain ⟨p, ep, rfl⟩ := r
    split at e
    · rename_i kvs z
      obtain ⟨vs, q, _⟩ := hr.obj _ _ _ z ep
      exact .inr (.inr (.inl ⟨rfl, .inl ⟨vs, q⟩⟩))
    · cases e
  · cases e
def wMt (T : String) (g : GM) (wo : WE) (w : WA) : WE := fun s h Q E => wo s h (fun d h1 => isT T d h1 = true ∧ w s h1 (fun ds h2 => ∃ r h', g d ds h2 = some (r, h') ∧ Q r h') E) E
theorem mono_mt {T : String} {g : GM} {wo : WE} {w : WA} (m : Mono wo) (n : Mono w) : Mono (wMt T g wo w) := fun s h Q Q' E E' hq he q =>
  m s h _ _ _ _ (fun d h1 ⟨t, q⟩ => ⟨t, n s h1 _ _ _ _ (fun ds h2 ⟨r, h', e, q⟩ => ⟨r, h', e, hq _ _ q⟩) he q⟩) he q
theorem de_mt {T id : String} {name : Str} {g : GM} {o e : Expr} {es : List Expr} {wo : WE} {w : WA} {apos cpos : Pos} (pl : PlainAttrs T) (sl : Slot T name id) (ty : typeOf (Value.builtin id) = pure (Value.type "method_descriptor")) (ok : MtOk X id g) (ho : DE X W o wo) (ha : DA X W (e :: es) w)
    (h1 : attributeBase o name X.env (eval o X.env) = eval o X.env := by rfl)
    (h2 : (((backTo cpos (starEach (e :: es) X.env)).all (fun x => !x.1) && (backToKw cpos (keywordEach [] X.env)).all (fun x => x.1.isSome)) && decide (((e :: es).length + ([] : List Keyword).length + if ([] : List Keyword).isEmpty = true then 0 else 1) < 30)) = true := by rfl)
    (h3 : (apos.endLine == cpos.line) = true := by rfl) (h4 : starEach (e :: es) X.env = (false, eval e X.env) :: starEach es X.env := by rfl) (h5 : (backTo cpos (starEach es X.env)).any (·.1) = false := by rfl) :
    DE X W (.Call (.Attribute o name apos) (e :: es) [] cpos) (wMt T g wo w) := by
  refine ⟨PE.imp (pe_bm pl sl ty ok.mt ho.pe ha.pa h1 h2 h3 h4 h5) fun σ H Q ⟨ι, h, s, hr, sr, q⟩ => ?_, mono_mt ho.mono ha.mono⟩
  refine ⟨ι, h, s, hr, sr, ho.mono s h _ _ _ _ (fun d h1 ⟨t, q⟩ v H1 ι1 g1 hr1 rd => ⟨tyV_of hr1 rd t, ?_⟩) (fun _ _ e => e) q⟩
  refine ⟨ι1, h1, s, hr1, sr.mono g1, ha.mono s h1 _ _ _ _ (fun ds h2 ⟨r, h', eg, q⟩ vs H2 ι2 g2 hr2 rs => ?_) (fun x h' q' => QX.on q' g1) q⟩
  exact ⟨ι2, h2, d, ds, r, h', hr2, rd.mono g2, rs, eg, QV.on q (g1.trans g2)⟩
theorem de_mt0 {T id : String} {name : Str} {g : GM} {o : Expr} {wo : WE} {apos cpos : Pos} (pl : PlainAttrs T) (sl : Slot T name id) (ty : typeOf (Value.builtin id) = pure (Value.type "method_descriptor")) (ok : MtOk X id g) (ho : DE X W o wo)
    (h1 : attributeBase o name X.env (eval o X.env) = eval o X.env := by rfl) (h3 : (apos.endLine == cpos.line) = true := by rfl) :
    DE X W (.Call (.Attribute o name apos) [] [] cpos) (wMt T g wo wNil) := by
  refine ⟨PE.imp (pe_bm0 pl sl ty ok.mt ho.pe h1 h3) fun σ H Q ⟨ι, h, s, hr, sr, q⟩ => ?_, mono_mt ho.mono mono_nil⟩
  refine ⟨ι, h, s, hr, sr, ho.mono s h _ _ _ _ (fun d h1 ⟨t, r, h', eg, q⟩ v H1 ι1 g1 hr1 rd => ⟨tyV_of hr1 rd t, ?_⟩) (fun _ _ e => e) q⟩
  exact ⟨ι1, h1, d, [], r, h', hr1, rd, rfl, eg, QV.on q g1⟩
/-- the list of a number is written -/
theorem lst_write {H : Hp} {ι : List Addr} {h : Hh} {n : Nat} {p : Addr} {ds es : List D} {us : List V} {Q : VK} {r : D} {v : V} (hr : HRel X.K H ι X.mg h) (e : h[n]? = some (.lst ds)) (ep : ι[n]? = some p) (rs : RelDs X.K H ι es us) (q : QV X H ι Q r (h.set n (.lst es)))
    (rr : RelD X.K H ι r v) : Q v (upd H p (.lst us)) := by
  obtain ⟨w, ew, w1, w2⟩ := (hr.obj _ _ _ e ep).there
  have g : Gr X.K H (upd H p (.lst us)) ι ι := Gr.write ew w1 w2
  obtain ⟨_, hr'⟩ := hr.write (u := .lst us) (o' := .lst es) e ep ⟨us, upd_same, rs.mono g⟩
  exact q v _ ι g hr' (rr.mono g)
def gAppend : GM
  | .ref n, [d], h => match h[n]? with
    | some (.lst ds) => if ds.length < sizeLine then some (.non, h.set n (.lst (ds ++ [d]))) else none
    | _ => none
  | _, _, _ => none
theorem ok_append : MtOk X "list.append" gAppend := by
  intro ι h d ds r h' x xs H Q hr rd rs eg q
  unfold gAppend at eg
  split at eg
  · rename_i n y
    obtain ⟨p, ep, rfl⟩ := rd
    obtain ⟨v, rfl, rv⟩ := rels1 rs
    split at eg
    · rename_i es z
      split at eg
      · rename_i hz
        simp only [Option.some.injEq, Prod.mk.injEq] at eg
        obtain ⟨rfl, rfl⟩ := eg
        obtain ⟨vs, q1, s1⟩ := hr.obj _ _ _ z ep
        refine ⟨_, mt_append, p, vs, v, rfl, rfl, q1, by rw [s1.length]; exact hz, lst_write hr z ep (s1.append (es := [y]) (us := [v]) ⟨v, [], rfl, rv, rfl⟩) q rfl⟩
      · cases eg
    · cases eg
  · cases eg
def gExtend : GM
  | .ref n, [.ref m], h => match h[n]?, h[m]? with
    | some (.lst ds), some (.lst es) => if ds.length + es.length ≤ sizeLine then some (.non, h.set n (.lst (ds ++ es))) else none
    | _, _ => none
  | _, _, _ => none
theorem ok_extend : MtOk X "list.extend" gExtend := by
  intro ι h d ds r h' x xs H Q hr rd rs eg q
  unfold gExtend at eg
  split at eg
  · rename_i n m
    obtain ⟨p, ep, rfl⟩ := rd
    obtain ⟨v, rfl, p', ep', rfl⟩ := rels1 rs
    split at eg
    · rename_i ds es z z'
      split at eg
      · rename_i hz
        simp only [Option.some.injEq, Prod.mk.injEq] at eg
        obtain ⟨rfl, rfl⟩ := eg
        obtain ⟨vs, q1, s1⟩ := hr.obj _ _ _ z ep
        obtain ⟨us, q2, s2⟩ := hr.obj _ _ _ z' ep'
        exact ⟨_, mt_extend, p, p', vs, us, rfl, rfl, q1, q2, by rw [s1.length, s2.length]; exact hz, lst_write hr z ep (s1.append s2) q rfl⟩
      · cases eg
    · cases eg
  · cases eg
theorem RelDs.dropLast {K : PySem.W.Frag} {H : Hp} {ι : List Addr} {ds : List D} {vs : List V} (r : RelDs K H ι ds vs) : RelDs K H ι ds.dropLast vs.dropLast := by
  rw [List.dropLast_eq_take, List.dropLast_eq_take, r.length]
  exact r.take _
theorem RelDs.eraseIdx {K : PySem.W.Frag} {H : Hp} {ι : List Addr} {ds : List D} {vs : List V} (r : RelDs K H ι ds vs) (n : Nat) : RelDs K H ι (ds.eraseIdx n) (vs.eraseIdx n) := by
  rw [List.eraseIdx_eq_take_drop_succ, List.eraseIdx_eq_take_drop_succ]
  exact (r.take n).append (r.drop (n + 1))
def gPop : GM
  | .ref n, [], h => match h[n]? with
    | some (.lst ds) => match ds[ds.length - 1]? with
      | some d => some (d, h.set n (.lst ds.dropLast))
      | none => none
    | _ => none
  | _, _, _ => none
theorem ok_pop : MtOk X "list.pop" gPop := by
  intro ι h d ds r h' x xs H Q hr rd rs eg q
  unfold gPop at eg
  split at eg
  · rename_i n
    obtain ⟨p, ep, rfl⟩ := rd
    have rs : xs = [] := rs
    subst rs
    split at eg
    · rename_i es z
      split at eg
      · rename_i y ey
        simp only [Option.some.injEq, Prod.mk.injEq] at eg
        obtain ⟨rfl, rfl⟩ := eg
        obtain ⟨vs, q1, s1⟩ := hr.obj _ _ _ z ep
        obtain ⟨v, ev, rv⟩ := s1.get ey
        exact ⟨_, mt_pop, p, vs, v, rfl, rfl, q1, by rw [s1.length]; exact ev, lst_write hr z ep s1.dropLast q rv⟩
      · cases eg
    · cases eg
  · cases eg
def gPopAt : GM
  | .ref n, [.int i], h => match h[n]? with
    | some (.lst ds) => if 0 ≤ i ∧ i < (ds.length : Int) ∧ ds.length ≤ sizeLine then (match ds[i.toNat]? with
      | some d => some (d, h.set n (.lst (ds.eraseIdx i.toNat)))
      | none => none) else none
    | _ => none
  | _, _, _ => none
theorem ok_popAt : MtOk X "list.pop" gPopAt := by
  intro ι h d ds r h' x xs H Q hr rd rs eg q
  unfold gPopAt at eg
  split at eg
  · rename_i n i
    obtain ⟨p, ep, rfl⟩ := rd
    obtain ⟨v, rfl, rv⟩ := rels1 rs
    cases rv
    split at eg
    · rename_i es z
      split at eg
      · rename_i hi
        obtain ⟨h0, h1, h2⟩ := hi
        split at eg
        · rename_i y ey
          simp only [Option.some.injEq, Prod.mk.injEq] at eg
          obtain ⟨rfl, rfl⟩ := eg
          obtain ⟨vs, q1, s1⟩ := hr.obj _ _ _ z ep
          obtain ⟨v, ev, rv⟩ := s1.get ey
          have hn := line63
          exact ⟨_, mt_popAt, p, vs, i, i.toNat, v, rfl, rfl, q1, by omega, by omega, by rw [s1.length]; exact seqIndex_of h0 h1, ev, lst_write hr z ep (s1.eraseIdx _) q rv⟩
        · cases eg
      · cases eg
    · cases eg
  · cases eg
def gClear : GM
  | .ref n, [], h => match h[n]? with
    | some (.lst _) => some (.non, h.set n (.lst []))
    | _ => none
  | _, _, _ => none
theorem ok_clear : MtOk X "list.clear" gClear := by
  intro ι h d ds r h' x xs H Q hr rd rs eg q
  unfold gClear at eg
  split at eg
  · rename_i n
    obtain ⟨p, ep, rfl⟩ := rd
    have rs : xs = [] := rs
    subst rs
    split at eg
    · rename_i es z
      simp only [Option.some.injEq, Prod.mk.injEq] at eg
      obtain ⟨rfl, rfl⟩ := eg
      obtain ⟨vs, q1, s1⟩ := hr.obj _ _ _ z ep
      exact ⟨_, mt_clear, p, vs, rfl, rfl, q1, lst_write hr z ep (es := []) (us := []) rfl q rfl⟩
    · cases eg
  · cases eg
/-- sep.join(texts) -/
def strsOf : List D → Option (List Str)
  | [] => some []
  | .str x :: ds => match strsOf ds with | some xs => some (x :: xs) | none => none
  | _ :: _ => none
theorem strs_rel {K : PySem.W.Frag} {H : Hp} {ι : List Addr} : ∀ {ds : List D} {vs : List V} {bs : List Str}, RelDs K H ι ds vs → strsOf ds = some bs → vs = bs.map V.str
  | [], _, _, r, e => by
    rw [show _ = _ from r]
    cases e
    rfl
  | d :: ds, _, bs, r, e => by
    obtain ⟨v, u, rfl, r1, r2⟩ := r
    cases d with
    | str b =>
      simp only [strsOf] at e
      cases z : strsOf ds with
      | none => rw [z] at e; cases e
      | some cs =>
        rw [z] at e
        cases e
        cases r1
        rw [strs_rel r2 z]
        rfl
    | _ => cases e
def gJoin : GM
  | .str x, [d], h => match sqOf h d with
    | some ds => match strsOf ds with
      | some ys => if (ys.map (fun y => y.length)).sum + ys.length * x.length ≤ 16777216 then some (.str (Txt.join x ys), h) else none
      | none => none
    | none => none
  | _, _, _ => none
theorem ok_join : MtOk X "str.join" gJoin := by
  intro ι h d ds r h' x xs H Q hr rd rs eg q
  unfold gJoin at eg
  split at eg
  · rename_i z d
    cases rd
    obtain ⟨v, rfl, rv⟩ := rels1 rs
    split at eg
    · rename_i es ees
      split at eg
      · rename_i ys eys
        split at eg
        · rename_i hz
          simp only [Option.some.injEq, Prod.mk.injEq] at eg
          obtain ⟨rfl, rfl⟩ := eg
          obtain ⟨p, vs, rfl, sq, s1⟩ := sq_of hr rv ees
          rw [strs_rel s1 eys] at sq
          exact ⟨_, mt_join, z, p, ys, rfl, rfl, sq, hz, qv_same hr q rfl⟩
        · cases eg
      · cases eg
    · cases eg
  · cases eg

/-! ### fields of instances -/
/-- the class C of the module; it has no attribute f of its own -/
structure CF (K : PySem.W.Frag) (mg : Str → Option Value) (C f : Str) : Prop where
  ex : ∃ c, mg C = some (.ref c) ∧ Cls K c ∧ NoAttr K c f
def kFld (C f : Str) : K1 := fun _ d h Q _ => ∃ n fs v, d = .ref n ∧ h[n]? = some (.ins C fs) ∧ fs.lookup f = some v ∧ Q v h
theorem mono_fld {C f : Str} : Mono1 (kFld C f) := fun s d h Q Q' E E' hq _ ⟨n, fs, v, e, z, l, q⟩ => ⟨n, fs, v, e, z, l, hq _ _ q⟩
theorem RelKs.look {K : PySem.W.Frag} {H : Hp} {ι : List Addr} {f : Str} : ∀ {fs : List (Str × D)} {vs : List (Str × V)} {d : D}, RelKs K H ι fs vs → fs.lookup f = some d → ∃ v, vs.lookup f = some v ∧ RelD K H ι d v
  | [], _, _, _, e => by cases e
  | (g, d') :: fs, _, d, r, e => by
    obtain ⟨v, u, rfl, r1, r2⟩ := r
    rw [List.lookup_cons] at e ⊢
    cases z : f == g with
    | true => rw [z] at e; cases e; exact ⟨v, rfl, r1⟩
    | false => rw [z] at e; exact r2.look e
theorem RelKs.lookN {K : PySem.W.Frag} {H : Hp} {ι : List Addr} {f : Str} : ∀ {fs : List (Str × D)} {vs : List (Str × V)}, RelKs K H ι fs vs → fs.lookup f = none → vs.lookup f = none
  | [], _, r, _ => by rw [show _ = _ from r]; rfl
  | (g, d') :: fs, _, r, e => by
    obtain ⟨v, u, rfl, r1, r2⟩ := r
    rw [List.lookup_cons] at e ⊢
    cases z : f == g with
    | true => rw [z] at e; cases e
    | false => rw [z] at e; exact r2.lookN e
theorem RelKs.length {κ : Type} {K : PySem.W.Frag} {H : Hp} {ι : List Addr} : ∀ {fs : List (κ × D)} {vs : List (κ × V)}, RelKs K H ι fs vs → vs.length = fs.length
  | [], _, r => by rw [show _ = _ from r]; rfl
  | _ :: fs, _, r => by
    obtain ⟨v, u, rfl, r1, r2⟩ := r
    rw [List.length_cons, List.length_cons, r2.length]
theorem de_fld {C f : Str} (cf : CF X.K X.mg C f) (ha : DE X W a wa) (hb : attributeBase a f X.env (eval a X.env) = eval a X.env := by rfl) : DE X W (.Attribute a f pos) (wUn (kFld C f) wa) := by
  refine ⟨PE.imp (pe_fld ha.pe hb) fun σ H Q ⟨ι, h, s, hr, sr, q⟩ => ?_, mono_un ha.mono mono_fld⟩
  refine ⟨ι, h, s, hr, sr, ha.mono s h _ _ _ _ (fun d h1 ⟨n, fs, v, ed, z, l, q⟩ x H1 ι1 g1 hr1 rd => ?_) (fun _ _ e => e) q⟩
  subst ed
  obtain ⟨p, ep, rfl⟩ := rd
  obtain ⟨c, dx, vs, mc, e1, rs⟩ := hr1.obj _ _ _ z ep
  obtain ⟨c', mc', cl, na⟩ := cf.ex
  rw [mc] at mc'
  cases mc'
  obtain ⟨u, eu, ru⟩ := rs.look l
  exact ⟨p, c, dx, vs, u, rfl, e1, cl, na, eu, q u H1 ι1 g1 hr1 ru⟩
def putD (f : Str) (d : D) : List (Str × D) → List (Str × D)
  | [] => [(f, d)]
  | (g, e) :: r => if g = f then (g, d) :: r else (g, e) :: putD f d r
theorem RelKs.put {K : PySem.W.Frag} {H : Hp} {ι : List Addr} {f : Str} {d : D} {v : V} (rv : RelD K H ι d v) : ∀ {fs : List (Str × D)} {vs : List (Str × V)}, RelKs K H ι fs vs → RelKs K H ι (putD f d fs) (putF f v vs)
  | [], _, r => by
    rw [show _ = _ from r]
    exact ⟨v, [], rfl, rv, rfl⟩
  | (g, e) :: fs, _, r => by
    obtain ⟨u, us, rfl, r1, r2⟩ := r
    unfold putD putF
    by_cases z : g = f
    · rw [if_pos z, if_pos z]
      exact ⟨v, us, rfl, rv, r2⟩
    · rw [if_neg z, if_neg z]
      exact ⟨u, _, rfl, r1, r2.put rv⟩

/-! ### defs of the program -/
abbrev SpD := List D → Hh → PV → PX → Prop
/-- what must hold ahead; what holds of the value and the heap behind; what holds of an exception -/
def spOf (pre : List D → Hh → Prop) (post : List D → Hh → D → Hh → Prop) (xp : List D → Hh → XD → Hh → Prop := fun _ _ _ _ => False) : SpD :=
  fun ds h Q E => pre ds h ∧ (∀ d h', post ds h d h' → Q d h') ∧ ∀ x h', xp ds h x h' → E x h'
def MonoSp (sp : SpD) : Prop := ∀ ds h (Q Q' : PV) (E E' : PX), (∀ d h, Q d h → Q' d h) → (∀ x h, E x h → E' x h) → sp ds h Q E → sp ds h Q' E'
theorem mono_sp {pre : List D → Hh → Prop} {post : List D → Hh → D → Hh → Prop} {xp : List D → Hh → XD → Hh → Prop} : MonoSp (spOf pre post xp) := fun ds h Q Q' E E' hq he ⟨p, q, x⟩ => ⟨p, fun d h' z => hq _ _ (q d h' z), fun y h' z => he _ _ (x y h' z)⟩
def LSp (K : PySem.W.Frag) (mg : Str → Option Value) (sp : SpD) : Sp := fun vs H Q E => ∃ ι h ds, HRel K H ι mg h ∧ RelDs K H ι ds vs ∧ sp ds h (fun d h' => ∀ v H' ι', Gr K H H' ι ι' → HRel K H' ι' mg h' → RelD K H' ι' d v → Q v H')
  (fun x h' => ∀ c d H' ι', Gr K H H' ι ι' → HRel K H' ι' mg h' → XR K mg H' ι' x c d → E c d H')
/-- the def x of the module keeps sp, by level k -/
structure GF (P : Program) (w : World) (K : PySem.W.Frag) (mg : Str → Option Value) (base : Heap) (x : Str) (k : Nat) (sp : SpD) : Prop where
  ex : ∃ f fd ps, FnOk P w K mg base (L2.CX P w) k f fd ps (LSp K mg sp) ∧ mg x = some (.ref f) ∧ PySem.W.keepIn K (.ref f) = true ∧ Binds K fd ps []
  mono : MonoSp sp
def wCall (sp : SpD) (w : WA) : WE := fun s h Q E => w s h (fun ds h1 => sp ds h1 Q E) E
theorem mono_call {sp : SpD} {w : WA} (m : MonoSp sp) (n : Mono w) : Mono (wCall sp w) := fun s h Q Q' E E' hq he q => n s h _ _ _ _ (fun ds h1 q => m ds h1 _ _ _ _ hq he q) he q
theorem de_call {x : Str} {k j : Nat} {sp : SpD} {e : Expr} {es : List Expr} {w : WA} {p pos : Pos} (G : GF X.prog X.w X.K X.mg X.base x k sp) (tk : Takes X W) (hr : Room j X.A) (ha : DA X W (e :: es) w) (hj : k ≤ j := by decide) (hg : Gl X x := by rfl)
    (hdb : (x == ("__debug__" : Str)) = false := by decide) (he : starEach (e :: es) X.env = (false, eval e X.env) :: starEach es X.env := by rfl) (hpl : (backTo pos (starEach es X.env)).any (·.1) = false := by rfl) : DE X W (.Call (.Name x p) (e :: es) [] pos) (wCall sp w) := by
  obtain ⟨f, fd, ps, F, hm, hk, hb⟩ := G.ex
  refine ⟨PE.imp (pe_callSD F (hr.mono hj) hg hm hk hb .nil (fun σ => passAt tk σ) ha.pa hdb he hpl) fun σ H Q ⟨ι, h, s, hr, sr, q⟩ => ?_, mono_call G.mono ha.mono⟩
  refine ⟨ι, h, s, hr, sr, ha.mono s h _ _ _ _ (fun ds h1 q vs H1 ι1 g1 hr1 rs => ?_) (fun _ _ e => e) q⟩
  refine ⟨ι1, h1, ds, hr1, by rw [List.append_nil]; exact rs, G.mono ds h1 _ _ _ _ (fun d h2 q => QV.on q g1) (fun x h2 q => ?_) q⟩
  intro c d H' ι' g' hr' xr
  exact QX.on q g1 c d H' ι' g' hr' xr
/-- a wish without the slots -/
abbrev nS (E : XK) : WX := fun c d _ H => E c d H
theorem de_call0 {x : Str} {k j : Nat} {sp : SpD} {E : XK} {p pos : Pos} (G : GF X.prog X.w X.K X.mg X.base x k sp) (tk : Takes X (nS E)) (hr : Room j X.A) (hj : k ≤ j := by decide) (hg : Gl X x := by rfl)
    (hdb : (x == ("__debug__" : Str)) = false := by decide) : DE X (nS E) (.Call (.Name x p) [] [] pos) (wCall sp wNil) := by
  obtain ⟨f, fd, ps, F, hm, hk, hb⟩ := G.ex
  refine ⟨PE.imp (pe_call0 F (hr.mono hj) hg hm hk hb .nil (passes_call tk fun _ _ _ _ h => h) hdb) fun σ H Q ⟨ι, h, s, hr, sr, q⟩ => ?_, mono_call G.mono mono_nil⟩
  exact ⟨ι, h, [], hr, rfl, q⟩
/-- methods of the program's classes -/
structure GM' (P : Program) (w : World) (K : PySem.W.Frag) (mg : Str → Option Value) (base : Heap) (C m : Str) (k : Nat) (sp : SpD) : Prop where
  ex : ∃ c f fd ps, FnOk P w K mg base (L2.CX P w) k f fd ps (LSp K mg sp) ∧ mg C = some (.ref c) ∧ Cls K c ∧ Meth K c m f ∧ Binds K fd ps []
  mono : MonoSp sp
def wMeth (C m : Str) (sp : SpD) (wo : WE) (w : WA) : WE := fun s h Q E => wo s h (fun d h1 => ∃ n fs, d = .ref n ∧ h1[n]? = some (.ins C fs) ∧ fs.lookup m = none ∧ w s h1 (fun ds h2 => sp (d :: ds) h2 Q E) E) E
theorem mono_meth {C m : Str} {sp : SpD} {wo : WE} {w : WA} (ms : MonoSp sp) (mo : Mono wo) (n : Mono w) : Mono (wMeth C m sp wo w) := fun s h Q Q' E E' hq he q =>
  mo s h _ _ _ _ (fun d h1 ⟨k, fs, e, z, l, q⟩ => ⟨k, fs, e, z, l, n s h1 _ _ _ _ (fun ds h2 q => ms _ h2 _ _ _ _ hq he q) he q⟩) he q
theorem de_meth {C m : Str} {k j : Nat} {sp : SpD} {E : XK} {o e : Expr} {es : List Expr} {wo : WE} {w : WA} {apos pos : Pos} {pl : Sem Bool} (G : GM' X.prog X.w X.K X.mg X.base C m k sp) (tk : Takes X (nS E)) (hr : Room j X.A) (ho : DE X (nS E) o wo) (ha : DA X (nS E) (e :: es) w) (hj : k ≤ j := by decide)
    (hst : starEach (e :: es) X.env = (false, eval e X.env) :: starEach es X.env := by rfl) (hpl : (backTo pos (starEach es X.env)).any (·.1) = false := by rfl)
    (ht : eval (.Call (.Attribute o m apos) (e :: es) [] pos) X.env = (do
      let ov ← eval o X.env
      standAt apos.atName
      let (f, first) ← holding [ov] (getMethod ov m pl)
      callWith pos f first (backTo pos (starEach (e :: es) X.env)) (backToKw pos (keywordEach [] X.env))) := by rfl) :
    DE X (nS E) (.Call (.Attribute o m apos) (e :: es) [] pos) (wMeth C m sp wo w) := by
  obtain ⟨c, f, fd, ps, F, mc, cl, hm, hb⟩ := G.ex
  refine ⟨PE.imp (pe_meth ho.pe cl hm F (hr.mono hj) hb .nil (passes_call tk fun _ _ _ _ h => h) ha.pa hst hpl ht) fun σ H Q ⟨ι, h, s, hr, sr, q⟩ => ?_, mono_meth G.mono ho.mono ha.mono⟩
  refine ⟨ι, h, s, hr, sr, ho.mono s h _ _ _ _ (fun d h1 ⟨n, fs, ed, z, l, q⟩ x H1 ι1 g1 hr1 rd => ?_) (fun _ _ e => e) q⟩
  subst ed
  obtain ⟨p, ep, rfl⟩ := rd
  obtain ⟨c', dx, vs, mc', e1, rs⟩ := hr1.obj _ _ _ z ep
  rw [mc] at mc'
  cases mc'
  refine ⟨p, dx, vs, rfl, e1, rs.lookN l, ι1, h1, s, hr1, sr.mono g1, ha.mono s h1 _ _ _ _ (fun ds h2 q us H2 ι2 g2 hr2 rs2 => ?_) (fun x h' q' => QX.on q' g1) q⟩
  refine ⟨ι2, h2, .ref n :: ds, hr2, ⟨.ref p, us, by rw [List.append_nil], ⟨p, pre_get g2.pre ep, rfl⟩, rs2⟩, G.mono _ h2 _ _ _ _ (fun d h3 q => QV.on q (g1.trans g2)) (fun x h3 q c d H' ι' g' hr' xr => q c d H' ι' ((g1.trans g2).trans g') hr' xr) q⟩
theorem de_meth0 {C m : Str} {k j : Nat} {sp : SpD} {E : XK} {o : Expr} {wo : WE} {apos pos : Pos} {pl : Sem Bool} (G : GM' X.prog X.w X.K X.mg X.base C m k sp) (tk : Takes X (nS E)) (hr : Room j X.A) (ho : DE X (nS E) o wo) (hj : k ≤ j := by decide)
    (ht : eval (.Call (.Attribute o m apos) [] [] pos) X.env = (do
      let ov ← eval o X.env
      standAt apos.atName
      let (f, first) ← holding [ov] (getMethod ov m pl)
      callWith pos f first (backTo pos (starEach [] X.env)) (backToKw pos (keywordEach [] X.env))) := by rfl) :
    DE X (nS E) (.Call (.Attribute o m apos) [] [] pos) (wMeth C m sp wo wNil) := by
  obtain ⟨c, f, fd, ps, F, mc, cl, hm, hb⟩ := G.ex
  refine ⟨PE.imp (pe_meth0 ho.pe cl hm F (hr.mono hj) hb .nil (passes_call tk fun _ _ _ _ h => h) ht) fun σ H Q ⟨ι, h, s, hr, sr, q⟩ => ?_, mono_meth G.mono ho.mono mono_nil⟩
  refine ⟨ι, h, s, hr, sr, ho.mono s h _ _ _ _ (fun d h1 ⟨n, fs, ed, z, l, q⟩ x H1 ι1 g1 hr1 rd => ?_) (fun _ _ e => e) q⟩
  subst ed
  obtain ⟨p, ep, rfl⟩ := rd
  obtain ⟨c', dx, vs, mc', e1, rs⟩ := hr1.obj _ _ _ z ep
  rw [mc] at mc'
  cases mc'
  refine ⟨p, dx, vs, rfl, e1, rs.lookN l, ι1, h1, [.ref n], hr1, ⟨.ref p, [], rfl, ⟨p, ep, rfl⟩, rfl⟩, G.mono _ h1 _ _ _ _ (fun d h3 q => QV.on q g1) (fun x h3 q c d H' ι' g' hr' xr => q c d H' ι' (g1.trans g') hr' xr) q⟩
/-- a new instance of a class with __init__ -/
structure GI (P : Program) (w : World) (K : PySem.W.Frag) (mg : Str → Option Value) (base : Heap) (C : Str) (k : Nat) (sp : SpD) : Prop where
  ex : ∃ c f fd ps, FnOk P w K mg base (L2.CX P w) k f fd ps (LSp K mg sp) ∧ mg C = some (.ref c) ∧ Mk K c f ∧ Binds K fd ps []
  mono : MonoSp sp
def wMake (C : Str) (sp : SpD) (w : WA) : WE := fun s h Q E => w s h (fun ds h1 => sp (.ref h1.length :: ds) (h1 ++ [.ins C []]) (fun r h2 => r = .non ∧ Q (.ref h1.length) h2) E) E
theorem mono_make {C : Str} {sp : SpD} {w : WA} (ms : MonoSp sp) (n : Mono w) : Mono (wMake C sp w) := fun s h Q Q' E E' hq he q =>
  n s h _ _ _ _ (fun ds h1 q => ms _ _ _ _ _ _ (fun d h2 ⟨e, q⟩ => ⟨e, hq _ _ q⟩) he q) he q
theorem de_make {C : Str} {k j : Nat} {sp : SpD} {E : XK} {e : Expr} {es : List Expr} {w : WA} {p pos : Pos} (G : GI X.prog X.w X.K X.mg X.base C k sp) (tk : Takes X (nS E)) (hr : Room j X.A) (ha : DA X (nS E) (e :: es) w) (hj : k + 1 ≤ j := by decide) (hg : Gl X C := by rfl)
    (hdb : (C == ("__debug__" : Str)) = false := by decide) (he : starEach (e :: es) X.env = (false, eval e X.env) :: starEach es X.env := by rfl) (hpl : (backTo pos (starEach es X.env)).any (·.1) = false := by rfl) : DE X (nS E) (.Call (.Name C p) (e :: es) [] pos) (wMake C sp w) := by
  obtain ⟨c, f, fd, ps, F, mc, mk, hb⟩ := G.ex
  refine ⟨PE.imp (pe_make mk F (hr.mono hj) hg mc hb .nil (passes_call tk fun _ _ _ _ h => h) ha.pa hdb he hpl) fun σ H Q ⟨ι, h, s, hr, sr, q⟩ => ?_, mono_make G.mono ha.mono⟩
  refine ⟨ι, h, s, hr, sr, ha.mono s h _ _ _ _ (fun ds h1 q vs H1 ι1 g1 hr1 rs x dx hx hdx ne => ?_) (fun _ _ e => e) q⟩
  have hx' : upd H1 dx (.own x) x = none := by rw [upd_ne (Ne.symm ne)]; exact hx
  have ga : Gr X.K H1 (upd H1 dx (.own x)) ι1 ι1 := Gr.fresh hdx ι1 (List.prefix_refl _)
  have gb : Gr X.K (upd H1 dx (.own x)) (upd (upd H1 dx (.own x)) x (.ins c dx [])) ι1 (ι1 ++ [x]) := Gr.fresh hx' _ (List.prefix_append _ _)
  have hr2 : HRel X.K (upd (upd H1 dx (.own x)) x (.ins c dx [])) (ι1 ++ [x]) X.mg (h1 ++ [.ins C []]) := (hr1.fresh hdx).push hx' ⟨c, dx, [], mc, upd_same, rfl⟩
  have ix : (ι1 ++ [x])[h1.length]? = some x := by rw [← hr1.len, List.getElem?_append_right (Nat.le_refl _), Nat.sub_self]; rfl
  refine ⟨ι1 ++ [x], h1 ++ [.ins C []], .ref h1.length :: ds, hr2, ⟨.ref x, vs, by rw [List.append_nil], ⟨x, ix, rfl⟩, rs.mono (ga.trans gb)⟩, G.mono _ _ _ _ _ _ (fun d h3 ⟨ed, q⟩ v H3 ι3 g3 hr3 rv => ?_) (fun y h3 q c d H' ι' g' hr' xr => q c d H' ι' ((g1.trans (ga.trans gb)).trans g') hr' xr) q⟩
  subst ed
  exact ⟨rv, q _ H3 ι3 (g1.trans ((ga.trans gb).trans g3)) hr3 ⟨x, pre_get g3.pre ix, rfl⟩⟩
theorem de_make0 {C : Str} {k j : Nat} {sp : SpD} {E : XK} {p pos : Pos} (G : GI X.prog X.w X.K X.mg X.base C k sp) (tk : Takes X (nS E)) (hr : Room j X.A) (hj : k + 1 ≤ j := by decide) (hg : Gl X C := by rfl)
    (hdb : (C == ("__debug__" : Str)) = false := by decide) : DE X (nS E) (.Call (.Name C p) [] [] pos) (wMake C sp wNil) := by
  obtain ⟨c, f, fd, ps, F, mc, mk, hb⟩ := G.ex
  refine ⟨PE.imp (pe_make0 mk F (hr.mono hj) hg mc hb .nil (passes_call tk fun _ _ _ _ h => h) hdb) fun σ H Q ⟨ι1, h1, s, hr1, sr, q⟩ => ?_, mono_make G.mono mono_nil⟩
  intro x dx hx hdx ne
  have q : sp [.ref h1.length] (h1 ++ [.ins C []]) (fun r h2 => r = .non ∧ QV X H ι1 Q (.ref h1.length) h2) (QX X (nS E) H ι1 σ) := q
  have hx' : upd H dx (.own x) x = none := by rw [upd_ne (Ne.symm ne)]; exact hx
  have ga : Gr X.K H (upd H dx (.own x)) ι1 ι1 := Gr.fresh hdx ι1 (List.prefix_refl _)
  have gb : Gr X.K (upd H dx (.own x)) (upd (upd H dx (.own x)) x (.ins c dx [])) ι1 (ι1 ++ [x]) := Gr.fresh hx' _ (List.prefix_append _ _)
  have hr2 : HRel X.K (upd (upd H dx (.own x)) x (.ins c dx [])) (ι1 ++ [x]) X.mg (h1 ++ [.ins C []]) := (hr1.fresh hdx).push hx' ⟨c, dx, [], mc, upd_same, rfl⟩
  have ix : (ι1 ++ [x])[h1.length]? = some x := by rw [← hr1.len, List.getElem?_append_right (Nat.le_refl _), Nat.sub_self]; rfl
  refine ⟨ι1 ++ [x], h1 ++ [.ins C []], [.ref h1.length], hr2, ⟨.ref x, [], rfl, ⟨x, ix, rfl⟩, rfl⟩, G.mono _ _ _ _ _ _ (fun d h3 ⟨ed, q⟩ v H3 ι3 g3 hr3 rv => ?_) (fun y h3 q c d H' ι' g' hr' xr => q c d H' ι' ((ga.trans gb).trans g') hr' xr) q⟩
  subst ed
  exact ⟨rv, q _ H3 ι3 ((ga.trans gb).trans g3) hr3 ⟨x, pre_get g3.pre ix, rfl⟩⟩
end
end EV

namespace EV
open PySem PySem.Spec PyProof.Rows L2

section
variable {X : Cx} {W : WX} {pos : Pos} {a b c e : Expr} {wa wb wc we : WE} {st : Stmt} {rest : List Stmt} {w v : WS}
theorem QD.exq {H : Hp} {ι : List Addr} {B : Ends} {σ : St} {s : Sl} (sr : SRel X.K H ι σ s) : ∀ x h, (QD X W H ι B).ex s x h → QX X W H ι σ x h := fun x h q c d H' ι' g hr xr => q c d σ H' ι' g hr (sr.mono g) xr
theorem DEnds.Le.refl (A : DEnds) : A.Le A := ⟨fun _ _ h => h, fun _ _ h => h, fun _ _ h => h, fun _ _ h => h, fun _ _ _ h => h⟩

/-! ### blocks -/
def wNext : WS := fun B s h => B.nx s h
def wSeq (w v : WS) : WS := fun B s h => w { B with nx := v B } s h
theorem mono_next : MonoS wNext := fun A B s h l q => l.nx s h q
theorem mono_seq (m : MonoS w) (n : MonoS v) : MonoS (wSeq w v) := fun A B s h l q => m { A with nx := v A } { B with nx := v B } s h ⟨fun s h q => n A B s h l q, l.rt, l.bk, l.ct, l.ex⟩ q
theorem dss_nil : DSs X W [] wNext := ⟨PSs.imp pss_nil fun B σ H ⟨ι, h, s, hr, sr, q⟩ => q σ H ι .refl hr sr, mono_next⟩
theorem dss_one (h : DS X W st w) : DSs X W [st] w := ⟨pss_one h.ps, h.mono⟩
theorem dss_cons (h1 : DS X W st w) (h2 : DSs X W rest v) : DSs X W (st :: rest) (wSeq w v) := by
  refine ⟨PSs.imp (pss_cons h1.ps h2.ps) fun B σ H ⟨ι, h, s, hr, sr, q⟩ => ?_, mono_seq h1.mono h2.mono⟩
  refine ⟨ι, h, s, hr, sr, h1.mono { QD X W H ι B with nx := v (QD X W H ι B) } _ s h ⟨fun s' h' q σ' H' ι' g hr' sr' => ?_, fun _ _ q => q, fun _ _ q => q, fun _ _ q => q, fun _ _ _ q => q⟩ q⟩
  exact ⟨ι', h', s', hr', sr', h2.mono _ _ s' h' (QD.on g) q⟩

/-! ### small statements -/
def wPass : WS := wNext
def wBreak : WS := fun B s h => B.bk s h
def wCont : WS := fun B s h => B.ct s h
theorem ds_pass : DS X W (.Pass pos) wPass := ⟨PS.imp ps_pass fun B σ H ⟨ι, h, s, hr, sr, q⟩ => q σ H ι .refl hr sr, mono_next⟩
theorem ds_break : DS X W (.Break pos) wBreak := ⟨PS.imp ps_break fun B σ H ⟨ι, h, s, hr, sr, q⟩ => q σ H ι .refl hr sr, fun A B s h l q => l.bk s h q⟩
theorem ds_cont : DS X W (.Continue pos) wCont := ⟨PS.imp ps_continue fun B σ H ⟨ι, h, s, hr, sr, q⟩ => q σ H ι .refl hr sr, fun A B s h l q => l.ct s h q⟩
def wExpr (we : WE) : WS := fun B s h => we s h (fun _ h1 => B.nx s h1) (B.ex s)
def wRet (we : WE) : WS := fun B s h => we s h B.rt (B.ex s)
def wRetN : WS := fun B _ h => B.rt .non h
theorem ds_expr (he : DE X W e we) (hs : swapsWith e none pos.line X.env = pure false := by rfl) : DS X W (.Expr e pos) (wExpr we) := by
  refine ⟨PS.imp (ps_expr he.pe hs) fun B σ H ⟨ι, h, s, hr, sr, q⟩ => ?_, fun A B s h l q => he.mono s h _ _ _ _ (fun _ h1 q => l.nx s h1 q) (fun x h1 q => l.ex s x h1 q) q⟩
  exact ⟨ι, h, s, hr, sr, he.mono s h _ _ _ _ (fun d h1 q x H1 ι1 g hr1 rd => q σ H1 ι1 g hr1 (sr.mono g)) (QD.exq sr) q⟩
theorem ds_ret (he : DE X W e we) : DS X W (.Return (some e) pos) (wRet we) := by
  refine ⟨PS.imp (ps_ret he.pe) fun B σ H ⟨ι, h, s, hr, sr, q⟩ => ?_, fun A B s h l q => he.mono s h _ _ _ _ l.rt (fun x h1 q => l.ex s x h1 q) q⟩
  exact ⟨ι, h, s, hr, sr, he.mono s h _ _ _ _ (fun d h1 q => q) (QD.exq sr) q⟩
theorem ds_retN : DS X W (.Return none pos) wRetN := ⟨PS.imp ps_retN fun B σ H ⟨ι, h, s, hr, sr, q⟩ => q .non H ι .refl hr rfl, fun A B s h l q => l.rt _ _ q⟩
def wIf (wt : WT) (w v : WS) : WS := fun B s h => wt s h (fun c h1 => if c = true then w B s h1 else v B s h1) (B.ex s)
theorem mono_if {wt : WT} (m : Mono wt) (n : MonoS w) (k : MonoS v) : MonoS (wIf wt w v) := fun A B s h l q => m s h _ _ _ _ (fun c h1 q => by
  cases c with
  | true => exact n A B s h1 l q
  | false => exact k A B s h1 l q) (fun x h1 q => l.ex s x h1 q) q
theorem ds_if {p q : List Stmt} {wt : WT} (hc : DT X W c wt) (ha : DSs X W p w) (hb : DSs X W q v) : DS X W (.If c p q pos) (wIf wt w v) := by
  refine ⟨PS.imp (ps_if hc.pt ha.ps hb.ps) fun B σ H ⟨ι, h, s, hr, sr, q⟩ => ?_, mono_if hc.mono ha.mono hb.mono⟩
  refine ⟨ι, h, s, hr, sr, hc.mono s h _ _ _ _ (fun c h1 q H1 ι1 g hr1 => ?_) (QD.exq sr) q⟩
  cases c with
  | true => exact ⟨ι1, h1, s, hr1, sr.mono g, ha.mono _ _ s h1 (QD.on g) q⟩
  | false => exact ⟨ι1, h1, s, hr1, sr.mono g, hb.mono _ _ s h1 (QD.on g) q⟩

/-! ### targets -/
theorem SRel.set {K : PySem.W.Frag} {H : Hp} {ι : List Addr} {σ : St} {s : Sl} {d : D} {v : V} (sr : SRel K H ι σ s) (i : Nat) (r : RelD K H ι d v) : SRel K H ι (σ.set i (some v)) (s.set i (some d)) := by
  refine ⟨by rw [List.length_set, List.length_set]; exact sr.1, fun j e hj => ?_⟩
  by_cases hi : i = j
  · subst hi
    have hl : i < s.length := by
      have := (List.getElem?_eq_some_iff.mp hj).1
      rwa [List.length_set] at this
    rw [List.getElem?_set_self hl] at hj
    cases hj
    exact ⟨v, List.getElem?_set_self (by rw [sr.1]; exact hl), r⟩
  · rw [List.getElem?_set_ne hi] at hj ⊢
    exact sr.2 j e hj
/-- the slots of a target, nested -/
inductive Tg where
  | nm (i : Nat) | tp (ts : List Tg)
mutual
def asgD : Tg → D → Sl → Option Sl
  | .nm i, d, s => some (s.set i (some d))
  | .tp ts, .tup ds, s => asgDs ts ds s
  | .tp _, _, _ => none
def asgDs : List Tg → List D → Sl → Option Sl
  | [], [], s => some s
  | t :: ts, d :: ds, s => match asgD t d s with | some s' => asgDs ts ds s' | none => none
  | _, _, _ => none
end
mutual
def gOf (K : PySem.W.Frag) : Tg → TG
  | .nm i => gName i
  | .tp ts => gTup K ts.length (gsOf K ts)
def gsOf (K : PySem.W.Frag) : List Tg → TGs
  | [] => gNil
  | t :: ts => gCons (gOf K t) (gsOf K ts)
end
mutual
def slotsT : Tg → List Nat
  | .nm i => [i]
  | .tp ts => slotsTs ts
def slotsTs : List Tg → List Nat
  | [] => []
  | t :: ts => slotsT t ++ slotsTs ts
end
theorem wipe_in {σ : St} {i : Nat} : ∀ {vs : List Nat}, i ∈ vs → (wipe σ vs)[i]? = if i < σ.length then some none else none
  | v :: vs, h => by
    unfold wipe
    by_cases e : v = i
    · subst e
      by_cases hl : v < σ.length
      · rw [if_pos hl, List.getElem?_set_self (by rw [wipe_length]; exact hl)]
      · rw [if_neg hl, List.getElem?_eq_none (by rw [List.length_set, wipe_length]; omega)]
    · rw [List.getElem?_set_ne e]
      exact wipe_in (by rcases List.mem_cons.mp h with z | z; exact absurd z.symm e; exact z)
theorem wipe_set {σ : St} {i : Nat} {x : Option V} {vs : List Nat} (h : i ∈ vs) : wipe (σ.set i x) vs = wipe σ vs := by
  apply List.ext_getElem?
  intro j
  by_cases hj : j ∈ vs
  · rw [wipe_in hj, wipe_in hj, List.length_set]
  · rw [wipe_out hj, wipe_out hj, List.getElem?_set_ne (fun z : i = j => hj (z ▸ h))]
mutual
theorem asg_ok {K : PySem.W.Frag} {H : Hp} {ι : List Addr} : ∀ {t : Tg} {d : D} {v : V} {σ : St} {s s' : Sl} {Q : St → Hp → Prop}, RelD K H ι d v → SRel K H ι σ s → asgD t d s = some s' →
    (∀ σ', SRel K H ι σ' s' → (∀ vs : List Nat, (∀ i ∈ slotsT t, i ∈ vs) → wipe σ' vs = wipe σ vs) → Q σ' H) → gOf K t v σ H Q
  | .nm i, d, v, σ, s, s', Q, rd, sr, e, q => by
    simp only [asgD, Option.some.injEq] at e
    subst e
    simp only [gOf]
    exact q _ (sr.set i rd) fun vs h => wipe_set (h i (by simp [slotsT]))
  | .tp ts, .tup ds, v, σ, s, s', Q, rd, sr, e, q => by
    simp only [asgD] at e
    obtain ⟨a, us, rfl, sq, rs⟩ := rd
    simp only [gOf]
    have hl : us.length = ts.length := by rw [rs.length]; exact asgDs_len e
    exact ⟨a, us, rfl, sq, hl, asgs_ok rs sr e fun σ' sr' wi => q σ' sr' fun vs h => wi vs (by simpa [slotsT] using h)⟩
  | .tp ts, .non, v, σ, s, s', Q, rd, sr, e, q => by simp [asgD] at e
  | .tp ts, .bl _, v, σ, s, s', Q, rd, sr, e, q => by simp [asgD] at e
  | .tp ts, .int _, v, σ, s, s', Q, rd, sr, e, q => by simp [asgD] at e
  | .tp ts, .str _, v, σ, s, s', Q, rd, sr, e, q => by simp [asgD] at e
  | .tp ts, .ref _, v, σ, s, s', Q, rd, sr, e, q => by simp [asgD] at e
  | .tp ts, .opq _, v, σ, s, s', Q, rd, sr, e, q => by simp [asgD] at e
theorem asgs_ok {K : PySem.W.Frag} {H : Hp} {ι : List Addr} : ∀ {ts : List Tg} {ds : List D} {vs : List V} {σ : St} {s s' : Sl} {Q : St → Hp → Prop}, RelDs K H ι ds vs → SRel K H ι σ s → asgDs ts ds s = some s' →
    (∀ σ', SRel K H ι σ' s' → (∀ vs : List Nat, (∀ i ∈ slotsTs ts, i ∈ vs) → wipe σ' vs = wipe σ vs) → Q σ' H) → gsOf K ts vs σ H Q
  | [], [], vs, σ, s, s', Q, rd, sr, e, q => by
    simp only [asgDs, Option.some.injEq] at e
    subst e
    simp only [gsOf]
    exact ⟨rd, q σ sr fun _ _ => rfl⟩
  | t :: ts, d :: ds, vs, σ, s, s', Q, rd, sr, e, q => by
    obtain ⟨v, us, rfl, r1, r2⟩ := rd
    simp only [asgDs] at e
    cases z : asgD t d s with
    | none => rw [z] at e; cases e
    | some s1 =>
      rw [z] at e
      simp only [gsOf]
      refine ⟨v, us, rfl, asg_ok r1 sr z fun σ1 sr1 w1 => asgs_ok r2 sr1 e fun σ2 sr2 w2 => q σ2 sr2 fun vs h => ?_⟩
      rw [w2 vs fun i hi => h i (by simp only [slotsTs, List.mem_append]; exact .inr hi), w1 vs fun i hi => h i (by simp only [slotsTs, List.mem_append]; exact .inl hi)]
  | [], _ :: _, vs, σ, s, s', Q, rd, sr, e, q => by simp [asgDs] at e
  | _ :: _, [], vs, σ, s, s', Q, rd, sr, e, q => by simp [asgDs] at e
theorem asgDs_len : ∀ {ts : List Tg} {ds : List D} {s s' : Sl}, asgDs ts ds s = some s' → ds.length = ts.length
  | [], [], _, _, _ => rfl
  | t :: ts, d :: ds, s, s', e => by
    simp only [asgDs] at e
    cases z : asgD t d s with
    | none => rw [z] at e; cases e
    | some s1 => rw [z] at e; rw [List.length_cons, List.length_cons, asgDs_len e]
  | [], _ :: _, _, _, e => by simp [asgDs] at e
  | _ :: _, [], _, _, e => by simp [asgDs] at e
end
structure DG (X : Cx) (tg : Expr) (t : Tg) : Prop where
  pg : PG X tg (gOf X.K t)
structure DGs (X : Cx) (es : List Expr) (ts : List Tg) : Prop where
  pgs : PGs X es (gsOf X.K ts)
theorem dg_name (i : Nat) {x : Str} (hN : X.N.Nodup) (hi : X.N[i]? = some x := by rfl) (hx : Loc X.env.scope x := by first | exact .inl rfl | exact .inr rfl) (hf : X.fn x = true ∨ X.env.scope.names.lookup x = some .local := by first | exact .inl rfl | exact .inr rfl | assumption) : DG X (.Name x pos) (.nm i) :=
  ⟨by simp only [gOf]; exact pg_name hN hi hx hf⟩
theorem dgs_nil : DGs X [] [] := ⟨by simp only [gsOf]; exact pgs_nil⟩
theorem dgs_cons {es : List Expr} {t : Tg} {ts : List Tg} (h1 : DG X e t) (h2 : DGs X es ts) (hs : (assignEach (e :: es) X.env).map (·.2) = assign e X.env :: (assignEach es X.env).map (·.2) := by rfl) : DGs X (e :: es) (t :: ts) :=
  ⟨by simp only [gsOf]; exact pgs_cons h1.pg h2.pgs hs⟩
theorem dg_tup {es : List Expr} {k : Nat} {ts : List Tg} (hc : X.calm = true) (h : DGs X es ts) (hn : (assignEach es X.env).length = ts.length := by rfl) (hst : (assignEach es X.env).findIdx? (·.1) = none := by rfl) : DG X (.Tuple es k pos) (.tp ts) :=
  ⟨by simp only [gOf]; exact pg_tup hc h.pgs hn hst⟩

/-! ### assignments -/
def wAsg (t : Tg) (we : WE) : WS := fun B s h => we s h (fun d h1 => ∃ s', asgD t d s = some s' ∧ B.nx s' h1) (B.ex s)
theorem mono_asg {t : Tg} (m : Mono we) : MonoS (wAsg t we) := fun A B s h l q => m s h _ _ _ _ (fun d h1 ⟨s', e, q⟩ => ⟨s', e, l.nx s' h1 q⟩) (fun x h1 q => l.ex s x h1 q) q
theorem ls_asg {t : Tg} (m : Mono we) {B : Ends} {σ : St} {H : Hp} (h : LS X W (wAsg t we) B σ H) : tAsg (LE X W we) (gOf X.K t) B σ H := by
  obtain ⟨ι, h, s, hr, sr, q⟩ := h
  refine ⟨ι, h, s, hr, sr, m s h _ _ _ _ (fun d h1 ⟨s', e, q⟩ v H1 ι1 g hr1 rd => ?_) (QD.exq sr) q⟩
  exact asg_ok rd (sr.mono g) e fun σ' sr' _ => q σ' H1 ι1 g hr1 sr'
theorem ds_asg {tg : Expr} {t : Tg} (he : DE X W e we) (hg : DG X tg t) (hs : swapsWithSole [tg] e pos.line X.env = pure false := by rfl) (hw : swappedStores [tg] e X.env = pure none := by rfl)
    (h1 : (assignEach [tg] X.env).map (·.2) = [assign tg X.env] := by rfl) : DS X W (.Assign [tg] e pos) (wAsg t we) :=
  ⟨PS.imp (ps_asg he.pe hg.pg hs hw h1) fun B σ H h => ls_asg he.mono h, mono_asg he.mono⟩
theorem ds_set (i : Nat) {x : Str} {pos' : Pos} (hN : X.N.Nodup) (he : DE X W e we) (hi : X.N[i]? = some x := by rfl) (hx : Loc X.env.scope x := by first | exact .inl rfl | exact .inr rfl) (hs : swapsWith e (some (.Name x pos')) pos.line X.env = pure false := by rfl)
    (hf : X.fn x = true ∨ X.env.scope.names.lookup x = some .local := by first | exact .inl rfl | exact .inr rfl | assumption) : DS X W (.Assign [.Name x pos'] e pos) (wAsg (.nm i) we) :=
  ⟨PS.imp (ps_set hN hi hx he.pe hs hf) fun B σ H h => by have := ls_asg he.mono h; simp only [gOf] at this; exact this, mono_asg he.mono⟩
/-- a, b = x, y -/
def wPar (is : List Nat) (w : WA) : WS := fun B s h => w s h (fun ds h1 => ds.length = is.length ∧ B.nx ((is.zip ds).foldl (fun s p => s.set p.1 (some p.2)) s) h1) (B.ex s)
theorem mono_par {is : List Nat} {w : WA} (m : Mono w) : MonoS (wPar is w) := fun A B s h l q => m s h _ _ _ _ (fun ds h1 ⟨e, q⟩ => ⟨e, l.nx _ _ q⟩) (fun x h1 q => l.ex s x h1 q) q
theorem ds_par {i j : Nat} {x y : Str} {w : WA} {px py pt : Pos} {kt k2 pt2} (hc : X.calm = true) (hN : X.N.Nodup) (hi : X.N[i]? = some x) (hj : X.N[j]? = some y) (hij : i ≠ j)
    (hx : X.env.scope.names.lookup x = some .local) (hy : X.env.scope.names.lookup y = some .local) (ha : DA X W [a, b] w)
    (hw : swappedStores [.Tuple [.Name x px, .Name y py] kt pt] (.Tuple [a, b] k2 pt2) X.env = pure (some [x, y]) := by rfl)
    (hs : swapsWithSole [.Tuple [.Name x px, .Name y py] kt pt] (.Tuple [a, b] k2 pt2) pos.line X.env = pure false := by rfl) :
    DS X W (.Assign [.Tuple [.Name x px, .Name y py] kt pt] (.Tuple [a, b] k2 pt2) pos) (wPar [i, j] w) := by
  refine ⟨PS.imp (ps_par hc hN hi hj hij hx hy ha.pa hw hs) fun B σ H ⟨ι, h, s, hr, sr, q⟩ => ?_, mono_par ha.mono⟩
  refine ⟨ι, h, s, hr, sr, ha.mono s h _ _ _ _ (fun ds h1 ⟨e, q⟩ vs H1 ι1 g hr1 rs => ?_) (QD.exq sr) q⟩
  match ds, e with
  | [d1, d2], _ =>
    obtain ⟨v1, u1, rfl, r1, v2, u2, rfl, r2, r3⟩ := rs
    rw [show u2 = [] from r3]
    exact ⟨v1, v2, rfl, q _ H1 ι1 g hr1 (((sr.mono g).set i r1).set j r2)⟩
theorem ds_par3 {i j l : Nat} {x y z : Str} {w : WA} {px py pz pt : Pos} {kt k2 pt2} (hc : X.calm = true) (hN : X.N.Nodup) (hi : X.N[i]? = some x) (hj : X.N[j]? = some y) (hl : X.N[l]? = some z) (hij : i ≠ j) (hil : i ≠ l) (hjl : j ≠ l)
    (hx : X.env.scope.names.lookup x = some .local) (hy : X.env.scope.names.lookup y = some .local) (hz : X.env.scope.names.lookup z = some .local) (ha : DA X W [a, b, c] w)
    (hw : swappedStores [.Tuple [.Name x px, .Name y py, .Name z pz] kt pt] (.Tuple [a, b, c] k2 pt2) X.env = pure (some [x, y, z]) := by rfl)
    (hs : swapsWithSole [.Tuple [.Name x px, .Name y py, .Name z pz] kt pt] (.Tuple [a, b, c] k2 pt2) pos.line X.env = pure false := by rfl) :
    DS X W (.Assign [.Tuple [.Name x px, .Name y py, .Name z pz] kt pt] (.Tuple [a, b, c] k2 pt2) pos) (wPar [i, j, l] w) := by
  refine ⟨PS.imp (ps_par3 hc hN hi hj hl hij hil hjl hx hy hz ha.pa hw hs) fun B σ H ⟨ι, h, s, hr, sr, q⟩ => ?_, mono_par ha.mono⟩
  refine ⟨ι, h, s, hr, sr, ha.mono s h _ _ _ _ (fun ds h1 ⟨e, q⟩ vs H1 ι1 g hr1 rs => ?_) (QD.exq sr) q⟩
  match ds, e with
  | [d1, d2, d3], _ =>
    obtain ⟨v1, u1, rfl, r1, v2, u2, rfl, r2, v3, u3, rfl, r3, r4⟩ := rs
    rw [show u3 = [] from r4]
    exact ⟨v1, v2, v3, rfl, q _ H1 ι1 g hr1 ((((sr.mono g).set i r1).set j r2).set l r3)⟩
/-- o.f = e -/
def wSetF (C f : Str) (wo wv : WE) : WS := fun B s h => wv s h (fun d h1 => wo s h1 (fun o h2 => ∃ n fs, o = .ref n ∧ h2[n]? = some (.ins C fs) ∧ fs.length < 1000 ∧ B.nx s (h2.set n (.ins C (putD f d fs)))) (B.ex s)) (B.ex s)
theorem ds_fld {C f : Str} {o value : Expr} {wo wv : WE} {pos' : Pos} (cf : CF X.K X.mg C f) (ho : DE X W o wo) (hv : DE X W value wv) (hs : swapsWith value (some (.Attribute o f pos')) pos.line X.env = pure false := by rfl) : DS X W (.Assign [.Attribute o f pos'] value pos) (wSetF C f wo wv) := by
  refine ⟨PS.imp (ps_fld ho.pe hv.pe hs) fun B σ H ⟨ι, h, s, hr, sr, q⟩ => ?_, fun A B s h l q => hv.mono s h _ _ _ _ (fun d h1 q => ho.mono s h1 _ _ _ _ (fun o h2 ⟨n, fs, e, z, k, q⟩ => ⟨n, fs, e, z, k, l.nx _ _ q⟩) (fun x h q => l.ex s x h q) q) (fun x h q => l.ex s x h q) q⟩
  refine ⟨ι, h, s, hr, sr, hv.mono s h _ _ _ _ (fun d h1 q v H1 ι1 g1 hr1 rd => ?_) (QD.exq sr) q⟩
  refine ⟨ι1, h1, s, hr1, sr.mono g1, ho.mono s h1 _ _ _ _ (fun o h2 ⟨n, fs, e, z, k, q⟩ u H2 ι2 g2 hr2 ro => ?_) (fun x h' q' => QX.on (QD.exq sr x h' q') g1) q⟩
  subst e
  obtain ⟨p, ep, rfl⟩ := ro
  obtain ⟨c, dx, vs, mc, e1, rs⟩ := hr2.obj _ _ _ z ep
  obtain ⟨c', mc', cl, na⟩ := cf.ex
  rw [mc] at mc'
  cases mc'
  obtain ⟨w0, ew, w1, w2⟩ := (hr2.obj _ _ _ z ep).there
  have g : Gr X.K H2 (upd H2 p (.ins c dx (putF f v vs))) ι2 ι2 := Gr.write ew w1 w2
  obtain ⟨_, hr3⟩ := hr2.write (u := .ins c dx (putF f v vs)) (o' := .ins C (putD f d fs)) z ep ⟨c, dx, _, mc, upd_same, (rs.put (rd.mono g2)).mono g⟩
  exact ⟨p, c, dx, vs, rfl, e1, cl, na, by rw [rs.length]; exact k, q σ _ ι2 ((g1.trans g2).trans g) hr3 (sr.mono ((g1.trans g2).trans g))⟩
/-- xs[i] = e, a list -/
def wSetIx (wo wi wv : WE) : WS := fun B s h => wv s h (fun d h1 => wo s h1 (fun o h2 => wi s h2 (fun i h3 => ∃ n ds k j, o = .ref n ∧ i = .int k ∧ h3[n]? = some (.lst ds) ∧ ixN ds.length k = some j ∧ B.nx s (h3.set n (.lst (ds.set j d)))) (B.ex s)) (B.ex s)) (B.ex s)
theorem ds_setIx {o i value : Expr} {wo wi wv : WE} {pos' : Pos} (ho : DE X W o wo) (hi : DE X W i wi) (hv : DE X W value wv)
    (ha : ∀ v, assign (.Subscript o i pos') X.env v = (do
      let ov ← holding [v] (eval o X.env)
      let iv ← holding [v, ov] (eval i X.env)
      standAt pos'
      holding [v, ov, iv] (setItem ov iv v)
      release [v, ov, iv] []) := by intro _; rfl) (hs : swapsWithSole [.Subscript o i pos'] value pos.line X.env = pure false := by rfl) (hw : swappedStores [.Subscript o i pos'] value X.env = pure none := by rfl)
    (h1 : (assignEach [.Subscript o i pos'] X.env).map (·.2) = [assign (.Subscript o i pos') X.env] := by rfl) : DS X W (.Assign [.Subscript o i pos'] value pos) (wSetIx wo wi wv) := by
  refine ⟨PS.imp (ps_asg hv.pe (pg_sub ho.pe hi.pe set_list ha) hs hw h1) fun B σ H ⟨ι, h, s, hr, sr, q⟩ => ?_, fun A B s h l q => hv.mono s h _ _ _ _ (fun d h1 q => ho.mono s h1 _ _ _ _ (fun o h2 q => hi.mono s h2 _ _ _ _ (fun i h3 ⟨n, ds, k, j, e1, e2, z, y, q⟩ => ⟨n, ds, k, j, e1, e2, z, y, l.nx _ _ q⟩) (fun x h q => l.ex s x h q) q) (fun x h q => l.ex s x h q) q) (fun x h q => l.ex s x h q) q⟩
  refine ⟨ι, h, s, hr, sr, hv.mono s h _ _ _ _ (fun d h1 q v H1 ι1 g1 hr1 rd => ?_) (QD.exq sr) q⟩
  refine ⟨ι1, h1, s, hr1, sr.mono g1, ho.mono s h1 _ _ _ _ (fun o h2 q u H2 ι2 g2 hr2 ro => ?_) (fun x h' q' => QX.on (QD.exq sr x h' q') g1) q⟩
  refine ⟨ι2, h2, s, hr2, sr.mono (g1.trans g2), hi.mono s h2 _ _ _ _ (fun i h3 ⟨n, ds, k, j, e1, e2, z, y, qq⟩ u' H3 ι3 g3 hr3 ri => ?_) (fun x h' q' => QX.on (QD.exq sr x h' q') (g1.trans g2)) q⟩
  subst e1 e2
  obtain ⟨p, ep, rfl⟩ := ro
  cases ri
  have ep3 := pre_get g3.pre ep
  obtain ⟨vs, q1, rs⟩ := hr3.obj _ _ _ z ep3
  obtain ⟨w0, ew, w1, w2⟩ := (hr3.obj _ _ _ z ep3).there
  have g : Gr X.K H3 (upd H3 p (.lst (vs.set j v))) ι3 ι3 := Gr.write ew w1 w2
  obtain ⟨_, hr4⟩ := hr3.write (u := .lst (vs.set j v)) (o' := .lst (ds.set j d)) z ep3 ⟨_, upd_same, (rs.set (rd.mono (g2.trans g3)) j).mono g⟩
  exact ⟨p, vs, k, j, rfl, rfl, q1, by rw [rs.length]; exact y, qq σ _ ι3 (((g1.trans g2).trans g3).trans g) hr4 (sr.mono (((g1.trans g2).trans g3).trans g))⟩

/-! ### while -/
def wWh (wt : WT) (w : WS) (B : DEnds) : Nat → Sl → Hh → Prop
  | 0, _, _ => False
  | n + 1, s, h => wt s h (fun c h1 => if c = true then w { nx := wWh wt w B n, rt := B.rt, bk := B.nx, ct := wWh wt w B n, ex := B.ex } s h1 else B.nx s h1) (B.ex s)
def wWhile (wt : WT) (w : WS) : WS := fun B s h => ∃ n, wWh wt w B n s h
theorem mono_wh {wt : WT} (m : Mono wt) (k : MonoS w) (A B : DEnds) (l : A.Le B) : ∀ n s h, wWh wt w A n s h → wWh wt w B n s h
  | 0, _, _, q => q
  | n + 1, s, h, q => m s h _ _ _ _ (fun c h1 q => by
    cases c with
    | true => exact k { nx := wWh wt w A n, rt := A.rt, bk := A.nx, ct := wWh wt w A n, ex := A.ex } _ s h1 ⟨mono_wh m k A B l n, l.rt, l.nx, mono_wh m k A B l n, l.ex⟩ q
    | false => exact l.nx s h1 q) (fun x h1 q => l.ex s x h1 q) q
theorem ds_while {body : List Stmt} {wt : WT} (hp : PassesOwn (model X.prog X.w) X.A X.env X.xe) (hc : DT X W c wt) (hb : DSs X W body w) : DS X W (.While c body [] pos) (wWhile wt w) := by
  refine ⟨PS.imp (ps_while hp hc.pt hb.ps) fun B σ H ⟨ι, h, s, hr, sr, n, q⟩ => ?_, fun A B s h l ⟨n, q⟩ => ⟨n, mono_wh hc.mono hb.mono A B l n s h q⟩⟩
  refine ⟨fun m σ' H' => ∃ ι' h' s', Gr X.K H H' ι ι' ∧ HRel X.K H' ι' X.mg h' ∧ SRel X.K H' ι' σ' s' ∧ wWh wt w (QD X W H ι B) m s' h', ⟨n, ι, h, s, .refl, hr, sr, q⟩, ?_⟩
  rintro m σ1 H1 ⟨ι1, h1, s1, g1, hr1, sr1, q1⟩
  cases m with
  | zero => exact q1.elim
  | succ m =>
    refine ⟨ι1, h1, s1, hr1, sr1, hc.mono s1 h1 _ _ _ _ (fun c h2 q H2 ι2 g2 hr2 => ?_) (fun x h' q c d H' ι' g' hr' xr => q c d σ1 H' ι' (g1.trans g') hr' (sr1.mono g') xr) q1⟩
    cases c with
    | true =>
      refine ⟨fun σ' H' => ∃ ι' h' s', Gr X.K H H' ι ι' ∧ HRel X.K H' ι' X.mg h' ∧ SRel X.K H' ι' σ' s' ∧ wWh wt w (QD X W H ι B) m s' h', fun σ' H' z => ⟨m, Nat.lt_succ_self m, z⟩, ?_⟩
      have gg := g1.trans g2
      refine ⟨ι2, h2, s1, hr2, sr1.mono g2, hb.mono _ _ s1 h2 ⟨fun s3 h3 q σ3 H3 ι3 g3 hr3 sr3 => ?_, fun d h3 q => QV.on (X := X) q gg, fun s3 h3 q σ3 H3 ι3 g3 hr3 sr3 => ?_, fun s3 h3 q σ3 H3 ι3 g3 hr3 sr3 => ?_, fun s3 x h3 q c d σ3 H3 ι3 g3 hr3 sr3 xr => ?_⟩ q⟩
      · exact ⟨ι3, h3, s3, gg.trans g3, hr3, sr3, q⟩
      · exact q σ3 H3 ι3 (gg.trans g3) hr3 sr3
      · exact ⟨ι3, h3, s3, gg.trans g3, hr3, sr3, q⟩
      · exact q c d σ3 H3 ι3 (gg.trans g3) hr3 sr3 xr
    | false => exact q σ1 H2 ι2 (g1.trans g2) hr2 (sr1.mono g2)
end
end EV

namespace EV
open PySem PySem.Spec PyProof.Rows L2

section
variable {X : Cx} {W : WX} {pos : Pos} {a b c e : Expr} {wa wb wc we : WE} {st : Stmt} {rest : List Stmt} {w v : WS}

/-! ### what is walked: the items, and what must hold of the heap at each turn -/
abbrev IT := List D × (Hh → Prop)
abbrev WI := Sl → Hh → (IT → Hh → Prop) → PX → Prop
structure Conf (X : Cx) (J : It) (p : IT) (H1 : Hp) (ι1 : List Addr) : Prop where
  go : ∀ i H ι h, Gr X.K H1 H ι1 ι → HRel X.K H ι X.mg h → p.2 h → i < p.1.length → J.go i H
  stop : ∀ i H ι h, Gr X.K H1 H ι1 ι → HRel X.K H ι X.mg h → p.2 h → i = p.1.length → J.stop i H
  yld : ∀ i H ι h d x H', Gr X.K H1 H ι1 ι → HRel X.K H ι X.mg h → p.2 h → p.1[i]? = some d → J.yld i H x H' → Gr X.K H H' ι ι ∧ HRel X.K H' ι X.mg h ∧ RelD X.K H' ι d x ∧ ∀ b, H b ≠ none → H' b = H b
def LI (X : Cx) (W : WX) (wi : WI) : TI := fun σ H R => ∃ ι h s, HRel X.K H ι X.mg h ∧ SRel X.K H ι σ s ∧ wi s h (fun p h' => ∀ J H' ι', Gr X.K H H' ι ι' → HRel X.K H' ι' X.mg h' → Conf X J p H' ι' → R J H') (QX X W H ι σ)
structure DI (X : Cx) (W : WX) (tg iter : Expr) (wi : WI) : Prop where
  pi : PI X tg iter (LI X W wi)
  mono : Mono wi
theorem PI.imp {tg iter : Expr} {t t' : TI} (h : PI X tg iter t) (i : ∀ σ H R, t' σ H R → t σ H R) : PI X tg iter t' := ⟨fun pins s σ H R I q => h.run pins s σ H R I (i σ H R q)⟩
def wiList (we : WE) : WI := fun s h Q E => we s h (fun d h1 => ∃ n ds, d = .ref n ∧ lsOf h1 n = some ds ∧ Q (ds, fun h => lsOf h n = some ds) h1) E
theorem mono_iList (m : Mono we) : Mono (wiList we) := fun s h Q Q' E E' hq he q => m s h _ _ _ _ (fun d h1 ⟨n, ds, e, z, q⟩ => ⟨n, ds, e, z, hq _ _ q⟩) he q
theorem conf_list {H : Hp} {ι : List Addr} {n : Nat} {p : Addr} {ds : List D} (ep : ι[n]? = some p) : Conf X (Itl X.K p) (ds, fun h => lsOf h n = some ds) H ι := by
  refine ⟨fun i H' ι' h g hr e hi => ?_, fun i H' ι' h g hr e hi => ?_, fun i H' ι' h d x H2 g hr e hd y => ?_⟩
  · obtain ⟨vs, sq, rs⟩ := ls_sq hr e (pre_get g.pre ep)
    obtain ⟨v, ev, _⟩ := rs.get (List.getElem?_eq_getElem hi)
    exact ⟨vs, v, sq, ev⟩
  · obtain ⟨vs, sq, rs⟩ := ls_sq hr e (pre_get g.pre ep)
    exact ⟨vs, sq, by rw [rs.length]; exact Nat.le_of_eq hi.symm⟩
  · obtain ⟨vs, sq, rs⟩ := ls_sq hr e (pre_get g.pre ep)
    obtain ⟨rfl, yy⟩ := y
    obtain ⟨v, ev, rv⟩ := rs.get hd
    have := yy vs sq
    rw [ev] at this
    cases this
    exact ⟨.refl, hr, rv, fun _ _ => rfl⟩
theorem di_list {tg : Expr} (he : DE X W e we) : DI X W tg e (wiList we) := by
  refine ⟨PI.imp (pi_list he.pe) fun σ H R ⟨ι, h, s, hr, sr, q⟩ => ?_, mono_iList he.mono⟩
  refine ⟨ι, h, s, hr, sr, he.mono s h _ _ _ _ (fun d h1 ⟨n, ds, ed, z, q⟩ v H1 ι1 g hr1 rd => ?_) (fun _ _ e => e) q⟩
  subst ed
  obtain ⟨p, ep, rfl⟩ := rd
  obtain ⟨vs, sq, rs⟩ := ls_sq hr1 z ep
  exact ⟨p, rfl, ⟨vs, sq⟩, q _ H1 ι1 g hr1 (conf_list ep)⟩
def wiTup (we : WE) : WI := fun s h Q E => we s h (fun d h1 => ∃ ds, d = .tup ds ∧ Q (ds, fun _ => True) h1) E
theorem mono_iTup (m : Mono we) : Mono (wiTup we) := fun s h Q Q' E E' hq he q => m s h _ _ _ _ (fun d h1 ⟨ds, e, q⟩ => ⟨ds, e, hq _ _ q⟩) he q
theorem di_tup {tg : Expr} (he : DE X W e we) : DI X W tg e (wiTup we) := by
  refine ⟨PI.imp (pi_tup he.pe) fun σ H R ⟨ι, h, s, hr, sr, q⟩ => ?_, mono_iTup he.mono⟩
  refine ⟨ι, h, s, hr, sr, he.mono s h _ _ _ _ (fun d h1 ⟨ds, ed, q⟩ v H1 ι1 g hr1 rd => ?_) (fun _ _ e => e) q⟩
  subst ed
  obtain ⟨p, vs, rfl, sq, rs⟩ := rd
  refine ⟨p, rfl, ⟨vs, sq⟩, q _ H1 ι1 g hr1 ⟨fun i H' ι' h g hr e hi => ?_, fun i H' ι' h g hr e hi => ?_, fun i H' ι' h d x H2 g hr e hd y => ?_⟩⟩
  · obtain ⟨v, ev, _⟩ := rs.get (List.getElem?_eq_getElem hi)
    exact ⟨vs, v, g.tup _ _ sq, ev⟩
  · exact ⟨vs, g.tup _ _ sq, by rw [rs.length]; exact Nat.le_of_eq hi.symm⟩
  · obtain ⟨rfl, yy⟩ := y
    obtain ⟨v, ev, rv⟩ := rs.get hd
    have := yy vs (g.tup _ _ sq)
    rw [ev] at this
    cases this
    exact ⟨.refl, hr, rv.mono g, fun _ _ => rfl⟩
def chrs (x : Str) : List D := x.cps.toList.map fun c => .str ⟨#[c]⟩
def wiStr (we : WE) : WI := fun s h Q E => we s h (fun d h1 => ∃ x, d = .str x ∧ Q (chrs x, fun _ => True) h1) E
theorem mono_iStr (m : Mono we) : Mono (wiStr we) := fun s h Q Q' E E' hq he q => m s h _ _ _ _ (fun d h1 ⟨ds, e, q⟩ => ⟨ds, e, hq _ _ q⟩) he q
theorem chrs_len {x : Str} : (chrs x).length = x.cps.size := by unfold chrs; rw [List.length_map, Array.length_toList]
theorem di_str {tg : Expr} (he : DE X W e we) : DI X W tg e (wiStr we) := by
  refine ⟨PI.imp (pi_str he.pe) fun σ H R ⟨ι, h, s, hr, sr, q⟩ => ?_, mono_iStr he.mono⟩
  refine ⟨ι, h, s, hr, sr, he.mono s h _ _ _ _ (fun d h1 ⟨x, ed, q⟩ v H1 ι1 g hr1 rd => ?_) (fun _ _ e => e) q⟩
  subst ed
  cases rd
  refine ⟨x, rfl, q _ H1 ι1 g hr1 ⟨fun i H' ι' h g hr e hi => ?_, fun i H' ι' h g hr e hi => ?_, fun i H' ι' h d y H2 g hr e hd yy => ?_⟩⟩
  · exact (by rw [chrs_len] at hi; exact hi : i < x.cps.size)
  · exact (by rw [chrs_len] at hi; exact Nat.le_of_eq hi.symm : x.cps.size ≤ i)
  · obtain ⟨rfl, c, ec, rfl⟩ := yy
    refine ⟨.refl, hr, ?_, fun _ _ => rfl⟩
    unfold chrs at hd
    rw [List.getElem?_map] at hd
    have ec' : x.cps.toList[i]? = some c := by rw [Array.getElem?_toList]; exact ec
    rw [ec'] at hd
    cases hd
    rfl
def rgD (lo : Int) (n : Nat) : List D := (List.range n).map fun i => .int (lo + (i : Nat))
theorem conf_range {H : Hp} {ι : List Addr} {lo : Int} {n : Nat} : Conf X (Itr lo n) (rgD lo n, fun _ => True) H ι := by
  have hl : (rgD lo n).length = n := by unfold rgD; rw [List.length_map, List.length_range]
  refine ⟨fun i H' ι' h g hr e hi => ?_, fun i H' ι' h g hr e hi => ?_, fun i H' ι' h d y H2 g hr e hd yy => ?_⟩
  · exact (by rw [hl] at hi; exact hi : i < n)
  · exact (by rw [hl] at hi; exact Nat.le_of_eq hi.symm : n ≤ i)
  · obtain ⟨rfl, rfl⟩ := yy
    refine ⟨.refl, hr, ?_, fun _ _ => rfl⟩
    have hi : i < n := by have := (List.getElem?_eq_some_iff.mp hd).1; rwa [hl] at this
    unfold rgD at hd
    rw [List.getElem?_map, List.getElem?_range hi] at hd
    cases hd
    rfl
def wiRg1 (w : WA) : WI := fun s h Q E => w s h (fun ds h1 => ∃ j : Int, ds = [.int j] ∧ (-(2 ^ 62) ≤ j ∧ j < 2 ^ 62) ∧ Q (rgD 0 j.toNat, fun _ => True) h1) E
theorem di_rg1 {tg : Expr} {w : WA} {p pos : Pos} (hm : X.mg "range" = none) (ha : DA X W [a] w) (hg : Gl X "range" := by rfl) (hs : starEach [a] X.env = [(false, eval a X.env)] := by rfl) : DI X W tg (.Call (.Name "range" p) [a] [] pos) (wiRg1 w) := by
  refine ⟨PI.imp (pi_range1 hg hm ha.pa hs) fun σ H R ⟨ι, h, s, hr, sr, q⟩ => ?_, fun s h Q Q' E E' hq he q => ha.mono s h _ _ _ _ (fun d h1 ⟨j, e, b, q⟩ => ⟨j, e, b, hq _ _ q⟩) he q⟩
  refine ⟨ι, h, s, hr, sr, ha.mono s h _ _ _ _ (fun ds h1 ⟨j, ed, b, q⟩ vs H1 ι1 g hr1 rs => ?_) (fun _ _ e => e) q⟩
  subst ed
  obtain ⟨v, rfl, rv⟩ := rels1 rs
  cases rv
  exact ⟨j, rfl, b.1, b.2, q _ H1 ι1 g hr1 conf_range⟩
def wiRg2 (w : WA) : WI := fun s h Q E => w s h (fun ds h1 => ∃ i j : Int, ds = [.int i, .int j] ∧ (-(2 ^ 62) ≤ i ∧ i < 2 ^ 62 ∧ -(2 ^ 62) ≤ j ∧ j < 2 ^ 62) ∧ Q (rgD i (j - i).toNat, fun _ => True) h1) E
theorem di_rg2 {tg : Expr} {w : WA} {p pos : Pos} (hm : X.mg "range" = none) (ha : DA X W [a, b] w) (hg : Gl X "range" := by rfl) (hs : starEach [a, b] X.env = [(false, eval a X.env), (false, eval b X.env)] := by rfl) (hs2 : starEach [b] X.env = [(false, eval b X.env)] := by rfl) : DI X W tg (.Call (.Name "range" p) [a, b] [] pos) (wiRg2 w) := by
  refine ⟨PI.imp (pi_range2 hg hm ha.pa hs hs2) fun σ H R ⟨ι, h, s, hr, sr, q⟩ => ?_, fun s h Q Q' E E' hq he q => ha.mono s h _ _ _ _ (fun d h1 ⟨i, j, e, b, q⟩ => ⟨i, j, e, b, hq _ _ q⟩) he q⟩
  refine ⟨ι, h, s, hr, sr, ha.mono s h _ _ _ _ (fun ds h1 ⟨i, j, ed, b, q⟩ vs H1 ι1 g hr1 rs => ?_) (fun _ _ e => e) q⟩
  subst ed
  obtain ⟨v, u, rfl, rv, u', u2, rfl, rv', rn⟩ := rs
  rw [show u2 = [] from rn]
  cases rv; cases rv'
  exact ⟨i, j, rfl, b, q _ H1 ι1 g hr1 conf_range⟩
/-- enumerate of a list, a tuple's pair at each turn -/
def enD (ds : List D) : List D := ds.mapIdx fun i d => .tup [.int (i : Nat), d]
theorem pair_new {H : Hp} {ι : List Addr} {h : Hh} {T : Addr} {d d' : D} {v v' : V} (hr : HRel X.K H ι X.mg h) (hT : H T = none) (r : RelD X.K H ι d v) (r' : RelD X.K H ι d' v') :
    Gr X.K H (upd H T (.tup [v, v'])) ι ι ∧ HRel X.K (upd H T (.tup [v, v'])) ι X.mg h ∧ RelD X.K (upd H T (.tup [v, v'])) ι (.tup [d, d']) (.ref T) ∧ ∀ b, H b ≠ none → upd H T (.tup [v, v']) b = H b := by
  have g : Gr X.K H (upd H T (.tup [v, v'])) ι ι := Gr.fresh hT ι (List.prefix_refl _)
  exact ⟨g, hr.fresh hT, ⟨T, [v, v'], rfl, SqT.of upd_same, v, [v'], rfl, r.mono g, v', [], rfl, r'.mono g, rfl⟩, fun b hb => upd_ne fun z => hb (z ▸ hT)⟩
def wiEnum (w : WA) : WI := fun s h Q E => w s h (fun es h1 => ∃ n ds, es = [.ref n] ∧ lsOf h1 n = some ds ∧ Q (enD ds, fun h => lsOf h n = some ds) h1) E
theorem di_enum {w : WA} {p pos tpos : Pos} {elts : List Expr} {kk : Nat} (hm : X.mg "enumerate" = none) (ha : DA X W [e] w) (hg : Gl X "enumerate" := by rfl) (hs : starEach [e] X.env = [(false, eval e X.env)] := by rfl) : DI X W (.Tuple elts kk tpos) (.Call (.Name "enumerate" p) [e] [] pos) (wiEnum w) := by
  refine ⟨PI.imp (pi_enum hg hm ha.pa hs) fun σ H R ⟨ι, h, s, hr, sr, q⟩ => ?_, fun s h Q Q' E E' hq he q => ha.mono s h _ _ _ _ (fun d h1 ⟨n, ds, e, z, q⟩ => ⟨n, ds, e, z, hq _ _ q⟩) he q⟩
  refine ⟨ι, h, s, hr, sr, ha.mono s h _ _ _ _ (fun es h1 ⟨n, ds, ed, z, q⟩ us H1 ι1 g hr1 rs => ?_) (fun _ _ e => e) q⟩
  subst ed
  obtain ⟨v, rfl, p, ep, rfl⟩ := rels1 rs
  obtain ⟨vs, sq, rs⟩ := ls_sq hr1 z ep
  have hl : (enD ds).length = ds.length := by unfold enD; rw [List.length_mapIdx]
  refine ⟨p, vs, rfl, sq, q _ H1 ι1 g hr1 ⟨fun i H' ι' h g hr e hi => ?_, fun i H' ι' h g hr e hi => ?_, fun i H' ι' h d y H2 g hr e hd yy => ?_⟩⟩
  · obtain ⟨vs, sq, rs⟩ := ls_sq hr e (pre_get g.pre ep)
    obtain ⟨v, ev, _⟩ := rs.get (List.getElem?_eq_getElem (by rw [← hl]; exact hi))
    exact ⟨vs, v, sq, ev⟩
  · obtain ⟨vs, sq, rs⟩ := ls_sq hr e (pre_get g.pre ep)
    exact ⟨vs, sq, by rw [rs.length, ← hl]; exact Nat.le_of_eq hi.symm⟩
  · obtain ⟨vs, sq, rs⟩ := ls_sq hr e (pre_get g.pre ep)
    obtain ⟨T, x, rfl, hT, rfl, xx⟩ := yy
    have hi : i < ds.length := by have := (List.getElem?_eq_some_iff.mp hd).1; rwa [hl] at this
    obtain ⟨v, ev, rv⟩ := rs.get (List.getElem?_eq_getElem hi)
    have := xx vs sq
    rw [ev] at this
    cases this
    unfold enD at hd
    rw [List.getElem?_mapIdx, List.getElem?_eq_getElem hi] at hd
    cases hd
    exact pair_new hr hT rfl rv
/-- zip of two lists -/
def zipD (ds es : List D) : List D := (ds.zip es).map fun p => .tup [p.1, p.2]
def wiZip (w : WA) : WI := fun s h Q E => w s h (fun es h1 => ∃ n m ds ds', es = [.ref n, .ref m] ∧ lsOf h1 n = some ds ∧ lsOf h1 m = some ds' ∧ Q (zipD ds ds', fun h => lsOf h n = some ds ∧ lsOf h m = some ds') h1) E
theorem di_zip {w : WA} {p pos tpos : Pos} {elts : List Expr} {kk : Nat} (hm : X.mg "zip" = none) (ha : DA X W [a, b] w) (hg : Gl X "zip" := by rfl) (hs : starEach [a, b] X.env = (false, eval a X.env) :: starEach [b] X.env := by rfl)
    (hs2 : (backTo pos (starEach [b] X.env)).any (·.1) = false := by rfl) : DI X W (.Tuple elts kk tpos) (.Call (.Name "zip" p) [a, b] [] pos) (wiZip w) := by
  refine ⟨PI.imp (pi_zip hg hm ha.pa hs hs2) fun σ H R ⟨ι, h, s, hr, sr, q⟩ => ?_, fun s h Q Q' E E' hq he q => ha.mono s h _ _ _ _ (fun d h1 ⟨n, m, ds, ds', e, z, z', q⟩ => ⟨n, m, ds, ds', e, z, z', hq _ _ q⟩) he q⟩
  refine ⟨ι, h, s, hr, sr, ha.mono s h _ _ _ _ (fun es h1 ⟨n, m, ds, ds', ed, z, z', q⟩ us H1 ι1 g hr1 rs => ?_) (fun _ _ e => e) q⟩
  subst ed
  obtain ⟨v, u, rfl, ⟨p, ep, rfl⟩, v', u2, rfl, ⟨p', ep', rfl⟩, rn⟩ := rs
  rw [show u2 = [] from rn]
  obtain ⟨vs, sq, rs⟩ := ls_sq hr1 z ep
  obtain ⟨vs', sq', rs'⟩ := ls_sq hr1 z' ep'
  have hl : (zipD ds ds').length = min ds.length ds'.length := by unfold zipD; rw [List.length_map, List.length_zip]
  refine ⟨p, p', vs, vs', rfl, sq, sq', q _ H1 ι1 g hr1 ⟨fun i H' ι' h g hr e hi => ?_, fun i H' ι' h g hr e hi => ?_, fun i H' ι' h d y H2 g hr e hd yy => ?_⟩⟩
  · obtain ⟨vs, sq, rs⟩ := ls_sq hr e.1 (pre_get g.pre ep)
    obtain ⟨vs', sq', rs'⟩ := ls_sq hr e.2 (pre_get g.pre ep')
    have hi : i < min ds.length ds'.length := by rw [← hl]; exact hi
    obtain ⟨v, ev, _⟩ := rs.get (List.getElem?_eq_getElem (show i < ds.length by omega))
    obtain ⟨v', ev', _⟩ := rs'.get (List.getElem?_eq_getElem (show i < ds'.length by omega))
    exact ⟨vs, vs', v, v', sq, sq', ev, ev'⟩
  · obtain ⟨vs, sq, rs⟩ := ls_sq hr e.1 (pre_get g.pre ep)
    obtain ⟨vs', sq', rs'⟩ := ls_sq hr e.2 (pre_get g.pre ep')
    have hi : min ds.length ds'.length ≤ i := by rw [← hl]; exact Nat.le_of_eq hi.symm
    refine ⟨vs, vs', sq, sq', ?_⟩
    rw [rs.length, rs'.length]
    omega
  · obtain ⟨vs, sq, rs⟩ := ls_sq hr e.1 (pre_get g.pre ep)
    obtain ⟨vs', sq', rs'⟩ := ls_sq hr e.2 (pre_get g.pre ep')
    obtain ⟨T, x, x', rfl, hT, rfl, xx, xx'⟩ := yy
    have hi : i < min ds.length ds'.length := by have := (List.getElem?_eq_some_iff.mp hd).1; rwa [hl] at this
    obtain ⟨v, ev, rv⟩ := rs.get (List.getElem?_eq_getElem (show i < ds.length by omega))
    obtain ⟨v', ev', rv'⟩ := rs'.get (List.getElem?_eq_getElem (show i < ds'.length by omega))
    have e1 := xx vs sq
    have e2 := xx' vs' sq'
    rw [ev] at e1
    rw [ev'] at e2
    cases e1; cases e2
    unfold zipD at hd
    have ez : (ds.zip ds')[i]? = some (ds[i]'(by omega), ds'[i]'(by omega)) := List.getElem?_zip_eq_some.mpr ⟨List.getElem?_eq_getElem (show i < ds.length by omega), List.getElem?_eq_getElem (show i < ds'.length by omega)⟩
    rw [List.getElem?_map, ez] at hd
    cases hd
    exact pair_new hr hT rv rv'

/-! ### for -/
def wLoop (chk : Hh → Prop) (t : Tg) (w : WS) (B : DEnds) : List D → Sl → Hh → Prop
  | [], s, h => chk h ∧ B.nx s h
  | d :: ds, s, h => chk h ∧ ∃ s', asgD t d s = some s' ∧ w { nx := wLoop chk t w B ds, rt := B.rt, bk := B.nx, ct := wLoop chk t w B ds, ex := B.ex } s' h
theorem mono_loop {chk : Hh → Prop} {t : Tg} (m : MonoS w) (A B : DEnds) (l : A.Le B) : ∀ ds s h, wLoop chk t w A ds s h → wLoop chk t w B ds s h
  | [], s, h, ⟨k, q⟩ => ⟨k, l.nx s h q⟩
  | d :: ds, s, h, ⟨k, s', e, q⟩ => ⟨k, s', e, m { nx := wLoop chk t w A ds, rt := A.rt, bk := A.nx, ct := wLoop chk t w A ds, ex := A.ex } _ s' h ⟨mono_loop m A B l ds, l.rt, l.nx, mono_loop m A B l ds, l.ex⟩ q⟩
def wFor (wi : WI) (t : Tg) (w : WS) : WS := fun B s h => wi s h (fun p h1 => wLoop p.2 t w B p.1 s h1) (B.ex s)
theorem wLoop_chk {chk : Hh → Prop} {t : Tg} {B : DEnds} : ∀ {ds : List D} {s : Sl} {h : Hh}, wLoop chk t w B ds s h → chk h
  | [], _, _, q => q.1
  | _ :: _, _, _, q => q.1
theorem ds_for {tg iter : Expr} {body : List Stmt} {wi : WI} {t : Tg} (hp : PassesOwn (model X.prog X.w) X.A X.env X.xe) (hc : X.calm = true) (hi : DI X W tg iter wi) (hg : DG X tg t) (hb : DSs X W body w) (hs : ∀ x, foldedSetIterable iter X.env x = pure x := by intro _; rfl) : DS X W (.For tg iter body [] pos) (wFor wi t w) := by
  refine ⟨PS.imp (ps_for hp hc hi.pi hg.pg hb.ps hs) fun B σ H ⟨ι, h, s, hr, sr, q⟩ => ?_, fun A B s h l q => hi.mono s h _ _ _ _ (fun p h1 q => mono_loop hb.mono A B l p.1 s h1 q) (fun x h1 q => l.ex s x h1 q) q⟩
  refine ⟨ι, h, s, hr, sr, hi.mono s h _ _ _ _ (fun p h1 q J H1 ι1 g1 hr1 cf => ?_) (QD.exq sr) q⟩
  refine ⟨fun i m σ' H' => ∃ ι' h' s', i ≤ p.1.length ∧ m = p.1.length - i ∧ Gr X.K H1 H' ι1 ι' ∧ HRel X.K H' ι' X.mg h' ∧ SRel X.K H' ι' σ' s' ∧ wLoop p.2 t w (QD X W H ι B) (p.1.drop i) s' h', ⟨p.1.length, ι1, h1, s, Nat.zero_le _, rfl, .refl, hr1, sr.mono g1, q⟩, ?_⟩
  rintro i m σ2 H2 ⟨ι2, h2, s2, hi2, rfl, g2, hr2, sr2, q2⟩
  by_cases hlt : i < p.1.length
  · rw [List.drop_eq_getElem_cons hlt] at q2
    obtain ⟨hk, s3, e3, q3⟩ := q2
    refine .inr ⟨cf.go i H2 ι2 h2 g2 hr2 hk hlt, fun σ' H' => ∃ ι' h' s', i + 1 ≤ p.1.length ∧ Gr X.K H1 H' ι1 ι' ∧ HRel X.K H' ι' X.mg h' ∧ SRel X.K H' ι' σ' s' ∧ wLoop p.2 t w (QD X W H ι B) (p.1.drop (i + 1)) s' h',
      fun σ' H' ⟨ι', h', s', z1, z2, z3, z4, z5⟩ => ⟨p.1.length - (i + 1), by omega, ι', h', s', z1, rfl, z2, z3, z4, z5⟩, fun x H3 y => ?_⟩
    obtain ⟨g3, hr3, rx, _⟩ := cf.yld i H2 ι2 h2 _ x H3 g2 hr2 hk (List.getElem?_eq_getElem hlt) y
    have gg := (g1.trans g2).trans g3
    refine asg_ok rx (sr2.mono g3) e3 fun σ4 sr4 _ => ?_
    refine ⟨ι2, h2, s3, hr3, sr4, hb.mono _ _ s3 h2 ⟨fun s5 h5 q σ5 H5 ι5 g5 hr5 sr5 => ?_, fun d h5 q => QV.on (X := X) q gg, fun s5 h5 q σ5 H5 ι5 g5 hr5 sr5 => ?_, fun s5 h5 q σ5 H5 ι5 g5 hr5 sr5 => ?_, fun s5 x h5 q c d σ5 H5 ι5 g5 hr5 sr5 xr => ?_⟩ q3⟩
    · exact ⟨ι5, h5, s5, hlt, (g2.trans g3).trans g5, hr5, sr5, q⟩
    · exact q σ5 H5 ι5 (gg.trans g5) hr5 sr5
    · exact ⟨ι5, h5, s5, hlt, (g2.trans g3).trans g5, hr5, sr5, q⟩
    · exact q c d σ5 H5 ι5 (gg.trans g5) hr5 sr5 xr
  · have hd : p.1.drop i = [] := List.drop_eq_nil_of_le (by omega)
    rw [hd] at q2
    exact .inl ⟨cf.stop i H2 ι2 h2 g2 hr2 q2.1 (by omega), q2.2 σ2 H2 ι2 (g1.trans g2) hr2 sr2⟩

/-! ### list comprehensions -/
def wYes : WT := fun _ h Q _ => Q true h
theorem mono_yes : Mono wYes := fun s h Q Q' E E' hq _ q => hq _ _ q
structure DTs (X : Cx) (W : WX) (ifs : List Expr) (w : WT) : Prop where
  pts : PTs X ifs (LT X W w)
  mono : Mono w
theorem dts_nil : DTs X W [] wYes := ⟨⟨fun pins s σ H Q I ⟨ι, h, sl, hr, sr, q⟩ => pts_nil.run pins s σ H Q I (q H ι .refl hr)⟩, mono_yes⟩
theorem dts_one {wt : WT} (h : DT X W c wt) : DTs X W [c] wt := ⟨pts_one h.pt, h.mono⟩
abbrev W0 : WX := fun _ _ _ _ => False
def E0 : PX := fun _ _ => False
def wipeD (s : Sl) : List Nat → Sl
  | [] => s
  | v :: vs => (wipeD s vs).set v none
theorem SRel.wipe {K : PySem.W.Frag} {H : Hp} {ι : List Addr} {σ : St} {s : Sl} (sr : SRel K H ι σ s) : ∀ vs, SRel K H ι (wipe σ vs) (wipeD s vs)
  | [] => sr
  | v :: vs => by
    have h := sr.wipe vs
    unfold L2.wipe wipeD
    refine ⟨by rw [List.length_set, List.length_set]; exact h.1, fun j e hj => ?_⟩
    by_cases hi : v = j
    · subst hi
      by_cases hl : v < (wipeD s vs).length
      · rw [List.getElem?_set_self hl] at hj; cases hj
      · rw [List.getElem?_eq_none (by rw [List.length_set]; omega)] at hj; cases hj
    · rw [List.getElem?_set_ne hi] at hj ⊢
      exact h.2 j e hj
def wLcGo (L : Nat) (chk : Hh → Prop) (t : Tg) (wt : WT) (we : WE) (s : Sl) (Q : PV) : List D → Hh → Prop
  | [], h => chk h ∧ Q (.ref L) h
  | d :: ds, h => chk h ∧ ∃ s', asgD t d s = some s' ∧ wt s' h (fun c h1 => if c = true then we s' h1 (fun y h2 => ∃ acc, h2[L]? = some (.lst acc) ∧ acc.length < sizeLine ∧ wLcGo L chk t wt we s Q ds (h2.set L (.lst (acc ++ [y])))) E0 else wLcGo L chk t wt we s Q ds h1) E0
def wLc (wi : WI) (own : List Nat) (t : Tg) (wt : WT) (we : WE) : WE := fun s h Q E => wi s h (fun p h1 => wLcGo h1.length p.2 t wt we (wipeD s own) Q p.1 (h1 ++ [.lst []])) E
theorem mono_lcGo {L : Nat} {chk : Hh → Prop} {t : Tg} {wt : WT} {we : WE} (mt : Mono wt) (me : Mono we) {s : Sl} {Q Q' : PV} (hq : ∀ d h, Q d h → Q' d h) : ∀ ds h, wLcGo L chk t wt we s Q ds h → wLcGo L chk t wt we s Q' ds h
  | [], h, ⟨k, q⟩ => ⟨k, hq _ _ q⟩
  | d :: ds, h, ⟨k, s', e, q⟩ => ⟨k, s', e, mt s' h _ _ _ _ (fun c h1 q => by
    cases c with
    | true => exact me s' h1 _ _ _ _ (fun y h2 ⟨acc, z, l, q⟩ => ⟨acc, z, l, mono_lcGo mt me hq ds _ q⟩) (fun _ _ x => x) q
    | false => exact mono_lcGo mt me hq ds _ q) (fun _ _ x => x) q⟩
theorem mono_lc {wi : WI} {own : List Nat} {t : Tg} {wt : WT} {we : WE} (mi : Mono wi) (mt : Mono wt) (me : Mono we) : Mono (wLc wi own t wt we) := fun s h Q Q' E E' hq he q => mi s h _ _ _ _ (fun p h1 q => mono_lcGo mt me hq p.1 _ q) he q
theorem lc_red {wi : WI} {own : List Nat} {t : Tg} {wt : WT} {tg iter elt : Expr} {ifs : List Expr} {scope : Scope} (mi : Mono wi) (mt : Mono wt) (me : Mono we) (ho : ∀ i ∈ slotsT t, i ∈ own) {σ : St} {H : Hp} {Q : VK} (h : LE X W (wLc wi own t wt we) σ H Q) :
    tLc (LI X W wi) (gOf X.K t) (LT X W0 wt) (LE X W0 we) own σ H Q := by
  obtain ⟨ι, h, s, hr, sr, q⟩ := h
  refine ⟨ι, h, s, hr, sr, mi s h _ _ _ _ (fun p h1 q J H1 ι1 g1 hr1 cf L hL => ?_) (fun _ _ e => e) q⟩
  have gL : Gr X.K H1 (upd H1 L (.lst [])) ι1 (ι1 ++ [L]) := Gr.fresh hL _ (List.prefix_append _ _)
  have hrL : HRel X.K (upd H1 L (.lst [])) (ι1 ++ [L]) X.mg (h1 ++ [.lst []]) := hr1.push hL ⟨[], upd_same, rfl⟩
  have ix : (ι1 ++ [L])[h1.length]? = some L := by rw [← hr1.len, List.getElem?_append_right (Nat.le_refl _), Nat.sub_self]; rfl
  refine ⟨fun i m H' => ∃ ι' h', i ≤ p.1.length ∧ m = p.1.length - i ∧ Gr X.K (upd H1 L (.lst [])) H' (ι1 ++ [L]) ι' ∧ HRel X.K H' ι' X.mg h' ∧ wLcGo h1.length p.2 t wt we (wipeD s own) (QV X H ι Q) (p.1.drop i) h', ⟨p.1.length, ι1 ++ [L], h1 ++ [.lst []], Nat.zero_le _, rfl, .refl, hrL, by rw [List.drop_zero]; exact q⟩, ?_⟩
  rintro i m H2 ⟨ι2, h2, hi2, rfl, g2, hr2, q2⟩
  have gg := g1.trans (gL.trans g2)
  by_cases hlt : i < p.1.length
  · rw [List.drop_eq_getElem_cons hlt] at q2
    obtain ⟨hk, s3, e3, q3⟩ := q2
    refine .inr ⟨cf.go i H2 ι2 h2 (gL.trans g2) hr2 hk hlt, fun H' => ∃ ι' h', i + 1 ≤ p.1.length ∧ Gr X.K (upd H1 L (.lst [])) H' (ι1 ++ [L]) ι' ∧ HRel X.K H' ι' X.mg h' ∧ wLcGo h1.length p.2 t wt we (wipeD s own) (QV X H ι Q) (p.1.drop (i + 1)) h',
      fun H' ⟨ι', h', z1, z2, z3, z4⟩ => ⟨p.1.length - (i + 1), by omega, ι', h', z1, rfl, z2, z3, z4⟩, fun x H3 y => ?_⟩
    obtain ⟨g3, hr3, rx, _⟩ := cf.yld i H2 ι2 h2 _ x H3 (gL.trans g2) hr2 hk (List.getElem?_eq_getElem hlt) y
    refine asg_ok rx ((sr.mono (gg.trans g3)).wipe own) e3 fun σ4 sr4 w4 => ⟨?_, ?_⟩
    · rw [w4 own ho]
      apply List.ext_getElem?
      intro j
      by_cases hj : j ∈ own
      · rw [wipe_in hj, wipe_in hj, wipe_length]
      · rw [wipe_out hj, wipe_out hj]
    · refine ⟨ι2, h2, s3, hr3, sr4, mt s3 h2 _ _ _ _ (fun c h4 q H4 ι4 g4 hr4 => ?_) (fun x h' z => z.elim) q3⟩
      cases c with
      | true =>
        refine ⟨ι4, h4, s3, hr4, sr4.mono g4, me s3 h4 _ _ _ _ (fun y h5 ⟨acc, z, l, q⟩ u H5 ι5 g5 hr5 ry => ?_) (fun x h' z => z.elim) q⟩
        have ix5 : ι5[h1.length]? = some L := pre_get ((g2.trans g3).trans (g4.trans g5)).pre ix
        obtain ⟨vs, q1, rs⟩ := hr5.obj _ _ _ z ix5
        obtain ⟨w0, ew, w1, w2⟩ := (hr5.obj _ _ _ z ix5).there
        have g6 : Gr X.K H5 (upd H5 L (.lst (vs ++ [u]))) ι5 ι5 := Gr.write ew w1 w2
        obtain ⟨_, hr6⟩ := hr5.write (u := .lst (vs ++ [u])) (o' := .lst (acc ++ [y])) z ix5 ⟨_, upd_same, (rs.append (es := [y]) (us := [u]) ⟨u, [], rfl, ry, rfl⟩).mono g6⟩
        exact ⟨vs, q1, by rw [rs.length]; exact l, ι5, _, hlt, ((g2.trans g3).trans (g4.trans g5)).trans g6, hr6, q⟩
      | false => exact ⟨ι4, h4, hlt, (g2.trans g3).trans g4, hr4, q⟩
  · have hd : p.1.drop i = [] := List.drop_eq_nil_of_le (by omega)
    rw [hd] at q2
    refine .inl ⟨cf.stop i H2 ι2 h2 (gL.trans g2) hr2 q2.1 (by omega), q2.2 (.ref L) H2 ι2 gg hr2 ⟨L, pre_get g2.pre ix, rfl⟩⟩
theorem de_lc {elt tg iter : Expr} {ifs : List Expr} {scope : Scope} {own : List (Str × Nat)} {wi : WI} {t : Tg} {wt : WT} (hc : X.calm = true) (hN : X.N.Nodup) (hi : DI X W tg iter wi) (ok : BlkOk X.N X.env.scope scope own)
    (hg : ∀ (s : Shared) (H : Hp) (C : Addr) (cl : List (Str × Addr)) (fp : List Addr), DG (X.blk s H scope (compEnvC scope cl C X.env) fp) tg t) (ht : ∀ (s : Shared) (H : Hp) (C : Addr) (cl : List (Str × Addr)) (fp : List Addr), DTs (X.blk s H scope (compEnvC scope cl C X.env) fp) W0 ifs wt)
    (he : ∀ (s : Shared) (H : Hp) (C : Addr) (cl : List (Str × Addr)) (fp : List Addr), DE (X.blk s H scope (compEnvC scope cl C X.env) fp) W0 elt we) (ho : ∀ i ∈ slotsT t, i ∈ own.map (·.2) := by decide) (hs : ∀ x, foldedSetIterable iter X.env x = pure x := by intro _; rfl) :
    DE X W (.ListComp elt [⟨tg, iter, ifs, 0⟩] scope pos) (wLc wi (own.map (·.2)) t wt we) := by
  have mt : Mono wt := (ht ({} : Shared) (fun _ => none) 0 [] []).mono
  have me : Mono we := (he ({} : Shared) (fun _ => none) 0 [] []).mono
  refine ⟨PE.imp (pe_lc (g := gOf X.K t) (tt := LT X W0 wt) (te := LE X W0 we) hc hN hi.pi ok (fun s H C cl fp => (hg s H C cl fp).pg) (fun s H C cl fp => (ht s H C cl fp).pts) (fun s H C cl fp => (he s H C cl fp).pe) hs) fun σ H Q h => ?_, mono_lc hi.mono mt me⟩
  exact lc_red (tg := tg) (iter := iter) (elt := elt) (ifs := ifs) (scope := scope) hi.mono mt me ho h
theorem ds_setLc (i : Nat) {y : Str} {py : Pos} {elt tg iter : Expr} {ifs : List Expr} {scope : Scope} {own : List (Str × Nat)} {spos : Pos} {wi : WI} {t : Tg} {wt : WT} (hc : X.calm = true) (hN : X.N.Nodup) (hsw : swapsWith (.ListComp elt [⟨tg, iter, ifs, 0⟩] scope pos) (some (.Name y py)) spos.line X.env = pure true) (hi : DI X W tg iter wi) (ok : BlkOk X.N X.env.scope scope own)
    (hg : ∀ (s : Shared) (H : Hp) (C : Addr) (cl : List (Str × Addr)) (fp : List Addr), DG (X.blk s H scope (compEnvC scope cl C X.env) fp) tg t) (ht : ∀ (s : Shared) (H : Hp) (C : Addr) (cl : List (Str × Addr)) (fp : List Addr), DTs (X.blk s H scope (compEnvC scope cl C X.env) fp) W0 ifs wt)
    (he : ∀ (s : Shared) (H : Hp) (C : Addr) (cl : List (Str × Addr)) (fp : List Addr), DE (X.blk s H scope (compEnvC scope cl C X.env) fp) W0 elt we) (hy : X.N[i]? = some y := by rfl) (hyl : X.env.scope.names.lookup y = some .local := by rfl) (ho : ∀ i ∈ slotsT t, i ∈ own.map (·.2) := by decide) (hs : ∀ x, foldedSetIterable iter X.env x = pure x := by intro _; rfl) :
    DS X W (.Assign [.Name y py] (.ListComp elt [⟨tg, iter, ifs, 0⟩] scope pos) spos) (wAsg (.nm i) (wLc wi (own.map (·.2)) t wt we)) := by
  have mt : Mono wt := (ht ({} : Shared) (fun _ => none) 0 [] []).mono
  have me : Mono we := (he ({} : Shared) (fun _ => none) 0 [] []).mono
  refine ⟨PS.imp (ps_setLc (g := gOf X.K t) (tt := LT X W0 wt) (te := LE X W0 we) hc hN hy hyl hsw hi.pi ok (fun s H C cl fp => (hg s H C cl fp).pg) (fun s H C cl fp => (ht s H C cl fp).pts) (fun s H C cl fp => (he s H C cl fp).pe) hs) fun B σ H h => ?_, mono_asg (mono_lc hi.mono mt me)⟩
  have h := ls_asg (mono_lc hi.mono mt me) h
  simp only [gOf] at h
  exact lc_red (tg := tg) (iter := iter) (elt := elt) (ifs := ifs) (scope := scope) hi.mono mt me ho h
end
end EV

namespace EV
open PySem PySem.Spec PyProof.Rows L2

section
variable {X : Cx} {W : WX} {pos : Pos} {a b c e : Expr} {wa wb wc we : WE} {st : Stmt} {rest : List Stmt} {w v : WS}

/-! ### isinstance -/
def tyD (h : Hh) : D → Option String
  | .non => some "NoneType"
  | .bl _ => some "bool"
  | .int _ => some "int"
  | .str _ => some "str"
  | .tup _ => some "tuple"
  | .ref n => match h[n]? with
    | some (.lst _) => some "list"
    | some (.rol _) => some "list"
    | some (.dic _) => some "dict"
    | _ => none
  | .opq _ => none
theorem tyX_of {H : Hp} {ι : List Addr} {h : Hh} {d : D} {x : V} {T : String} (hr : HRel X.K H ι X.mg h) (rd : RelD X.K H ι d x) (e : tyD h d = some T) : TyX X.K H x (.type T) := by
  cases d with
  | non => cases rd; cases e; exact .base .non
  | bl _ => cases rd; cases e; exact .base (.bl _)
  | int _ => cases rd; cases e; exact .base (.int _)
  | str _ => cases rd; cases e; exact .base (.str _)
  | tup ds =>
    obtain ⟨p, vs, rfl, sq, _⟩ := rd
    cases e
    rcases sq with (q | ⟨o, q⟩) | ⟨o, its, n, k, c, _⟩
    · exact .base (.tup q)
    · exact .fTuple q
    · exact .kTuple k c
  | ref n =>
    obtain ⟨p, ep, rfl⟩ := rd
    simp only [tyD] at e
    split at e
    · rename_i z; cases e; obtain ⟨vs, q, _⟩ := hr.obj _ _ _ z ep; exact .base (.lst q)
    · rename_i z; cases e
      obtain ⟨vs, ⟨o, q⟩ | ⟨o, its, n, k, c, _⟩, _⟩ := hr.obj _ _ _ z ep
      · exact .base (.frz q)
      · exact .kList k c
    · rename_i z; cases e; obtain ⟨vs, q, _⟩ := hr.obj _ _ _ z ep; exact .base (.dK q)
    · cases e
  | opq v => cases e
def gIsi (T : String) (us : List String) : GA := fun ds h => match ds with
  | [d, .opq (.ty U)] => if us.isEmpty && U == T then (match tyD h d with | some t => (match kitB t U with | some b => some (.bl b, h) | none => none) | none => none) else none
  | _ => none
/-- one built-in class -/
def gIsi1 : GA
  | [d, .opq (.ty U)], h => match tyD h d with | some t => (match kitB t U with | some b => some (.bl b, h) | none => none) | none => none
  | _, _ => none
theorem ok_isi1 : CallOk X (.builtin "isinstance") gIsi1 := by
  intro ι h ds r h' xs H Q hr rd eg q
  unfold gIsi1 at eg
  split at eg
  · rename_i d U
    split at eg
    · rename_i t et
      split at eg
      · rename_i b eb
        simp only [Option.some.injEq, Prod.mk.injEq] at eg
        obtain ⟨rfl, rfl⟩ := eg
        obtain ⟨x, u, rfl, r1, y, u2, rfl, r2, rn⟩ := rd
        rw [show u2 = [] from rn]
        cases r2
        exact ⟨_, call_isi, x, .ty U, .type t, .type U, b, rfl, .ty U, tyX_of hr r1 et, kit_ty eb, qv_same hr q rfl⟩
      · cases eg
    · cases eg
  · cases eg
/-- a tuple of built-in classes -/
theorem call_isiS : CallR X (.builtin "isinstance") (fun xs H Q => ∃ (x : V) (tp : Addr) (cs : List V) (t : Value) (us : List Value) (b : Bool), xs = [x, .ref tp] ∧ SqT X.K H tp cs ∧ Paired ClsV cs us ∧ TyX X.K H x t ∧ PySem.W.kitAny X.K t us = some b ∧ Q (.bl b) H) := by
  intro pins s σ H xs us Q I r h
  obtain ⟨x, tp, cs, t, ws, b, rfl, sq, k, ty, ek, q⟩ := h
  cases r with
  | cons r1 rr =>
    cases rr with
    | cons r2 rr =>
      cases rr
      cases r2
      obtain ⟨P, Z, p, hx⟩ := kit_of I r1 ty
      obtain ⟨its, rv, ⟨ob, g1, g2, n, g3⟩, _⟩ := I.tuple sq
      have e3 := ClsV.all k rv
      subst e3
      obtain ⟨oc, od, dt, sl⟩ := ob
      dsimp only at g2 g3
      subst g2
      subst g3
      refine PySem.W.kia_tup Z I.kIn p g1 ek hx fun tk => ?_
      exact ⟨.bl b, H, I.tok tk, rfl, q⟩
def tysOf : List D → Option (List String)
  | [] => some []
  | .opq (.ty U) :: ds => match tysOf ds with | some us => some (U :: us) | none => none
  | _ :: _ => none
def kitBs (t : String) : List String → Option Bool
  | [] => some false
  | u :: us => match kitB t u with
    | some true => some true
    | some false => kitBs t us
    | none => none
theorem kitBs_of {K : PySem.W.Frag} {t : String} : ∀ {us : List String} {b : Bool}, kitBs t us = some b → PySem.W.kitAny K (.type t) (us.map Value.type) = some b
  | [], b, e => by cases e; rfl
  | u :: us, b, e => by
    simp only [kitBs] at e
    rw [List.map_cons]
    unfold PySem.W.kitAny
    cases z : kitB t u with
    | none => rw [z] at e; cases e
    | some c =>
      rw [z] at e
      rw [kit_ty z]
      cases c with
      | true => cases e; rfl
      | false => exact kitBs_of e
theorem tys_rel {K : PySem.W.Frag} {H : Hp} {ι : List Addr} : ∀ {ds : List D} {vs : List V} {us : List String}, RelDs K H ι ds vs → tysOf ds = some us → Paired ClsV vs (us.map Value.type)
  | [], _, _, r, e => by
    rw [show _ = _ from r]
    cases e
    exact .nil
  | d :: ds, _, us, r, e => by
    obtain ⟨v, u, rfl, r1, r2⟩ := r
    cases d with
    | opq x =>
      cases x with
      | ty U =>
        simp only [tysOf] at e
        cases z : tysOf ds with
        | none => rw [z] at e; cases e
        | some cs =>
          rw [z] at e
          cases e
          cases r1
          exact .cons (.ty U) (tys_rel r2 z)
      | _ => cases e
    | _ => cases e
def gIsiT : GA
  | [d, .tup cs], h => match tyD h d, tysOf cs with
    | some t, some us => (match kitBs t us with | some b => some (.bl b, h) | none => none)
    | _, _ => none
  | _, _ => none
theorem ok_isiT : CallOk X (.builtin "isinstance") gIsiT := by
  intro ι h ds r h' xs H Q hr rd eg q
  unfold gIsiT at eg
  split at eg
  · rename_i d cs
    split at eg
    · rename_i t us et eu
      split at eg
      · rename_i b eb
        simp only [Option.some.injEq, Prod.mk.injEq] at eg
        obtain ⟨rfl, rfl⟩ := eg
        obtain ⟨x, u, rfl, r1, y, u2, rfl, ⟨p, vs, rfl, sq, rs⟩, rn⟩ := rd
        rw [show u2 = [] from rn]
        exact ⟨_, call_isiS, x, p, vs, .type t, us.map Value.type, b, rfl, sq, tys_rel rs eu, tyX_of hr r1 et, kitBs_of eb, qv_same hr q rfl⟩
      · cases eg
    · cases eg
  · cases eg
def gIsinst : GA := orA gIsi1 gIsiT
theorem ok_isinst : CallOk X (.builtin "isinstance") gIsinst := ok_isi1.or ok_isiT
/-- a built-in class by its name, as a value -/
theorem de_ty {x : Str} {T : String} {pos : Pos} (hm : X.mg x = none) (hv : bootBuiltins x = some (.type T)) (hg : Gl X x := by rfl) (hn : x ≠ "__name__" := by decide) (hd : (x == ("__debug__" : Str)) = false := by decide) : DE X W (.Name x pos) (wC (.opq (.ty T))) :=
  de_c (pe_bltn (v := .ty T) hg hm hv rfl hn hd) fun _ _ => rfl

/-! ### dicts with int and text keys -/
def keyOf : D → Option Key
  | .int i => some (.inl i)
  | .str x => some (.inr x)
  | _ => none
def valD (kvs : List (Key × D)) (k : Key) : Option D := (kvs.find? fun kv => decide (kv.1 = k)).map (·.2)
def putKD (kvs : List (Key × D)) (k : Key) (d : D) : List (Key × D) := if (kvs.any fun kv => decide (kv.1 = k)) = true then kvs.map (fun kv => if kv.1 = k then (kv.1, d) else kv) else kvs ++ [(k, d)]
def dcOf (h : Hh) (n : Nat) : Option (List (Key × D)) := match h[n]? with | some (.dic kvs) => some kvs | some (.lck kvs) => some kvs | _ => none
theorem key_rel {K : PySem.W.Frag} {H : Hp} {ι : List Addr} {d : D} {v : V} {k : Key} (r : RelD K H ι d v) (e : keyOf d = some k) : v = kV k := by
  cases d <;> first
    | (cases e; cases r; rfl)
    | cases e
theorem val_rel {K : PySem.W.Frag} {H : Hp} {ι : List Addr} {k : Key} : ∀ {kvs : List (Key × D)} {vs : List (Key × V)}, RelKs K H ι kvs vs → match valD kvs k with | some d => ∃ v, valV vs k = some v ∧ RelD K H ι d v | none => valV vs k = none
  | [], _, r => by rw [show _ = _ from r]; rfl
  | (k', d) :: kvs, _, r => by
    obtain ⟨v, u, rfl, r1, r2⟩ := r
    have ih := val_rel (k := k) r2
    unfold valD at ih ⊢
    by_cases e : k' = k
    · rw [List.find?_cons_of_pos (by simpa using e), valV_pos e]
      exact ⟨v, rfl, r1⟩
    · rw [List.find?_cons_of_neg (by simpa using e), valV_neg e]
      exact ih
theorem dc_rd {H : Hp} {ι : List Addr} {h : Hh} {n : Nat} {kvs : List (Key × D)} {p : Addr} (hr : HRel X.K H ι X.mg h) (e : dcOf h n = some kvs) (ep : ι[n]? = some p) : ∃ vs, Rd H p (.dK vs) ∧ RelKs X.K H ι kvs vs := by
  unfold dcOf at e
  split at e
  · rename_i z; cases e; obtain ⟨vs, q, r⟩ := hr.obj _ _ _ z ep; exact ⟨vs, .inl q, r⟩
  · rename_i z; cases e; obtain ⟨o, vs, q, r⟩ := hr.obj _ _ _ z ep; exact ⟨vs, .inr ⟨o, q⟩, r⟩
  · cases e
/-- d[k] -/
def gDGet : G2
  | .ref n, k, h => match dcOf h n, keyOf k with
    | some kvs, some kk => (match valD kvs kk with | some d => some (d, h) | none => none)
    | _, _ => none
  | _, _, _ => none
theorem de_dget (hu : X.A.units + 1 < cLine) (ha : DE X W a wa) (hb : DE X W b wb) (hs : NoSl b := by intro _ _; rfl) : DE X W (.Subscript a b pos) (wOp gDGet wa wb) := by
  refine ⟨PE.imp (pe_dget hu ha.pe hb.pe hs) fun σ H Q ⟨ι, h, s, hr, sr, q⟩ => ?_, mono_op ha.mono hb.mono⟩
  refine ⟨ι, h, s, hr, sr, ha.mono s h _ _ _ _ (fun d h1 q v H1 ι1 g1 hr1 rd => ?_) (fun _ _ e => e) q⟩
  refine ⟨ι1, h1, s, hr1, sr.mono g1, hb.mono s h1 _ _ _ _ (fun k h2 q u H2 ι2 g2 hr2 rk => ?_) (fun x h' q' => QX.on q' g1) q⟩
  obtain ⟨r, h', eg, q⟩ := q
  unfold gDGet at eg
  split at eg
  · rename_i n
    obtain ⟨p, ep, rfl⟩ := rd.mono g2.toGrW
    split at eg
    · rename_i kvs kk e1 e2
      have vr := fun vs (r : RelKs X.K H2 ι2 kvs vs) => val_rel (k := kk) r
      split at eg
      · rename_i dd ed
        simp only [Option.some.injEq, Prod.mk.injEq] at eg
        obtain ⟨rfl, rfl⟩ := eg
        obtain ⟨vs, rd', rs⟩ := dc_rd hr2 e1 ep
        have := vr vs rs
        rw [ed] at this
        obtain ⟨v, ev, rv⟩ := this
        exact ⟨p, v, rfl, .inl ⟨vs, kk, rd', key_rel rk e2, ev.symm⟩, q v H2 ι2 (g1.trans g2) hr2 rv⟩
      · cases eg
    · cases eg
  · cases eg
/-- k in d -/
def gDIn (neg : Bool) : G2
  | k, .ref n, h => match dcOf h n, keyOf k with
    | some kvs, some kk => some (.bl ((valD kvs kk).isSome ^^ neg), h)
    | _, _ => none
  | _, _, _ => none
theorem din_rel {H : Hp} {ι : List Addr} {h : Hh} {neg : Bool} {k d r : D} {h' : Hh} {x y : V} (hr : HRel X.K H ι X.mg h) (rk : RelD X.K H ι k x) (rd : RelD X.K H ι d y) (eg : gDIn neg k d h = some (r, h')) : ∃ p o, y = .ref p ∧ DGet H p x o ∧ r = .bl (o.isSome ^^ neg) ∧ h' = h := by
  unfold gDIn at eg
  split at eg
  · rename_i n
    obtain ⟨p, ep, rfl⟩ := rd
    split at eg
    · rename_i kvs kk e1 e2
      simp only [Option.some.injEq, Prod.mk.injEq] at eg
      obtain ⟨rfl, rfl⟩ := eg
      obtain ⟨vs, rd', rs⟩ := dc_rd hr e1 ep
      refine ⟨p, valV vs kk, rfl, .inl ⟨vs, kk, rd', key_rel rk e2, rfl⟩, ?_, rfl⟩
      have := val_rel (k := kk) rs
      cases z : valD kvs kk with
      | none => rw [z] at this; rw [this]; rfl
      | some d => rw [z] at this; obtain ⟨v, ev, _⟩ := this; rw [ev]; rfl
    · cases eg
  · cases eg
theorem le_din {neg : Bool} (ma : Mono wa) (mb : Mono wb) {σ : St} {H : Hp} {Q : VK} (q : LE X W (wOp (gDIn neg) wa wb) σ H Q) : LE X W wa σ H fun y H1 => LE X W wb σ H1 fun x H2 => ∃ a o, x = V.ref a ∧ DGet H2 a y o ∧ Q (.bl (o.isSome ^^ neg)) H2 := by
  obtain ⟨ι, h, s, hr, sr, q⟩ := q
  refine ⟨ι, h, s, hr, sr, ma s h _ _ _ _ (fun d h1 q v H1 ι1 g1 hr1 rd => ?_) (fun _ _ e => e) q⟩
  refine ⟨ι1, h1, s, hr1, sr.mono g1, mb s h1 _ _ _ _ (fun k h2 ⟨r, h', eg, q⟩ u H2 ι2 g2 hr2 rk => ?_) (fun x h' q' => QX.on q' g1) q⟩
  obtain ⟨p, o, ey, dg, rfl, rfl⟩ := din_rel hr2 (rd.mono g2) rk eg
  exact ⟨p, o, ey, dg, q _ H2 ι2 (g1.trans g2) hr2 rfl⟩
theorem de_din (hu : X.A.units + 1 < cLine) (ha : DE X W a wa) (hb : DE X W b wb) (hm : behindInMarks .In b = false := by first | rfl | with_unfolding_all rfl) : DE X W (.Compare a [.In] [b] pos) (wOp (gDIn false) wa wb) :=
  ⟨PE.imp (pe_cmp (pc_din hu ha.pe hb.pe) hm) fun σ H Q q => by have := le_din ha.mono hb.mono q; simp only [Bool.xor_false] at this; exact this, mono_op ha.mono hb.mono⟩
theorem dt_din (hu : X.A.units + 1 < cLine) (ha : DE X W a wa) (hb : DE X W b wb) (hm : behindInMarks .In b = false := by first | rfl | with_unfolding_all rfl) : DT X W (.Compare a [.In] [b] pos) (wB (wOp (gDIn false) wa wb)) :=
  ⟨PT.imp (pt_cmp (pc_din hu ha.pe hb.pe) hm) fun σ H Q q => by have := le_din ha.mono hb.mono (LT.bool (mono_op ha.mono hb.mono) q); simp only [Bool.xor_false] at this; exact this, mono_b (mono_op ha.mono hb.mono)⟩
theorem dt_dnotin (hu : X.A.units + 1 < cLine) (ha : DE X W a wa) (hb : DE X W b wb) (hm : behindInMarks .NotIn b = false := by first | rfl | with_unfolding_all rfl) : DT X W (.Compare a [.NotIn] [b] pos) (wB (wOp (gDIn true) wa wb)) :=
  ⟨PT.imp (pt_cmp (pc_dnotin hu ha.pe hb.pe) hm) fun σ H Q q => by have := le_din ha.mono hb.mono (LT.bool (mono_op ha.mono hb.mono) q); simp only [Bool.xor_true] at this; exact this, mono_b (mono_op ha.mono hb.mono)⟩
/-- d[k] = v -/
def wSetD (wo wi wv : WE) : WS := fun B s h => wv s h (fun d h1 => wo s h1 (fun o h2 => wi s h2 (fun i h3 => ∃ n kvs k, o = .ref n ∧ keyOf i = some k ∧ h3[n]? = some (.dic kvs) ∧ kvs.length < sizeLine ∧ B.nx s (h3.set n (.dic (putKD kvs k d)))) (B.ex s)) (B.ex s)) (B.ex s)
theorem any_rel {K : PySem.W.Frag} {H : Hp} {ι : List Addr} {k : Key} : ∀ {kvs : List (Key × D)} {vs : List (Key × V)}, RelKs K H ι kvs vs → (vs.any fun kv => decide (kv.1 = k)) = kvs.any fun kv => decide (kv.1 = k)
  | [], _, r => by rw [show _ = _ from r]; rfl
  | (k', d) :: kvs, _, r => by
    obtain ⟨v, u, rfl, r1, r2⟩ := r
    rw [List.any_cons, List.any_cons, any_rel r2]
theorem RelKs.append {κ : Type} {K : PySem.W.Frag} {H : Hp} {ι : List Addr} : ∀ {as bs : List (κ × D)} {vs us : List (κ × V)}, RelKs K H ι as vs → RelKs K H ι bs us → RelKs K H ι (as ++ bs) (vs ++ us)
  | [], _, _, _, h, h' => by rw [show _ = _ from h]; exact h'
  | _ :: _, _, _, _, h, h' => by
    obtain ⟨v, r, rfl, h1, h2⟩ := h
    exact ⟨v, _, rfl, h1, h2.append h'⟩
theorem map_rel {K : PySem.W.Frag} {H : Hp} {ι : List Addr} {k : Key} {d : D} {v : V} (rv : RelD K H ι d v) : ∀ {kvs : List (Key × D)} {vs : List (Key × V)}, RelKs K H ι kvs vs → RelKs K H ι (kvs.map fun kv => if kv.1 = k then (kv.1, d) else kv) (vs.map fun kv => if kv.1 = k then (kv.1, v) else kv)
  | [], _, r => by rw [show _ = _ from r]; rfl
  | (k', d') :: kvs, _, r => by
    obtain ⟨v', u, rfl, r1, r2⟩ := r
    rw [List.map_cons, List.map_cons]
    by_cases e : k' = k
    · simp only [e, if_true]
      exact ⟨v, _, rfl, rv, map_rel rv r2⟩
    · simp only [e, if_false]
      exact ⟨v', _, rfl, r1, map_rel rv r2⟩
theorem put_rel {K : PySem.W.Frag} {H : Hp} {ι : List Addr} {k : Key} {d : D} {v : V} {kvs : List (Key × D)} {vs : List (Key × V)} (rv : RelD K H ι d v) (r : RelKs K H ι kvs vs) : RelKs K H ι (putKD kvs k d) (putK vs k v) := by
  unfold putKD putK
  rw [any_rel r]
  split
  · exact map_rel rv r
  · exact r.append (bs := [(k, d)]) (us := [(k, v)]) ⟨v, [], rfl, rv, rfl⟩
theorem ds_dput {o i value : Expr} {wo wi wv : WE} {pos' : Pos} (hu : X.A.units + 1 < cLine) (ho : DE X W o wo) (hi : DE X W i wi) (hv : DE X W value wv) (hs : swapsWith value (some (.Subscript o i pos')) pos.line X.env = pure false := by rfl) : DS X W (.Assign [.Subscript o i pos'] value pos) (wSetD wo wi wv) := by
  refine ⟨PS.imp (ps_dput hu ho.pe hi.pe hv.pe hs) fun B σ H ⟨ι, h, s, hr, sr, q⟩ => ?_, fun A B s h l q => hv.mono s h _ _ _ _ (fun d h1 q => ho.mono s h1 _ _ _ _ (fun o h2 q => hi.mono s h2 _ _ _ _ (fun i h3 ⟨n, kvs, k, e1, e2, z, y, q⟩ => ⟨n, kvs, k, e1, e2, z, y, l.nx _ _ q⟩) (fun x h q => l.ex s x h q) q) (fun x h q => l.ex s x h q) q) (fun x h q => l.ex s x h q) q⟩
  refine ⟨ι, h, s, hr, sr, hv.mono s h _ _ _ _ (fun d h1 q v H1 ι1 g1 hr1 rd => ?_) (QD.exq sr) q⟩
  refine ⟨ι1, h1, s, hr1, sr.mono g1, ho.mono s h1 _ _ _ _ (fun o h2 q u H2 ι2 g2 hr2 ro => ?_) (fun x h' q' => QX.on (QD.exq sr x h' q') g1) q⟩
  refine ⟨ι2, h2, s, hr2, sr.mono (g1.trans g2), hi.mono s h2 _ _ _ _ (fun i h3 ⟨n, kvs, k, e1, e2, z, y, qq⟩ u' H3 ι3 g3 hr3 ri => ?_) (fun x h' q' => QX.on (QD.exq sr x h' q') (g1.trans g2)) q⟩
  subst e1
  obtain ⟨p, ep, rfl⟩ := ro
  have ep3 := pre_get g3.pre ep
  obtain ⟨vs, q1, rs⟩ := hr3.obj _ _ _ z ep3
  obtain ⟨w0, ew, w1, w2⟩ := (hr3.obj _ _ _ z ep3).there
  have g : Gr X.K H3 (upd H3 p (.dK (putK vs k v))) ι3 ι3 := Gr.write ew w1 w2
  obtain ⟨_, hr4⟩ := hr3.write (u := .dK (putK vs k v)) (o' := .dic (putKD kvs k d)) z ep3 ⟨_, upd_same, (put_rel (rd.mono (g2.trans g3)) rs).mono g⟩
  exact ⟨p, _, rfl, .inl ⟨vs, k, q1, key_rel ri e2, by rw [rs.length]; exact y, rfl⟩, qq σ _ ι3 (((g1.trans g2).trans g3).trans g) hr4 (sr.mono (((g1.trans g2).trans g3).trans g))⟩
/-- {} -/
def wDNew : WE := fun _ h Q _ => Q (.ref h.length) (h ++ [.dic []])
theorem dic_new {H : Hp} {ι : List Addr} {h : Hh} {kvs : List (Key × D)} {vs : List (Key × V)} {Q : VK} (hr : HRel X.K H ι X.mg h) (rs : RelKs X.K H ι kvs vs) (q : QV X H ι Q (.ref h.length) (h ++ [.dic kvs])) (p : Addr) (hp : H p = none) : Q (.ref p) (upd H p (.dK vs)) := by
  have g : Gr X.K H (upd H p (.dK vs)) ι (ι ++ [p]) := Gr.fresh hp _ (List.prefix_append _ _)
  refine q _ _ (ι ++ [p]) g (hr.push hp ⟨vs, upd_same, rs.mono g⟩) ⟨p, ?_, rfl⟩
  rw [← hr.len, List.getElem?_append_right (Nat.le_refl _), Nat.sub_self]
  rfl
theorem de_dnew : DE X W (.Dict [] [] pos) wDNew := ⟨PE.imp pe_dnewK fun σ H Q ⟨ι, h, s, hr, sr, q⟩ p hp => dic_new (kvs := []) (vs := []) hr rfl q p hp, fun s h Q Q' E E' hq _ q => hq _ _ q⟩

/-! ### a def by its body -/
theorem start_rel {K : PySem.W.Frag} {H : Hp} {ι : List Addr} {N : List Str} {ds : List D} {vs : List V} (r : RelDs K H ι ds vs) : SRel K H ι (L2.start N vs) (ds.map some ++ List.replicate (N.length - ds.length) none) := by
  unfold L2.start
  refine ⟨by rw [List.length_append, List.length_append, List.length_map, List.length_map, List.length_replicate, List.length_replicate, r.length], fun i d hd => ?_⟩
  by_cases hi : i < ds.length
  · rw [List.getElem?_append_left (by rw [List.length_map]; exact hi), List.getElem?_map] at hd
    cases z : ds[i]? with
    | none => rw [z] at hd; cases hd
    | some d' =>
      rw [z] at hd
      cases hd
      obtain ⟨v, ev, rv⟩ := r.get z
      exact ⟨v, by rw [List.getElem?_append_left (by rw [List.length_map, r.length]; exact hi), List.getElem?_map, ev]; rfl, rv⟩
  · rw [List.getElem?_append_right (by rw [List.length_map]; omega), List.getElem?_replicate] at hd
    split at hd <;> cases hd
/-- the slots at a def's entry -/
def slots0 (N : List Str) (ds : List D) : Sl := ds.map some ++ List.replicate (N.length - ds.length) none
/-- what a def's body is to reach -/
def endsOf (post : PV) (xp : PX) : DEnds := { nx := fun _ h => post .non h, rt := post, ex := fun _ => xp }
theorem fn_ok {P : Program} {w : World} {K : PySem.W.Frag} {mg : Str → Option Value} {base : Heap} {x qual : Str} {st : Stmt} {f : Addr} {fd : FuncData} {N ps : List Str} {k : Nat} {pre : List D → Hh → Prop} {post : List D → Hh → D → Hh → Prop} {xp : List D → Hh → XD → Hh → Prop} {wb : WS}
    (F : Fun K x qual st f fd) (S : FnScope N ps (defScope st)) (len : ∀ ds h, pre ds h → ds.length = ps.length) (hw : ∀ ds h, pre ds h → wb (endsOf (post ds h) (xp ds h)) (slots0 N ds) h)
    (hb : ∀ (X : Cx) (E : XK), X.prog = P → X.w = w → X.K = K → X.mg = mg → X.base = base → X.N = N → X.env.scope = defScope st → X.fn = (fun _ => true) → X.calm = true → Room k X.A → Takes X (nS E) → PassesOwn (model X.prog X.w) X.A X.env X.xe → DSs X (nS E) (defBody st) wb) :
    FnOk P w K mg base (L2.CX P w) (k + 1) f fd ps (LSp K mg (spOf pre post xp)) := by
  refine F.okX S (fun vs H Q E ⟨ι, h, ds, hr, rs, pr, _⟩ => by rw [rs.length]; exact len ds h pr) (fun cdv A outer s H vs Q E hr hsp => ?_)
  obtain ⟨ι, h, ds, hrel, rs, pr, q1, q2⟩ := hsp
  have D := hb (cxOf (L2.CX P w) P w K mg base N qual (defScope st) f cdv A outer s H E) E rfl rfl rfl rfl rfl rfl rfl rfl rfl hr (takes_of rfl rfl rfl rfl) (passes_of rfl)
  refine ⟨_, D.ps, ι, h, slots0 N ds, hrel, start_rel rs, D.mono (endsOf (post ds h) (xp ds h)) _ _ _ ⟨fun s' h' z σ' H' ι' g hr' _ => ?_, fun d h' z => ?_, fun _ _ z => False.elim z, fun _ _ z => False.elim z, fun s' y h' z c d σ' H' ι' g hr' _ xr => ?_⟩ (hw ds h pr)⟩
  · exact q1 _ _ z .non H' ι' g hr' rfl
  · exact q1 _ _ z
  · exact q2 y h' z c d H' ι' g hr' xr
end
end EV

namespace EV
open PySem PySem.Spec PyProof.Rows L2

section
variable {X : Cx} {W : WX} {pos : Pos} {a b c e : Expr} {wa wb wc we : WE} {st : Stmt} {rest : List Stmt} {w v : WS}
/-- a def by its body, over the very context that the call makes -/
theorem fn_ok2 {P : Program} {w : World} {K : PySem.W.Frag} {mg : Str → Option Value} {base : Heap} {x qual : Str} {st : Stmt} {f : Addr} {fd : FuncData} {N ps : List Str} {k : Nat} {pre : List D → Hh → Prop} {post : List D → Hh → D → Hh → Prop} {xp : List D → Hh → XD → Hh → Prop} {wb : WS}
    (F : Fun K x qual st f fd) (S : FnScope N ps (defScope st)) (len : ∀ ds h, pre ds h → ds.length = ps.length) (hw : ∀ ds h, pre ds h → wb (endsOf (post ds h) (xp ds h)) (slots0 N ds) h)
    (hb : ∀ (cdv : Value) (A : Around) (outer : List Env) (s : Shared) (H : Hp) (E : XK), Room k (cxOf (L2.CX P w) P w K mg base N qual (defScope st) f cdv A outer s H E).A → Takes (cxOf (L2.CX P w) P w K mg base N qual (defScope st) f cdv A outer s H E) (nS E) →
      PassesOwn (model P w) (cxOf (L2.CX P w) P w K mg base N qual (defScope st) f cdv A outer s H E).A (cxOf (L2.CX P w) P w K mg base N qual (defScope st) f cdv A outer s H E).env (cxOf (L2.CX P w) P w K mg base N qual (defScope st) f cdv A outer s H E).xe →
      DSs (cxOf (L2.CX P w) P w K mg base N qual (defScope st) f cdv A outer s H E) (nS E) (defBody st) wb) :
    FnOk P w K mg base (L2.CX P w) (k + 1) f fd ps (LSp K mg (spOf pre post xp)) := by
  refine F.okX S (fun vs H Q E ⟨ι, h, ds, hr, rs, pr, _⟩ => by rw [rs.length]; exact len ds h pr) (fun cdv A outer s H vs Q E hr hsp => ?_)
  obtain ⟨ι, h, ds, hrel, rs, pr, q1, q2⟩ := hsp
  have D := hb cdv A outer s H E hr (takes_of rfl rfl rfl rfl) (passes_of rfl)
  refine ⟨_, D.ps, ι, h, slots0 N ds, hrel, start_rel rs, D.mono (endsOf (post ds h) (xp ds h)) _ _ _ ⟨fun s' h' z σ' H' ι' g hr' _ => ?_, fun d h' z => ?_, fun _ _ z => False.elim z, fun _ _ z => False.elim z, fun s' y h' z c d σ' H' ι' g hr' _ xr => ?_⟩ (hw ds h pr)⟩
  · exact q1 _ _ z .non H' ι' g hr' rfl
  · exact q1 _ _ z
  · exact q2 y h' z c d H' ι' g hr' xr
theorem hu64 {k : Nat} {A : Around} (hr : Room k A) : A.units + 64 < cLine := hr.units
theorem hu1 {k : Nat} {A : Around} (hr : Room k A) : A.units + 1 < cLine := hu_of hr

/-! ### code that is never come to -/
def wNever : WS := fun _ _ _ => False
theorem ds_never : DS X W st wNever := ⟨PS.imp ps_never fun B σ H ⟨ι, h, s, hr, sr, q⟩ => q, fun _ _ _ _ _ q => q⟩
theorem dss_never {sts : List Stmt} : DSs X W sts wNever := ⟨PSs.imp pss_never fun B σ H ⟨ι, h, s, hr, sr, q⟩ => q, fun _ _ _ _ _ q => q⟩

/-! ### zip and enumerate of texts -/
/-- pairs of values that are known by the turn, each in a new tuple -/
def Itp (n : Nat) (f g : Nat → V) : It := ⟨fun i _ => i < n, fun i H v H' => ∃ T, v = .ref T ∧ H T = none ∧ H' = upd H T (.tup [f i, g i]), fun i _ => i = n⟩
theorem turn_pairs {P : Program} {w : World} {K : PySem.W.Frag} {elts : List Expr} {kk : Nat} {tpos : Pos} {it : Addr} {fp wr : List Addr} {n : Nat} {f g : Nat → V} {tn : Nat → Heap → Prop} (mem : it ∈ fp) (sub : ∀ b ∈ wr, b ∈ fp)
    (obj : ∀ i h, tn i h → ∀ b ∈ fp, ∃ o, h.get? b = some o ∧ ∀ v, o.data ≠ .cell v)
    (G : ∀ A : Around, A.handled = none → GoesN P w A (.Tuple elts kk tpos) it fp wr n (fun i h₀ v h => ∃ T x y, v = .ref T ∧ h₀.objs.size ≤ T ∧ RelV (f i) x ∧ RelV (g i) y ∧ h.IsTuple T #[x, y]) tn)
    (self : ∀ (A : Around) (i : Nat) (s : Shared) (Q : Value → Shared → Prop) (E : Value → Shared → Prop), tn i s.heap → Q (.ref it) s → wpAny (model P w) A (pyIter (.ref it)) Q E s) (frame : ∀ i h h', tn i h → (∀ b ∈ fp, ∀ o, h.get? b = some o → h'.get? b = some o) → tn i h') :
    Turn P w K (.Tuple elts kk tpos) (Itp n f g) fp it tn where
  mem := mem
  obj := obj
  keep := frame
  item := by
    intro X hP hw hK hc i pins s σ H E I hf st hg
    subst hP hw hK
    refine (G X.A (I.ok.hd hc)).goes i s (fun v s2 => ∃ x H', Inv X pins σ H' s2 ∧ RelV x v ∧ (Itp n f g).yld i H x H' ∧ tn (i + 1) s2.heap ∧ ∀ b ∈ fp, H' b = none) E hg st fun v h' tk hy st' hk _ => ?_
    obtain ⟨T, x, y, rfl, hT, rx, ry, ⟨o, ho, hcls, m, hdt⟩⟩ := hy
    have hn : H T = none := I.hok.fresh hT
    have new : ObjOk X.prog X.w (upd H T (.tup [f i, g i])) h' T (.tup [f i, g i]) := ⟨by show 2 ≤ sizeLine; decide, [x, y], .cons rx (.cons ry .nil), ⟨o, ho, hcls, m, hdt⟩⟩
    refine ⟨.ref T, _, I.turnedNew (t' := tk) (ch := wr) (fun b o hb e => hk b o hb e) (fun b hb => hf b (sub b hb)) hT new, rfl, ⟨T, rfl, hn, rfl⟩, st', fun b hb => ?_⟩
    rw [upd_ne]
    · exact (hf b hb).1
    · intro z
      obtain ⟨ob, e, _⟩ := obj i _ st b hb
      rw [z] at e
      exact Nat.lt_irrefl _ (Nat.lt_of_lt_of_le (Heap.lt_size e) hT)
  done := by
    intro X hP hw hK hc i pins s σ H E I hf st hg
    subst hP hw hK
    have hg : i = n := hg
    subst hg
    refine (G X.A (I.ok.hd hc)).stops s (fun s1 => Inv X pins σ H s1) E st fun h' tk hk _ => ?_
    refine I.step (g' := s.gens) (d' := s.drawn) (ch := wr) (fun b hb => ⟨(hf b (sub b hb)).2.2.2.1, (hf b (sub b hb)).2.1, (hf b (sub b hb)).2.2.2.2.1, (hf b (sub b hb)).2.2.2.2.2⟩) (fun b o _ _ hc e _ => hk b o hc e) (fun b o _ _ hc e _ => ⟨o.slots, hk b o hc e⟩) (fun _ _ _ _ n => n) (fun b o hc e => ⟨o, hk b o hc e⟩) (fun _ _ e => e) (fun _ _ _ e => e) (fun b ps e => ⟨#[], by rw [e]; simp⟩) (fun m hm => ?_) (fun b u e => ?_) I.bare
    · obtain ⟨ob, es, ep, ho, r⟩ := hm
      exact ⟨ob, es, ep, hk _ ob (fun z => (hf _ (sub _ z)).2.1 rfl) ho, r⟩
    · have nit : ∀ b u, H b = some u → b ∉ wr := fun b u e z => by
        have q := (hf b (sub b z)).1
        rw [q] at e
        cases e
      refine (I.hok b u e).stay (fun c v hc q => hk c v ?_ q) (fun _ q => q) fun _ _ q => q
      rcases hc with z | z
      · rw [z]; exact nit b u e
      · exact nit c _ z
  self := self
def chV (x : Str) (i : Nat) : V := match x.cps[i]? with | some c => .str ⟨#[c]⟩ | none => .non
theorem chV_rel {x : Str} {i : Nat} {v : Value} (h : ∃ c u, x.cps[i]? = some c ∧ v = .str ⟨#[c]⟩ u) : RelV (chV x i) v := by
  obtain ⟨c, u, e, rfl⟩ := h
  unfold chV
  rw [e]
  exact ⟨u, rfl⟩
theorem strIter_ok {h : Heap} {it : Addr} {T : String} {x : Str} {t : Tok} {i : Nat} (st : h.IsStrIter it T x t i) : ∃ o, h.get? it = some o ∧ ∀ v, o.data ≠ .cell v := by
  obtain ⟨o, e, _, d⟩ := st
  exact ⟨o, e, fun v z => by rw [d] at z; cases z⟩
theorem conf_pairs {H : Hp} {ι : List Addr} {n : Nat} {f g : Nat → V} {F G : Nat → D} (hf : ∀ i, i < n → ∀ H ι, RelD X.K H ι (F i) (f i)) (hg : ∀ i, i < n → ∀ H ι, RelD X.K H ι (G i) (g i)) : Conf X (Itp n f g) ((List.range n).map fun i => .tup [F i, G i], fun _ => True) H ι := by
  have hl : ((List.range n).map fun i => D.tup [F i, G i]).length = n := by rw [List.length_map, List.length_range]
  refine ⟨fun i H' ι' h g' hr e hi => ?_, fun i H' ι' h g' hr e hi => ?_, fun i H' ι' h d y H2 g' hr e hd yy => ?_⟩
  · exact (by rw [hl] at hi; exact hi : i < n)
  · exact (by rw [hl] at hi; exact hi : i = n)
  · obtain ⟨T, rfl, hT, rfl⟩ := yy
    have hi : i < n := by have := (List.getElem?_eq_some_iff.mp hd).1; rwa [hl] at this
    rw [List.getElem?_map, List.getElem?_range hi] at hd
    cases hd
    exact pair_new hr hT (hf i hi _ _) (hg i hi _ _)
def chD (x : Str) (i : Nat) : D := match x.cps[i]? with | some c => .str ⟨#[c]⟩ | none => .non
theorem chD_rel {K : PySem.W.Frag} {x : Str} {i : Nat} (H : Hp) (ι : List Addr) : RelD K H ι (chD x i) (chV x i) := by
  unfold chD chV
  split <;> rfl
def zipS (x y : Str) : List D := (List.range (min x.cps.size y.cps.size)).map fun i => .tup [chD x i, chD y i]
def wiZipS (w : WA) : WI := fun s h Q E => w s h (fun es h1 => ∃ x y, es = [.str x, .str y] ∧ Q (zipS x y, fun _ => True) h1) E
theorem zip_loop (prog : Program) (w : World) (elts : List Expr) (kk : Nat) (tpos : Pos) (N : Nat) (x y : Str) (t u : Tok) (A : Around) (hA : A.handled = none) :
    GoesN prog w A (.Tuple elts kk tpos) (N + 4) ((N + 4) :: (N + 2) :: (N + 3) :: ([N] ++ [N + 1])) [N + 4, N + 3, N, N + 1] (min x.cps.size y.cps.size) (fun i h₀ v h => ∃ T a b, v = .ref T ∧ h₀.objs.size ≤ T ∧ RelV (chV x i) a ∧ RelV (chV y i) b ∧ h.IsTuple T #[a, b])
      (fun i h => IsZip h (N + 4) (N + 2) (N + 3) .none ∧ IsTupOf2 h (N + 2) (.ref N) (.ref (N + 1)) ∧ (∃ a1 a2, IsTupOf2 h (N + 3) a1 a2) ∧ h.IsStrIter N (strIterType x) x t i ∧ h.IsStrIter (N + 1) (strIterType y) y u i) :=
  (GoesN.zip2 (zip_sep2 (N := N) (fp1 := []) (fp2 := []) (fun _ z => nomatch z) (fun _ z => nomatch z)) (Draws.text (A := A.in1) hA N x t) (Draws.text (A := A.in1) hA (N + 1) y u)).mono
    fun i h₀ v h _ ⟨T, a, b, e, hn, p1, p2, hT⟩ => ⟨T, a, b, e, hn, chV_rel p1, chV_rel p2, hT⟩
theorem di_zipS {w : WA} {p pos tpos : Pos} {elts : List Expr} {kk : Nat} (hm : X.mg "zip" = none) (hcalm : X.calm = true) (ha : DA X W [a, b] w) (hg : Gl X "zip" := by rfl) (hs : starEach [a, b] X.env = (false, eval a X.env) :: starEach [b] X.env := by rfl)
    (hs2 : (backTo pos (starEach [b] X.env)).any (·.1) = false := by rfl) : DI X W (.Tuple elts kk tpos) (.Call (.Name "zip" p) [a, b] [] pos) (wiZipS w) := by
  refine ⟨⟨fun pins s σ H R I q => ?_⟩, fun s h Q Q' E E' hq he q => ha.mono s h _ _ _ _ (fun d h1 ⟨x, y, e, q⟩ => ⟨x, y, e, hq _ _ q⟩) he q⟩
  obtain ⟨ι, h, sl, hr, sr, q⟩ := q
  have q' : LA X W w σ H (fun vs H1 => ∃ x y, vs = [V.str x, V.str y] ∧ ∃ ι1 h1, HRel X.K H1 ι1 X.mg h1 ∧ R (Itp (min x.cps.size y.cps.size) (chV x) (chV y)) H1) := by
    refine ⟨ι, h, sl, hr, sr, ha.mono sl h _ _ _ _ (fun es h1 ⟨x, y, e, q⟩ us H1 ι1 g hr1 rs => ?_) (fun _ _ e => e) q⟩
    subst e
    obtain ⟨v, u, rfl, rv, v', u2, rfl, rv', rn⟩ := rs
    rw [show u2 = [] from rn]
    cases rv; cases rv'
    exact ⟨x, y, rfl, ι1, h1, hr1, q _ H1 ι1 g hr1 (conf_pairs (fun i _ H ι => chD_rel H ι) (fun i _ H ι => chD_rel H ι))⟩
  refine Call_ (ld_blt I hg hm boot_zip (callWith_type1 (thn (ha.pa.run pos pins s σ H _ I q') fun us s1 ⟨vs, H1, I1, r1, q1⟩ => ?_) hs hs2))
  obtain ⟨x, y, rfl, ι1, h1, hr1, qR⟩ := q1
  cases r1 with
  | cons r rr =>
    cases rr with
    | cons r' rr =>
      cases rr
      obtain ⟨t, rfl⟩ := r
      obtain ⟨t', rfl⟩ := r'
      refine zip_begins2 (begins_text x t) (begins_text y t') trivial trivial fun h' hz hTI hTO g1 g2 hsz hk => wpAny_pyIter_zip hz ?_
      have I2 : Inv X pins σ H1 { s1 with heap := h' } := I1.kept (t' := s1.toks) hk
      have st1 : h'.IsStrIter s1.heap.objs.size (strIterType x) x t 0 := ⟨_, g1, rfl, rfl⟩
      have st2 : h'.IsStrIter (s1.heap.objs.size + 1) (strIterType y) y t' 0 := ⟨_, g2, rfl, rfl⟩
      refine ⟨s1.heap.objs.size + 4, _, _, _, H1, rfl, I2, turn_pairs (it := s1.heap.objs.size + 4) (by simp) (fun b hb => ?_) (fun i h st b hb => ?_) (fun A hA => zip_loop X.prog X.w elts kk tpos s1.heap.objs.size x y t t' A hA) (fun A i s Q E st q => wpAny_pyIter_zip st.1 q) (fun i h h' st k => (zip_loop X.prog X.w elts kk tpos s1.heap.objs.size x y t t' X.A (I.ok.hd hcalm)).frame i h h' st k), ⟨hz, hTI, ⟨_, _, hTO⟩, st1, st2⟩, fun b hb => ?_, qR⟩
      · simp only [List.mem_cons, List.mem_append, List.not_mem_nil, or_false] at hb ⊢
        rcases hb with z | z | z | z
        · exact .inl z
        · exact .inr (.inr (.inl z))
        · exact .inr (.inr (.inr (.inl z)))
        · exact .inr (.inr (.inr (.inr z)))
      · obtain ⟨z1, z2, ⟨a1, a2, z3⟩, z4, z5⟩ := st
        simp only [List.mem_cons, List.mem_append, List.not_mem_nil, or_false] at hb
        rcases hb with z | z | z | z | z
        · rw [z]; exact ⟨_, z1, fun v q => nomatch q⟩
        · rw [z]; exact ⟨_, z2, fun v q => nomatch q⟩
        · rw [z]; exact ⟨_, z3, fun v q => nomatch q⟩
        · rw [z]; exact strIter_ok z4
        · rw [z]; exact strIter_ok z5
      · have hle : s1.heap.objs.size ≤ b := by
          simp only [List.mem_cons, List.mem_append, List.not_mem_nil, or_false] at hb
          rcases hb with z | z | z | z | z
          · rw [z]; exact Nat.le_add_right _ _
          · rw [z]; exact Nat.le_add_right _ _
          · rw [z]; exact Nat.le_add_right _ _
          · rw [z]; exact Nat.le_refl _
          · rw [z]; exact Nat.le_add_right _ _
        exact I1.fpOk hle (I1.hok.fresh hle)
end
end EV

namespace EV
open PySem PySem.Spec PyProof.Rows L2

section
variable {X : Cx} {W : WX} {pos : Pos} {a b c e : Expr} {wa wb wc we : WE} {st : Stmt} {rest : List Stmt} {w v : WS}
theorem ok_le : OpOk X (compareOp .LtE) gLe := (ok_int0 (g' := fun i j => .bl (decide (i ≤ j))) op_le fun _ _ _ _ => rfl).or (ok_s2 op_le_str)

/-! ### a dict that the module's top has written, with text keys: what it has at some keys -/
def toVal : D → Option Value
  | .non => some .none
  | .bl b => some (.bool b)
  | _ => none
structure WD (K : PySem.W.Frag) (mg : Str → Option Value) (w : World) (x : Str) (tbl : Str → Option (Option D)) : Prop where
  ex : ∃ d es n, mg x = some (.ref d) ∧ KDict K w d es n ∧ ∀ z o, tbl z = some o → ∃ r : Option Value, PySem.W.nsIn K d z = some r ∧ match o with
    | none => r = none
    | some dd => ∃ u v0, r = some u ∧ RelV v0 u ∧ ∀ H ι, RelD K H ι dd v0
def kWIn (tbl : Str → Option (Option D)) (neg : Bool) : K1 := fun _ d h Q _ => ∃ z o, d = .str z ∧ tbl z = some o ∧ Q (.bl (o.isSome ^^ neg)) h
def kWGet (tbl : Str → Option (Option D)) : K1 := fun _ d h Q _ => ∃ z o, d = .str z ∧ tbl z = some (some o) ∧ Q o h
theorem mono_wIn {tbl : Str → Option (Option D)} {neg : Bool} : Mono1 (kWIn tbl neg) := fun s d h Q Q' E E' hq _ ⟨z, o, e, l, q⟩ => ⟨z, o, e, l, hq _ _ q⟩
theorem mono_wGet {tbl : Str → Option (Option D)} : Mono1 (kWGet tbl) := fun s d h Q Q' E E' hq _ ⟨z, o, e, l, q⟩ => ⟨z, o, e, l, hq _ _ q⟩
theorem le_win {tbl : Str → Option (Option D)} {neg : Bool} {x : Str} {d : Addr} {p : Pos} (hm : X.mg x = some (.ref d)) (fct : ∀ z o, tbl z = some o → ∃ r : Option Value, PySem.W.nsIn X.K d z = some r ∧ match o with
    | none => r = none
    | some dd => ∃ u v0, r = some u ∧ RelV v0 u ∧ ∀ H ι, RelD X.K H ι dd v0) (ma : Mono wa) {σ : St} {H : Hp} {Q : VK} (q : LE X W (wUn (kWIn tbl neg) wa) σ H Q) :
    LE X W wa σ H fun y H1 => tC (.ref d) σ H1 fun x' H2 => ∃ (z : Str) (r : Option Value), y = .str z ∧ x' = .ref d ∧ PySem.W.nsIn X.K d z = some r ∧ Q (.bl (r.isSome ^^ neg)) H2 := by
  obtain ⟨ι, h, s, hr, sr, q⟩ := q
  refine ⟨ι, h, s, hr, sr, ma s h _ _ _ _ (fun dd h1 ⟨z, o, e, l, q⟩ v H1 ι1 g1 hr1 rd => ?_) (fun _ _ e => e) q⟩
  subst e
  cases rd
  obtain ⟨r, er, mo⟩ := fct z o l
  refine ⟨z, r, rfl, rfl, er, ?_⟩
  have e2 : r.isSome = o.isSome := by
    cases o with
    | none => rw [show r = none from mo]; rfl
    | some dd => obtain ⟨u, v0, rfl, _⟩ := mo; rfl
  rw [e2]
  exact q _ H1 ι1 g1 hr1 rfl
theorem de_win {x : Str} {tbl : Str → Option (Option D)} {p : Pos} (wd : WD X.K X.mg X.w x tbl) (ha : DE X W a wa) (hg : Gl X x := by rfl) (hd : (x == ("__debug__" : Str)) = false := by decide) (hm : behindInMarks .In (.Name x p) = false := by first | rfl | with_unfolding_all rfl) : DE X W (.Compare a [.In] [.Name x p] pos) (wUn (kWIn tbl false) wa) := by
  obtain ⟨d, es, n, mgx, kd, fct⟩ := wd.ex
  refine ⟨PE.imp (pe_cmpR (op_in_kd kd) ha.pe (pe_glob (v := .ref d) hg mgx rfl hd) hm) fun σ H Q q => ?_, mono_un ha.mono mono_wIn⟩
  have := le_win (p := p) mgx fct ha.mono q
  simp only [Bool.xor_false] at this
  exact this
theorem dt_win {x : Str} {tbl : Str → Option (Option D)} {p : Pos} (wd : WD X.K X.mg X.w x tbl) (ha : DE X W a wa) (hg : Gl X x := by rfl) (hd : (x == ("__debug__" : Str)) = false := by decide) (hm : behindInMarks .In (.Name x p) = false := by first | rfl | with_unfolding_all rfl) : DT X W (.Compare a [.In] [.Name x p] pos) (wB (wUn (kWIn tbl false) wa)) := by
  obtain ⟨d, es, n, mgx, kd, fct⟩ := wd.ex
  refine ⟨PT.imp (pt_cmpR (op_in_kd kd) ha.pe (pe_glob (v := .ref d) hg mgx rfl hd) hm) fun σ H Q q => ?_, mono_b (mono_un ha.mono mono_wIn)⟩
  have := le_win (p := p) mgx fct ha.mono (LT.bool (mono_un ha.mono mono_wIn) q)
  simp only [Bool.xor_false] at this
  exact this
theorem dt_wnotin {x : Str} {tbl : Str → Option (Option D)} {p : Pos} (wd : WD X.K X.mg X.w x tbl) (ha : DE X W a wa) (hg : Gl X x := by rfl) (hd : (x == ("__debug__" : Str)) = false := by decide) (hm : behindInMarks .NotIn (.Name x p) = false := by first | rfl | with_unfolding_all rfl) : DT X W (.Compare a [.NotIn] [.Name x p] pos) (wB (wUn (kWIn tbl true) wa)) := by
  obtain ⟨d, es, n, mgx, kd, fct⟩ := wd.ex
  refine ⟨PT.imp (pt_cmpR (op_notIn_kd kd) ha.pe (pe_glob (v := .ref d) hg mgx rfl hd) hm) fun σ H Q q => ?_, mono_b (mono_un ha.mono mono_wIn)⟩
  have := le_win (p := p) mgx fct ha.mono (LT.bool (mono_un ha.mono mono_wIn) q)
  simp only [Bool.xor_true] at this
  exact this
theorem ix_kd {d : Addr} {es : Array DictEntry} {n : Nat} (D : KDict X.K X.w d es n) : IxR X (fun x y H Q => ∃ (z : Str) (u0 : Value) (v0 : V), x = .ref d ∧ y = .str z ∧ PySem.W.nsIn X.K d z = some (some u0) ∧ RelV v0 u0 ∧ Q v0 H) := by
  intro value slice pins s σ H x y v u Q I rx ry h hs
  obtain ⟨z, u0, v0, rfl, rfl, e0, r0, q⟩ := h
  cases rx
  obtain ⟨t, rfl⟩ := ry
  refine subscriptTail_builtinR (x := u0) (kd_type D I) PySem.F.slot_dict_getitem.lookup ?_ hs
  refine wpAny_getItem_of (PySem.strKind_is X.prog X.w z t) (PySem.W.mapOf_K (prog := X.prog) I.kIn D.at_ D.lit) (PySem.W.find_K D.at_ e0) ?_
  exact ⟨rfl, ⟨v0, H, I.tok _, r0, q⟩⟩
theorem de_wget {x : Str} {tbl : Str → Option (Option D)} {p : Pos} (wd : WD X.K X.mg X.w x tbl) (hb : DE X W b wb) (hg : Gl X x := by rfl) (hd : (x == ("__debug__" : Str)) = false := by decide) (hs : PlainIx b := by intro _ _; rfl) : DE X W (.Subscript (.Name x p) b pos) (wUn (kWGet tbl) wb) := by
  obtain ⟨d, es, n, mgx, kd, fct⟩ := wd.ex
  refine ⟨PE.imp (pe_ix (ix_kd kd) (pe_glob (v := .ref d) hg mgx rfl hd) hb.pe hs) fun σ H Q q => ?_, mono_un hb.mono mono_wGet⟩
  obtain ⟨ι, h, s, hr, sr, q⟩ := q
  refine ⟨ι, h, s, hr, sr, hb.mono s h _ _ _ _ (fun dd h1 ⟨z, o, e, l, q⟩ v H1 ι1 g1 hr1 rd => ?_) (fun _ _ e => e) q⟩
  subst e
  cases rd
  obtain ⟨r, er, u, v0, rfl, rv, rel⟩ := fct z (some o) l
  exact ⟨z, u, v0, rfl, rfl, er, rv, q v0 H1 ι1 g1 hr1 (rel H1 ι1)⟩

/-! ### {k: v, ..} -/
abbrev WP := Sl → Hh → (List (D × D) → Hh → Prop) → PX → Prop
def wPnil : WP := fun _ h Q _ => Q [] h
def wPcons (wk wv : WE) (wr : WP) : WP := fun s h Q E => wk s h (fun k h1 => wv s h1 (fun d h2 => wr s h2 (fun ps h3 => Q ((k, d) :: ps) h3) E) E) E
def RelPs (K : PySem.W.Frag) (H : Hp) (ι : List Addr) : List (D × D) → List (V × V) → Prop
  | [], vs => vs = []
  | p :: ps, vs => ∃ k v r, vs = (k, v) :: r ∧ RelD K H ι p.1 k ∧ RelD K H ι p.2 v ∧ RelPs K H ι ps r
theorem RelPs.mono {K : PySem.W.Frag} {H H' : Hp} {ι ι' : List Addr} (g : Gr K H H' ι ι') : ∀ {ps : List (D × D)} {vs : List (V × V)}, RelPs K H ι ps vs → RelPs K H' ι' ps vs
  | [], _, h => h
  | _ :: _, _, h => by
    obtain ⟨k, v, r, e, h1, h2, h3⟩ := h
    exact ⟨k, v, r, e, h1.mono g, h2.mono g, h3.mono g⟩
def QP (X : Cx) (H : Hp) (ι : List Addr) (Q : List (V × V) → Hp → Prop) : List (D × D) → Hh → Prop := fun ps h' => ∀ vs H' ι', Gr X.K H H' ι ι' → HRel X.K H' ι' X.mg h' → RelPs X.K H' ι' ps vs → Q vs H'
structure DP (X : Cx) (W : WX) (pos : Pos) (keys : List (Option Expr)) (values : List Expr) (w : WP) : Prop where
  ex : ∃ trs, PPs X pos keys values trs ∧ ∀ σ H Q, (∃ ι h s, HRel X.K H ι X.mg h ∧ SRel X.K H ι σ s ∧ w s h (QP X H ι Q) (QX X W H ι σ)) → tPairs trs σ H Q
  mono : Mono w
theorem dp_nil : DP X W pos [] [] wPnil := ⟨⟨[], pps_nil, fun σ H Q ⟨ι, h, s, hr, sr, q⟩ => q [] H ι .refl hr rfl⟩, fun s h Q Q' E E' hq _ q => hq _ _ q⟩
theorem dp_cons {k v : Expr} {ks : List (Option Expr)} {vs : List Expr} {wk wv : WE} {wr : WP} (hk : DE X W k wk) (hv : DE X W v wv) (hr : DP X W pos ks vs wr) : DP X W pos (some k :: ks) (v :: vs) (wPcons wk wv wr) := by
  obtain ⟨trs, pp, red⟩ := hr.ex
  refine ⟨⟨_, pps_cons hk.pe hv.pe pp, fun σ H Q ⟨ι, h, s, hr0, sr, q⟩ => ?_⟩, fun s h Q Q' E E' hq he q => hk.mono s h _ _ _ _ (fun k h1 q => hv.mono s h1 _ _ _ _ (fun d h2 q => hr.mono s h2 _ _ _ _ (fun ps h3 q => hq _ _ q) he q) he q) he q⟩
  refine ⟨ι, h, s, hr0, sr, hk.mono s h _ _ _ _ (fun k h1 q x H1 ι1 g1 hr1 rk => ?_) (fun _ _ e => e) q⟩
  refine ⟨ι1, h1, s, hr1, sr.mono g1, hv.mono s h1 _ _ _ _ (fun d h2 q y H2 ι2 g2 hr2 rd => ?_) (fun x h' q' => QX.on q' g1) q⟩
  refine red σ H2 _ ⟨ι2, h2, s, hr2, sr.mono (g1.trans g2), hr.mono s h2 _ _ _ _ (fun ps h3 q us H3 ι3 g3 hr3 rs => ?_) (fun x h' q' => QX.on q' (g1.trans g2)) q⟩
  exact q _ H3 ι3 ((g1.trans g2).trans g3) hr3 ⟨x, y, us, rfl, rk.mono (g2.trans g3), rd.mono g3, rs⟩
def keysOf : List (D × D) → Option (List (Key × D))
  | [] => some []
  | (k, d) :: ps => match keyOf k, keysOf ps with | some kk, some r => some ((kk, d) :: r) | _, _ => none
def mergeD (kvs more : List (Key × D)) : List (Key × D) := more.foldl (fun acc kv => putKD acc kv.1 kv.2) kvs
def wDisp (w : WP) : WE := fun s h Q E => w s (h ++ [.dic []]) (fun ps h1 => ∃ kvs, h1[h.length]? = some (.dic []) ∧ keysOf ps = some kvs ∧ kvs.length ≤ 15 ∧ Q (.ref h.length) (h1.set h.length (.dic (mergeD [] kvs)))) E
theorem keys_rel {K : PySem.W.Frag} {H : Hp} {ι : List Addr} : ∀ {ps : List (D × D)} {vs : List (V × V)} {kvs : List (Key × D)}, RelPs K H ι ps vs → keysOf ps = some kvs → ∃ us : List (Key × V), vs = us.map (fun kv => (kV kv.1, kv.2)) ∧ RelKs K H ι kvs us
  | [], _, _, r, e => by
    rw [show _ = _ from r]
    cases e
    exact ⟨[], rfl, rfl⟩
  | (k, d) :: ps, _, kvs, r, e => by
    obtain ⟨x, y, r', rfl, h1, h2, h3⟩ := r
    simp only [keysOf] at e
    cases z1 : keyOf k with
    | none => rw [z1] at e; cases e
    | some kk =>
      cases z2 : keysOf ps with
      | none => rw [z1, z2] at e; cases e
      | some rr =>
        rw [z1, z2] at e
        cases e
        obtain ⟨us, e1, r1⟩ := keys_rel h3 z2
        refine ⟨(kk, y) :: us, ?_, y, us, rfl, h2, r1⟩
        rw [List.map_cons, ← e1, key_rel h1 z1]
theorem merge_rel {K : PySem.W.Frag} {H : Hp} {ι : List Addr} : ∀ {more : List (Key × D)} {ms : List (Key × V)} {kvs : List (Key × D)} {vs : List (Key × V)}, RelKs K H ι more ms → RelKs K H ι kvs vs → RelKs K H ι (mergeD kvs more) (mergeK vs ms)
  | [], _, _, _, r, q => by rw [show _ = _ from r]; exact q
  | (k, d) :: more, _, kvs, vs, r, q => by
    obtain ⟨v, u, rfl, r1, r2⟩ := r
    exact merge_rel (more := more) (ms := u) (kvs := putKD kvs k d) (vs := putK vs k v) r2 (put_rel r1 q)
theorem de_disp {keys : List (Option Expr)} {values : List Expr} {w : WP} (hp : DP X W pos keys values w) (h1 : (keys.all fun x => x.isSome) = true := by rfl) (h2 : keys.length = values.length := by rfl) (h3 : keys ≠ [] := by intro z; cases z) (h4 : keys.length ≤ 15 := by decide) : DE X W (.Dict keys values pos) (wDisp w) := by
  obtain ⟨trs, pp, red⟩ := hp.ex
  refine ⟨PE.imp (pe_disp pp h1 h2 h3 h4) fun σ H Q ⟨ι, h, s, hr, sr, q⟩ => ?_, fun s h Q Q' E E' hq he q => hp.mono s _ _ _ _ _ (fun ps h1 ⟨kvs, a, b, c, q⟩ => ⟨kvs, a, b, c, hq _ _ q⟩) he q⟩
  intro p hpn
  have g0 : Gr X.K H (upd H p (.dK [])) ι (ι ++ [p]) := Gr.fresh hpn _ (List.prefix_append _ _)
  have hr0 : HRel X.K (upd H p (.dK [])) (ι ++ [p]) X.mg (h ++ [.dic []]) := hr.push hpn ⟨[], upd_same, rfl⟩
  have ix : (ι ++ [p])[h.length]? = some p := by rw [← hr.len, List.getElem?_append_right (Nat.le_refl _), Nat.sub_self]; rfl
  refine red σ _ _ ⟨ι ++ [p], _, s, hr0, sr.mono g0, hp.mono s _ _ _ _ _ (fun ps h1 ⟨kvs, z, e, l, q⟩ vs H1 ι1 g1 hr1 rs => ?_) (fun x h' q' => QX.on q' g0) q⟩
  have ix1 := pre_get g1.pre ix
  obtain ⟨us, q1, r1⟩ := hr1.obj _ _ _ z ix1
  have : us = [] := r1
  subst this
  obtain ⟨ms, e1, r2⟩ := keys_rel rs e
  obtain ⟨w0, ew, w1, w2⟩ := (hr1.obj _ _ _ z ix1).there
  have g : Gr X.K H1 (upd H1 p (.dK (mergeK [] ms))) ι1 ι1 := Gr.write ew w1 w2
  obtain ⟨_, hr2⟩ := hr1.write (u := .dK (mergeK [] ms)) (o' := .dic (mergeD [] kvs)) z ix1 ⟨_, upd_same, (merge_rel r2 (kvs := []) (vs := []) rfl).mono g⟩
  exact ⟨q1, ms, e1, by rw [r2.length]; exact l, q _ _ ι1 ((g0.trans g1).trans g) hr2 ⟨p, ix1, rfl⟩⟩
end
end EV

namespace EV
open PySem PySem.Spec PyProof.Rows L2
/-! ### running the combinators by simp -/
theorem str_inj (a b : String) : (Str.ofString a = Str.ofString b) ↔ a = b := by
  refine ⟨fun h => ?_, fun h => by rw [h]⟩
  rw [Str.ofString_eq_toList, Str.ofString_eq_toList] at h
  injection h with h
  have h2 := congrArg Array.toList h
  simp only [] at h2
  have h3 : a.toList = b.toList := by
    refine List.map_inj_right (f := Char.toNat) (fun x y e => ?_) |>.mp h2
    exact Char.toNat_inj.mp e
  exact String.toList_inj.mp h3
@[simp] theorem str_eq (a b : String) : (Str.ofString a = Str.ofString b) = (a = b) := propext (str_inj a b)
@[simp] theorem str_beq (a b : String) : (Str.ofString a == Str.ofString b) = (a == b) := by
  rw [Bool.eq_iff_iff]; simp
def Get (o : Option (D × Hh)) (Q : PV) : Prop := ∃ r h', o = some (r, h') ∧ Q r h'
@[simp] theorem Get_some (a : D) (h : Hh) (Q : PV) : Get (some (a, h)) Q = Q a h := propext ⟨fun ⟨_, _, e, q⟩ => by cases e; exact q, fun q => ⟨_, _, rfl, q⟩⟩
@[simp] theorem Get_none (Q : PV) : Get none Q = False := propext ⟨(fun ⟨_, _, e, q⟩ => (by cases e)), (fun q => q.elim)⟩
def GetV (o : Option (Option D)) (k : D → Prop) : Prop := ∃ d, o = some (some d) ∧ k d
@[simp] theorem GetV_some (a : D) (k : D → Prop) : GetV (some (some a)) k = k a := propext ⟨fun ⟨_, e, q⟩ => by cases e; exact q, fun q => ⟨_, rfl, q⟩⟩
def GetS (o : Option Sl) (k : Sl → Prop) : Prop := ∃ s, o = some s ∧ k s
@[simp] theorem GetS_some (a : Sl) (k : Sl → Prop) : GetS (some a) k = k a := propext ⟨fun ⟨_, e, q⟩ => by cases e; exact q, fun q => ⟨_, rfl, q⟩⟩
def GetK (o : Option Bool) (k : Bool → Prop) : Prop := ∃ b, o = some b ∧ k b
@[simp] theorem GetK_some (a : Bool) (k : Bool → Prop) : GetK (some a) k = k a := propext ⟨fun ⟨_, e, q⟩ => by cases e; exact q, fun q => ⟨_, rfl, q⟩⟩
def IsB (d : D) (k : Bool → Prop) : Prop := ∃ b, d = .bl b ∧ k b
@[simp] theorem IsB_bl (b : Bool) (k : Bool → Prop) : IsB (.bl b) k = k b := propext ⟨fun ⟨_, e, q⟩ => by cases e; exact q, fun q => ⟨_, rfl, q⟩⟩
def IsI (d : D) (k : Int → Prop) : Prop := ∃ i, d = .int i ∧ k i
@[simp] theorem IsI_int (i : Int) (k : Int → Prop) : IsI (.int i) k = k i := propext ⟨fun ⟨_, e, q⟩ => by cases e; exact q, fun q => ⟨_, rfl, q⟩⟩
def IsIns (C : Str) (o : Option O) (k : List (Str × D) → Prop) : Prop := ∃ fs, o = some (.ins C fs) ∧ k fs
@[simp] theorem IsIns_ins (C : Str) (fs : List (Str × D)) (k : List (Str × D) → Prop) : IsIns C (some (.ins C fs)) k = k fs := propext ⟨fun ⟨_, e, q⟩ => by cases e; exact q, fun q => ⟨_, rfl, q⟩⟩
def IsLst (o : Option O) (k : List D → Prop) : Prop := ∃ ds, o = some (.lst ds) ∧ k ds
@[simp] theorem IsLst_lst (ds : List D) (k : List D → Prop) : IsLst (some (.lst ds)) k = k ds := propext ⟨fun ⟨_, e, q⟩ => by cases e; exact q, fun q => ⟨_, rfl, q⟩⟩
def GetD (o : Option D) (k : D → Prop) : Prop := ∃ d, o = some d ∧ k d
@[simp] theorem GetD_some (a : D) (k : D → Prop) : GetD (some a) k = k a := propext ⟨fun ⟨_, e, q⟩ => by cases e; exact q, fun q => ⟨_, rfl, q⟩⟩
def IsRef (d : D) (k : Nat → Prop) : Prop := ∃ n, d = .ref n ∧ k n
@[simp] theorem IsRef_ref (n : Nat) (k : Nat → Prop) : IsRef (.ref n) k = k n := propext ⟨fun ⟨_, e, q⟩ => by cases e; exact q, fun q => ⟨_, rfl, q⟩⟩
def NoF (m : Str) (fs : List (Str × D)) : Prop := fs.lookup m = none
@[simp] theorem NoF_nil (m : Str) : NoF m [] = True := by simp [NoF]
@[simp] theorem NoF_cons (m f : Str) (d : D) (fs : List (Str × D)) : NoF m ((f, d) :: fs) = (¬ m = f ∧ NoF m fs) := by
  refine propext ⟨fun h => ?_, fun h => ?_⟩
  · unfold NoF at h ⊢
    rw [List.lookup_cons] at h
    cases z : m == f with
    | true => rw [z] at h; cases h
    | false => rw [z] at h; exact ⟨by simpa using z, h⟩
  · unfold NoF at h ⊢
    rw [List.lookup_cons]
    have z : (m == f) = false := by simpa using h.1
    rw [z]; exact h.2
section
variable {w v : WS} {B : DEnds} {s : Sl} {h : Hh} {Q : PV} {E : PX} {wa wb wc we wo wi wv : WE} {wt wu : WT} {i : Nat} {d : D} {g g' : G2} {QB : Bool → Hh → Prop} {wr : WA} {QA : List D → Hh → Prop}
@[simp] theorem e_seq : wSeq w v B s h = w { B with nx := v B } s h := rfl
@[simp] theorem e_next : wNext B s h = B.nx s h := rfl
@[simp] theorem e_pass : wPass B s h = B.nx s h := rfl
@[simp] theorem e_break : wBreak B s h = B.bk s h := rfl
@[simp] theorem e_cont : wCont B s h = B.ct s h := rfl
@[simp] theorem e_never : wNever B s h = False := rfl
@[simp] theorem e_expr : wExpr we B s h = we s h (fun _ h1 => B.nx s h1) (B.ex s) := rfl
@[simp] theorem e_ret : wRet we B s h = we s h B.rt (B.ex s) := rfl
@[simp] theorem e_retN : wRetN B s h = B.rt .non h := rfl
@[simp] theorem e_if : wIf wt w v B s h = wt s h (fun c h1 => if c = true then w B s h1 else v B s h1) (B.ex s) := rfl
@[simp] theorem e_asg {t : Tg} : wAsg t we B s h = we s h (fun d h1 => GetS (asgD t d s) fun s' => B.nx s' h1) (B.ex s) := rfl
@[simp] theorem e_par {is : List Nat} : wPar is wr B s h = wr s h (fun ds h1 => ds.length = is.length ∧ B.nx ((is.zip ds).foldl (fun s p => s.set p.1 (some p.2)) s) h1) (B.ex s) := rfl
@[simp] theorem e_var : wVar i s h Q E = GetV s[i]? fun d => Q d h := rfl
@[simp] theorem e_c : wC d s h Q E = Q d h := rfl
@[simp] theorem e_op : wOp g wa wb s h Q E = wa s h (fun d h1 => wb s h1 (fun e h2 => Get (g d e h2) Q) E) E := rfl
@[simp] theorem e_k1 {g : G1} : wUn (k1 g) wa s h Q E = wa s h (fun d h1 => Get (g d h1) Q) E := rfl
@[simp] theorem e_b : wB we s h QB E = we s h (fun d h1 => IsB d fun k => QB k h1) E := rfl
@[simp] theorem e_tru : wTru we s h QB E = we s h (fun d h1 => GetK (truD d h1) fun k => QB k h1) E := rfl
@[simp] theorem e_and : wAnd wt wu s h QB E = wt s h (fun c h1 => if c = true then wu s h1 QB E else QB false h1) E := rfl
@[simp] theorem e_or : wOr wt wu s h QB E = wt s h (fun c h1 => if c = true then QB true h1 else wu s h1 QB E) E := rfl
@[simp] theorem e_not : wNot wt s h QB E = wt s h (fun c h1 => QB (!c) h1) E := rfl
@[simp] theorem e_andV : wAndV wa wb s h Q E = wa s h (fun d h1 => IsB d fun c => if c = true then wb s h1 Q E else Q (.bl false) h1) E := rfl
@[simp] theorem e_orV : wOrV wa wb s h Q E = wa s h (fun d h1 => IsB d fun c => if c = true then Q (.bl true) h1 else wb s h1 Q E) E := rfl
@[simp] theorem e_notV : wNotV wa s h Q E = wa s h (fun d h1 => IsB d fun c => Q (.bl (!c)) h1) E := rfl
@[simp] theorem e_ifE : wIfE wt wa wb s h Q E = wt s h (fun c h1 => if c = true then wa s h1 Q E else wb s h1 Q E) E := rfl
@[simp] theorem e_chain : wChain g g' wa wb wc s h Q E = wa s h (fun x h1 => wb s h1 (fun y h2 => Get (g x y h2) fun r h3 => IsB r fun k => if k = true then wc s h3 (fun z h4 => Get (g' y z h4) Q) E else Q (.bl false) h3) E) E := rfl
@[simp] theorem e_nil : wNil s h QA E = QA [] h := rfl
@[simp] theorem e_cons : wCons we wr s h QA E = we s h (fun d h1 => wr s h1 (fun ds h2 => QA (d :: ds) h2) E) E := rfl
@[simp] theorem e_tup : wTup wr s h Q E = wr s h (fun ds h1 => ds.length ≤ sizeLine ∧ Q (.tup ds) h1) E := rfl
@[simp] theorem e_lst : wLst wr s h Q E = wr s h (fun ds h1 => ds.length ≤ sizeLine ∧ Q (.ref h1.length) (h1 ++ [.lst ds])) E := rfl
@[simp] theorem e_ca {g : GA} : wCa g wr s h Q E = wr s h (fun ds h1 => Get (g ds h1) Q) E := rfl
@[simp] theorem e_mt {T : String} {g : GM} : wMt T g wo wr s h Q E = wo s h (fun d h1 => isT T d h1 = true ∧ wr s h1 (fun ds h2 => Get (g d ds h2) Q) E) E := rfl
@[simp] theorem e_fld {C f : Str} : wUn (kFld C f) wa s h Q E = wa s h (fun d h1 => IsRef d fun n => IsIns C h1[n]? fun fs => GetD (fs.lookup f) fun v => Q v h1) E := by
  refine congrArg (fun k => wa s h k E) (funext fun d => funext fun h1 => propext ⟨?_, ?_⟩)
  · rintro ⟨n, fs, v, e, z, l, q⟩; exact ⟨n, e, fs, z, v, l, q⟩
  · rintro ⟨n, e, fs, z, v, l, q⟩; exact ⟨n, fs, v, e, z, l, q⟩
@[simp] theorem e_call {sp : SpD} : wCall sp wr s h Q E = wr s h (fun ds h1 => sp ds h1 Q E) E := rfl
@[simp] theorem e_meth {C m : Str} {sp : SpD} : wMeth C m sp wo wr s h Q E = wo s h (fun d h1 => IsRef d fun n => IsIns C h1[n]? fun fs => NoF m fs ∧ wr s h1 (fun ds h2 => sp (d :: ds) h2 Q E) E) E := by
  refine congrArg (fun k => wo s h k E) (funext fun d => funext fun h1 => propext ⟨?_, ?_⟩)
  · rintro ⟨n, fs, e, z, l, q⟩; exact ⟨n, e, fs, z, l, q⟩
  · rintro ⟨n, e, fs, z, l, q⟩; exact ⟨n, fs, e, z, l, q⟩
@[simp] theorem e_make {C : Str} {sp : SpD} : wMake C sp wr s h Q E = wr s h (fun ds h1 => sp (.ref h1.length :: ds) (h1 ++ [.ins C []]) (fun r h2 => r = .non ∧ Q (.ref h1.length) h2) E) E := rfl
@[simp] theorem e_setF {C f : Str} : wSetF C f wo wv B s h = wv s h (fun d h1 => wo s h1 (fun o h2 => IsRef o fun n => IsIns C h2[n]? fun fs => fs.length < 1000 ∧ B.nx s (h2.set n (.ins C (putD f d fs)))) (B.ex s)) (B.ex s) := by
  refine congrArg (fun k => wv s h k (B.ex s)) (funext fun d => funext fun h1 => congrArg (fun k => wo s h1 k (B.ex s)) (funext fun o => funext fun h2 => propext ⟨?_, ?_⟩))
  · rintro ⟨n, fs, e, z, l, q⟩; exact ⟨n, e, fs, z, l, q⟩
  · rintro ⟨n, e, fs, z, l, q⟩; exact ⟨n, fs, e, z, l, q⟩
@[simp] theorem e_setIx : wSetIx wo wi wv B s h = wv s h (fun d h1 => wo s h1 (fun o h2 => wi s h2 (fun i h3 => IsRef o fun n => IsI i fun k => IsLst h3[n]? fun ds => ∃ j, ixN ds.length k = some j ∧ B.nx s (h3.set n (.lst (ds.set j d)))) (B.ex s)) (B.ex s)) (B.ex s) := by
  refine congrArg (fun k => wv s h k (B.ex s)) (funext fun d => funext fun h1 => congrArg (fun k => wo s h1 k (B.ex s)) (funext fun o => funext fun h2 => congrArg (fun k => wi s h2 k (B.ex s)) (funext fun i => funext fun h3 => propext ⟨?_, ?_⟩)))
  · rintro ⟨n, ds, k, j, e1, e2, z, y, q⟩; exact ⟨n, e1, k, e2, ds, z, j, y, q⟩
  · rintro ⟨n, e1, k, e2, ds, z, j, y, q⟩; exact ⟨n, ds, k, j, e1, e2, z, y, q⟩
@[simp] theorem e_sl {wl wh : WO} : wSl we wl wh s h Q E = we s h (fun d h1 => wl s h1 (fun lo h2 => wh s h2 (fun hi h3 => Get (gSl lo hi d h3) Q) E) E) E := rfl
@[simp] theorem e_part {q : Option Int → Hh → Prop} : wPart we s h q E = we s h (fun d h1 => IsI d fun i => q (some i) h1) E := rfl
@[simp] theorem e_nopart {q : Option Int → Hh → Prop} : wNoPart s h q E = q none h := rfl
@[simp] theorem e_yes : wYes s h QB E = QB true h := rfl
@[simp] theorem e_dnew : wDNew s h Q E = Q (.ref h.length) (h ++ [.dic []]) := rfl
def IsS (d : D) (k : Str → Prop) : Prop := ∃ z, d = .str z ∧ k z
@[simp] theorem IsS_str (z : Str) (k : Str → Prop) : IsS (.str z) k = k z := propext ⟨fun ⟨_, e, q⟩ => by cases e; exact q, fun q => ⟨_, rfl, q⟩⟩
def GetT (o : Option (Option D)) (k : Option D → Prop) : Prop := ∃ d, o = some d ∧ k d
@[simp] theorem GetT_some (a : Option D) (k : Option D → Prop) : GetT (some a) k = k a := propext ⟨fun ⟨_, e, q⟩ => by cases e; exact q, fun q => ⟨_, rfl, q⟩⟩
@[simp] theorem e_win {tbl : Str → Option (Option D)} {neg : Bool} : wUn (kWIn tbl neg) wa s h Q E = wa s h (fun d h1 => IsS d fun z => GetT (tbl z) fun o => Q (.bl (o.isSome ^^ neg)) h1) E := by
  refine congrArg (fun k => wa s h k E) (funext fun d => funext fun h1 => propext ⟨?_, ?_⟩)
  · rintro ⟨z, o, e, l, q⟩; exact ⟨z, e, o, l, q⟩
  · rintro ⟨z, e, o, l, q⟩; exact ⟨z, o, e, l, q⟩
@[simp] theorem e_wget {tbl : Str → Option (Option D)} : wUn (kWGet tbl) wa s h Q E = wa s h (fun d h1 => IsS d fun z => GetV (tbl z) fun o => Q o h1) E := by
  refine congrArg (fun k => wa s h k E) (funext fun d => funext fun h1 => propext ⟨?_, ?_⟩)
  · rintro ⟨z, o, e, l, q⟩; exact ⟨z, e, o, l, q⟩
  · rintro ⟨z, e, o, l, q⟩; exact ⟨z, o, e, l, q⟩
@[simp] theorem e_for {wi : WI} {t : Tg} : wFor wi t w B s h = wi s h (fun p h1 => wLoop p.2 t w B p.1 s h1) (B.ex s) := rfl
@[simp] theorem e_lc {wi : WI} {own : List Nat} {t : Tg} : wLc wi own t wt we s h Q E = wi s h (fun p h1 => wLcGo h1.length p.2 t wt we (wipeD s own) Q p.1 (h1 ++ [.lst []])) E := rfl
def IsTup (d : D) (k : List D → Prop) : Prop := ∃ ds, d = .tup ds ∧ k ds
@[simp] theorem IsTup_tup (ds : List D) (k : List D → Prop) : IsTup (.tup ds) k = k ds := propext ⟨fun ⟨_, e, q⟩ => by cases e; exact q, fun q => ⟨_, rfl, q⟩⟩
def GetL (o : Option (List D)) (k : List D → Prop) : Prop := ∃ d, o = some d ∧ k d
@[simp] theorem GetL_some (a : List D) (k : List D → Prop) : GetL (some a) k = k a := propext ⟨fun ⟨_, e, q⟩ => by cases e; exact q, fun q => ⟨_, rfl, q⟩⟩
variable {QI : IT → Hh → Prop}
@[simp] theorem e_iList : wiList we s h QI E = we s h (fun d h1 => IsRef d fun n => GetL (lsOf h1 n) fun ds => QI (ds, fun h => lsOf h n = some ds) h1) E := by
  refine congrArg (fun k => we s h k E) (funext fun d => funext fun h1 => propext ⟨?_, ?_⟩)
  · rintro ⟨n, ds, e, z, q⟩; exact ⟨n, e, ds, z, q⟩
  · rintro ⟨n, e, ds, z, q⟩; exact ⟨n, ds, e, z, q⟩
@[simp] theorem e_iTup : wiTup we s h QI E = we s h (fun d h1 => IsTup d fun ds => QI (ds, fun _ => True) h1) E := rfl
@[simp] theorem e_iStr : wiStr we s h QI E = we s h (fun d h1 => IsS d fun x => QI (chrs x, fun _ => True) h1) E := rfl
end
@[simp] theorem sizeLine_is : sizeLine = 16777216 := sizeLine_eq
@[simp] theorem asgD_nm {i : Nat} {d : D} {s : Sl} : asgD (.nm i) d s = some (s.set i (some d)) := by simp only [asgD]
@[simp] theorem asgD_tp {ts : List Tg} {ds : List D} {s : Sl} : asgD (.tp ts) (.tup ds) s = asgDs ts ds s := by simp only [asgD]
@[simp] theorem asgDs_nil {s : Sl} : asgDs [] [] s = some s := by simp only [asgDs]
@[simp] theorem asgDs_cons {t : Tg} {ts : List Tg} {d : D} {ds : List D} {s : Sl} : asgDs (t :: ts) (d :: ds) s = (asgD t d s).bind (asgDs ts ds) := by
  rw [asgDs]; cases asgD t d s <;> rfl
@[simp] theorem nx_of {p q r t u} : (DEnds.mk p q r t u).nx = p := rfl
@[simp] theorem rt_of {p q r t u} : (DEnds.mk p q r t u).rt = q := rfl
@[simp] theorem bk_of {p q r t u} : (DEnds.mk p q r t u).bk = r := rfl
@[simp] theorem ct_of {p q r t u} : (DEnds.mk p q r t u).ct = t := rfl
@[simp] theorem ex_of {p q r t u} : (DEnds.mk p q r t u).ex = u := rfl
@[simp] theorem ends_nx {p : PV} {x : PX} {s : Sl} {h : Hh} : (endsOf p x).nx s h = p .non h := rfl
@[simp] theorem ends_rt {p : PV} {x : PX} : (endsOf p x).rt = p := rfl
@[simp] theorem ends_ex {p : PV} {x : PX} {s : Sl} : (endsOf p x).ex s = x := rfl
/-! items of lists -/
theorem atI_ofNat {α : Type} (xs : List α) (i : Nat) : atI xs (i : Int) = xs[i]? := by
  unfold atI ixN
  rw [if_pos (Int.natCast_nonneg i)]
  by_cases h : i < xs.length
  · simp [h]
  · simp [h]
@[simp] theorem atI_0 {α : Type} (xs : List α) : atI xs 0 = xs[0]? := atI_ofNat xs 0
@[simp] theorem atI_1 {α : Type} (xs : List α) : atI xs 1 = xs[1]? := atI_ofNat xs 1
@[simp] theorem atI_2 {α : Type} (xs : List α) : atI xs 2 = xs[2]? := atI_ofNat xs 2
@[simp] theorem atI_3 {α : Type} (xs : List α) : atI xs 3 = xs[3]? := atI_ofNat xs 3
@[simp] theorem get_app {h g : Hh} {n : Nat} (hn : n < h.length) : (h ++ g)[n]? = h[n]? := List.getElem?_append_left hn
@[simp] theorem get_new {h g : Hh} : (h ++ g)[h.length]? = g[0]? := by rw [List.getElem?_append_right (Nat.le_refl _), Nat.sub_self]
theorem spOf_go {pre : List D → Hh → Prop} {post : List D → Hh → D → Hh → Prop} {xp : List D → Hh → XD → Hh → Prop} {ds : List D} {h : Hh} {Q : PV} {E : PX} (hp : pre ds h) (hq : ∀ d h', post ds h d h' → Q d h') (hx : ∀ x h', xp ds h x h' → E x h') : spOf pre post xp ds h Q E := ⟨hp, hq, hx⟩
end EV

namespace EV
open PySem PySem.Spec PyProof.Rows L2
/-! ### own exceptions as values -/
section
variable {X : Cx} {W : WX} {pos p p1 p2 pos' : Pos} {a e o : Expr} {es : List Expr} {wa we wo wv : WE} {wr : WA}
/-- C(..) as a value, C an own exception class with its own __init__ -/
def tMkV (C : Addr) (sp : Sp) (E : XK) (ta : TA) : TE := fun σ H Q => ta σ H fun vs H1 => vs.length ≤ 1000 ∧ ∀ a, H1 a = none → sp (.ref a :: vs) (upd H1 a (exo a C none)) (fun v H2 => v = .non ∧ Q (.ref a) H2) E
theorem pe_mkV {CX : CXT} {x : Str} {C fI : Addr} {k : Nat} {fd : FuncData} {ps : List Str} {sp : Sp} {E : XK} {ta : TA} (T : OexC X.K C) (iC : PySem.W.findIn X.K (.ref C) "__init__" = some (some (.ref fI)))
    (tI : PySem.W.typeIn X.K (.ref fI) = some (.type "function")) (F1 : FnOk X.prog X.w X.K X.mg X.base CX k fI fd ps sp) (hr : Room (k + 1) X.A) (hb : Binds X.K fd ps []) (hx : Passes CX X E) (hg : Gl X x)
    (hm : X.mg x = some (.ref C)) (ha : PA X (e :: es) ta) (hdb : (x == ("__debug__" : Str)) = false) (he : starEach (e :: es) X.env = (false, eval e X.env) :: starEach es X.env) (hpl : (backTo pos (starEach es X.env)).any (·.1) = false) :
    PE X (.Call (.Name x p) (e :: es) [] pos) (tMkV C sp E ta) := by
  constructor
  intro pins s σ H Q I h
  obtain ⟨nm, q, N, bs, bm, sn, sub, ab, col, dd, k0, k1, k2, k3, k5, hC, hbm⟩ := T.cls
  apply wpAny_Call_Name_kw
  apply ld_glob I hg hm ?_ hdb
  apply PySem.W.callWith_K (h₀ := X.base) I.ok.mod.kin T.kC (thn (ha.run pos pins s σ H _ I h) ?_) he hpl
  rintro us ⟨hp, g, dr, tk, os⟩ ⟨vs, H1, I1, r1, hz, q1⟩
  refine ⟨I1.kIn, ?_⟩
  have hsz : hp.objs.size ≤ hp.objs.size + 1 := Nat.le_succ _
  have hq := q1 (hp.objs.size + 1) (I1.hok.fresh hsz)
  have hget : ((hp.push (PySem.W.kdv_tup us)).push (PySem.HandSPX.excO C hp.objs.size)).get? (hp.objs.size + 1) = some (PySem.HandSPX.excO C hp.objs.size) := by heap_get
  have I2 := I1.laid (t' := tk) (a := hp.objs.size + 1) (o := exo (hp.objs.size + 1) C none) (h' := (hp.push (PySem.W.kdv_tup us)).push (PySem.HandSPX.excO C hp.objs.size))
    (fun b o e => Heap.get?_push_of_some _ (Heap.get?_push_of_some _ e)) hsz (exo_ok hget)
  have r2 : Vals (V.ref (hp.objs.size + 1) :: vs) (Value.ref (hp.objs.size + 1) :: us) := .cons rfl r1
  have hl : (Value.ref (hp.objs.size + 1) :: us).length = ps.length := by rw [← r2.length]; exact F1.len _ _ _ _ hq
  have hus : us.length ≤ sizeLine := by rw [← Paired.length r1, sizeLine_eq]; omega
  have hl' : (Value.ref (hp.objs.size + 1) :: us ++ []).length = ps.length := by rw [List.append_nil]; exact hl
  have bb := hb ⟨(hp.push (PySem.W.kdv_tup us)).push (PySem.HandSPX.excO C hp.objs.size), g, dr, tk, os⟩ (Value.ref (hp.objs.size + 1) :: us) I2.kIn hl'
  rw [List.append_nil] at bb
  refine wpAny_call (PySem.HandSPX.call_own F.excBase_ValueError (fun Y => PySem.HandSPX.refsVE_contains Y bm hbm) (I1.kIn _ _ hC) (PySem.W.looks_findIn I1.kIn iC) (fun self => PySem.W.bind_fn I1.kIn self tI) hus ?_)
  refine codeAny_mono (F1.run _ X.stack _ _ ⟨Value.ref (hp.objs.size + 1) :: us, []⟩ _ _ _ E (hr.make C us []) (I2.env0.make C us []) bb r2 hq) ?_
  intro r s' hq'
  cases r with
  | error er => exact hx pins σ _ _ er s' I2 hq'
  | ok fl =>
    cases fl with
    | ret u =>
      obtain ⟨v, H2, os2, bare2, un2, hok2, rv, ev, q2⟩ := hq'
      subst ev
      exact ⟨rv, .ref _, H2, I2.call' (ch := []) os2 un2 hok2 bare2 (fun b z => absurd z (by simp)), rfl, q2⟩
    | next => exact False.elim hq'
    | brk => exact False.elim hq'
    | cont => exact False.elim hq'
structure GX (P : Program) (w : World) (K : PySem.W.Frag) (mg : Str → Option Value) (base : Heap) (C : Str) (k : Nat) (sp : SpD) : Prop where
  ex : ∃ c f fd ps, FnOk P w K mg base (L2.CX P w) k f fd ps (LSp K mg sp) ∧ mg C = some (.ref c) ∧ OexC K c ∧ PySem.W.findIn K (.ref c) "__init__" = some (some (.ref f)) ∧ PySem.W.typeIn K (.ref f) = some (.type "function") ∧ Binds K fd ps []
  mono : MonoSp sp
def wMkX (C : Str) (sp : SpD) (w : WA) : WE := fun s h Q E => w s h (fun ds h1 => ds.length ≤ 1000 ∧ sp (.ref h1.length :: ds) (h1 ++ [.exo C none]) (fun r h2 => r = .non ∧ Q (.ref h1.length) h2) E) E
theorem mono_mkX {C : Str} {sp : SpD} {w : WA} (ms : MonoSp sp) (n : Mono w) : Mono (wMkX C sp w) := fun s h Q Q' E E' hq he q =>
  n s h _ _ _ _ (fun ds h1 ⟨l, q⟩ => ⟨l, ms _ _ _ _ _ _ (fun d h2 ⟨e, q⟩ => ⟨e, hq _ _ q⟩) he q⟩) he q
theorem de_mkX {C : Str} {k j : Nat} {sp : SpD} {E : XK} {w : WA} (G : GX X.prog X.w X.K X.mg X.base C k sp) (tk : Takes X (nS E)) (hr : Room j X.A) (ha : DA X (nS E) (e :: es) w) (hj : k + 1 ≤ j := by decide) (hg : Gl X C := by rfl)
    (hdb : (C == ("__debug__" : Str)) = false := by decide) (he : starEach (e :: es) X.env = (false, eval e X.env) :: starEach es X.env := by rfl) (hpl : (backTo pos (starEach es X.env)).any (·.1) = false := by rfl) : DE X (nS E) (.Call (.Name C p) (e :: es) [] pos) (wMkX C sp w) := by
  obtain ⟨c, f, fd, ps, F, mc, T, iC, tI, hb⟩ := G.ex
  refine ⟨PE.imp (pe_mkV T iC tI F (hr.mono hj) hb (passes_call tk fun _ _ _ _ h => h) hg mc ha.pa hdb he hpl) fun σ H Q ⟨ι, h, s, hr, sr, q⟩ => ?_, mono_mkX G.mono ha.mono⟩
  refine ⟨ι, h, s, hr, sr, ha.mono s h _ _ _ _ (fun ds h1 ⟨hl, q⟩ vs H1 ι1 g1 hr1 rs => ⟨by rw [rs.length]; exact hl, fun x hx => ?_⟩) (fun _ _ e => e) q⟩
  have gb : Gr X.K H1 (upd H1 x (exo x c none)) ι1 (ι1 ++ [x]) := Gr.fresh hx _ (List.prefix_append _ _)
  have hr2 : HRel X.K (upd H1 x (exo x c none)) (ι1 ++ [x]) X.mg (h1 ++ [.exo C none]) := hr1.push hx ⟨c, mc, upd_same⟩
  have ix : (ι1 ++ [x])[h1.length]? = some x := by rw [← hr1.len, List.getElem?_append_right (Nat.le_refl _), Nat.sub_self]; rfl
  refine ⟨ι1 ++ [x], h1 ++ [.exo C none], .ref h1.length :: ds, hr2, ⟨.ref x, vs, rfl, ⟨x, ix, rfl⟩, rs.mono gb⟩, G.mono _ _ _ _ _ _ (fun d h3 ⟨ed, q⟩ v H3 ι3 g3 hr3 rv => ?_) (fun y h3 q c d H' ι' g' hr' xr => q c d H' ι' ((g1.trans gb).trans g') hr' xr) q⟩
  subst ed
  exact ⟨rv, q _ H3 ι3 (g1.trans (gb.trans g3)) hr3 ⟨x, pre_get g3.pre ix, rfl⟩⟩
/-- C(), an own exception class without an __init__ -/
structure GX0 (K : PySem.W.Frag) (mg : Str → Option Value) (C : Str) : Prop where
  ex : ∃ c bm, mg C = some (.ref c) ∧ PySem.W.excIn K c bm "ValueError.__new__" = true ∧ ExcBaseFacts "ValueError" "ValueError.__new__" "ValueError.__init__" bm ∧ PySem.W.keepIn K (.ref c) = true
def wMkX0 (C : Str) : WE := fun _ h Q _ => Q (.ref h.length) (h ++ [.exo C none])
theorem de_mkX0 {C : Str} (G : GX0 X.K X.mg C) (hg : Gl X C := by rfl) (hdb : (C == ("__debug__" : Str)) = false := by decide) : DE X W (.Call (.Name C p) [] [] pos) (wMkX0 C) := by
  obtain ⟨c, bm, mc, hq, Fx, kC⟩ := G.ex
  refine ⟨⟨fun pins s σ H Q I ⟨ι, h, sl, hr, sr, q⟩ => ?_⟩, fun s h Q Q' E E' hq he q => hq _ _ q⟩
  apply wpAny_Call_Name_kw
  apply ld_glob I hg mc ?_ hdb
  apply PySem.W.callWith_K0 I.kIn kC
  obtain ⟨bm', N, nm, qn, bs, hdct, sn, sub, ab, col, dd, k0, k1, k2, k3, k5, mN, hC, hN, hni, T⟩ := exc_obj I.kIn hq
  apply wpAny_call_exc_subT Fx T hC hN hni ?_ (by show 0 ≤ sizeLine; omega)
  intro h' x hm
  obtain ⟨t, he, _, _⟩ := hm.there
  have hn : H x = none := I.hok.gone hm.new
  have J := I.laidN (t' := s.toks) (o := exo x c none) hm.keeps hm.new hn (exo_ok he)
  refine ⟨.ref x, _, J, rfl, q _ _ (ι ++ [x]) (Gr.fresh hn _ (List.prefix_append _ _)) (hr.push hn ⟨c, mc, upd_same⟩) ⟨x, ?_, rfl⟩⟩
  rw [← hr.len, List.getElem?_append_right (Nat.le_refl _), Nat.sub_self]; rfl
/-- B.__init__(self, ..), B an own exception class without an __init__ -/
structure GXI (K : PySem.W.Frag) (mg : Str → Option Value) (B : Str) : Prop where
  ex : ∃ b, mg B = some (.ref b) ∧ PySem.W.specialIn K (.ref b) "__getattribute__" = some (some (.builtin "type.__getattribute__")) ∧ PySem.W.readsIn K b (.type "type") = true ∧ PySem.W.findCls K (.ref b) (.type "type") "__init__" = some (.val (.builtin "ValueError.__init__"))
structure GXC (K : PySem.W.Frag) (mg : Str → Option Value) (C : Str) : Prop where
  ex : ∃ c, mg C = some (.ref c) ∧ OexC K c
def wXIni (C : Str) (w : WA) : WE := fun s h Q E => w s h (fun ds h1 => ∃ n es, ds = .ref n :: es ∧ es.length ≤ 1000 ∧ h1[n]? = some (.exo C none) ∧ Q .non h1) E
theorem de_xini {B C : Str} {pl : Sem Bool} (G : GXI X.K X.mg B) (T : GXC X.K X.mg C) (ha : DA X W (e :: es) wr) (hg : Gl X B := by rfl) (hdb : (B == ("__debug__" : Str)) = false := by decide)
    (hc : eval (.Call (.Attribute (.Name B p1) "__init__" p2) (e :: es) [] pos) X.env = (do
      let ov ← eval (.Name B p1) X.env
      standAt p2.atName
      let (f, first) ← holding [ov] (getMethod ov "__init__" pl)
      callWith pos f first (backTo pos (starEach (e :: es) X.env)) (backToKw pos (keywordEach [] X.env))) := by rfl)
    (he : starEach (e :: es) X.env = (false, eval e X.env) :: starEach es X.env := by rfl) (hpl : (backTo pos (starEach es X.env)).any (·.1) = false := by rfl) : DE X W (.Call (.Attribute (.Name B p1) "__init__" p2) (e :: es) [] pos) (wXIni C wr) := by
  obtain ⟨b, mb, hsp, hrd, hf⟩ := G.ex
  obtain ⟨c, mc, oc⟩ := T.ex
  refine ⟨⟨fun pins s σ H Q I ⟨ι, h, sl, hr, sr, q⟩ => ?_⟩, fun s h Q Q' E E' hq hE q => ha.mono s h _ _ _ _ (fun ds h1 ⟨n, es, a, b, c, q⟩ => ⟨n, es, a, b, c, hq _ _ q⟩) hE q⟩
  apply PySem.W.methodCall_KW (ld_glob I hg mb ?_ hdb) hc
  apply PySem.W.method_cls I.kIn hsp
  apply PySem.W.cls_value I.kIn hrd hf (by decide +kernel)
  show wpAny _ _ (callWith pos (Value.builtin "ValueError.__init__") [] (backTo pos (starEach (e :: es) X.env)) []) _ _ _
  apply PyProof.Rows.callWith_method1 ?_ he hpl
  refine thn (ha.pa.run pos pins _ σ H (fun vs H1 => ∃ a ws, vs = .ref a :: ws ∧ ws.length ≤ 1000 ∧ H1 a = some (exo a c none) ∧ Q .non H1) (I.tok _ |>.tok _) ⟨ι, h, sl, hr, sr, ha.mono sl h _ _ _ _ (fun ds h1 ⟨n, es', ed, hl, z, q⟩ vs H1 ι1 g1 hr1 rs => ?_) (fun _ _ e => e) q⟩) ?_
  · rintro us s1 ⟨vs, H1, I1, r1, x, ws, ev, hl, ea, q⟩
    subst ev
    cases r1 with
    | @cons _ u0 _ ur ra rw' =>
      obtain rfl : u0 = Value.ref x := ra
      have hlen : ur.length ≤ sizeLine := by rw [← Paired.length rw', sizeLine_eq]; omega
      exact oinit_ok oc I1 ea hlen fun s' J => ⟨.non, H1, J, rfl, q⟩
  · subst ed
    obtain ⟨v, ws, rfl, ⟨x, ix, rfl⟩, rw'⟩ := rs
    obtain ⟨c', mc', ho⟩ := hr1.obj _ _ _ z ix
    rw [mc] at mc'
    cases mc'
    exact ⟨x, ws, rfl, by rw [rw'.length]; exact hl, ho, q _ H1 ι1 g1 hr1 rfl⟩
/-- self.f = v in such an __init__ -/
structure GXF (K : PySem.W.Frag) (mg : Str → Option Value) (C f : Str) : Prop where
  ex : ∃ c, mg C = some (.ref c) ∧ OexC K c ∧ ExcC K c ∧ PySem.W.findIn K (.ref c) f = some none
def wSetX (C f : Str) (wo wv : WE) : WS := fun B s h => wv s h (fun d h1 => wo s h1 (fun o h2 => ∃ n, o = .ref n ∧
  ((h2[n]? = some (.exo C none) ∧ B.nx s ((h2 ++ [O.exd [(f, d)]]).set n (.exo C (some h2.length)))) ∨
   ∃ m fs, h2[n]? = some (.exo C (some m)) ∧ h2[m]? = some (.exd fs) ∧ fs.length ≤ 900 ∧ B.nx s (h2.set m (.exd ((f, d) :: fs))))) (B.ex s)) (B.ex s)
theorem ds_xfld {C f : Str} {value : Expr} (cf : GXF X.K X.mg C f) (ho : DE X W o wo) (hv : DE X W value wv) (hs : swapsWith value (some (.Attribute o f pos')) pos.line X.env = pure false := by rfl) : DS X W (.Assign [.Attribute o f pos'] value pos) (wSetX C f wo wv) := by
  obtain ⟨c, mc, oc, ec, nf⟩ := cf.ex
  refine ⟨PS.imp (ps_ost ho.pe hv.pe hs) fun B σ H ⟨ι, h, s, hr, sr, q⟩ => ?_, fun A B s h l q => hv.mono s h _ _ _ _ (fun d h1 q => ho.mono s h1 _ _ _ _ (fun o h2 ⟨n, e, q⟩ => ⟨n, e, q.elim (fun ⟨z, q⟩ => .inl ⟨z, l.nx _ _ q⟩) (fun ⟨m, fs, z, y, k, q⟩ => .inr ⟨m, fs, z, y, k, l.nx _ _ q⟩)⟩) (fun x h q => l.ex s x h q) q) (fun x h q => l.ex s x h q) q⟩
  refine ⟨ι, h, s, hr, sr, hv.mono s h _ _ _ _ (fun d h1 q v H1 ι1 g1 hr1 rd => ?_) (QD.exq sr) q⟩
  refine ⟨ι1, h1, s, hr1, sr.mono g1, ho.mono s h1 _ _ _ _ (fun o h2 ⟨n, e, q⟩ u H2 ι2 g2 hr2 ro => ?_) (fun x h' q' => QX.on (QD.exq sr x h' q') g1) q⟩
  subst e
  obtain ⟨x, ex, rfl⟩ := ro
  rcases q with ⟨z, q⟩ | ⟨m, fs, z, y, k, q⟩
  · obtain ⟨c', mc', e1⟩ := hr2.obj _ _ _ z ex
    rw [mc] at mc'
    cases mc'
    refine ⟨x, c, rfl, oc, nf, .inl ⟨e1, fun dx hdx ne => ?_⟩⟩
    have ga : Gr X.K H2 (upd H2 dx (exd dx [(f, v)])) ι2 (ι2 ++ [dx]) := Gr.fresh hdx _ (List.prefix_append _ _)
    have hr3 : HRel X.K (upd H2 dx (exd dx [(f, v)])) (ι2 ++ [dx]) X.mg (h2 ++ [.exd [(f, d)]]) := hr2.push hdx ⟨[(f, v)], upd_same, v, [], rfl, rd.mono (g2.trans ga), rfl⟩
    have hn : n < h2.length := (List.getElem?_eq_some_iff.mp z).1
    have z' : (h2 ++ [O.exd [(f, d)]])[n]? = some (.exo C none) := by rw [List.getElem?_append_left hn]; exact z
    have ix : (ι2 ++ [dx])[h2.length]? = some dx := by rw [← hr2.len, List.getElem?_append_right (Nat.le_refl _), Nat.sub_self]; rfl
    obtain ⟨gb, hr4⟩ := hr3.write (u := exo x c (some dx)) (o' := .exo C (some h2.length)) z' (pre_get ga.pre ex) ⟨c, dx, mc, ix, upd_same⟩
    exact q σ _ _ ((g1.trans g2).trans (ga.trans gb)) hr4 (sr.mono ((g1.trans g2).trans (ga.trans gb)))
  · obtain ⟨c', dx, mc', im, e1⟩ := hr2.obj _ _ _ z ex
    rw [mc] at mc'
    cases mc'
    obtain ⟨vs, e2, rs⟩ := hr2.obj _ _ _ y im
    refine ⟨x, c, rfl, oc, nf, .inr ⟨dx, vs, e1, e2, by rw [rs.length]; exact k, ?_⟩⟩
    obtain ⟨w0, ew, w1, w2⟩ := (hr2.obj _ _ _ y im).there
    have g : Gr X.K H2 (upd H2 dx (exd dx ((f, v) :: vs))) ι2 ι2 := Gr.write ew w1 w2
    obtain ⟨_, hr3⟩ := hr2.write (u := exd dx ((f, v) :: vs)) (o' := .exd ((f, d) :: fs)) y im ⟨_, upd_same, v, vs, rfl, rd.mono (g2.trans g), rs.mono g⟩
    exact q σ _ ι2 ((g1.trans g2).trans g) hr3 (sr.mono ((g1.trans g2).trans g))
/-- x.f, x an exception of one of the classes Cs -/
def kXf (f : Str) (Cs : List Str) : K1 := fun _ d h Q _ => ∃ n C m fs v, d = .ref n ∧ h[n]? = some (.exo C (some m)) ∧ C ∈ Cs ∧ h[m]? = some (.exd fs) ∧ fs.lookup f = some v ∧ Q v h
theorem mono_xf {f : Str} {Cs : List Str} : Mono1 (kXf f Cs) := fun s d h Q Q' E E' hq _ ⟨n, C, m, fs, v, e, z, i, y, l, q⟩ => ⟨n, C, m, fs, v, e, z, i, y, l, hq _ _ q⟩
def tXv (K : PySem.W.Frag) (f : Str) (te : TE) : TE := fun σ H Q => te σ H fun x H1 => ∃ a c d fs v, x = .ref a ∧ ExcC K c ∧ PySem.W.findIn K (.ref c) f = some none ∧ H1 a = some (exo a c (some d)) ∧ H1 d = some (exd d fs) ∧ fs.lookup f = some v ∧ Q v H1
theorem pe_xv {f : Str} {te : TE} (he : PE X a te) (hb : attributeBase a f X.env (eval a X.env) = eval a X.env) : PE X (.Attribute a f pos) (tXv X.K f te) := by
  constructor
  intro pins s σ H Q I h
  apply attr_of hb
  refine thn (he.run pins s σ H _ I h) ?_
  rintro u s1 ⟨x, H1, I1, rx, ad, c, d, fs, v, rfl, ec, nf, e1, e2, l, q⟩
  obtain rfl : u = Value.ref ad := rx
  obtain ⟨t1, ha⟩ := exo_at I1.hok e1
  obtain ⟨mA, hns, hr⟩ := exd_at I1.hok e2
  obtain ⟨od, hod, hl⟩ := lookIn_ns hns
  obtain ⟨u, hu, ru⟩ := RelO.some_of (v := v) (o := mA f) (by rw [← l]; exact hr f)
  exact HandSPX.exc_get (od := some od) I1.kIn ⟨ha, rfl, rfl, hod⟩ ec.hg ec.hk ec.hs (PySem.W.findObj_own ec.hd nf rfl (by rw [hl, hu])) (handed_of ru) ⟨v, H1, I1.tok _, ru, q⟩
theorem de_xf {f : Str} {Cs : List Str} (cf : ∀ C ∈ Cs, GXF X.K X.mg C f) (ha : DE X W a wa) (hb : attributeBase a f X.env (eval a X.env) = eval a X.env := by rfl) : DE X W (.Attribute a f pos) (wUn (kXf f Cs) wa) := by
  refine ⟨PE.imp (pe_xv ha.pe hb) fun σ H Q ⟨ι, h, s, hr, sr, q⟩ => ?_, mono_un ha.mono mono_xf⟩
  refine ⟨ι, h, s, hr, sr, ha.mono s h _ _ _ _ (fun d h1 ⟨n, C, m, fs, v, ed, z, i, y, l, q⟩ x H1 ι1 g1 hr1 rd => ?_) (fun _ _ e => e) q⟩
  subst ed
  obtain ⟨p, ep, rfl⟩ := rd
  obtain ⟨c, dx, mc, im, e1⟩ := hr1.obj _ _ _ z ep
  obtain ⟨c', mc', oc, ec, nf⟩ := (cf C i).ex
  rw [mc] at mc'
  cases mc'
  obtain ⟨vs, e2, rs⟩ := hr1.obj _ _ _ y im
  obtain ⟨u, eu, ru⟩ := rs.look l
  exact ⟨p, c, dx, vs, u, rfl, ec, nf, e1, e2, eu, q u H1 ι1 g1 hr1 ru⟩
/-! isinstance of such a value -/
theorem kit_exo {pins : List (Addr × Obj)} {s : Shared} {σ : St} {H : Hp} {x c : Addr} {d : Option Addr} (I : L2.Inv X pins σ H s) (ec : ExcC X.K c) (e : H x = some (exo x c d)) (hd : ∀ dx, d = some dx → (∃ o, H dx = some o) ∨ ∃ o, X.K.lookup dx = some o) :
    ∃ P : Heap → Prop, PySem.W.KitX X.K (.ref x) (.ref c) P ∧ P s.heap ∧ Value.ref x ≠ .builtin "__main__.__loader__#opaque" := by
  obtain ⟨t1, ho⟩ := exo_at I.hok e
  have hc : (PySem.W.clsIn X.K c).isSome = true := by
    obtain ⟨cd, q, _⟩ := PySem.W.any_some ec.hd
    rw [q]; rfl
  cases d with
  | none => exact ⟨_, PySem.W.kitx_exc (od := none) hc ec.hg ec.hk ec.hs ec.ha ec.hn ec.ht ec.hm, ⟨ho, rfl, rfl, trivial⟩, fun z => nomatch z⟩
  | some dx =>
    have hx : ∃ od, s.heap.get? dx = some od := by
      rcases hd dx rfl with ⟨u, hu⟩ | ⟨u, hu⟩
      · exact objOk_get (I.hok dx u hu)
      · exact ⟨u, I.kIn dx u hu⟩
    obtain ⟨od, hod⟩ := hx
    exact ⟨_, PySem.W.kitx_exc (od := some od) hc ec.hg ec.hk ec.hs ec.ha ec.hn ec.ht ec.hm, ⟨ho, rfl, rfl, hod⟩, fun z => nomatch z⟩
def rIsX (K : PySem.W.Frag) (cs : List V) (us : List Value) : List V → Hp → VK → Prop := fun xs H Q => ∃ (x c : Addr) (d : Option Addr) (y : V) (b : Bool), xs = [.ref x, y] ∧ H x = some (exo x c d) ∧ (∀ dx, d = some dx → (∃ o, H dx = some o) ∨ ∃ o, K.lookup dx = some o) ∧ ExcC K c ∧ Paired ClsV cs us ∧
  ((∃ v u, cs = [v] ∧ us = [u] ∧ y = v ∧ PySem.W.kitOne K (.ref c) u = some b) ∨ (∃ tp, y = .ref tp ∧ SqT K H tp cs ∧ PySem.W.kitAny K (.ref c) us = some b)) ∧ Q (.bl b) H
theorem call_isX {cs : List V} {us : List Value} : CallR X (.builtin "isinstance") (rIsX X.K cs us) := by
  rintro pins s σ H xs ws Q I r ⟨x, c, d, y, b, rfl, ex, hd, ec, pc, alt, q⟩
  cases r with
  | cons r1 rr =>
    cases rr with
    | cons r2 rr =>
      cases rr
      cases r1
      obtain ⟨P, Z, hp, hx⟩ := kit_exo I ec ex hd
      rcases alt with ⟨v, u, rfl, rfl, rfl, ek⟩ | ⟨tp, rfl, sq, ek⟩
      · cases pc with
        | cons k _ =>
          obtain rfl := k.eq r2
          exact PySem.W.kia_one Z I.kIn hp ek hx fun tk => ⟨.bl b, H, I.tok tk, rfl, q⟩
      · cases r2
        obtain ⟨its, rv, ⟨ob, g1, g2, n, g3⟩, _⟩ := I.tuple sq
        have e3 := ClsV.all pc rv
        subst e3
        obtain ⟨oc, od, dt, sl⟩ := ob
        dsimp only at g2 g3
        subst g2
        subst g3
        exact PySem.W.kia_tup Z I.kIn hp g1 ek hx fun tk => ⟨.bl b, H, I.tok tk, rfl, q⟩
/-- what isinstance tells of exceptions of the classes of the table -/
def kIsX (tab : List (Str × Bool)) : K1 := fun _ d h Q _ => ∃ n C m b, d = .ref n ∧ h[n]? = some (.exo C m) ∧ tab.lookup C = some b ∧ Q (.bl b) h
theorem mono_isX {tab : List (Str × Bool)} : Mono1 (kIsX tab) := fun s d h Q Q' E E' hq _ ⟨n, C, m, b, e, z, l, q⟩ => ⟨n, C, m, b, e, z, l, hq _ _ q⟩
structure GIs (K : PySem.W.Frag) (mg : Str → Option Value) (cs : List V) (us : List Value) (tab : List (Str × Bool)) : Prop where
  pc : Paired ClsV cs us
  tb : ∀ C b, tab.lookup C = some b → ∃ c, mg C = some (.ref c) ∧ ExcC K c ∧ PySem.W.kitAny K (.ref c) us = some b
theorem exo_dict {K : PySem.W.Frag} {H : Hp} {ι : List Addr} {mg : Str → Option Value} {h : Hh} {n : Nat} {C : Str} {m : Option Nat} {x : Addr} (hr : HRel K H ι mg h) (z : h[n]? = some (.exo C m)) (ex : ι[n]? = some x) : ∃ c d, mg C = some (.ref c) ∧ H x = some (exo x c d) ∧ ∀ dx, d = some dx → (∃ o, H dx = some o) ∨ ∃ o, K.lookup dx = some o := by
  cases m with
  | none => obtain ⟨c, mc, e1⟩ := hr.obj _ _ _ z ex; exact ⟨c, none, mc, e1, fun dx e => nomatch e⟩
  | some m =>
    obtain ⟨c, dx, mc, im, e1⟩ := hr.obj _ _ _ z ex
    refine ⟨c, some dx, mc, e1, fun d e => ?_⟩
    cases e
    have hm : m < h.length := by rw [← hr.len]; exact (List.getElem?_eq_some_iff.mp im).1
    have r := hr.obj m h[m] dx (List.getElem?_eq_getElem hm) im
    by_cases hn : ∃ ds, h[m] = .rol ds
    · obtain ⟨ds, q⟩ := hn
      rw [q] at r
      obtain ⟨vs, ⟨o, z⟩ | ⟨o, its, k, z, _⟩, _⟩ := r
      · exact .inl ⟨_, z⟩
      · exact .inr ⟨o, z⟩
    · obtain ⟨u, hu⟩ := r.here fun ds q => hn ⟨ds, q⟩
      exact .inl ⟨u, hu⟩
theorem kitAny1 {K : PySem.W.Frag} {t u : Value} {b : Bool} (h : PySem.W.kitAny K t [u] = some b) : PySem.W.kitOne K t u = some b := by
  simp only [PySem.W.kitAny] at h
  cases e : PySem.W.kitOne K t u with
  | none => rw [e] at h; cases h
  | some k => rw [e] at h; cases k <;> exact h
theorem de_isX1 {c : Expr} {v : V} {u : Value} {tab : List (Str × Bool)} (G : GIs X.K X.mg [v] [u] tab) (hm : X.mg "isinstance" = none) (ha : Mono wa) (hda : DA X W [a, c] (wCons wa (wCons (wC (.opq v)) wNil))) (hg : Gl X "isinstance" := by rfl)
    (he : starEach [a, c] X.env = (false, eval a X.env) :: starEach [c] X.env := by rfl) (hpl : (backTo pos (starEach [c] X.env)).any (·.1) = false := by rfl) : DE X W (.Call (.Name "isinstance" p) [a, c] [] pos) (wUn (kIsX tab) wa) := by
  refine ⟨PE.imp (pe_callB (call_isX (cs := [v]) (us := [u])) hg hm (by decide +kernel) hda.pa (by decide) (by decide) he hpl) fun σ H Q ⟨ι, h, s, hr, sr, q⟩ => ?_, mono_un ha mono_isX⟩
  refine ⟨ι, h, s, hr, sr, ha s h _ _ _ _ (fun d h1 ⟨n, C, m, b, ed, z, l, q⟩ xs H1 ι1 g1 hr1 rs => ?_) (fun _ _ e => e) q⟩
  subst ed
  obtain ⟨_, _, rfl, ⟨x, ex, rfl⟩, _, _, rfl, rv, rn⟩ := rs
  cases rn
  cases rv
  obtain ⟨c0, d, mc, e1, hd⟩ := exo_dict hr1 z ex
  obtain ⟨c1, mc1, ec, ek⟩ := G.tb C b l
  rw [mc] at mc1
  cases mc1
  exact ⟨x, c0, d, _, b, rfl, e1, hd, ec, G.pc, .inl ⟨_, _, rfl, rfl, rfl, kitAny1 ek⟩, q _ H1 ι1 g1 hr1 rfl⟩
theorem rel_opqs {K : PySem.W.Frag} {H : Hp} {ι : List Addr} : ∀ {vs us : List V}, RelDs K H ι (vs.map .opq) us → us = vs
  | [], _, h => h
  | v :: vs, _, h => by
    obtain ⟨u, r, rfl, e, h⟩ := h
    rw [rel_opqs h, show u = v from e]
theorem de_isXs {cs : List V} {us : List Value} {c : Expr} {wr : WA} {tab : List (Str × Bool)} (G : GIs X.K X.mg cs us tab) (hm : X.mg "isinstance" = none) (ha : Mono wa) (hw : ∀ s h Q E, Q (cs.map .opq) h → wr s h Q E) (hl : cs.length ≤ sizeLine)
    (hda : DA X W [a, c] (wCons wa (wCons (wTup wr) wNil))) (hg : Gl X "isinstance" := by rfl)
    (he : starEach [a, c] X.env = (false, eval a X.env) :: starEach [c] X.env := by rfl) (hpl : (backTo pos (starEach [c] X.env)).any (·.1) = false := by rfl) : DE X W (.Call (.Name "isinstance" p) [a, c] [] pos) (wUn (kIsX tab) wa) := by
  refine ⟨PE.imp (pe_callB (call_isX (cs := cs) (us := us)) hg hm (by decide +kernel) hda.pa (by decide) (by decide) he hpl) fun σ H Q ⟨ι, h, s, hr, sr, q⟩ => ?_, mono_un ha mono_isX⟩
  refine ⟨ι, h, s, hr, sr, ha s h _ _ _ _ (fun d h1 ⟨n, C, m, b, ed, z, l, q⟩ => hw _ _ _ _ ⟨by rw [List.length_map]; exact hl, fun xs H1 ι1 g1 hr1 rs => ?_⟩) (fun _ _ e => e) q⟩
  subst ed
  obtain ⟨_, _, rfl, ⟨x, ex, rfl⟩, _, _, rfl, ⟨tp, vs, rfl, sq, rv⟩, rn⟩ := rs
  cases rn
  cases rel_opqs rv
  obtain ⟨c0, d, mc, e1, hd⟩ := exo_dict hr1 z ex
  obtain ⟨c1, mc1, ec, ek⟩ := G.tb C b l
  rw [mc] at mc1
  cases mc1
  exact ⟨x, c0, d, _, b, rfl, e1, hd, ec, G.pc, .inr ⟨tp, rfl, sq, ek⟩, q _ H1 ι1 g1 hr1 rfl⟩
end
end EV

namespace EV
open PySem PySem.Spec PyProof.Rows L2
/-! ### functional specs -/
def spR (r : List D → Hh → Option (D × Hh)) : SpD := fun ds h Q _ => Get (r ds h) Q
theorem mono_spR (r : List D → Hh → Option (D × Hh)) : MonoSp (spR r) := fun ds h Q Q' E E' hq he ⟨d, h', e, q⟩ => ⟨d, h', e, hq _ _ q⟩
section
variable {X : Cx} {W : WX} {pos p p1 p2 p3 pos' : Pos} {a e o : Expr} {wa : WE}
theorem fn_ok3 {P : Program} {w : World} {K : PySem.W.Frag} {mg : Str → Option Value} {base : Heap} {x qual : Str} {st : Stmt} {f : Addr} {fd : FuncData} {N ps : List Str} {k : Nat} {sp : SpD} {wb : WS}
    (F : Fun K x qual st f fd) (S : FnScope N ps (defScope st)) (len : ∀ ds h Q E, sp ds h Q E → ds.length = ps.length) (hw : ∀ ds h Q E, sp ds h Q E → wb (endsOf Q E) (slots0 N ds) h)
    (hb : ∀ (cdv : Value) (A : Around) (outer : List Env) (s : Shared) (H : Hp) (E : XK), Room k (cxOf (L2.CX P w) P w K mg base N qual (defScope st) f cdv A outer s H E).A → Takes (cxOf (L2.CX P w) P w K mg base N qual (defScope st) f cdv A outer s H E) (nS E) →
      PassesOwn (model P w) (cxOf (L2.CX P w) P w K mg base N qual (defScope st) f cdv A outer s H E).A (cxOf (L2.CX P w) P w K mg base N qual (defScope st) f cdv A outer s H E).env (cxOf (L2.CX P w) P w K mg base N qual (defScope st) f cdv A outer s H E).xe →
      DSs (cxOf (L2.CX P w) P w K mg base N qual (defScope st) f cdv A outer s H E) (nS E) (defBody st) wb) :
    FnOk P w K mg base (L2.CX P w) (k + 1) f fd ps (LSp K mg sp) := by
  refine F.okX S (fun vs H Q E ⟨ι, h, ds, hr, rs, pr⟩ => by rw [rs.length]; exact len ds h _ _ pr) (fun cdv A outer s H vs Q E hr hsp => ?_)
  obtain ⟨ι, h, ds, hrel, rs, pr⟩ := hsp
  have D := hb cdv A outer s H E hr (takes_of rfl rfl rfl rfl) (passes_of rfl)
  refine ⟨_, D.ps, ι, h, slots0 N ds, hrel, start_rel rs, D.mono _ _ _ _ ⟨fun s' h' z σ' H' ι' g hr' _ => ?_, fun d h' z => ?_, fun _ _ z => False.elim z, fun _ _ z => False.elim z, fun s' y h' z c d σ' H' ι' g hr' _ xr => ?_⟩ (hw ds h _ _ pr)⟩
  · exact z .non H' ι' g hr' rfl
  · exact z
  · exact z c d H' ι' g hr' xr
/-! ### isinstance, the class by its name -/
structure GIsN (K : PySem.W.Frag) (mg : Str → Option Value) (Cs : List Str) (tab : List (Str × Bool)) : Prop where
  ex : ∃ cs : List Addr, Paired (fun C c => mg C = some (.ref c)) Cs cs ∧ ∀ C b, tab.lookup C = some b → ∃ c, mg C = some (.ref c) ∧ ExcC K c ∧ PySem.W.kitAny K (.ref c) (cs.map Value.ref) = some b
structure GIsB (K : PySem.W.Frag) (mg : Str → Option Value) (T : String) (tab : List (Str × Bool)) : Prop where
  no : mg (Str.ofString T) = none
  tb : ∀ C b, tab.lookup C = some b → ∃ c, mg C = some (.ref c) ∧ ExcC K c ∧ PySem.W.kitAny K (.ref c) [.type T] = some b
theorem de_isN {C : Str} {tab : List (Str × Bool)} (G : GIsN X.K X.mg [C] tab) (hm : X.mg "isinstance" = none) (ha : DE X W a wa) (hg : Gl X "isinstance" := by rfl) (hC : Gl X C := by rfl) (hd : (C == ("__debug__" : Str)) = false := by decide)
    (he : starEach [a, .Name C p2] X.env = (false, eval a X.env) :: starEach [.Name C p2] X.env := by rfl) (hpl : (backTo pos (starEach [.Name C p2] X.env)).any (·.1) = false := by rfl) : DE X W (.Call (.Name "isinstance" p) [a, .Name C p2] [] pos) (wUn (kIsX tab) wa) := by
  obtain ⟨cs, pc, tb⟩ := G.ex
  cases pc with
  | cons m r =>
    rename_i c _
    cases r
    have hc : DE X W (.Name C p2) (wC (.opq (.ref c))) := de_glob ⟨.ref c, .ref c, m, rfl, fun _ _ => rfl⟩ hC hd
    exact de_isX1 (v := .ref c) (u := .ref c) ⟨.cons (.own c) .nil, tb⟩ hm ha.mono (da_cons ha (da_cons hc da_nil (by rfl)) he) hg he hpl
theorem de_isB {T : String} {tab : List (Str × Bool)} (G : GIsB X.K X.mg T tab) (hm : X.mg "isinstance" = none) (hv : bootBuiltins (Str.ofString T) = some (.type T)) (ha : DE X W a wa) (hg : Gl X "isinstance" := by rfl) (hC : Gl X (Str.ofString T) := by rfl) (hn : Str.ofString T ≠ "__name__" := by decide) (hd : (Str.ofString T == ("__debug__" : Str)) = false := by decide)
    (he : starEach [a, .Name (Str.ofString T) p2] X.env = (false, eval a X.env) :: starEach [.Name (Str.ofString T) p2] X.env := by rfl) (hpl : (backTo pos (starEach [.Name (Str.ofString T) p2] X.env)).any (·.1) = false := by rfl) : DE X W (.Call (.Name "isinstance" p) [a, .Name (Str.ofString T) p2] [] pos) (wUn (kIsX tab) wa) := by
  have hc : DE X W (.Name (Str.ofString T) p2) (wC (.opq (.ty T))) := de_ty G.no hv hC hn hd
  exact de_isX1 (v := .ty T) (u := .type T) ⟨.cons (.ty T) .nil, G.tb⟩ hm ha.mono (da_cons ha (da_cons hc da_nil (by rfl)) he) hg he hpl
theorem de_is3 {C1 C2 C3 : Str} {tab : List (Str × Bool)} {kk : Nat} (G : GIsN X.K X.mg [C1, C2, C3] tab) (hm : X.mg "isinstance" = none) (ha : DE X W a wa) (hg : Gl X "isinstance" := by rfl) (h1 : Gl X C1 := by rfl) (h2 : Gl X C2 := by rfl) (h3 : Gl X C3 := by rfl)
    (d1 : (C1 == ("__debug__" : Str)) = false := by decide) (d2 : (C2 == ("__debug__" : Str)) = false := by decide) (d3 : (C3 == ("__debug__" : Str)) = false := by decide)
    (he : starEach [a, .Tuple [.Name C1 p1, .Name C2 p2, .Name C3 p3] kk pos'] X.env = (false, eval a X.env) :: starEach [.Tuple [.Name C1 p1, .Name C2 p2, .Name C3 p3] kk pos'] X.env := by rfl) (hpl : (backTo pos (starEach [.Tuple [.Name C1 p1, .Name C2 p2, .Name C3 p3] kk pos'] X.env)).any (·.1) = false := by rfl) :
    DE X W (.Call (.Name "isinstance" p) [a, .Tuple [.Name C1 p1, .Name C2 p2, .Name C3 p3] kk pos'] [] pos) (wUn (kIsX tab) wa) := by
  obtain ⟨cs, pc, tb⟩ := G.ex
  cases pc with
  | cons m1 r =>
    rename_i c1 _
    cases r with
    | cons m2 r =>
      rename_i c2 _
      cases r with
      | cons m3 r =>
        rename_i c3 _
        cases r
        have e1 : DE X W (.Name C1 p1) (wC (.opq (.ref c1))) := de_glob ⟨.ref c1, .ref c1, m1, rfl, fun _ _ => rfl⟩ h1 d1
        have e2 : DE X W (.Name C2 p2) (wC (.opq (.ref c2))) := de_glob ⟨.ref c2, .ref c2, m2, rfl, fun _ _ => rfl⟩ h2 d2
        have e3 : DE X W (.Name C3 p3) (wC (.opq (.ref c3))) := de_glob ⟨.ref c3, .ref c3, m3, rfl, fun _ _ => rfl⟩ h3 d3
        exact de_isXs (cs := [.ref c1, .ref c2, .ref c3]) (us := [.ref c1, .ref c2, .ref c3]) ⟨.cons (.own c1) (.cons (.own c2) (.cons (.own c3) .nil)), tb⟩ hm ha.mono (fun s h Q E q => q) (by show 3 ≤ sizeLine; decide) (da_cons ha (da_cons (de_tup (da_cons e1 (da_cons e2 (da_cons e3 da_nil)))) da_nil (by rfl)) he) hg he hpl
end
section
variable {wa wo wv : WE} {B : DEnds} {s : Sl} {h : Hh} {Q : PV} {E : PX} {wr : WA}
@[simp] theorem e_mkX {C : Str} {sp : SpD} : wMkX C sp wr s h Q E = wr s h (fun ds h1 => ds.length ≤ 1000 ∧ sp (.ref h1.length :: ds) (h1 ++ [.exo C none]) (fun r h2 => r = .non ∧ Q (.ref h1.length) h2) E) E := rfl
@[simp] theorem e_mkX0 {C : Str} : wMkX0 C s h Q E = Q (.ref h.length) (h ++ [.exo C none]) := rfl
@[simp] theorem e_spR {r : List D → Hh → Option (D × Hh)} {ds : List D} : spR r ds h Q E = Get (r ds h) Q := rfl
end
end EV

namespace EV
open PySem PySem.Spec PyProof.Rows L2
/-! ### numbers below n; what nobody holds is forgotten -/
mutual
def ScD (n : Nat) : D → Prop
  | .tup ds => ScDs n ds
  | .ref m => m < n
  | .non => True
  | .bl _ => True
  | .int _ => True
  | .str _ => True
  | .opq _ => True
def ScDs (n : Nat) : List D → Prop
  | [] => True
  | d :: ds => ScD n d ∧ ScDs n ds
end
def ScKs {κ : Type} (n : Nat) : List (κ × D) → Prop
  | [] => True
  | p :: ps => ScD n p.2 ∧ ScKs n ps
def ScO (n : Nat) : O → Prop
  | .lst ds => ScDs n ds
  | .rol ds => ScDs n ds
  | .dic kvs => ScKs n kvs
  | .lck kvs => ScKs n kvs
  | .ins _ fs => ScKs n fs
  | .exo _ none => True
  | .exo _ (some m) => m < n
  | .exd fs => ScKs n fs
  | .xdo _ fs => ScKs n fs
  | .tab _ _ => True
def ScH (h : Hh) : Prop := ∀ o ∈ h, ScO h.length o
section
variable {K : PySem.W.Frag} {H H' : Hp} {ι ι' ι1 ι2 : List Addr} {mg : Str → Option Value}
theorem get_lt {α : Type} {l : List α} {n : Nat} {a : α} (e : l[n]? = some a) : n < l.length := (List.getElem?_eq_some_iff.mp e).1
mutual
theorem RelD.sc : ∀ {d : D} {v : V}, RelD K H ι d v → ScD ι.length d
  | .tup ds, _, h => by obtain ⟨a, vs, e, q, r⟩ := h; exact RelDs.sc r
  | .ref m, _, h => by obtain ⟨a, e, r⟩ := h; exact get_lt e
  | .non, _, _ => trivial
  | .bl _, _, _ => trivial
  | .int _, _, _ => trivial
  | .str _, _, _ => trivial
  | .opq _, _, _ => trivial
theorem RelDs.sc : ∀ {ds : List D} {vs : List V}, RelDs K H ι ds vs → ScDs ι.length ds
  | [], _, _ => trivial
  | _ :: _, _, h => by obtain ⟨v, r, e, h1, h2⟩ := h; exact ⟨RelD.sc h1, RelDs.sc h2⟩
end
theorem RelKs.sc {κ : Type} : ∀ {ps : List (κ × D)} {vs : List (κ × V)}, RelKs K H ι ps vs → ScKs ι.length ps
  | [], _, _ => trivial
  | _ :: _, _, h => by obtain ⟨v, r, e, h1, h2⟩ := h; exact ⟨h1.sc, RelKs.sc h2⟩
theorem RelO.sc {o : O} {a : Addr} (r : RelO K H ι mg o a) : ScO ι.length o := by
  cases o with
  | lst ds => obtain ⟨vs, _, t⟩ := r; exact t.sc
  | rol ds => obtain ⟨vs, _, t⟩ := r; exact t.sc
  | dic ds => obtain ⟨vs, _, t⟩ := r; exact t.sc
  | lck ds => obtain ⟨z, vs, _, t⟩ := r; exact t.sc
  | ins C fs => obtain ⟨c, dx, vs, m, q, t⟩ := r; exact t.sc
  | exo C d =>
    cases d with
    | none => trivial
    | some n => obtain ⟨c, dx, m, i, q⟩ := r; exact get_lt i
  | exd fs => obtain ⟨vs, _, t⟩ := r; exact t.sc
  | xdo d fs => obtain ⟨vs, _, _, t⟩ := r; exact t.sc
  | tab P q => trivial
theorem HRel.sc {h : Hh} (hr : HRel K H ι mg h) : ScH h := fun o ho => by
  obtain ⟨n, hn, rfl⟩ := List.getElem_of_mem ho
  obtain ⟨a, ea, r⟩ := hr.at (List.getElem?_eq_getElem hn)
  rw [← hr.len]; exact r.sc
theorem get_back {n : Nat} {a : Addr} (p : ι1 <+: ι2) (e : ι2[n]? = some a) (hn : n < ι1.length) : ι1[n]? = some a := by
  obtain ⟨t, rfl⟩ := p
  rw [List.getElem?_append_left hn] at e
  exact e
mutual
theorem RelD.back (p : ι1 <+: ι2) : ∀ {d : D} {v : V}, ScD ι1.length d → RelD K H ι2 d v → RelD K H ι1 d v
  | .tup ds, _, s, h => by obtain ⟨a, vs, e, q, r⟩ := h; exact ⟨a, vs, e, q, RelDs.back p s r⟩
  | .ref m, _, s, h => by obtain ⟨a, e, r⟩ := h; exact ⟨a, get_back p e s, r⟩
  | .non, _, _, h => h
  | .bl _, _, _, h => h
  | .int _, _, _, h => h
  | .str _, _, _, h => h
  | .opq _, _, _, h => h
theorem RelDs.back (p : ι1 <+: ι2) : ∀ {ds : List D} {vs : List V}, ScDs ι1.length ds → RelDs K H ι2 ds vs → RelDs K H ι1 ds vs
  | [], _, _, h => h
  | _ :: _, _, s, h => by obtain ⟨v, r, e, h1, h2⟩ := h; exact ⟨v, r, e, RelD.back p s.1 h1, RelDs.back p s.2 h2⟩
end
theorem RelKs.back {κ : Type} (p : ι1 <+: ι2) : ∀ {ps : List (κ × D)} {vs : List (κ × V)}, ScKs ι1.length ps → RelKs K H ι2 ps vs → RelKs K H ι1 ps vs
  | [], _, _, h => h
  | _ :: _, _, s, h => by obtain ⟨v, r, e, h1, h2⟩ := h; exact ⟨v, r, e, h1.back p s.1, RelKs.back p s.2 h2⟩
theorem RelO.back (p : ι1 <+: ι2) {o : O} {a : Addr} (s : ScO ι1.length o) (r : RelO K H ι2 mg o a) : RelO K H ι1 mg o a := by
  cases o with
  | lst ds => obtain ⟨vs, q, t⟩ := r; exact ⟨vs, q, t.back p s⟩
  | rol ds => obtain ⟨vs, q, t⟩ := r; exact ⟨vs, q, t.back p s⟩
  | dic ds => obtain ⟨vs, q, t⟩ := r; exact ⟨vs, q, t.back p s⟩
  | lck ds => obtain ⟨z, vs, q, t⟩ := r; exact ⟨z, vs, q, t.back p s⟩
  | ins C fs => obtain ⟨c, dx, vs, m, q, t⟩ := r; exact ⟨c, dx, vs, m, q, t.back p s⟩
  | exo C d =>
    cases d with
    | none => exact r
    | some n => obtain ⟨c, dx, m, i, q⟩ := r; exact ⟨c, dx, m, get_back p i s, q⟩
  | exd fs => obtain ⟨vs, q, t⟩ := r; exact ⟨vs, q, t.back p s⟩
  | xdo d fs => obtain ⟨vs, z, q, t⟩ := r; exact ⟨vs, z, q, t.back p s⟩
  | tab P q => exact r
theorem HRel.cut {h g : Hh} (hr : HRel K H ι mg (h ++ g)) (sc : ScH h) : HRel K H (ι.take h.length) mg h ∧ (ι.take h.length).length = h.length := by
  have hl : (ι.take h.length).length = h.length := by rw [List.length_take, hr.len, List.length_append]; omega
  have old : ∀ {n : Nat} {a : Addr}, (ι.take h.length)[n]? = some a → n < h.length ∧ ι[n]? = some a := fun {n a} e => by
    have hn := get_lt e
    rw [hl] at hn
    rw [List.getElem?_take_of_lt hn] at e
    exact ⟨hn, e⟩
  refine ⟨⟨hl, fun i j a e1 e2 => ?_, fun n o a e1 e2 => ?_⟩, hl⟩
  · obtain ⟨h1, f1⟩ := old e1
    obtain ⟨h2, f2⟩ := old e2
    have z := hr.nd i j a f1 f2
    rwa [List.getElem?_append_left h1, List.getElem?_append_left h2] at z
  · obtain ⟨h1, f1⟩ := old e2
    refine RelO.back (List.take_prefix _ _) ?_ (hr.obj n o a (by rw [List.getElem?_append_left h1]; exact e1) f1)
    rw [hl]
    exact sc o (List.mem_of_getElem? e1)
theorem Gr.cut {n : Nat} (g : Gr K H H' ι ι') (hn : ι.length ≤ n) : Gr K H H' ι (ι'.take n) :=
  ⟨⟨List.prefix_take_iff.mpr ⟨g.pre, hn⟩, g.tup⟩, g.kept, fun m a e hm => by
    have h1 := get_lt e
    rw [List.length_take] at h1
    rw [List.getElem?_take_of_lt (by omega)] at e
    exact g.new m a e hm⟩
/-- one of the new objects alone -/
theorem HRel.pick {h g : Hh} {j : Nat} {o : O} {a : Addr} (hr : HRel K H ι mg (h ++ g)) (sc : ScH h) (ej : g[j]? = some o) (so : ScO h.length o) (ea : ι[h.length + j]? = some a) : HRel K H (ι.take h.length ++ [a]) mg (h ++ [o]) := by
  obtain ⟨hc, hl⟩ := hr.cut sc
  have ne : ∀ {i : Nat}, i < h.length → ι[i]? = some a → (∃ ds, h[i]? = some (.rol ds)) ∨ ∃ ds, o = .rol ds := fun {i} hi e => by
    rcases hr.nd i (h.length + j) a e ea with z | ⟨ds, z⟩ | ⟨ds, z⟩
    · omega
    · rw [List.getElem?_append_left hi] at z; exact .inl ⟨ds, z⟩
    · rw [List.getElem?_append_right (by omega), Nat.add_sub_cancel_left, ej] at z; exact .inr ⟨ds, Option.some.inj z⟩
  have lk : ∀ {i : Nat} {b : Addr}, (ι.take h.length ++ [a])[i]? = some b → (i < h.length ∧ (ι.take h.length)[i]? = some b) ∨ (i = h.length ∧ b = a) := fun {i b} e => by
    by_cases hi : i < h.length
    · rw [List.getElem?_append_left (by rw [hl]; exact hi)] at e; exact .inl ⟨hi, e⟩
    · have h1 := get_lt e
      rw [List.length_append, hl, List.length_singleton] at h1
      have z : i = h.length := by omega
      subst z
      rw [List.getElem?_append_right (by rw [hl]; omega), hl, Nat.sub_self] at e
      simp at e
      exact .inr ⟨rfl, e.symm⟩
  have tk : ∀ {i : Nat} {b : Addr}, (ι.take h.length)[i]? = some b → i < h.length → ι[i]? = some b := fun {i b} e hi => by rwa [List.getElem?_take_of_lt hi] at e
  refine ⟨by rw [List.length_append, hl, List.length_append, List.length_singleton, List.length_singleton], fun i k b e1 e2 => ?_, fun n q b e1 e2 => ?_⟩
  · rcases lk e1 with ⟨h1, f1⟩ | ⟨h1, r1⟩
    · rcases lk e2 with ⟨h2, f2⟩ | ⟨h2, r2⟩
      · rcases hc.nd i k b f1 f2 with z | ⟨ds, z⟩ | ⟨ds, z⟩
        · exact .inl z
        · exact .inr (.inl ⟨ds, by rw [List.getElem?_append_left h1]; exact z⟩)
        · exact .inr (.inr ⟨ds, by rw [List.getElem?_append_left h2]; exact z⟩)
      · subst r2
        rcases ne h1 (tk f1 h1) with ⟨ds, z⟩ | ⟨ds, z⟩
        · exact .inr (.inl ⟨ds, by rw [List.getElem?_append_left h1]; exact z⟩)
        · exact .inr (.inr ⟨ds, by rw [h2, List.getElem?_append_right (Nat.le_refl _), Nat.sub_self, z]; rfl⟩)
    · rcases lk e2 with ⟨h2, f2⟩ | ⟨h2, r2⟩
      · subst r1
        rcases ne h2 (tk f2 h2) with ⟨ds, z⟩ | ⟨ds, z⟩
        · exact .inr (.inr ⟨ds, by rw [List.getElem?_append_left h2]; exact z⟩)
        · exact .inr (.inl ⟨ds, by rw [h1, List.getElem?_append_right (Nat.le_refl _), Nat.sub_self, z]; rfl⟩)
      · exact .inl (h1.trans h2.symm)
  · have pf : ι.take h.length <+: ι.take h.length ++ [a] := List.prefix_append _ _
    rcases lk e2 with ⟨h1, f1⟩ | ⟨h1, r1⟩
    · rw [List.getElem?_append_left h1] at e1
      exact (hc.obj n q b e1 f1).move ⟨pf, fun _ _ z => z⟩ rfl fun _ z => z
    · subst h1 r1
      rw [List.getElem?_append_right (Nat.le_refl _), Nat.sub_self] at e1
      simp at e1
      subst e1
      have r := hr.obj (h.length + j) o b (by rw [List.getElem?_append_right (by omega), Nat.add_sub_cancel_left]; exact ej) ea
      exact (RelO.back (List.take_prefix h.length ι) (by rw [hl]; exact so) r).move ⟨pf, fun _ _ z => z⟩ rfl fun _ z => z
theorem Gr.pick {n j : Nat} {a : Addr} (g : Gr K H H' ι ι') (hn : ι.length ≤ n) (hl : n ≤ ι'.length) (ea : ι'[n + j]? = some a) : Gr K H H' ι (ι'.take n ++ [a]) := by
  have c := g.cut hn
  have h1 : (ι'.take n).length = n := by rw [List.length_take]; omega
  refine ⟨⟨c.pre.trans (List.prefix_append _ _), g.tup⟩, g.kept, fun m b e hm => ?_⟩
  by_cases hm2 : m < n
  · rw [List.getElem?_append_left (by omega)] at e
    exact c.new m b e hm
  · have h2 := get_lt e
    rw [List.length_append, h1, List.length_singleton] at h2
    have z : m = n := by omega
    subst z
    rw [List.getElem?_append_right (by omega), h1, Nat.sub_self] at e
    simp at e
    subst e
    exact g.new _ _ ea (by omega)
end
/-- what may be forgotten behind a def's end: all that is new, or all but one -/
structure Clo (n : Nat) (Q : PV) : Prop where
  cut : ∀ d h g, h.length = n → ScH h → ScD n d → Q d h → Q d (h ++ g)
  pick : ∀ j o h g, h.length = n → ScH h → g[j]? = some o → ScO n o → Q (.ref n) (h ++ [o]) → Q (.ref (n + j)) (h ++ g)
def ScX (n : Nat) (x : XD) : Prop := ScKs n x.2
def CloX (n : Nat) (E : PX) : Prop := ∀ x h g, h.length = n → ScH h → ScX n x → E x h → E x (h ++ g)
theorem clo_of {K : PySem.W.Frag} {H : Hp} {ι : List Addr} {mg : Str → Option Value} {Q : VK} {n : Nat} (hn : ι.length = n) : Clo n (fun d h' => ∀ v H' ι', Gr K H H' ι ι' → HRel K H' ι' mg h' → RelD K H' ι' d v → Q v H') := by
  refine ⟨fun d h g hl sc sd q v H' ι' gr hr rd => ?_, fun j o h g hl sc ej so q v H' ι' gr hr rd => ?_⟩
  · obtain ⟨hc, hc2⟩ := hr.cut sc
    exact q v H' _ (gr.cut (by omega)) hc (rd.back (List.take_prefix _ _) (by rw [hc2, hl]; exact sd))
  · obtain ⟨a, ea, rfl⟩ := rd
    subst hl
    obtain ⟨hc, hc2⟩ := hr.cut sc
    refine q _ H' _ (gr.pick (n := h.length) (by omega) (by rw [hr.len, List.length_append]; omega) ea) (hr.pick sc ej so ea) ⟨a, ?_, rfl⟩
    rw [List.getElem?_append_right (by omega), hc2, Nat.sub_self]; rfl
theorem cloX_of {K : PySem.W.Frag} {H : Hp} {ι : List Addr} {mg : Str → Option Value} {E : XK} {n : Nat} (hn : ι.length = n) : CloX n (fun x h' => ∀ c d H' ι', Gr K H H' ι ι' → HRel K H' ι' mg h' → XR K mg H' ι' x c d → E c d H') := by
  intro x h g hl sc sx q c d H' ι' gr hr xr
  obtain ⟨hc, hc2⟩ := hr.cut sc
  refine q c d H' _ (gr.cut (n := h.length) (by omega)) hc ?_
  obtain ⟨C, mC, ec, z⟩ := xr
  refine ⟨C, mC, ec, ?_⟩
  cases d with
  | none => exact z
  | some a =>
    obtain ⟨vs, e, r⟩ := z
    exact ⟨vs, e, r.back (List.take_prefix _ _) (by rw [hc2, hl]; exact sx)⟩
section
variable {X : Cx} {W : WX} {pos p p1 p2 p3 pos' : Pos} {a e o : Expr} {es : List Expr} {wa : WE} {wr : WA}
/-- a def by its body; what is new and held by nobody may be forgotten at its end -/
theorem fn_ok4 {P : Program} {w : World} {K : PySem.W.Frag} {mg : Str → Option Value} {base : Heap} {x qual : Str} {st : Stmt} {f : Addr} {fd : FuncData} {N ps : List Str} {k : Nat} {sp : SpD} {wb : WS}
    (F : Fun K x qual st f fd) (S : FnScope N ps (defScope st)) (len : ∀ ds h Q E, sp ds h Q E → ds.length = ps.length)
    (hw : ∀ ds h Q E, ScH h → ScDs h.length ds → Clo h.length Q → CloX h.length E → sp ds h Q E → wb (endsOf Q E) (slots0 N ds) h)
    (hb : ∀ (cdv : Value) (A : Around) (outer : List Env) (s : Shared) (H : Hp) (E : XK), Room k (cxOf (L2.CX P w) P w K mg base N qual (defScope st) f cdv A outer s H E).A → Takes (cxOf (L2.CX P w) P w K mg base N qual (defScope st) f cdv A outer s H E) (nS E) →
      PassesOwn (model P w) (cxOf (L2.CX P w) P w K mg base N qual (defScope st) f cdv A outer s H E).A (cxOf (L2.CX P w) P w K mg base N qual (defScope st) f cdv A outer s H E).env (cxOf (L2.CX P w) P w K mg base N qual (defScope st) f cdv A outer s H E).xe →
      DSs (cxOf (L2.CX P w) P w K mg base N qual (defScope st) f cdv A outer s H E) (nS E) (defBody st) wb) :
    FnOk P w K mg base (L2.CX P w) (k + 1) f fd ps (LSp K mg sp) := by
  refine F.okX S (fun vs H Q E ⟨ι, h, ds, hr, rs, pr⟩ => by rw [rs.length]; exact len ds h _ _ pr) (fun cdv A outer s H vs Q E hr hsp => ?_)
  obtain ⟨ι, h, ds, hrel, rs, pr⟩ := hsp
  have D := hb cdv A outer s H E hr (takes_of rfl rfl rfl rfl) (passes_of rfl)
  refine ⟨_, D.ps, ι, h, slots0 N ds, hrel, start_rel rs, D.mono _ _ _ _ ⟨fun s' h' z σ' H' ι' g hr' _ => ?_, fun d h' z => ?_, fun _ _ z => False.elim z, fun _ _ z => False.elim z, fun s' y h' z c d σ' H' ι' g hr' _ xr => ?_⟩
    (hw ds h _ _ hrel.sc (by rw [← hrel.len]; exact rs.sc) (clo_of hrel.len) (cloX_of hrel.len) pr)⟩
  · exact z .non H' ι' g hr' rfl
  · exact z
  · exact z c d H' ι' g hr' xr
/-! ### raise C(..), C an own exception class with an own __init__ -/
def wRaise (C : Str) (sp : SpD) (w : WA) : WS := fun B s h => w s h (fun ds h1 => ds.length ≤ 1000 ∧ sp (.ref h1.length :: ds) (h1 ++ [.exo C none])
  (fun r h2 => r = .non ∧ ∃ fs : List (Str × D), h2 = h1 ++ [.exo C (some (h1.length + 1)), .exd fs] ∧ (∀ p ∈ fs, p.2 ∈ ds) ∧ B.ex s (C, fs) h1) (fun _ _ => False)) (B.ex s)
theorem mono_raise {C : Str} {sp : SpD} {w : WA} (ms : MonoSp sp) (n : Mono w) : MonoS (wRaise C sp w) := fun A B s h l q =>
  n s h _ _ _ _ (fun ds h1 ⟨z, q⟩ => ⟨z, ms _ _ _ _ _ _ (fun d h2 ⟨e, fs, e2, hf, q⟩ => ⟨e, fs, e2, hf, l.ex _ _ _ q⟩) (fun _ _ z => z) q⟩) (fun x h1 q => l.ex s x h1 q) q
theorem ScDs.mem {n : Nat} : ∀ {ds : List D} {d : D}, ScDs n ds → d ∈ ds → ScD n d
  | [], _, _, h => by cases h
  | _ :: _, _, s, h => by
    rcases List.mem_cons.mp h with rfl | h
    · exact s.1
    · exact s.2.mem h
theorem ScKs.of {κ : Type} {n : Nat} : ∀ {ps : List (κ × D)}, (∀ p ∈ ps, ScD n p.2) → ScKs n ps
  | [], _ => trivial
  | p :: ps, h => ⟨h p (by simp), ScKs.of fun q hq => h q (by simp [hq])⟩
theorem ds_raise {C : Str} {k j : Nat} {sp : SpD} {E : XK} {w : WA} (hc : X.calm = true) (G : GX X.prog X.w X.K X.mg X.base C k sp) (tk : Takes X (nS E)) (hr : Room j X.A) (ha : DA X (nS E) (e :: es) w) (hj : k + 1 ≤ j := by decide) (hg : Gl X C := by rfl)
    (hdb : (C == ("__debug__" : Str)) = false := by decide) (he : starEach (e :: es) X.env = (false, eval e X.env) :: starEach es X.env := by rfl) (hpl : (backTo pos (starEach es X.env)).any (·.1) = false := by rfl) :
    DS X (nS E) (.Raise (some (.Call (.Name C p) (e :: es) [] pos)) none pos') (wRaise C sp w) := by
  obtain ⟨c, f, fd, ps, F, mc, T, iC, tI, hb⟩ := G.ex
  refine ⟨PS.imp (ps_raise hc tk (pmk_oex T iC tI F (hr.mono hj) hb .nil (passes_call (E := fun _ _ _ => False) tk fun _ _ _ _ z => z.elim) hg mc ha.pa hdb he hpl)) fun B σ H ⟨ι, h, s, hr, sr, q⟩ => ?_, mono_raise G.mono ha.mono⟩
  refine ⟨ι, h, s, hr, sr, ha.mono s h _ _ _ _ (fun ds h1 ⟨hl, q⟩ vs H1 ι1 g1 hr1 rs => ⟨by rw [rs.length]; exact hl, fun x hx => ?_⟩) (QD.exq sr) q⟩
  have gb : Gr X.K H1 (upd H1 x (exo x c none)) ι1 (ι1 ++ [x]) := Gr.fresh hx _ (List.prefix_append _ _)
  have hr2 : HRel X.K (upd H1 x (exo x c none)) (ι1 ++ [x]) X.mg (h1 ++ [.exo C none]) := hr1.push hx ⟨c, mc, upd_same⟩
  have ix : (ι1 ++ [x])[h1.length]? = some x := by rw [← hr1.len, List.getElem?_append_right (Nat.le_refl _), Nat.sub_self]; rfl
  refine ⟨ι1 ++ [x], h1 ++ [.exo C none], .ref h1.length :: ds, hr2, ⟨.ref x, vs ++ [], rfl, ⟨x, ix, rfl⟩, by rw [List.append_nil]; exact rs.mono gb⟩, G.mono _ _ _ _ _ _ (fun d h3 ⟨ed, fs, e3, hf, q⟩ v H3 ι3 g3 hr3 rv => ?_) (fun _ _ z => z.elim) q⟩
  subst ed e3
  refine ⟨rv, ?_⟩
  have ix3 : ι3[h1.length]? = some x := pre_get g3.pre ix
  obtain ⟨c', dx, mc', ei, ho⟩ := hr3.obj h1.length _ x (by rw [List.getElem?_append_right (Nat.le_refl _), Nat.sub_self]; rfl) ix3
  rw [mc] at mc'
  cases mc'
  obtain ⟨us, hd, ru⟩ := hr3.obj (h1.length + 1) _ dx (by rw [List.getElem?_append_right (by omega), Nat.add_sub_cancel_left]; rfl) ei
  have hdx : H1 dx = none := by
    have z := g3.new (h1.length + 1) dx ei (by rw [List.length_append, List.length_singleton, hr1.len]; omega)
    cases y : H1 dx with
    | none => rfl
    | some u => rw [upd_ne (ne_of_none y hx), y] at z; cases z
  refine ⟨dx, us, ho, hd, hdx, ?_⟩
  obtain ⟨hc3, hl3⟩ := hr3.cut hr1.sc
  have pf : ι1 <+: ι3 := (List.prefix_append _ _).trans g3.pre
  have e1 : ι3.take h1.length = ι1 := by
    obtain ⟨t, rfl⟩ := pf
    rw [← hr1.len, List.take_left]
  rw [e1] at hc3
  have nx : ∀ {b : Addr} {vs : List V}, SqT X.K H3 b vs → SqT X.K (upd (del H3 x) dx (.xd us)) b vs := fun {b vs} q => by
    rcases q with (q | ⟨z, q⟩) | q
    · have n1 : b ≠ x := fun z => by rw [z, ho] at q; exact exo_tup (Option.some.inj q)
      have n2 : b ≠ dx := fun z => by rw [z, hd] at q; exact exd_tup (Option.some.inj q)
      exact .inl (.inl (by rw [upd_ne n2, del_ne n1]; exact q))
    · have n1 : b ≠ x := fun y => by rw [y, ho] at q; exact exo_frz (Option.some.inj q)
      have n2 : b ≠ dx := fun y => by
        rw [y, hd] at q
        have y2 := Option.some.inj q
        have y3 : HO.ext _ = HO.frz _ _ := y2
        cases y3
      exact .inl (.inr ⟨z, by rw [upd_ne n2, del_ne n1]; exact q⟩)
    · exact .inr q
  have tx : ∀ {P : Addr} {q : Str}, LamX.TabS H3 P q → LamX.TabS (upd (del H3 x) dx (.xd us)) P q := fun {P q} t => by
    have k : ∀ b o, H3 b = some o → (∀ C d, o ≠ exo x C d) → (∀ fs, o ≠ exd dx fs) → (upd (del H3 x) dx (.xd us)) b = some o := fun b o e h1 h2 => by
      have n1 : b ≠ x := fun z => by rw [z, ho] at e; exact h1 _ _ (Option.some.inj e).symm
      have n2 : b ≠ dx := fun z => by rw [z, hd] at e; exact h2 _ (Option.some.inj e).symm
      rw [upd_ne n2, del_ne n1]; exact e
    obtain ⟨ps, h1, h2, h3⟩ := t
    refine ⟨ps, k _ _ h1 (fun _ _ z => exo_tbl z.symm) (fun _ z => noCd_exd.1 _ z.symm), h2, fun pos cv hc => ?_⟩
    obtain ⟨c, e1, e2⟩ := h3 pos cv hc
    exact ⟨c, e1, k _ _ e2 (fun _ _ z => code_exo z.symm) (fun _ z => code_exd z.symm)⟩
  have gw : GrW X.K H3 (upd (del H3 x) dx (.xd us)) ι1 ι1 := ⟨List.prefix_refl _, fun b vs q => nx q⟩
  have g4 : Gr X.K H1 (upd (del H3 x) dx (.xd us)) ι1 ι1 := by
    refine ⟨⟨List.prefix_refl _, fun b vs q => nx (g3.tup b vs (gb.tup b vs q))⟩, fun b u q => ?_, New.refl⟩
    have n1 : b ≠ x := ne_of_none q hx
    have n2 : b ≠ dx := ne_of_none q hdx
    obtain ⟨u1, q1⟩ := gb.kept b u q
    obtain ⟨u2, q2⟩ := g3.kept b u1 q1
    exact ⟨u2, by rw [upd_ne n2, del_ne n1]; exact q2⟩
  have hr4 : HRel X.K (upd (del H3 x) dx (.xd us)) ι1 X.mg h1 := by
    refine ⟨hr1.len, hc3.nd, fun n o b e1 e2 => ?_⟩
    have r := hc3.obj n o b e1 e2
    have e13 : ι3[n]? = some b := pre_get pf e2
    have hn := get_lt e1
    have stay : (∀ ds, o ≠ .rol ds) → (upd (del H3 x) dx (.xd us)) b = H3 b := fun no => by
      have n1 : b ≠ x := fun z => by
        rw [z] at e13
        rcases hr3.nd n h1.length x e13 ix3 with y | ⟨ds, y⟩ | ⟨ds, y⟩
        · omega
        · rw [List.getElem?_append_left hn, e1] at y; exact no ds (Option.some.inj y)
        · rw [List.getElem?_append_right (Nat.le_refl _), Nat.sub_self] at y; simp at y
      have n2 : b ≠ dx := fun z => by
        rw [z] at e13
        rcases hr3.nd n (h1.length + 1) dx e13 ei with y | ⟨ds, y⟩ | ⟨ds, y⟩
        · omega
        · rw [List.getElem?_append_left hn, e1] at y; exact no ds (Option.some.inj y)
        · rw [List.getElem?_append_right (by omega), Nat.add_sub_cancel_left] at y; simp at y
      rw [upd_ne n2, del_ne n1]
    by_cases hro : ∃ ds, o = .rol ds
    · obtain ⟨ds, rfl⟩ := hro
      obtain ⟨vs', q, t⟩ := r
      refine ⟨vs', ?_, t.mono gw⟩
      rcases q with ⟨z, q⟩ | q
      · have n1 : b ≠ x := fun y => by rw [y, ho] at q; exact exo_frz (Option.some.inj q)
        have n2 : b ≠ dx := fun y => by
          rw [y, hd] at q
          have y3 : HO.ext _ = HO.frz _ _ := Option.some.inj q
          cases y3
        exact .inl ⟨z, by rw [upd_ne n2, del_ne n1]; exact q⟩
      · exact .inr q
    · exact r.move gw (stay fun ds z => hro ⟨ds, z⟩) fun q t => tx t
  have sfs : ScKs ι1.length fs := ScKs.of fun p hp => (rs.sc).mem (hf p hp)
  exact q (.ref c) (some dx) σ _ ι1 (g1.trans g4) hr4 ((sr.mono g1.toGrW).mono g4.toGrW) ⟨c, mc, rfl, us, upd_same, (ru.back pf sfs).mono gw⟩
end
end EV

namespace EV
open PySem PySem.Spec PyProof.Rows L2
section
variable {X : Cx} {W : WX} {pos p p1 p2 p3 pos' : Pos} {a e o tg l : Expr} {es : List Expr} {wa we : WE} {wr : WA}
/-! ### a list or a tuple, walked -/
theorem pi_sq {tl : TE} (hl : PE X l tl) : PI X tg l (fun σ H R => tl σ H fun x H1 => (∃ a, x = .ref a ∧ (∃ xs, SqL X.K H1 a xs) ∧ R (Itl X.K a) H1) ∨ ∃ a, x = .ref a ∧ (∃ xs, SqT X.K H1 a xs) ∧ R (Itt X.K a) H1) := by
  refine ⟨fun pins s σ H R I h => ?_⟩
  refine thn (hl.run pins s σ H _ I h) fun v s1 ⟨x, H1, I1, r1, q1⟩ => ?_
  rcases q1 with ⟨a, e, ⟨xs, hq⟩, q⟩ | ⟨a, e, ⟨xs, hq⟩, q⟩
  · subst e
    cases r1
    obtain ⟨its, rv, p, hz⟩ := I1.list hq
    refine wpAny_pyIter_list p.isList ?_
    refine ⟨s1.heap.objs.size, [s1.heap.objs.size], _, _, H1, rfl, I1.kept (t' := s1.toks) fun b o e => Heap.get?_push_of_some _ e, turn_list a _, ⟨_, Heap.get?_push_size _ rfl, rfl, rfl⟩, fun b hb => ?_, q⟩
    have e : b = s1.heap.objs.size := by simpa using hb
    subst e
    exact I1.fpOk (Nat.le_refl _) (I1.hok.fresh (Nat.le_refl _))
  · subst e
    cases r1
    obtain ⟨its, rv, p, hz⟩ := I1.tuple hq
    refine wpAny_pyIter_tuple (show s1.heap.IsTuple a its.toArray from p) ?_
    refine ⟨s1.heap.objs.size, [s1.heap.objs.size], _, _, H1, rfl, I1.kept (t' := s1.toks) fun b o e => Heap.get?_push_of_some _ e, turn_tuple a _, ⟨_, Heap.get?_push_size _ rfl, rfl, rfl⟩, fun b hb => ?_, q⟩
    have e : b = s1.heap.objs.size := by simpa using hb
    subst e
    exact I1.fpOk (Nat.le_refl _) (I1.hok.fresh (Nat.le_refl _))
def wiSq (we : WE) : WI := fun s h Q E => we s h (fun d h1 => ∃ ds, sqOf h1 d = some ds ∧ Q (ds, fun h => sqOf h d = some ds) h1) E
theorem mono_iSq (m : Mono we) : Mono (wiSq we) := fun s h Q Q' E E' hq he q => m s h _ _ _ _ (fun d h1 ⟨ds, e, q⟩ => ⟨ds, e, hq _ _ q⟩) he q
theorem di_sq {tg : Expr} (he : DE X W e we) : DI X W tg e (wiSq we) := by
  refine ⟨PI.imp (pi_sq he.pe) fun σ H R ⟨ι, h, s, hr, sr, q⟩ => ?_, mono_iSq he.mono⟩
  refine ⟨ι, h, s, hr, sr, he.mono s h _ _ _ _ (fun d h1 ⟨ds, ed, q⟩ v H1 ι1 g hr1 rd => ?_) (fun _ _ e => e) q⟩
  cases d with
  | ref n =>
    obtain ⟨p, ep, rfl⟩ := rd
    obtain ⟨vs, sq, rs⟩ := ls_sq hr1 ed ep
    exact .inl ⟨p, rfl, ⟨vs, sq⟩, q _ H1 ι1 g hr1 (conf_list ep)⟩
  | tup es =>
    cases ed
    obtain ⟨p, vs, rfl, sq, rs⟩ := rd
    refine .inr ⟨p, rfl, ⟨vs, sq⟩, q _ H1 ι1 g hr1 ⟨fun i H' ι' h g hr e hi => ?_, fun i H' ι' h g hr e hi => ?_, fun i H' ι' h d x H2 g hr e hd y => ?_⟩⟩
    · obtain ⟨v, ev, _⟩ := rs.get (List.getElem?_eq_getElem hi)
      exact ⟨vs, v, g.tup _ _ sq, ev⟩
    · exact ⟨vs, g.tup _ _ sq, by rw [rs.length]; exact Nat.le_of_eq hi.symm⟩
    · obtain ⟨rfl, yy⟩ := y
      obtain ⟨v, ev, rv⟩ := rs.get hd
      have := yy vs (g.tup _ _ sq)
      rw [ev] at this
      cases this
      exact ⟨.refl, hr, rv.mono g.toGrW, fun _ _ => rfl⟩
  | _ => cases ed
end
section
variable {we : WE} {s : Sl} {h : Hh} {QI : IT → Hh → Prop} {E : PX} {w : WA} {C : Str} {sp : SpD} {B : DEnds}
@[simp] theorem e_iSq : wiSq we s h QI E = we s h (fun d h1 => GetL (sqOf h1 d) fun ds => QI (ds, fun h => sqOf h d = some ds) h1) E := rfl
theorem e_raise : wRaise C sp w B s h = w s h (fun ds h1 => ds.length ≤ 1000 ∧ sp (.ref h1.length :: ds) (h1 ++ [.exo C none])
  (fun r h2 => r = .non ∧ ∃ fs : List (Str × D), h2 = h1 ++ [.exo C (some (h1.length + 1)), .exd fs] ∧ (∀ p ∈ fs, p.2 ∈ ds) ∧ B.ex s (C, fs) h1) (fun _ _ => False)) (B.ex s) := rfl
end
end EV

namespace EV
open PySem PySem.Spec PyProof.Rows L2
/-! ### several except clauses, with and without a name -/
abbrev Suite := Addr → Value → Option Addr → TS
def endsAs (D : Ends) : Option Nat → Ends
  | none => D
  | some i => { nx := fun σ' H' => D.nx (σ'.set i none) H', rt := D.rt, bk := fun σ' H' => D.bk (σ'.set i none) H', ct := fun σ' H' => D.ct (σ'.set i none) H' }
def slotAs (σ : St) (a : Addr) : Option Nat → St
  | none => σ
  | some i => σ.set i (some (.ref a))
def wCls (K : PySem.W.Frag) (Wout : WX) (D : Ends) : List (Value × Option Nat × Suite) → WX
  | [] => Wout
  | (c, i, ts) :: r => fun cls d σ H => ∃ b, PySem.W.exmOne K cls c = some b ∧ (b = true → ∀ a, H a = none → ts a cls d (endsAs D i) (slotAs σ a i) H) ∧ (b = false → wCls K Wout D r cls d σ H)
def SuOk (X : Cx) (su : List Stmt) (ts : Suite) : Prop := ∀ (a : Addr) (oe : Obj) (cls : Value) (d : Option Addr) (pn : List (Addr × Obj)), Zc cls d oe → (∃ vs, oe.data = .fields vs) → PSs (X.suite a ((a, oe) :: pn)) su (ts a cls d)
inductive ClsOk (X : Cx) : List ExceptHandler → List (Value × Option Nat × Suite) → Prop
  | nil : ClsOk X [] []
  | plain {x : Str} {c : Value} {ts : Suite} {b₀ : Stmt} {su : List Stmt} {np pos' : Pos} {hds : List ExceptHandler} {l : List (Value × Option Nat × Suite)} (hc : Names X x c) (hsu : SuOk X (b₀ :: su) ts) (r : ClsOk X hds l) :
      ClsOk X (.ExceptHandler (some (.Name x np)) none (b₀ :: su) pos' :: hds) ((c, none, ts) :: l)
  | named {x n : Str} {c : Value} {i : Nat} {ts : Suite} {b₀ : Stmt} {su : List Stmt} {np pos' : Pos} {hds : List ExceptHandler} {l : List (Value × Option Nat × Suite)} (hc : Names X x c) (hi : X.N[i]? = some n) (hln : X.env.kindOf n = some .local) (hsu : SuOk X (b₀ :: su) ts) (r : ClsOk X hds l) :
      ClsOk X (.ExceptHandler (some (.Name x np)) (some n) (b₀ :: su) pos' :: hds) ((c, some i, ts) :: l)
section
variable {X : Cx} {body : List Stmt} {h₀ : ExceptHandler} {hds : List ExceptHandler} {l : List (Value × Option Nat × Suite)} {pos : Pos} {tb : WX → TS} {Wout : WX}
theorem ps_try_cls (hs : X.stack = X.env :: X.outer) (hf : X.env.frame = some X.env.locals) (hN : X.N.Nodup) (tk : Takes X Wout)
    (hb : ∀ (W : WX) (pn : List (Addr × Obj)) (xe : Value → Shared → Prop), Takes (X.tr pn xe) W → PassesOwn (model X.prog X.w) X.A X.env xe → PSs (X.tr pn xe) body (tb W))
    (hh : ClsOk X (h₀ :: hds) l) : PS X (.Try body (h₀ :: hds) [] [] pos) (fun D σ H => tb (wCls X.K Wout D l) D σ H) := by
  constructor
  intro pins s σ H D I h
  have ok := I.ok
  have hfr : X.A.frames = some (X.env :: X.outer) := by rw [ok.frames, hs]
  refine wpAny_Try_except (wpAny_mono ((hb (wCls X.K Wout D l) (X.pn ++ pins) (fun e s₁ => wpAny (model X.prog X.w) X.A (noteFrame e X.env) (fun _ s₂ => wpAny (model X.prog X.w) X.A (setFlight e none) (fun _ s₃ =>
    wpAny (model X.prog X.w) X.A (handleBy e X.env (h₀ :: hds)) (SP X pins D) X.xe s₃) X.xe s₂) X.xe s₁) (fun u s' xx => ?_) PassesOwn.looking).run [] s σ H D (I.toTry _) h) (fun f s1 hsp => ?_) (fun e s1 he => he))
  · obtain ⟨a, B, sI, pins', σ', H', cls, d, rfl, J', nb, up, sky, na, os, ag, w⟩ := xx
    have J : L2.Inv X pins σ' H' sI := J'.ofTry ok
    have sky' : Sky B (X.env :: X.outer) a (Zc cls d) X.env.locals s'.heap := by rw [← hs]; exact sky
    show wpAny (model X.prog X.w) X.A (noteFrame (.ref a) X.env) _ _ _
    refine Sky.land Zc.steady hfr hf sky' fun h3 fl3 up3 => ?_
    have J3 : L2.Inv X pins σ' H' { s' with heap := h3 } := J.landed nb fl3.1 (up.trans up3) os ag
    obtain ⟨oe3, vs3, he3, hz3, hd3⟩ := fl3.there
    have nfr : a ∉ frs (X.env :: X.outer) := fun hm => by
      obtain ⟨_, o', e', hnf⟩ := fl3.2.2.1.mem hm
      rw [he3] at e'; cases e'
      exact hnf _ hd3
    have nL : a ≠ X.env.locals := fun z => nfr (List.mem_filterMap.mpr ⟨X.env, List.mem_cons_self, by rw [hf, z]⟩)
    have nF : a ∉ X.fs := fun hm => by
      obtain ⟨e, he, q⟩ := List.mem_filterMap.mp hm
      exact nfr (List.mem_filterMap.mpr ⟨e, List.mem_cons_of_mem _ he, q⟩)
    have S3 := J3.suite he3 hd3 na nL nF
    have LT : PySem.W.Looks (model X.prog X.w) h3 (typeOf (.ref a)) cls := fun A Q E s k q => wpAny_typeOf_ref (k _ _ he3) (by rw [hz3.1]; exact q)
    have test : ∀ {x : Str} {c : Value} {np : Pos} {Q : Value → Shared → Prop} {E : Value → Shared → Prop}, Names X x c → Q c { s' with heap := h3 } → wpAny (model X.prog X.w) (X.A.mark (some (.ref a))) (eval (.Name x np) X.env) Q E { s' with heap := h3 } := fun {x c np Q E} hc q => by
      obtain ⟨hg, hdbg, hm | ⟨hm, hv, hnn⟩⟩ := hc
      · exact ld_glob (X := X.suite a ((a, oe3) :: (X.pn ++ pins))) S3 hg hm q hdbg
      · exact ld_blt (X := X.suite a ((a, oe3) :: (X.pn ++ pins))) S3 hg hm hv q hnn hdbg
    have go : ∀ {hds' : List ExceptHandler} {l' : List (Value × Option Nat × Suite)}, ClsOk X hds' l' → wCls X.K Wout D l' cls d σ' H' →
        wpAny (model X.prog X.w) X.A (handleBy (.ref a) X.env hds') (SP X pins D) X.xe { s' with heap := h3 } := by
      intro hds' l' hk
      induction hk with
      | nil =>
        intro w
        refine wpAny_handleBy_nil ?_
        obtain ⟨k1, k2, k3, oe, vs, T, oT, ts', he, hz, hd, h1, hr⟩ := id fl3
        unfold PySem.passOn
        refine wpAny_bind (wpAny_field he hd h1 ?_)
        rw [if_neg (show ¬ ((Value.ref T == Value.none) = true) from by simp)]
        have fin : wpAny (model X.prog X.w) X.A (setFlight (.ref a) X.env.frame) (fun _ s4 => wpAny (model X.prog X.w) X.A (throw (.ref a) : Sem Flow) (SP X pins D) X.xe s4) X.xe { s' with heap := h3 } := by
          rw [hf]
          refine HandSPX.setFlight_upZ fl3 fun h4 hh4 up4 => wpAny_throw (tk _ _ ?_)
          exact ⟨a, B, sI, pins, σ', H', cls, d, rfl, J, nb, (up.trans up3).trans up4, .inr (.inr (by rw [hs]; exact hh4)), na, os, ag, w⟩
        first
          | exact wpAny_bind (wpAny_pure (wpAny_bind fin))
          | exact wpAny_bind fin
      | plain hc hsu r ih =>
        rintro ⟨b, hb1, hyes, hno⟩
        refine wpAny_handleBy_cons (codeAny_handlers_test (test hc ((PySem.W.exm_one (M := model X.prog X.w) J3.kIn LT hb1).here ?_))) (by intro q; cases q)
        cases b with
        | true =>
          refine codeAny_handlers_suite (HandSPX.lands_againZ fl3 fun h4 fl4 up4 => ?_)
          have J4 : L2.Inv X pins σ' H' { s' with heap := h4 } := J.landed nb fl4.1 ((up.trans up3).trans up4) os ag
          obtain ⟨oe4, vs4, he4, hz4, hd4⟩ := fl4.there
          refine wpAny_mono ((hsu a oe4 cls d (X.pn ++ pins) hz4 ⟨_, hd4⟩).run [] _ _ H' _ (J4.suite he4 hd4 na nL nF) (hyes rfl a na)) (fun f s6 hsp => ?_) (fun _ _ z => False.elim z)
          cases f with
          | next => obtain ⟨σ6, H6, S6, q6⟩ := hsp; exact ⟨_, _, S6.unsuite ok, q6⟩
          | brk => obtain ⟨σ6, H6, S6, q6⟩ := hsp; exact ⟨_, _, S6.unsuite ok, q6⟩
          | cont => obtain ⟨σ6, H6, S6, q6⟩ := hsp; exact ⟨_, _, S6.unsuite ok, q6⟩
          | ret u => obtain ⟨v6, σ6, H6, S6, r6, q6⟩ := hsp; exact ⟨_, _, _, S6.unsuite ok, r6, q6⟩
        | false => exact ih (hno rfl)
      | @named x n c i ts b₀ su np pos' hds2 l2 hc hi hln hsu r ih =>
        rintro ⟨b, hb1, hyes, hno⟩
        refine wpAny_handleBy_cons (codeAny_handlers_test (test hc ((PySem.W.exm_one (M := model X.prog X.w) J3.kIn LT hb1).here ?_))) (by intro q; cases q)
        cases b with
        | true =>
          refine codeAny_handlers_suite_as (HandSPX.lands_againZ fl3 fun h4 fl4 up4 => ?_)
          have J4 : L2.Inv X pins σ' H' { s' with heap := h4 } := J.landed nb fl4.1 ((up.trans up3).trans up4) os ag
          obtain ⟨oe4, vs4, he4, hz4, hd4⟩ := fl4.there
          refine store_ok (X := X.suite a ((a, oe4) :: (X.pn ++ pins))) (v := .ref a) (J4.suite he4 hd4 na nL nF) hN hi (.inl hln) rfl (fun s5 S5 => ?_) (.inr hln)
          refine wpAny_mono ((hsu a oe4 cls d (X.pn ++ pins) hz4 ⟨_, hd4⟩).run [] s5 _ H' _ S5 (hyes rfl a na)) (fun f s6 hsp => ?_) (fun _ _ z => False.elim z)
          have end_ : ∀ {σ6 : St} {H6 : Hp} {Q : Shared → Prop}, L2.Inv (X.suite a ((a, oe4) :: (X.pn ++ pins))) [] σ6 H6 s6 → (∀ s7, L2.Inv X pins (σ6.set i none) H6 s7 → Q s7) →
              wpAny (model X.prog X.w) X.A (do bindName X.env n .none; unbindBehindTheSuite X.env n pos') (fun _ s7 => Q s7) X.xe s6 := fun S6 hq => gone_ok (S6.unsuite ok) hN hi hln hq
          cases f with
          | next => obtain ⟨σ6, H6, S6, q6⟩ := hsp; exact end_ S6 fun s7 J7 => ⟨_, _, J7, q6⟩
          | brk => obtain ⟨σ6, H6, S6, q6⟩ := hsp; exact end_ S6 fun s7 J7 => ⟨_, _, J7, q6⟩
          | cont => obtain ⟨σ6, H6, S6, q6⟩ := hsp; exact end_ S6 fun s7 J7 => ⟨_, _, J7, q6⟩
          | ret u => obtain ⟨v6, σ6, H6, S6, r6, q6⟩ := hsp; exact end_ S6 fun s7 J7 => ⟨_, _, _, J7, r6, q6⟩
        | false => exact ih (hno rfl)
    exact go hh w
  · cases f with
    | next => obtain ⟨σ', H', J', q⟩ := hsp; exact wpAny_execs_nil ⟨σ', H', J'.ofTry ok, q⟩
    | brk => obtain ⟨σ', H', J', q⟩ := hsp; exact ⟨σ', H', J'.ofTry ok, q⟩
    | cont => obtain ⟨σ', H', J', q⟩ := hsp; exact ⟨σ', H', J'.ofTry ok, q⟩
    | ret u => obtain ⟨v, σ', H', J', r, q⟩ := hsp; exact ⟨v, σ', H', J'.ofTry ok, r, q⟩
end
end EV

namespace EV
open PySem PySem.Spec PyProof.Rows L2
/-! ### a def called within an except suite; it may be handed the caught error -/
abbrev hotX (P : Program) (w : World) (K : PySem.W.Frag) (mg : Str → Option Value) (base : Heap) (N : List Str) (qual : Str) (sc : Scope) (f : Addr) (cdv : Value) (A : Around) (outer : List Env) (s : Shared) (H : Hp) (p : Addr × Obj) : Cx :=
  L2H.cxH (L2.CX P w) P w K mg base N qual sc f cdv A outer s H (fun _ _ _ => False) p
theorem run_hot {P : Program} {w : World} {K : PySem.W.Frag} {mg : Str → Option Value} {base : Heap} {x qual : Str} {st : Stmt} {f : Addr} {fd : FuncData} {N ps : List Str} {k : Nat} {p : Addr × Obj} {A : Around} {outer : List Env} {s : Shared} {H : Hp} {args : Args} {us : List Value} {vs : List V} {Q : VK}
    (F : Fun K x qual st f fd) (S : FnScope N ps (defScope st)) (hl : vs.length = ps.length) (hr : L2H.RoomH (k + 1) A) (hpin : L2H.PinOk outer H s p) (e0 : Env0 P w K mg base A outer s H) (hb : BindsTo s fd args (ps.zip us)) (r : Vals vs us)
    (hbody : ∀ cdv : Value, L2H.RoomH k (A.deeper (envOfC qual (defScope st) s.heap.objs.size f cdv)) → ∃ t, PSs (hotX P w K mg base N qual (defScope st) f cdv A outer s H p) (defBody st) t ∧ t { nx := fun _ H' => Q .non H', rt := Q } (L2.start N vs) H) :
    codeAny (model P w) A (.call (.ref f) args) (CR (L2.CX P w) outer P w H s Q fun _ _ _ => False) s := by
  obtain ⟨oc, od, kV, doc, pm, an, cdv, ct, osl, rfl, lk, hcd⟩ := F.ex
  have KX : K.In s.heap := e0.mod.kin.keeps fun b o e => (e0.bs b o e).1
  have lim : s.heap.NoLimit := e0.mod.nolimit.keeps fun b o e => (e0.bs b o e).1
  have hkind : ∀ y ∈ ps.zip us, (defScope st).names.lookup y.1 = some .local ∨ ((defScope st).names.lookup y.1 = some .cell ∧ ((cellsFrom (s.heap.objs.size + 1) (defScope st).names []).lookup y.1).isSome = true) := fun ⟨n, v⟩ hy => by
    rcases S.par n (List.of_mem_zip hy).1 with q | q
    · exact .inl q
    · exact .inr ⟨q, PySem.W.cellsFrom_some _ _ _ (.inl q)⟩
  refine codeAny_call_function hr.depth (KX _ _ lk) rfl S.co S.gen rfl (PySem.W.codeRec_of KX hcd) (hb _ _ _ _ (wpAny_newFunctionEnv_cells S.kind hkind fun env he s1 x => ?_))
  subst he
  refine ⟨lim.keeps x.toInCall.keep, codeAny_func ?_⟩
  obtain ⟨t, ht, hq⟩ := hbody cdv (hr.deeper _)
  refine wpAny_mono (ht.run [] s1 (L2.start N vs) H _ (L2H.inv_startH S hpin e0 hl r x) hq) (fun fl s' hs => ?_) fun e s' hs => hs
  cases fl with
  | ret u => obtain ⟨v, σ', H', J, rv, q⟩ := hs; exact ⟨v, H', J.os, J.bare, J.base, J.hok, rv, q⟩
  | next => obtain ⟨σ', H', J, q⟩ := hs; exact ⟨V.non, H', J.os, J.bare, J.base, J.hok, rfl, q⟩
  | brk => obtain ⟨_, _, _, q⟩ := hs; exact False.elim q
  | cont => obtain ⟨_, _, _, q⟩ := hs; exact False.elim q
section
variable {X : Cx} {W : WX} {a : Addr} {oe : Obj} {pos q : Pos} {e : Expr} {es : List Expr} {t : TA}
def tHot (sp : List V → Hp → VK → Prop) (t : TA) : TE := fun σ H Q => t σ H fun vs H1 => sp vs H1 Q
theorem pe_hot {x qual : Str} {st : Stmt} {f : Addr} {fd : FuncData} {N ps : List Str} {k : Nat} {sp : List V → Hp → VK → Prop} (hp : (a, oe) ∈ X.pn) (F : Fun X.K x qual st f fd) (S : FnScope N ps (defScope st)) (len : ∀ vs H Q, sp vs H Q → vs.length = ps.length)
    (hr : L2H.RoomH (k + 1) X.A) (hg : Gl X x) (hm : X.mg x = some (.ref f)) (hb : Binds X.K fd ps [])
    (hbody : ∀ (cdv : Value) (A : Around) (outer : List Env) (s : Shared) (H : Hp) (vs : List V) (Q : VK), L2H.RoomH k (A.deeper (envOfC qual (defScope st) s.heap.objs.size f cdv)) → sp vs H Q →
      ∃ t, PSs (hotX X.prog X.w X.K X.mg X.base N qual (defScope st) f cdv A outer s H (a, oe)) (defBody st) t ∧ t { nx := fun _ H' => Q .non H', rt := Q } (L2.start N vs) H)
    (ha : PA X (e :: es) t) (hdb : (x == ("__debug__" : Str)) = false := by decide) (he : starEach (e :: es) X.env = (false, eval e X.env) :: starEach es X.env := by rfl) (hpl : (backTo pos (starEach es X.env)).any (·.1) = false := by rfl) :
    PE X (.Call (.Name x q) (e :: es) [] pos) (tHot sp t) := by
  constructor
  intro pins s σ H Q I h
  refine wpAny_Call_Name_kw (ld_glob I hg hm ?_ hdb)
  refine PySem.W.callWith_K (h₀ := X.base) I.ok.mod.kin F.kp (thn (ha.run pos pins s σ H _ I h) fun us s1 ⟨vs, H1, I1, r, q⟩ => ⟨I1.kIn, ?_⟩) he hpl
  have hl := len _ _ _ q
  have b := hb s1 us I1.kIn (by rw [List.append_nil, ← r.length]; exact hl)
  rw [List.append_nil] at b
  have P1 := I1.pin (a, oe) (List.mem_append_left _ hp)
  refine wpAny_call (codeAny_mono (run_hot (p := (a, oe)) F S hl hr ⟨P1.1, P1.2.1, fun hm => (List.mem_cons.mp (I1.stkSub a hm)).elim P1.2.2.1 P1.2.2.2.1, P1.2.2.2.2⟩ I1.env0 b r fun cdv rr => hbody cdv X.A X.stack s1 H1 vs Q rr q) fun r s' hq => ?_)
  cases r with
  | error e => obtain ⟨_, _, _, _, _, _, _, _, _, _, _, _, z⟩ := hq; exact z.elim
  | ok fl =>
    cases fl with
    | ret u => exact I1.after hq
    | next => exact False.elim hq
    | brk => exact False.elim hq
    | cont => exact False.elim hq
/-! isinstance of the caught error -/
theorem kit_pin {pins : List (Addr × Obj)} {s : Shared} {σ : St} {H : Hp} {c : Addr} {d : Option Addr} (I : L2.Inv X pins σ H s) (ec : ExcC X.K c) (hp : (a, oe) ∈ X.pn) (hz : Zc (.ref c) d oe) (hf : ∃ vs, oe.data = .fields vs) (hd : ∀ dx, d = some dx → ∃ o, H dx = some o) :
    ∃ P : Heap → Prop, PySem.W.KitX X.K (.ref a) (.ref c) P ∧ P s.heap ∧ Value.ref a ≠ .builtin "__main__.__loader__#opaque" := by
  have hc : (PySem.W.clsIn X.K c).isSome = true := by
    obtain ⟨cd, q, _⟩ := PySem.W.any_some ec.hd
    rw [q]; rfl
  obtain ⟨ho, _⟩ := I.pin (a, oe) (List.mem_append_left _ hp)
  obtain ⟨vs, hv⟩ := hf
  have nc : PySem.W.notCls oe = true := by unfold PySem.W.notCls; rw [hv] <;> rfl
  cases d with
  | none => exact ⟨_, PySem.W.kitx_exc (od := none) hc ec.hg ec.hk ec.hs ec.ha ec.hn ec.ht ec.hm, ⟨ho, hz.1, nc, by rw [hz.2]; trivial⟩, fun z => nomatch z⟩
  | some dx =>
    obtain ⟨u, hu⟩ := hd dx rfl
    obtain ⟨od, hod⟩ := objOk_get (I.hok dx u hu)
    exact ⟨_, PySem.W.kitx_exc (od := some od) hc ec.hg ec.hk ec.hs ec.ha ec.hn ec.ht ec.hm, ⟨ho, hz.1, nc, by rw [hz.2]; exact hod⟩, fun z => nomatch z⟩
def rIsP (K : PySem.W.Frag) (a c : Addr) (d : Option Addr) (v : V) (u : Value) : List V → Hp → VK → Prop := fun xs H Q => ∃ b : Bool, xs = [.ref a, v] ∧ (∀ dx, d = some dx → ∃ o, H dx = some o) ∧ ClsV v u ∧ PySem.W.kitOne K (.ref c) u = some b ∧ Q (.bl b) H
theorem call_isP {c : Addr} {d : Option Addr} {v : V} {u : Value} (ec : ExcC X.K c) (hp : (a, oe) ∈ X.pn) (hz : Zc (.ref c) d oe) (hf : ∃ vs, oe.data = .fields vs) : CallR X (.builtin "isinstance") (rIsP X.K a c d v u) := by
  rintro pins s σ H xs ws Q I r ⟨b, rfl, hd, k, ek, q⟩
  cases r with
  | cons r1 rr =>
    cases rr with
    | cons r2 rr =>
      cases rr
      cases r1
      obtain ⟨P, Z, hp, hx⟩ := kit_pin I ec hp hz hf hd
      obtain rfl := k.eq r2
      exact PySem.W.kia_one Z I.kIn hp ek hx fun tk => ⟨.bl b, H, I.tok tk, rfl, q⟩
/-- the error at a, its fields at d; what isinstance tells is b -/
def kIsP (a d : Addr) (b : Bool) : K1 := fun _ x h Q _ => ∃ (n : Nat) (fs : List (Str × D)), x = .opq (.ref a) ∧ h[n]? = some (.xdo d fs) ∧ Q (.bl b) h
theorem mono_isP {d : Addr} {b : Bool} : Mono1 (kIsP a d b) := fun s x h Q Q' E E' hq _ ⟨n, fs, e, z, q⟩ => ⟨n, fs, e, z, hq _ _ q⟩
theorem de_isP {C : Expr} {c d : Addr} {v : V} {u : Value} {b : Bool} {wa : WE} (ec : ExcC X.K c) (hp : (a, oe) ∈ X.pn) (hz : Zc (.ref c) (some d) oe) (hf : ∃ vs, oe.data = .fields vs) (k : ClsV v u) (ek : PySem.W.kitOne X.K (.ref c) u = some b) (hm : X.mg "isinstance" = none) (ha : Mono wa)
    (hda : DA X W [e, C] (wCons wa (wCons (wC (.opq v)) wNil))) (hg : Gl X "isinstance" := by rfl)
    (he : starEach [e, C] X.env = (false, eval e X.env) :: starEach [C] X.env := by rfl) (hpl : (backTo pos (starEach [C] X.env)).any (·.1) = false := by rfl) : DE X W (.Call (.Name "isinstance" q) [e, C] [] pos) (wUn (kIsP a d b) wa) := by
  refine ⟨PE.imp (pe_callB (call_isP (v := v) (u := u) ec hp hz hf) hg hm (by decide +kernel) hda.pa (by decide) (by decide) he hpl) fun σ H Q ⟨ι, h, s, hr, sr, q⟩ => ?_, mono_un ha mono_isP⟩
  refine ⟨ι, h, s, hr, sr, ha s h _ _ _ _ (fun x h1 ⟨n, fs, ed, z, q1⟩ xs H1 ι1 g1 hr1 rs => ?_) (fun _ _ e => e) q⟩
  subst ed
  obtain ⟨_, _, rfl, rfl, _, _, rfl, rv, rn⟩ := rs
  cases rn
  cases rv
  obtain ⟨b1, eb, r⟩ := hr1.at z
  obtain ⟨vs, rfl, e1, _⟩ := r
  exact ⟨b, rfl, fun dx ed => by cases ed; exact ⟨_, e1⟩, k, ek, q1 _ H1 ι1 g1 hr1 rfl⟩
/-! a field of the caught error -/
def kXs (a d : Addr) (f : Str) : K1 := fun _ x h Q _ => ∃ (n : Nat) (fs : List (Str × D)) (v : D), x = .opq (.ref a) ∧ h[n]? = some (.xdo d fs) ∧ fs.lookup f = some v ∧ Q v h
theorem mono_xs {d : Addr} {f : Str} : Mono1 (kXs a d f) := fun s x h Q Q' E E' hq _ ⟨n, fs, v, e, z, l, q⟩ => ⟨n, fs, v, e, z, l, hq _ _ q⟩
theorem de_xs {c d : Addr} {f : Str} {pn : List (Addr × Obj)} {we : WE} (T : XfC X.K c) (hno : PySem.W.findIn X.K (.ref c) f = some none) (hz : Zc (.ref c) (some d) oe) (hf : ∃ vs, oe.data = .fields vs) (he : DE (X.suite a ((a, oe) :: pn)) W e we) (hb : attributeBase e f X.env (eval e X.env) = eval e X.env := by rfl) :
    DE (X.suite a ((a, oe) :: pn)) W (.Attribute e f pos) (wUn (kXs a d f) we) := by
  refine ⟨PE.imp (pe_xf T hno hz hf he.pe hb) fun σ H Q ⟨ι, h, s, hr, sr, q⟩ => ?_, mono_un he.mono mono_xs⟩
  refine ⟨ι, h, s, hr, sr, he.mono s h _ _ _ _ (fun x h1 ⟨n, fs, v, ed, z, l, q1⟩ u H1 ι1 g1 hr1 rs => ?_) (fun _ _ e => e) q⟩
  subst ed
  cases rs
  obtain ⟨b1, eb, r⟩ := hr1.at z
  obtain ⟨vs, rfl, e1, rk⟩ := r
  obtain ⟨u, eu, ru⟩ := rk.look l
  exact ⟨rfl, rfl, b1, vs, u, rfl, e1, eu, q1 u H1 ι1 g1 hr1 ru⟩
end
end EV

namespace EV
open PySem PySem.Spec PyProof.Rows L2 LamX
section
variable {X : Cx} {W : WX} {a : Addr} {oe : Obj} {pos q : Pos} {e : Expr} {es : List Expr}
/-- a def that is handed the caught error, by its body; its answer is r -/
theorem de_hot {x qual : Str} {st : Stmt} {f d : Addr} {fd : FuncData} {N : List Str} {y : Str} {k : Nat} {r : Bool} {wb : WS} {we : WE} (hp : (a, oe) ∈ X.pn) (F : Fun X.K x qual st f fd) (S : FnScope N [y] (defScope st))
    (hr : L2H.RoomH (k + 1) X.A) (hg : Gl X x) (hm : X.mg x = some (.ref f)) (hb : Binds X.K fd [y] [])
    (hB : ∀ (cdv : Value) (A : Around) (outer : List Env) (s : Shared) (H : Hp), L2H.RoomH k (A.deeper (envOfC qual (defScope st) s.heap.objs.size f cdv)) → DSs (hotX X.prog X.w X.K X.mg X.base N qual (defScope st) f cdv A outer s H (a, oe)) (nS fun _ _ _ => False) (defBody st) wb)
    (hw : ∀ (h : Hh) (Q : PV), ScH h → Clo h.length Q → (∃ (n : Nat) (fs : List (Str × D)), h[n]? = some (.xdo d fs)) → Q (.bl r) h → wb (endsOf Q fun _ _ => False) (slots0 N [.opq (.ref a)]) h)
    (ha : DE X W e we) (hdb : (x == ("__debug__" : Str)) = false := by decide) (he : starEach [e] X.env = (false, eval e X.env) :: starEach [] X.env := by rfl) (hpl : (backTo pos (starEach [] X.env)).any (·.1) = false := by rfl) :
    DE X W (.Call (.Name x q) [e] [] pos) (wUn (kIsP a d r) we) := by
  refine ⟨PE.imp (pe_hot (sp := fun vs H Q => ∃ ι h, HRel X.K H ι X.mg h ∧ vs = [.ref a] ∧ (∃ (n : Nat) (fs : List (Str × D)), h[n]? = some (.xdo d fs)) ∧ QV X H ι Q (.bl r) h) hp F S (fun vs H Q ⟨_, _, _, e, _⟩ => by rw [e]; rfl) hr hg hm hb (fun cdv A outer s H vs Q rm ⟨ι, h, hr, ev, hx, qv⟩ => ?_) (da_cons ha da_nil he).pa hdb he hpl) fun σ H Q ⟨ι, h, s, hr, sr, q⟩ => ?_, mono_un ha.mono mono_isP⟩
  · subst ev
    have D := hB cdv A outer s H rm
    refine ⟨_, D.ps, ι, h, slots0 N [.opq (.ref a)], hr, start_rel (ds := [.opq (.ref a)]) ⟨_, _, rfl, rfl, rfl⟩, D.mono _ _ _ _ ⟨fun s' h' z σ' H' ι' g hr' _ => ?_, fun d h' z => ?_, fun _ _ z => False.elim z, fun _ _ z => False.elim z, fun s' y h' z c d σ' H' ι' g hr' _ xr => False.elim z⟩ (hw h _ hr.sc (clo_of hr.len) hx qv)⟩
    · exact z .non H' ι' g hr' rfl
    · exact z
  · refine ⟨ι, h, s, hr, sr, ha.mono s h _ _ _ _ (fun x h1 ⟨n, fs, ed, z, q1⟩ vs H1 ι1 g1 hr1 rs => ?_) (fun _ _ e => e) q⟩
    subst ed
    obtain ⟨_, _, rfl, rfl, rn⟩ := rs
    cases rn
    exact ⟨ι1, h1, hr1, rfl, ⟨n, fs, z⟩, fun v H' ι' g hr' rd => q1 v H' ι' (g1.trans g) hr' rd⟩
end
/-! ### the heap's tables -/
def O.sys : O → Bool
  | .tab _ _ => true
  | .xdo _ _ => true
  | _ => false
/-- the tables T, and no caught error's fields -/
def SysIs (T : List (Addr × Str)) (h : Hh) : Prop := h.filter O.sys = T.map fun p => .tab p.1 p.2
theorem SysIs.noxd {T : List (Addr × Str)} {h : Hh} (s : SysIs T h) {n : Nat} {d : Addr} {fs : List (Str × D)} (e : h[n]? = some (.xdo d fs)) : False := by
  have m : O.xdo d fs ∈ h.filter O.sys := List.mem_filter.mpr ⟨List.mem_of_getElem? e, rfl⟩
  rw [s] at m
  obtain ⟨p, _, hp⟩ := List.mem_map.mp m
  cases hp
theorem SysIs.tab {T : List (Addr × Str)} {h : Hh} (s : SysIs T h) {n : Nat} {P : Addr} {q : Str} (e : h[n]? = some (.tab P q)) : (P, q) ∈ T := by
  have m : O.tab P q ∈ h.filter O.sys := List.mem_filter.mpr ⟨List.mem_of_getElem? e, rfl⟩
  rw [s] at m
  obtain ⟨p, hp, e⟩ := List.mem_map.mp m
  cases e
  exact hp
theorem SysIs.tabs {K : PySem.W.Frag} {H : Hp} {ι : List Addr} {mg : Str → Option Value} {T : List (Addr × Str)} {h : Hh} (s : SysIs T h) (hr : HRel K H ι mg h) : Tabs T H := fun p hp => by
  have m : O.tab p.1 p.2 ∈ h.filter O.sys := by rw [s]; exact List.mem_map.mpr ⟨p, hp, rfl⟩
  obtain ⟨n, hn⟩ := List.getElem?_of_mem (List.mem_filter.mp m).1
  obtain ⟨a, ea, r⟩ := hr.at hn
  exact r.2
/-- a lambda has been made -/
theorem HRel.lam {K : PySem.W.Frag} {H H1 : Hp} {ι : List Addr} {mg : Str → Option Value} {T : List (Addr × Str)} {h : Hh} (hr : HRel K H ι mg h) (s : SysIs T h) (x : ExtN H H1) (t : Tabs T H1) (kp : ∀ b u, H b = some u → ∃ u', H1 b = some u') : Gr K H H1 ι ι ∧ HRel K H1 ι mg h := by
  have g : Gr K H H1 ι ι := by
    refine ⟨⟨List.prefix_refl _, fun a vs q => ?_⟩, kp, New.refl⟩
    rcases q with (q | ⟨z, q⟩) | q
    · exact .inl (.inl (x _ _ q fun ps z => by cases z))
    · exact .inl (.inr ⟨z, x _ _ q fun ps z => by cases z⟩)
    · exact .inr q
  refine ⟨g, hr.len, hr.nd, fun n o a e1 e2 => ?_⟩
  have r := hr.obj n o a e1 e2
  cases ho : o.wr with
  | true =>
    obtain ⟨u, eu, _, _, nc⟩ := r.there ho
    refine r.move g (by rw [eu]; exact x _ _ eu nc.1) fun q ⟨ps, z, _⟩ => ?_
    rw [eu] at z
    exact absurd (Option.some.inj z) (nc.1 ps)
  | false =>
    cases o with
    | rol ds =>
      obtain ⟨vs, q, r⟩ := r
      refine ⟨vs, ?_, r.mono g.toGrW⟩
      rcases q with ⟨z, q⟩ | q
      · exact .inl ⟨z, x _ _ q fun ps z => by cases z⟩
      · exact .inr q
    | tab P q => exact ⟨r.1, t _ (s.tab e1)⟩
    | _ => cases ho
end EV

namespace EV
open PySem PySem.Spec PyProof.Rows L2 LamX
/-! ### a lambda handed to a def: all that was tracked is tracked behind it -/
def Kp (H H1 : Hp) : Prop := ∀ b u, H b = some u → ∃ u', H1 b = some u'
section
variable {X : Cx} {pins : List (Addr × Obj)} {σ : St} {H : Hp} {s : Shared}
theorem kp_tab {H : Hp} {P c : Addr} {u w : HO} : Kp H (upd (upd H P u) c w) := fun b v e => by
  by_cases hc : b = c
  · exact ⟨w, by rw [hc, upd_same]⟩
  · by_cases hp : b = P
    · exact ⟨u, by rw [upd_ne hc, hp, upd_same]⟩
    · exact ⟨v, by rw [upd_ne hc, upd_ne hp]; exact e⟩
theorem lam_make3 {T : List (Addr × Str)} {c P : Addr} {params : Arguments} {body : Expr} {scope : Scope} {pos : Pos} {E : Value → Shared → Prop} {Q : Value → Shared → Prop} (I : L2.Inv X pins σ H s) (TB : TabB X.base X.mg c P) (hcode : X.env.code = .ref c)
    (hm : (P, X.env.qual ++ "<lambda>") ∈ T) (hu : ∀ p ∈ T, p.1 = P → p.2 = X.env.qual ++ "<lambda>") (hT : Tabs T H) (hdef : defaultsOf params X.env = ([], [])) (hfree : ∀ y ∈ scope.names, y.2 = .free → ∃ c, X.env.cells.lookup y.1 = some c)
    (h : ∀ (f c' : Addr) (pm ctv : Value) (H1 : Hp) (s' : Shared), L2.Inv X pins σ H1 s' → ExtN H H1 → Tabs T H1 → Kp H H1 →
      s'.heap.get? f = some (PySem.W.kla_obj "<lambda>" (X.env.qual ++ "<lambda>") params body scope (cloFrom X.env.cells scope.names []) pm c' ctv) → H1 f = none → f ∉ frs X.stack → H1 c' = some (CodeO c' (X.env.qual ++ "<lambda>")) → Q (.ref f) s') :
    wpAny (model X.prog X.w) X.A (eval (.Lambda params body scope pos) X.env) Q E s := by
  obtain ⟨ps, hP, ht, ha⟩ := hT _ hm
  refine PySem.W.kla_eval hdef ?_
  have hP' : s.heap.get? P = some { cls := .none, data := .fields ps } := I.hok P _ hP
  have nofr : ∀ f, s.heap.objs.size ≤ f → f ∉ frs X.stack := fun f hf z => by
    rcases List.mem_cons.mp (I.stkSub _ z) with e | e
    · have h1 := I.lt
      rw [← e] at h1
      exact Nat.lt_irrefl _ (Nat.lt_of_lt_of_le h1 hf)
    · exact I.nofs hf e
  cases hc : codeAmong pos ps.toList with
  | none =>
    refine PySem.W.kla_makeFunction (mg := X.mg) (c := c) (P := P) (ps := ps) (closure_ok hfree) I.ok.glob (I.mod.glob.keeps I.bk) hcode (TB.code.keeps I.bk) hP' ht hc TB.gP (TB.bm.keeps I.bk) fun c' ctv h' tk hx hge hlt hrec htb => ?_
    obtain ⟨c2, oc, vs, t, e2, hoc, hd, hv⟩ := hrec
    cases e2
    have hsz : s.heap.objs.size ≤ h'.objs.size := Nat.le_trans hge (Nat.le_of_lt hlt)
    have nC : H c' = none := I.hok.fresh hge
    have I1 := inv_table (t' := tk) (more := #[rawInt pos.line, rawInt pos.col, .ref c']) (h' := h'.push (PySem.W.kla_obj "<lambda>" (X.env.qual ++ "<lambda>") params body scope (cloFrom X.env.cells scope.names []) ((X.mg "__name__").getD .none) c' ctv)) I hP
      (fun b o hb e => Heap.get?_push_of_some _ (hx b o hb e)) (Heap.get?_push_of_some _ htb) hge ⟨oc, vs, t, Heap.get?_push_of_some _ hoc, hd, hv⟩
    have hE : ExtN H (upd (upd H P (.tbl (ps ++ #[rawInt pos.line, rawInt pos.col, .ref c']))) c' (CodeO c' (X.env.qual ++ "<lambda>"))) := fun b o e n => by
      rw [upd_ne (ne_of_none e nC), upd_ne (fun z => n ps (Option.some.inj (e.symm.trans (by rw [z]; exact hP))))]
      exact e
    have eL : (ps ++ #[rawInt pos.line, rawInt pos.col, .ref c']).toList = ps.toList ++ [rawInt pos.line, rawInt pos.col, .ref c'] := by simp
    refine h h'.objs.size c' ((X.mg "__name__").getD .none) ctv _ _ I1 hE (fun p hp => ?_) kp_tab (Heap.get?_push_size _ rfl) ?_ (nofr _ hsz) upd_same
    · by_cases hb : p.1 = P
      · rw [hu p hp hb, hb]
        refine ⟨_, by rw [upd_ne (ne_of_none hP nC), upd_same], by rw [eL]; exact PySem.TriplesOk_snoc _ _ _ _ ht, fun p' cv hcv => ?_⟩
        rw [eL] at hcv
        rcases among_app _ ht hcv with z | z
        · obtain ⟨c0, e1, e2⟩ := ha p' cv z
          exact ⟨c0, e1, hE _ _ e2 codeO_ne⟩
        · exact ⟨c', z, upd_same⟩
      · obtain ⟨ps', a1, a2, a3⟩ := hT p hp
        refine ⟨ps', by rw [upd_ne (ne_of_none a1 nC), upd_ne hb]; exact a1, a2, fun p' cv hcv => ?_⟩
        obtain ⟨c0, e1, e2⟩ := a3 p' cv hcv
        exact ⟨c0, e1, hE _ _ e2 codeO_ne⟩
    · have n1 : h'.objs.size ≠ c' := Nat.ne_of_gt hlt
      have n2 : h'.objs.size ≠ P := Nat.ne_of_gt (Nat.lt_of_lt_of_le (Heap.lt_size hP') hsz)
      rw [upd_ne n1, upd_ne n2]
      exact I.hok.fresh hsz
  | some cv =>
    obtain ⟨c', e, hco⟩ := ha pos cv hc
    subst e
    refine PySem.W.kla_makeFunctionHit (mg := X.mg) (c := c) (P := P) (ps := ps) (closure_ok hfree) I.ok.glob (I.mod.glob.keeps I.bk) hcode (TB.code.keeps I.bk) hP' ht hc (TB.bm.keeps I.bk) fun ctv h' tk hx hsz => ?_
    have I1 : L2.Inv X pins σ H { s with heap := h'.push (PySem.W.kla_obj "<lambda>" (X.env.qual ++ "<lambda>") params body scope (cloFrom X.env.cells scope.names []) ((X.mg "__name__").getD .none) c' ctv), toks := tk } := I.kept fun b o e => Heap.get?_push_of_some _ (hx b o e)
    exact h h'.objs.size c' ((X.mg "__name__").getD .none) ctv H _ I1 (ExtN.refl H) hT (fun b u e => ⟨u, e⟩) (Heap.get?_push_size _ rfl) (I.hok.fresh hsz) (nofr _ hsz) hco
end
def tLam3 (T : List (Addr × Str)) (TT : (XK → Hp → VK → Prop) → Hp → VK → Prop) (t : XK → TE) : TE := fun σ H Q => Tabs T H ∧ ∀ H1, ExtN H H1 → Tabs T H1 → Kp H H1 → TT (fun E H' Q' => t E σ H' Q') H1 Q
section
variable {X : Cx}
theorem pe_lam3 {T : List (Addr × Str)} {TT : (XK → Hp → VK → Prop) → Hp → VK → Prop} {x a : Str} {g c P : Addr} {k : Nat} {stg : Stmt} {fdg : FuncData} {Ng : List Str}
    {params : Arguments} {body : Expr} {scope : Scope} {t : XK → TE} {p lpos pos : Pos} (hg : Gl X x) (hm : X.mg x = some (.ref g)) (F : Fun X.K x x stg g fdg) (hb : L2.Binds X.K fdg [a] []) (Sg : FnScope Ng [a] (defScope stg)) (hNg : Ng[0]? = some a) (hva : Vis (defScope stg) a)
    (hG : ∀ cdv : Value, GivesTo X Ng x (defScope stg) g cdv (defBody stg) a (X.env.qual ++ "<lambda>") TT)
    (TB : TabB X.base X.mg c P) (hcode : X.env.code = .ref c) (hmT : (P, X.env.qual ++ "<lambda>") ∈ T) (hu : ∀ p ∈ T, p.1 = P → p.2 = X.env.qual ++ "<lambda>") (hr : Room (k + 2) X.A) (L : LamS X.env.scope scope) (hdef : defaultsOf params X.env = ([], []))
    (hbind : ∀ (q : Str) (cl : List (Str × Addr)) (pm cv ctv : Value), bindArgs (PySem.W.kla_fn "<lambda>" q params body scope cl pm cv ctv) ⟨[], []⟩ = pure [])
    (hbody : ∀ (A : Around) (outer : List Env) (s : Shared) (H : Hp) (E : XK) (f c' : Addr), Room k (A.deeper (lamEnv X scope s.heap.objs.size f c')) → PE (lamCx X A outer s H E scope f c') body (t E))
    (hdb : (x == ("__debug__" : Str)) = false := by decide) (hd : (a == ("__debug__" : Str)) = false := by decide) (hcd : (a == ("__classdict__" : Str)) = false := by decide) :
    PE X (.Call (.Name x p) [.Lambda params body scope lpos] [] pos) (tLam3 T TT t) := by
  obtain ⟨oc, od, kV, doc, pm, an, cdv, ct, osl, rfl, lk, hcg⟩ := F.ex
  constructor
  rintro pins s σ H Q I ⟨hT, h⟩
  refine wpAny_Call_Name_kw (ld_glob I hg hm ?_ hdb)
  refine PySem.W.callWith_K (h₀ := X.base) I.ok.mod.kin F.kp ?_ (by rfl) (by rfl)
  show wpAny _ _ (spliced ((false, eval (.Lambda params body scope lpos) X.env) :: backTo pos (starEach [] X.env))) _ _ s
  refine Calls.spliced_cons (lam_make3 I TB hcode hmT hu hT hdef (L.has I.ok) fun f c' pm' ctv H1 s' I1 eN T1 kp hf hfn hfr hco => ?_)
  refine Calls.spliced_nil ⟨I1.kIn, ?_⟩
  have rc : codeAny (model X.prog X.w) X.A (.call (.ref g) ⟨[.ref f], []⟩) (CR C8.CX0 X.stack X.prog X.w H1 s' Q C8.E0) s' := by
    refine run_ofS (N := Ng) (ps := [a]) (us := [.ref f]) (vs := [.ref f]) lk hcg Sg hr I1.env0 (hb s' [.ref f] I1.kIn rfl) (.cons rfl .nil) rfl fun hr' => ?_
    obtain ⟨t', ht', hq'⟩ := hG cdv f c' s' H1 Q (fun E H' Q' => t E σ H' Q') (fun W pn xe E p1 p2 tk hW => pe_act (i := 0) I1 L hf hfn hfr (hbind _ _ _ _ _) tk hW hr' (fun A outer s H hr2 => hbody A outer s H E f c' hr2) hNg hva hd hcd) hco (h H1 eN T1 kp)
    exact ⟨t', ht'.nox, hq'⟩
  refine wpAny_call (codeAny_mono rc fun r s2 hq => ?_)
  cases r with
  | error e => exact (show False from hq).elim
  | ok fl =>
    cases fl with
    | ret u => exact I1.after hq
    | next => exact False.elim hq
    | brk => exact False.elim hq
    | cont => exact False.elim hq
end
end EV

namespace EV
open PySem PySem.Spec PyProof.Rows L2 LamX
/-- the answer of a def that is handed a caught error of the class c: always True -/
def AloneOk (P : Program) (w : World) (K : PySem.W.Frag) (mg : Str → Option Value) (base : Heap) (x : Str) (c : Addr) : Prop :=
  ∀ (X : Cx) (W : WX) (a d : Addr) (oe : Obj) (e : Expr) (we : WE) (q pos : Pos), X.prog = P → X.w = w → X.K = K → X.mg = mg → X.base = base → Zc (.ref c) (some d) oe → (∃ vs, oe.data = .fields vs) → (a, oe) ∈ X.pn → L2H.RoomH 3 X.A → Gl X x → DE X W e we →
    starEach [e] X.env = (false, eval e X.env) :: starEach [] X.env → DE X W (.Call (.Name x q) [e] [] pos) (wUn (kIsP a d true) we)
/-- what the linked text says of the classes -/
structure SaidK (P : Program) (w : World) (K : PySem.W.Frag) (mg : Str → Option Value) (base : Heap) (cP cT cR : Addr) : Prop where
  mP : mg "NoPattern" = some (.ref cP)
  mT : mg "NoText" = some (.ref cT)
  mR : mg "RegsError" = some (.ref cR)
  pp : PySem.W.exmOne K (.ref cP) (.ref cP) = some true
  tp : PySem.W.exmOne K (.ref cT) (.ref cP) = some false
  tt : PySem.W.exmOne K (.ref cT) (.ref cT) = some true
  xP : XfC K cP
  xT : XfC K cT
  pa : PySem.W.findIn K (.ref cP) "at" = some none
  pw : PySem.W.findIn K (.ref cP) "why" = some none
  ta : PySem.W.findIn K (.ref cT) "at" = some none
  aP : AloneOk P w K mg base "_law_alone" cP
  aT : AloneOk P w K mg base "_law_alone" cT
/-- what is told of an error -/
def saidX (T : List (Addr × Str)) (x : XD) (h : Hh) (Q : PV) : Prop := SysIs T h ∧
  ((x.1 = "NoPattern" ∧ ∃ i y, x.2.lookup ("at" : Str) = some i ∧ x.2.lookup ("why" : Str) = some y ∧ Q (.tup [i, y]) h) ∨ (x.1 = "NoText" ∧ ∃ i, x.2.lookup ("at" : Str) = some i ∧ Q (.tup [.str "text", i]) h))
theorem saidX.imp {T : List (Addr × Str)} {x : XD} {h : Hh} {Q Q' : PV} (s : saidX T x h Q) (i : ∀ d, Q d h → Q' d h) : saidX T x h Q' := by
  obtain ⟨y, ⟨e, a, b, h1, h2, q⟩ | ⟨e, a, h1, q⟩⟩ := s
  · exact ⟨y, .inl ⟨e, a, b, h1, h2, i _ q⟩⟩
  · exact ⟨y, .inr ⟨e, a, h1, i _ q⟩⟩
def wSaid (T : List (Addr × Str)) (P : Addr) (q : Str) (wb : WE) : WE := fun s h Q E => SysIs T h ∧ (P, q) ∈ T ∧ wb s h (fun _ h1 => Q (.str "done") h1) (fun x h1 => saidX T x h1 Q)
/-- the same, seen from the def that asks -/
def EXs (K : PySem.W.Frag) (mg : Str → Option Value) (T : List (Addr × Str)) (Q : VK) : XK := fun cls d H' => ∃ ι h x, HRel K H' ι mg h ∧ XR K mg H' ι x cls d ∧ saidX T x h (fun d h' => ∀ v H'' ι', Gr K H' H'' ι ι' → HRel K H'' ι' mg h' → RelD K H'' ι' d v → Q v H'')
def TSaid (K : PySem.W.Frag) (mg : Str → Option Value) (T : List (Addr × Str)) : (XK → Hp → VK → Prop) → Hp → VK → Prop := fun tl H Q => ∀ (Q1 : VK) (E1 : XK), (∀ v H', Q (.str "done") H' → Q1 v H') → (∀ cls d H', EXs K mg T Q cls d H' → E1 cls d H') → tl E1 H Q1
/-- a caught error's fields get a number -/
theorem HRel.caught {K : PySem.W.Frag} {H : Hp} {ι : List Addr} {mg : Str → Option Value} {T : List (Addr × Str)} {h : Hh} {dd : Addr} {fs : List (Str × D)} {vs : List (Str × V)} (hr : HRel K H ι mg h) (s : SysIs T h) (e : H dd = some (.xd vs)) (r : RelKs K H ι fs vs) : HRel K H (ι ++ [dd]) mg (h ++ [.xdo dd fs]) := by
  have g : GrW K H H ι (ι ++ [dd]) := ⟨List.prefix_append _ _, fun _ _ z => z⟩
  have at_ : ∀ {i : Nat} {a : Addr}, (ι ++ [dd])[i]? = some a → (i < h.length ∧ ι[i]? = some a) ∨ (i = h.length ∧ a = dd) := fun {i a} e => by
    by_cases hi : i < h.length
    · rw [List.getElem?_append_left (by rw [hr.len]; exact hi)] at e
      exact .inl ⟨hi, e⟩
    · have q := get_lt e
      rw [List.length_append, List.length_singleton, hr.len] at q
      have hi : i = h.length := by omega
      subst hi
      rw [← hr.len, List.getElem?_append_right (Nat.le_refl _), Nat.sub_self] at e
      exact .inr ⟨rfl, by simpa using e.symm⟩
  have mix : ∀ {i : Nat}, i < h.length → ι[i]? = some dd → ∃ ds, (h ++ [O.xdo dd fs])[i]? = some (.rol ds) := fun {i} hi ei => by
    have ro := hr.obj i h[i] dd (List.getElem?_eq_getElem hi) ei
    have eo : h[i]? = some h[i] := List.getElem?_eq_getElem hi
    rw [List.getElem?_append_left hi]
    generalize h[i] = o at ro eo
    rw [eo]
    cases o with
    | rol ds => exact ⟨ds, rfl⟩
    | lst ds => obtain ⟨_, z, _⟩ := ro; rw [e] at z; cases z
    | dic ds => obtain ⟨_, z, _⟩ := ro; rw [e] at z; cases z
    | lck ds => obtain ⟨_, _, z, _⟩ := ro; rw [e] at z; cases z
    | ins C fs => obtain ⟨_, _, _, _, z, _⟩ := ro; rw [e] at z; cases z
    | exo C d =>
      cases d with
      | none => obtain ⟨_, _, z⟩ := ro; rw [e] at z; have y : HO.xd _ = HO.ext _ := Option.some.inj z; cases y
      | some n => obtain ⟨_, _, _, _, z⟩ := ro; rw [e] at z; have y : HO.xd _ = HO.ext _ := Option.some.inj z; cases y
    | exd fs => obtain ⟨_, z, _⟩ := ro; rw [e] at z; have y : HO.xd _ = HO.ext _ := Option.some.inj z; cases y
    | xdo d fs => exact (s.noxd eo).elim
    | tab P q => obtain ⟨rfl, _, z, _⟩ := ro; rw [e] at z; cases z
  refine ⟨by rw [List.length_append, List.length_append, hr.len]; rfl, fun i j a e1 e2 => ?_, fun n o a e1 e2 => ?_⟩
  · rcases at_ e1 with ⟨h1, f1⟩ | ⟨h1, rfl⟩
    · rcases at_ e2 with ⟨h2, f2⟩ | ⟨h2, rfl⟩
      · rcases hr.nd i j a f1 f2 with q | ⟨ds, q⟩ | ⟨ds, q⟩
        · exact .inl q
        · exact .inr (.inl ⟨ds, by rw [List.getElem?_append_left h1]; exact q⟩)
        · exact .inr (.inr ⟨ds, by rw [List.getElem?_append_left h2]; exact q⟩)
      · exact .inr (.inl (mix h1 f1))
    · rcases at_ e2 with ⟨h2, f2⟩ | ⟨h2, _⟩
      · exact .inr (.inr (mix h2 f2))
      · exact .inl (h1.trans h2.symm)
  · rcases at_ e2 with ⟨h2, f2⟩ | ⟨h2, rfl⟩
    · rw [List.getElem?_append_left h2] at e1
      exact (hr.obj n o a e1 f2).move g rfl fun _ z => z
    · subst h2
      rw [List.getElem?_append_right (Nat.le_refl _), Nat.sub_self] at e1
      cases e1
      exact ⟨vs, rfl, e, r.mono g⟩
/-- behind the suite the fields are forgotten -/
theorem caught_end {K : PySem.W.Frag} {H H' : Hp} {ι ι' : List Addr} {mg : Str → Option Value} {h : Hh} {dd : Addr} {fs : List (Str × D)} {d : D} {v : V} {Q : VK} (hr : HRel K H ι mg h) (sd : ScD h.length d)
    (q : ∀ v H'' ι', Gr K H H'' ι ι' → HRel K H'' ι' mg h → RelD K H'' ι' d v → Q v H'') (g : Gr K H H' (ι ++ [dd]) ι') (hr' : HRel K H' ι' mg (h ++ [.xdo dd fs])) (rd : RelD K H' ι' d v) : Q v H' := by
  obtain ⟨hc, hl⟩ := hr'.cut hr.sc
  have pf : ι <+: ι' := (List.prefix_append _ _).trans g.pre
  have e1 : ι'.take h.length = ι := by
    obtain ⟨t, rfl⟩ := pf
    rw [← hr.len, List.take_left]
  rw [e1] at hc
  exact q v H' ι ⟨⟨List.prefix_refl _, g.tup⟩, g.kept, New.refl⟩ hc (rd.back pf (by rw [hr.len]; exact sd))
theorem RelKs.look_sc {κ : Type} [BEq κ] {n : Nat} : ∀ {ps : List (κ × D)} {k : κ} {d : D}, ScKs n ps → ps.lookup k = some d → ScD n d
  | [], _, _, _, e => by cases e
  | p :: ps, k, d, s, e => by
    obtain ⟨k', d'⟩ := p
    rw [List.lookup_cons] at e
    split at e
    · cases e; exact s.1
    · exact RelKs.look_sc s.2 e

def w1said (a d : Addr) : WS := wAsg (.nm 1) (wIfE (wB (wUn (kIsP a d true) (wVar 2))) (wTup (wCons (wUn (kXs a d "at") (wVar 2)) (wCons (wUn (kXs a d "why") (wVar 2)) wNil))) (wC (.str "several")))
def w2said (a d : Addr) : WS := wAsg (.nm 1) (wIfE (wB (wUn (kIsP a d true) (wVar 2))) (wTup (wCons (wC (.str "text")) (wCons (wUn (kXs a d "at") (wVar 2)) wNil))) (wC (.str "several")))
section
variable {X : Cx}
theorem dt_alone {W : WX} {e : Expr} {w : WE} (h : DE X W e w) (he : ∀ whole, isTrue e X.env whole = (do let v ← whole; standAt e.pos; holding [v] (truthy v)) := by intro _; rfl) : DT X W e (wB w) := by
  have D := dt_tru h he
  refine ⟨PT.imp D.pt fun σ H Q ⟨ι, hh, s, hr, sr, q⟩ => ⟨ι, hh, s, hr, sr, h.mono s hh _ _ _ _ (fun d h1 ⟨k, ed, q⟩ => ⟨k, by rw [ed]; rfl, q⟩) (fun _ _ z => z) q⟩, mono_b h.mono⟩
def NgS : List Str := ["_law_ask", "_law_found", "_law_e"]
abbrev cxS (X : Cx) (sg : Scope) (g : Addr) (cdg : Value) (s : Shared) (H : Hp) : Cx := (cxOf C8.CX0 X.prog X.w X.K X.mg X.base NgS "_law_said" sg g cdg X.A X.stack s H C8.E0).nox
theorem said_gives {T : List (Addr × Str)} {sg : Scope} {g cP cT cR : Addr} {cdg : Value} {q : Str} {k : Nat} {j1 j2 j3 j4 j5 k1 k2 : _} {p1 p2 p3 p4 p5 p6 p7 p8 p9 p10 p11 p12 p13 p14 p15 p16 p17 p18 p19 p20 p21 p22 p23 p24 p25 p26 p27 p28 p29 p30 p31 p32 p33 p34 p35 p36 p37 p38 p39 p40 p41 p42 : Pos}
    (G : SaidK X.prog X.w X.K X.mg X.base cP cT cR) (hr : Room (k + 4) X.A) (hA : Vis sg "_law_ask") (hF : sg.names.lookup ("_law_found" : Str) = some .local) (hE : sg.names.lookup ("_law_e" : Str) = some .local) (g1 : sg.names.lookup ("NoPattern" : Str) = some .globalImplicit) (g2 : sg.names.lookup ("NoText" : Str) = some .globalImplicit) (g3 : sg.names.lookup ("RegsError" : Str) = some .globalImplicit) (g4 : sg.names.lookup ("_law_alone" : Str) = some .globalImplicit) :
    GivesTo X NgS "_law_said" sg g cdg
      [.Assign [.Name "_law_found" p1] (.Constant (.str "done") j1 p2) p3,
       .Try [.Expr (.Call (.Name "_law_ask" p4) [] [] p5) p6]
        [.ExceptHandler (some (.Name "NoPattern" p7)) (some "_law_e") [.Assign [.Name "_law_found" p8] (.IfExp (.Call (.Name "_law_alone" p9) [.Name "_law_e" p10] [] p11) (.Tuple [.Attribute (.Name "_law_e" p12) "at" p13, .Attribute (.Name "_law_e" p14) "why" p15] k1 p16) (.Constant (.str "several") j2 p17) p18) p19] p20,
         .ExceptHandler (some (.Name "NoText" p21)) (some "_law_e") [.Assign [.Name "_law_found" p22] (.IfExp (.Call (.Name "_law_alone" p23) [.Name "_law_e" p24] [] p25) (.Tuple [.Constant (.str "text") j3 p26, .Attribute (.Name "_law_e" p27) "at" p28] k2 p29) (.Constant (.str "several") j4 p30) p31) p32] p33,
         .ExceptHandler (some (.Name "RegsError" p34)) none [.Assign [.Name "_law_found" p35] (.Constant (.str "other") j5 p36) p37] p38] [] [] p39,
       .Return (some (.Name "_law_found" p40)) p41] "_law_ask" q (TSaid X.K X.mg T) := by
  intro f c' s H Q tl act hc hTT
  have hN : (cxS X sg g cdg s H).N.Nodup := by show NgS.Nodup; decide
  have rm : ∀ (a : Addr) (pn : List (Addr × Obj)), L2H.RoomH 3 ((cxS X sg g cdg s H).suite a pn).A := fun a pn => by
    have r := L2H.roomH_of (hr.deeper (envOfC "_law_said" sg s.heap.objs.size g cdg))
    exact ⟨by have := r.dp; show X.A.depth + 1 + 3 * 3 + 5 < _; have h2 : X.A.depth + 1 + 3 * (k + 3) + 5 < recursionLimit := this; omega, by have := r.un; have h2 : X.A.units + 3 + 16 * (k + 3) + 200 < cLine := this; show X.A.units + 3 + 16 * 3 + 200 < _; omega⟩
  have loc1 : Loc (cxS X sg g cdg s H).env.scope "_law_found" := .inl hF
  have s1 : SuOk (cxS X sg g cdg s H) [.Assign [.Name "_law_found" p8] (.IfExp (.Call (.Name "_law_alone" p9) [.Name "_law_e" p10] [] p11) (.Tuple [.Attribute (.Name "_law_e" p12) "at" p13, .Attribute (.Name "_law_e" p14) "why" p15] k1 p16) (.Constant (.str "several") j2 p17) p18) p19]
      (fun a cls d D σ H' => ∃ dd, cls = .ref cP ∧ d = some dd ∧ LS (cxS X sg g cdg s H) (fun _ _ _ _ => False) (w1said a dd) D σ H') := by
    intro a oe cls d pn hz hf
    constructor
    rintro pins s' σ H' D I ⟨dd, rfl, rfl, l⟩
    have ev : DE ((cxS X sg g cdg s H).suite a ((a, oe) :: pn)) (fun _ _ _ _ => False) (.Name "_law_e" p10) (wVar 2) := de_var 2 rfl (.inl hE)
    have D1 : DS ((cxS X sg g cdg s H).suite a ((a, oe) :: pn)) (fun _ _ _ _ => False) (.Assign [.Name "_law_found" p8] (.IfExp (.Call (.Name "_law_alone" p9) [.Name "_law_e" p10] [] p11) (.Tuple [.Attribute (.Name "_law_e" p12) "at" p13, .Attribute (.Name "_law_e" p14) "why" p15] k1 p16) (.Constant (.str "several") j2 p17) p18) p19) (w1said a dd) :=
      ds_set 1 hN (de_ifE (dt_alone (G.aP _ _ a dd oe _ _ p9 p11 rfl rfl rfl rfl rfl hz hf (List.mem_cons_self ..) (rm a _) g4 ev rfl)) (de_tup (da_cons (de_xs G.xP G.pa hz hf (de_var 2 rfl (.inl hE))) (da_cons (de_xs G.xP G.pw hz hf (de_var 2 rfl (.inl hE))) da_nil))) de_str) rfl loc1 rfl (.inr hF)
    exact (pss_one D1.ps).run pins s' σ H' D I l
  have s2 : SuOk (cxS X sg g cdg s H) [.Assign [.Name "_law_found" p22] (.IfExp (.Call (.Name "_law_alone" p23) [.Name "_law_e" p24] [] p25) (.Tuple [.Constant (.str "text") j3 p26, .Attribute (.Name "_law_e" p27) "at" p28] k2 p29) (.Constant (.str "several") j4 p30) p31) p32]
      (fun a cls d D σ H' => ∃ dd, cls = .ref cT ∧ d = some dd ∧ LS (cxS X sg g cdg s H) (fun _ _ _ _ => False) (w2said a dd) D σ H') := by
    intro a oe cls d pn hz hf
    constructor
    rintro pins s' σ H' D I ⟨dd, rfl, rfl, l⟩
    have ev : DE ((cxS X sg g cdg s H).suite a ((a, oe) :: pn)) (fun _ _ _ _ => False) (.Name "_law_e" p24) (wVar 2) := de_var 2 rfl (.inl hE)
    have D1 : DS ((cxS X sg g cdg s H).suite a ((a, oe) :: pn)) (fun _ _ _ _ => False) (.Assign [.Name "_law_found" p22] (.IfExp (.Call (.Name "_law_alone" p23) [.Name "_law_e" p24] [] p25) (.Tuple [.Constant (.str "text") j3 p26, .Attribute (.Name "_law_e" p27) "at" p28] k2 p29) (.Constant (.str "several") j4 p30) p31) p32) (w2said a dd) :=
      ds_set 1 hN (de_ifE (dt_alone (G.aT _ _ a dd oe _ _ p23 p25 rfl rfl rfl rfl rfl hz hf (List.mem_cons_self ..) (rm a _) g4 ev rfl)) (de_tup (da_cons de_str (da_cons (de_xs G.xT G.ta hz hf (de_var 2 rfl (.inl hE))) da_nil))) de_str) rfl loc1 rfl (.inr hF)
    exact (pss_one D1.ps).run pins s' σ H' D I l
  have s3 : SuOk (cxS X sg g cdg s H) [.Assign [.Name "_law_found" p35] (.Constant (.str "other") j5 p36) p37] (fun _ _ _ => tNever) := fun a oe cls d pn _ _ => pss_never
  have cl : ClsOk (cxS X sg g cdg s H) _ _ := .named (np := p7) (pos' := p20) (i := 2) ⟨g1, by decide, .inl G.mP⟩ rfl hE s1 (.named (np := p21) (pos' := p33) (i := 2) ⟨g2, by decide, .inl G.mT⟩ rfl hE s2 (.plain (np := p34) (pos' := p38) ⟨g3, by decide, .inl G.mR⟩ s3 .nil))
  have tr : PS (cxS X sg g cdg s H) (.Try [.Expr (.Call (.Name "_law_ask" p4) [] [] p5) p6] _ [] [] p39) _ := ps_try_cls (pos := p39) (Wout := fun _ _ _ _ => False) (tb := fun W D σ H => ∃ Ech : XK, (∀ cls d σ' H', σ'.length = 3 → Ech cls d H' → W cls d σ' H') ∧ σ[0]? = some (some (.ref f)) ∧ H c' = some (CodeO c' q) ∧ tl Ech H (fun _ H' => D.nx σ H')) rfl rfl hN LamX.takes0 (fun W pn xe tk _ => by
    constructor
    rintro pins s' σ H' D I ⟨Ech, hW, h1, h2, h3⟩
    have tk' : Takes ((cxS X sg g cdg s H).tr pn xe) (fun cls d σ H => σ.length = 3 → W cls d σ H) := fun u s' ⟨a, B, sI, pins, σ, H, cls, d, e, I, nb, up, sky, na, os, ag, w⟩ => tk u s' ⟨a, B, sI, pins, σ, H, cls, d, e, I, nb, up, sky, na, os, ag, w I.len⟩
    have hp := act (fun cls d σ H => σ.length = 3 → W cls d σ H) pn xe Ech p4 p5 tk' (fun cls d σ' H' e hl => hW cls d σ' H' hl e)
    exact (pss_one (ps_expr (pos := p6) hp)).run pins s' σ H' D I ⟨h1, h2, h3⟩) cl
  refine ⟨_, pss_cons (ps_set (i := 1) hN rfl loc1 pe_str rfl (.inr hF)) (pss_cons tr (pss_one (ps_ret (pe_var (i := 1) rfl (.inl hF))))), ?_⟩
  refine ⟨EXs X.K X.mg T Q, fun cls d σ' H' hl ⟨ι, h, x, hrel, xr, sy, sx⟩ => ?_, rfl, hc, hTT _ _ (fun v H' z => ⟨.str "done", rfl, z⟩) fun _ _ _ z => z⟩
  obtain ⟨C, mC, rfl, dm⟩ := xr
  have sr : ∀ (ι' : List Addr) (a : Addr), SRel X.K H' ι' (σ'.set 2 (some (.ref a))) [none, none, some (.opq (.ref a))] := fun ι' a => ⟨by rw [List.length_set, hl]; rfl, fun i d e => by
    match i, e with
    | 2, e => cases e; exact ⟨.ref a, by rw [List.getElem?_set_self (by omega)], rfl⟩
    | n + 3, e => simp at e⟩
  have fin : ∀ {d : D} {dd a : Addr} {fs : List (Str × D)} {σ'' : St} {H'' : Hp} {ι'' : List Addr}, ScD h.length d → (∀ v H'' ι', Gr X.K H' H'' ι ι' → HRel X.K H'' ι' X.mg h → RelD X.K H'' ι' d v → Q v H'') → Gr X.K H' H'' (ι ++ [dd]) ι'' → HRel X.K H'' ι'' X.mg (h ++ [.xdo dd fs]) → SRel X.K H'' ι'' σ'' [none, some d, some (.opq (.ref a))] →
      ∃ v, (σ''.set 2 none)[1]? = some (some v) ∧ Q v H'' := fun {d dd a fs σ'' H'' ι''} sd q g hr' sr' => by
    obtain ⟨v, ev, rv⟩ := sr'.2 1 d rfl
    exact ⟨v, by rw [List.getElem?_set_ne (by decide)]; exact ev, caught_end hrel sd q g hr' rv⟩
  rcases sx with ⟨ex, i, y, l1, l2, sq⟩ | ⟨ex, i, l1, sq⟩
  · rw [ex, G.mP] at mC
    cases mC
    cases d with
    | none => rw [show x.2 = [] from dm] at l1; cases l1
    | some dd =>
      obtain ⟨vs, ed, rk⟩ := dm
      have sk : ScKs h.length x.2 := by rw [← hrel.len]; exact rk.sc
      have ix : (h ++ [O.xdo dd x.2])[h.length]? = some (.xdo dd x.2) := by rw [List.getElem?_append_right (Nat.le_refl _), Nat.sub_self]; rfl
      refine ⟨true, G.pp, fun _ a ha => ⟨dd, rfl, rfl, ι ++ [dd], h ++ [O.xdo dd x.2], [none, none, some (.opq (.ref a))], hrel.caught sy ed rk, sr _ a, ?_⟩, fun z => by cases z⟩
      refine ⟨_, rfl, h.length, x.2, rfl, ix, true, rfl, ?_⟩
      show (if (true : Bool) = true then _ else _)
      rw [if_pos rfl]
      refine ⟨_, rfl, h.length, x.2, i, rfl, ix, l1, _, rfl, h.length, x.2, y, rfl, ix, l2, by show 2 ≤ sizeLine; decide, [none, some (.tup [i, y]), some (.opq (.ref a))], rfl, fun σ'' H'' ι'' g hr' sr' => ?_⟩
      exact fin (d := .tup [i, y]) ⟨RelKs.look_sc sk l1, RelKs.look_sc sk l2, trivial⟩ sq g hr' sr'
  · rw [ex, G.mT] at mC
    cases mC
    cases d with
    | none => rw [show x.2 = [] from dm] at l1; cases l1
    | some dd =>
      obtain ⟨vs, ed, rk⟩ := dm
      have sk : ScKs h.length x.2 := by rw [← hrel.len]; exact rk.sc
      have ix : (h ++ [O.xdo dd x.2])[h.length]? = some (.xdo dd x.2) := by rw [List.getElem?_append_right (Nat.le_refl _), Nat.sub_self]; rfl
      refine ⟨false, G.tp, (fun z => by cases z), fun _ => ⟨true, G.tt, fun _ a ha => ⟨dd, rfl, rfl, ι ++ [dd], h ++ [O.xdo dd x.2], [none, none, some (.opq (.ref a))], hrel.caught sy ed rk, sr _ a, ?_⟩, fun z => by cases z⟩⟩
      refine ⟨_, rfl, h.length, x.2, rfl, ix, true, rfl, ?_⟩
      show (if (true : Bool) = true then _ else _)
      rw [if_pos rfl]
      refine ⟨_, rfl, h.length, x.2, i, rfl, ix, l1, by show 2 ≤ sizeLine; decide, [none, some (.tup [.str "text", i]), some (.opq (.ref a))], rfl, fun σ'' H'' ι'' g hr' sr' => ?_⟩
      exact fin (d := .tup [.str "text", i]) ⟨trivial, RelKs.look_sc sk l1, trivial⟩ sq g hr' sr'
end
end EV

namespace EV
open PySem PySem.Spec PyProof.Rows L2 LamX
theorem mono_said {T : List (Addr × Str)} {P : Addr} {q : Str} {wb : WE} (m : Mono wb) : Mono (wSaid T P q wb) := fun s h Q Q' E E' hq he ⟨sy, hp, w⟩ => ⟨sy, hp, m s h _ _ _ _ (fun _ h1 z => hq _ _ z) (fun x h1 z => z.imp fun d => hq d h1) w⟩
section
variable {X : Cx} {W : WX}
theorem de_said {T : List (Addr × Str)} {g c P : Addr} {k : Nat} {stg : Stmt} {fdg : FuncData} {params : Arguments} {body : Expr} {scope : Scope} {wb : WE} {p lpos pos : Pos} (hg : Gl X "_law_said") (hm : X.mg "_law_said" = some (.ref g)) (F : Fun X.K "_law_said" "_law_said" stg g fdg) (hb : L2.Binds X.K fdg ["_law_ask"] [])
    (Sg : FnScope NgS ["_law_ask"] (defScope stg)) (hva : Vis (defScope stg) "_law_ask") (hG : ∀ cdv : Value, GivesTo X NgS "_law_said" (defScope stg) g cdv (defBody stg) "_law_ask" (X.env.qual ++ "<lambda>") (TSaid X.K X.mg T))
    (TB : TabB X.base X.mg c P) (hcode : X.env.code = .ref c) (hu : ∀ p ∈ T, p.1 = P → p.2 = X.env.qual ++ "<lambda>") (hr : Room (k + 2) X.A) (L : LamS X.env.scope scope) (hdef : defaultsOf params X.env = ([], []))
    (hbind : ∀ (q : Str) (cl : List (Str × Addr)) (pm cv ctv : Value), bindArgs (PySem.W.kla_fn "<lambda>" q params body scope cl pm cv ctv) ⟨[], []⟩ = pure []) (hmT : (P, X.env.qual ++ "<lambda>") ∈ T)
    (hbody : ∀ (A : Around) (outer : List Env) (s : Shared) (H : Hp) (E : XK) (f c' : Addr), Room k (A.deeper (lamEnv X scope s.heap.objs.size f c')) → DE (lamCx X A outer s H E scope f c') (nS E) body wb) :
    DE X W (.Call (.Name "_law_said" p) [.Lambda params body scope lpos] [] pos) (wSaid T P (X.env.qual ++ "<lambda>") wb) := by
  have mb : Mono wb := (hbody X.A [] X.s_0 (fun _ => none) (fun _ _ _ => True) 0 0 ((hr.deeper _).mono (by omega))).mono
  refine ⟨PE.imp (pe_lam3 (TT := TSaid X.K X.mg T) (t := fun E => LE X (nS E) wb) hg hm F hb Sg rfl hva hG TB hcode hmT hu hr L hdef hbind fun A outer s H E f c' rm => (hbody A outer s H E f c' rm).pe) fun σ H Q ⟨ι, h, s, hrel, sr, sy, hp, w⟩ => ?_, mono_said mb⟩
  refine ⟨sy.tabs hrel, fun H1 eN T1 kp Q1 E1 hq he => ?_⟩
  obtain ⟨g, hr1⟩ := hrel.lam sy eN T1 kp
  refine ⟨ι, h, s, hr1, sr.mono g.toGrW, mb s h _ _ _ _ (fun d h1 z v H' ι' g' hr' rd => hq v H' (z (.str "done") H' ι' (g.trans g') hr' rfl)) (fun x h1 z c d H' ι' g' hr' xr => he c d H' ⟨ι', h1, x, hr', xr, z.imp fun d zz v H'' ι'' g'' hr'' rd => zz v H'' ι'' ((g.trans g').trans g'') hr'' rd⟩) w⟩
end
/-- as fn_ok4, the code object known -/
theorem fn_ok5 {P : Program} {w : World} {K : PySem.W.Frag} {mg : Str → Option Value} {base : Heap} {x qual : Str} {st : Stmt} {f : Addr} {fd : FuncData} {N ps : List Str} {k : Nat} {sp : SpD} {wb : WS} {cv : Value}
    (F : Fun K x qual st f fd) (hcv : fd.code = cv) (S : FnScope N ps (defScope st)) (len : ∀ ds h Q E, sp ds h Q E → ds.length = ps.length)
    (hw : ∀ ds h Q E, ScH h → ScDs h.length ds → Clo h.length Q → CloX h.length E → sp ds h Q E → wb (endsOf Q E) (slots0 N ds) h)
    (hb : ∀ (A : Around) (outer : List Env) (s : Shared) (H : Hp) (E : XK), Room k (cxOf (L2.CX P w) P w K mg base N qual (defScope st) f cv A outer s H E).A → Takes (cxOf (L2.CX P w) P w K mg base N qual (defScope st) f cv A outer s H E) (nS E) →
      PassesOwn (model P w) (cxOf (L2.CX P w) P w K mg base N qual (defScope st) f cv A outer s H E).A (cxOf (L2.CX P w) P w K mg base N qual (defScope st) f cv A outer s H E).env (cxOf (L2.CX P w) P w K mg base N qual (defScope st) f cv A outer s H E).xe →
      DSs (cxOf (L2.CX P w) P w K mg base N qual (defScope st) f cv A outer s H E) (nS E) (defBody st) wb) :
    FnOk P w K mg base (L2.CX P w) (k + 1) f fd ps (LSp K mg sp) := by
  obtain ⟨oc, od, kV, doc, pm, an, cdv, ct, osl, efd, lk, hcd⟩ := F.ex
  have e1 : cdv = cv := by rw [efd] at hcv; exact hcv
  subst e1
  rw [efd] at lk ⊢
  refine fn_of lk hcd S (fun vs H Q E ⟨ι, h, ds, hr, rs, pr⟩ => by rw [rs.length]; exact len ds h _ _ pr) fun A outer s H vs Q E hr hsp => ?_
  obtain ⟨ι, h, ds, hrel, rs, pr⟩ := hsp
  have D := hb A outer s H E hr (takes_of rfl rfl rfl rfl) (passes_of rfl)
  refine ⟨_, D.ps, ι, h, slots0 N ds, hrel, start_rel rs, D.mono _ _ _ _ ⟨fun s' h' z σ' H' ι' g hr' _ => ?_, fun d h' z => ?_, fun _ _ z => False.elim z, fun _ _ z => False.elim z, fun s' y h' z c d σ' H' ι' g hr' _ xr => ?_⟩
    (hw ds h _ _ hrel.sc (by rw [← hrel.len]; exact rs.sc) (clo_of hrel.len) (cloX_of hrel.len) pr)⟩
  · exact z .non H' ι' g hr' rfl
  · exact z
  · exact z c d H' ι' g hr' xr
end EV

namespace EV
open PySem PySem.Spec PyProof.Rows L2 LamX
/-! ### list.count of truths -/
def eqb (b : Bool) (v : Value) : Bool := match v with
  | .bool c => c == b
  | _ => false
section
variable {X : Cx}
theorem bl_vals {b : Bool} : ∀ {bs : List Bool} {us : List Value}, Vals (bs.map V.bl) us → us.countP (eqb b) = bs.count b ∧ ∀ u ∈ us, ∃ c, u = .bool c
  | [], _, .nil => ⟨rfl, fun u hu => by cases hu⟩
  | c :: bs, _, .cons r t => by
    obtain ⟨h1, h2⟩ := bl_vals (b := b) t
    have e : _ = Value.bool c := r
    subst e
    refine ⟨by rw [List.countP_cons, List.count_cons, h1]; rfl, fun u hu => ?_⟩
    rcases List.mem_cons.mp hu with e | e
    · exact ⟨c, e⟩
    · exact h2 u e
def rCntB (K : PySem.W.Frag) : V → List V → Hp → VK → Prop := fun x xs H Q => ∃ (p : Addr) (bs : List Bool) (b : Bool), x = .ref p ∧ xs = [.bl b] ∧ SqL K H p (bs.map V.bl) ∧ Q (.int (bs.count b : Nat)) H
theorem mt_countB : MtR X "list.count" (rCntB X.K) := by
  rintro pins s σ H x xs v us Q I rx rxs ⟨p, bs, b, rfl, rfl, hs, q⟩
  cases rx
  obtain ⟨u, rfl, ru⟩ := rxs.one
  cases ru
  obtain ⟨its, rv, ⟨⟨cls, dd, data, sl⟩, n, ho, hc, hdn, hd⟩, hlen⟩ := I.list hs
  simp only at hc hd
  subst hc hd
  obtain ⟨ec, hb⟩ := bl_vals (b := b) rv
  refine call_meets PySem.F.slot_list_count ⟨_, ho, rfl⟩ PySem.F.entry_list_count (PySem.F.args_list_count_2 _ _)
    (SeqAt.list_countAt p its.toArray n dd sl (.bool b) (eqb b)) ⟨ho, fun y hy => ?_, ?_⟩
  · obtain ⟨c, rfl⟩ := hb y (by simpa using hy)
    exact SeqAt.EqAt.bool_bool c b
  · refine ⟨.int (bs.count b : Nat), H, I.tok _, ⟨s.toks, ?_⟩, q⟩
    show Value.int ((its.toArray.toList.countP (eqb b) : Nat) : Int) s.toks = Value.int ((bs.count b : Nat) : Int) s.toks
    rw [show its.toArray.toList = its from rfl, ec]
def gCount : GM
  | .ref n, [.bl b], h => match lsOf h n with
    | some ds => (match blsOf ds with
      | some bs => some (.int (bs.count b : Nat), h)
      | none => none)
    | none => none
  | _, _, _ => none
theorem ok_count : MtOk X "list.count" gCount := by
  intro ι h d ds r h' x xs H Q hr rd rs eg q
  unfold gCount at eg
  split at eg
  · rename_i n b
    obtain ⟨p, ep, rfl⟩ := rd
    obtain ⟨v, rfl, rv⟩ := rels1 rs
    cases rv
    split at eg
    · rename_i es z
      split at eg
      · rename_i bs zb
        cases eg
        obtain ⟨vs, sq, rvs⟩ := ls_sq hr z ep
        rw [bls_rel rvs zb] at sq
        exact ⟨_, mt_countB, p, bs, b, rfl, rfl, sq, q _ H ι .refl hr rfl⟩
      · cases eg
    · cases eg
  · cases eg
end
end EV

namespace EV
open PySem PySem.Spec PyProof.Rows L2 LamX
/-- the name of a lambda of the def x -/
def qlam (x : Str) : Str := (x ++ ".<locals>.") ++ "<lambda>"
/-- the def _law_said, as it is linked -/
structure GSaid (P : Program) (w : World) (K : PySem.W.Frag) (mg : Str → Option Value) (base : Heap) : Prop where
  ex : ∃ (g : Addr) (stg : Stmt) (fdg : FuncData), mg "_law_said" = some (.ref g) ∧ Fun K "_law_said" "_law_said" stg g fdg ∧ L2.Binds K fdg ["_law_ask"] [] ∧ FnScope NgS ["_law_ask"] (defScope stg) ∧ Vis (defScope stg) "_law_ask" ∧
    ∀ X : Cx, X.prog = P → X.w = w → X.K = K → X.mg = mg → X.base = base → ∀ k : Nat, Room (k + 4) X.A → ∀ (T : List (Addr × Str)) (q : Str) (cdv : Value), GivesTo X NgS "_law_said" (defScope stg) g cdv (defBody stg) "_law_ask" q (TSaid X.K X.mg T)
section
variable {X : Cx} {W : WX}
theorem de_said2 {T : List (Addr × Str)} {x : Str} {c P : Addr} {k : Nat} {params : Arguments} {body : Expr} {scope : Scope} {wb : WE} {p lpos pos : Pos} (G : GSaid X.prog X.w X.K X.mg X.base) (TB : TabB X.base X.mg c P) (hmT : (P, qlam x) ∈ T) (hu : ∀ p ∈ T, p.1 = P → p.2 = qlam x) (hr : Room (k + 4) X.A)
    (hbody : ∀ (A : Around) (outer : List Env) (s : Shared) (H : Hp) (E : XK) (f c' : Addr), Room k (lamCx X A outer s H E scope f c').A → Takes (lamCx X A outer s H E scope f c') (nS E) → DE (lamCx X A outer s H E scope f c') (nS E) body wb)
    (hq : X.env.qual ++ "<lambda>" = qlam x := by rfl) (hg : Gl X "_law_said" := by rfl) (hcode : X.env.code = .ref c := by rfl) (L : lamSB X.env.scope scope = true := by rfl) (hdef : defaultsOf params X.env = ([], []) := by rfl)
    (hbind : ∀ (q : Str) (cl : List (Str × Addr)) (pm cv ctv : Value), bindArgs (PySem.W.kla_fn "<lambda>" q params body scope cl pm cv ctv) ⟨[], []⟩ = pure [] := by intros; rfl) :
    DE X W (.Call (.Name "_law_said" p) [.Lambda params body scope lpos] [] pos) (wSaid T P (qlam x) wb) := by
  obtain ⟨g, stg, fdg, hm, F, hb, Sg, hva, hG⟩ := G.ex
  rw [← hq] at hmT hu ⊢
  exact de_said hg hm F hb Sg hva (fun cdv => hG X rfl rfl rfl rfl rfl k hr T _ cdv) TB hcode hu (hr.mono (by omega)) (lamS_by L) hdef hbind hmT fun A outer s H E f c' rm => hbody A outer s H E f c' rm (takes_of rfl rfl rfl rfl)
/-! ### isinstance in a hot def -/
structure IsPN (K : PySem.W.Frag) (mg : Str → Option Value) (c : Addr) (C : Str) (b : Bool) : Prop where
  ex : ∃ cC, mg C = some (.ref cC) ∧ PySem.W.kitOne K (.ref c) (.ref cC) = some b
variable {a c d : Addr} {oe : Obj} {pos q p2 : Pos} {e : Expr} {wa : WE} {b : Bool}
theorem de_isPN {C : Str} (G : IsPN X.K X.mg c C b) (ec : ExcC X.K c) (hp : (a, oe) ∈ X.pn) (hz : Zc (.ref c) (some d) oe) (hf : ∃ vs, oe.data = .fields vs) (hm : X.mg "isinstance" = none) (ha : DE X W e wa) (hg : Gl X "isinstance" := by rfl) (hC : Gl X C := by rfl) (hd : (C == ("__debug__" : Str)) = false := by decide)
    (he : starEach [e, .Name C p2] X.env = (false, eval e X.env) :: starEach [.Name C p2] X.env := by rfl) (hpl : (backTo pos (starEach [.Name C p2] X.env)).any (·.1) = false := by rfl) : DE X W (.Call (.Name "isinstance" q) [e, .Name C p2] [] pos) (wUn (kIsP a d b) wa) := by
  obtain ⟨cC, m, ek⟩ := G.ex
  exact de_isP ec hp hz hf (.own cC) ek hm ha.mono (da_cons ha (da_cons (de_glob ⟨.ref cC, .ref cC, m, rfl, fun _ _ => rfl⟩ hC hd) da_nil (by rfl)) he) hg he hpl
theorem de_isPB {T : String} (no : X.mg (Str.ofString T) = none) (ek : PySem.W.kitOne X.K (.ref c) (.type T) = some b) (hv : bootBuiltins (Str.ofString T) = some (.type T)) (ec : ExcC X.K c) (hp : (a, oe) ∈ X.pn) (hz : Zc (.ref c) (some d) oe) (hf : ∃ vs, oe.data = .fields vs) (hm : X.mg "isinstance" = none) (ha : DE X W e wa) (hg : Gl X "isinstance" := by rfl)
    (hC : Gl X (Str.ofString T) := by rfl) (hn : Str.ofString T ≠ "__name__" := by decide) (hd : (Str.ofString T == ("__debug__" : Str)) = false := by decide)
    (he : starEach [e, .Name (Str.ofString T) p2] X.env = (false, eval e X.env) :: starEach [.Name (Str.ofString T) p2] X.env := by rfl) (hpl : (backTo pos (starEach [.Name (Str.ofString T) p2] X.env)).any (·.1) = false := by rfl) : DE X W (.Call (.Name "isinstance" q) [e, .Name (Str.ofString T) p2] [] pos) (wUn (kIsP a d b) wa) :=
  de_isP ec hp hz hf (.ty T) ek hm ha.mono (da_cons ha (da_cons (de_ty no hv hC hn hd) da_nil (by rfl)) he) hg he hpl
theorem hu64H {k : Nat} {A : Around} (r : L2H.RoomH k A) : A.units + 64 < cLine := by have := r.un; omega
end
/-! ### the word of a caught error -/
def w_alone (a d : Addr) (t : Str → Bool) : WS :=
  wSeq (wAsg (.nm 1) (wLst (wCons (wUn (kIsP a d (t "NoPattern")) (wVar 0)) (wCons (wUn (kIsP a d (t "NoText")) (wVar 0)) (wCons (wUn (kIsP a d (t "NoControl")) (wVar 0)) (wCons (wUn (kIsP a d (t "NoNumber")) (wVar 0)) wNil))))))
  (wSeq (wAsg (.nm 1) (wOp gAdd (wVar 1) (wLst (wCons (wUn (kIsP a d (t "TooMany")) (wVar 0)) (wCons (wUn (kIsP a d (t "NoState")) (wVar 0)) (wCons (wUn (kIsP a d (t "NoValue")) (wVar 0)) (wCons (wUn (kIsP a d (t "NoWish")) (wVar 0)) wNil)))))))
  (wSeq (wAsg (.nm 1) (wOp gAdd (wVar 1) (wLst (wCons (wUn (kIsP a d (t "NoMachine")) (wVar 0)) (wCons (wUn (kIsP a d (t "NoUpdates")) (wVar 0)) (wCons (wUn (kIsP a d (t "NoSpare")) (wVar 0)) (wCons (wUn (kIsP a d (t "NoWord")) (wVar 0)) wNil)))))))
  (wRet (wAndV (wOp gEq (wMt "list" gCount (wVar 1) (wCons (wC (.bl true)) wNil)) (wC (.int 1))) (wUn (kIsP a d true) (wVar 0))))))
def HasX (d : Addr) (h : Hh) : Prop := ∃ (n : Nat) (fs : List (Str × D)), h[n]? = some (.xdo d fs)
theorem HasX.app {d : Addr} {h : Hh} (x : HasX d h) (g : Hh) : HasX d (h ++ g) := by
  obtain ⟨n, fs, e⟩ := x
  exact ⟨n, fs, by rw [List.getElem?_append_left (get_lt e)]; exact e⟩
theorem e_isP {a d : Addr} {b : Bool} {wa : WE} {s : Sl} {h : Hh} {Q : PV} {E : PX} : wUn (kIsP a d b) wa s h Q E = wa s h (fun x h1 => x = .opq (.ref a) ∧ HasX d h1 ∧ Q (.bl b) h1) E := by
  have : (fun x h1 => kIsP a d b s x h1 Q E) = fun x h1 => x = .opq (.ref a) ∧ HasX d h1 ∧ Q (.bl b) h1 := by
    funext x h1
    apply propext
    constructor
    · rintro ⟨n, fs, e, z, q⟩; exact ⟨e, ⟨n, fs, z⟩, q⟩
    · rintro ⟨e, ⟨n, fs, z⟩, q⟩; exact ⟨n, fs, e, z, q⟩
  show wa s h (fun x h1 => kIsP a d b s x h1 Q E) E = _
  rw [this]
end EV

namespace EV
open PySem PySem.Spec PyProof.Rows L2
/-! ### a text times a number -/
def repS (x : Str) (n : Nat) : Str := ⟨(List.replicate n x.cps.toList).flatten.toArray⟩
theorem foldl_cps (x : Array Nat) : ∀ (n : Nat) (acc : Array Nat), (List.replicate n x).foldl (· ++ ·) acc = acc ++ (List.replicate n x.toList).flatten.toArray
  | 0, acc => by simp
  | n + 1, acc => by
    rw [List.replicate_succ, List.foldl_cons, foldl_cps x n, List.replicate_succ, List.flatten_cons]
    apply Array.ext'
    simp
theorem rep_fold (x : Str) (n : Nat) : (⟨(List.replicate n x.cps).foldl (· ++ ·) #[]⟩ : Str) = repS x n := by
  unfold repS
  rw [foldl_cps]
  simp
variable {X : Cx}
theorem op_mulS : OpR X (binaryOp .Mult) (fun x y H Q => ∃ (z : Str) (n : Int), x = .str z ∧ y = .int n ∧ (0 ≤ n ∧ n ≤ 1000000 ∧ z.length * n.toNat ≤ 1000000) ∧ Q (.str (repS z n.toNat)) H) := by
  intro pins s σ H x y v u Q I rx ry h
  obtain ⟨z, n, rfl, rfl, ⟨h0, h1, h2⟩, q⟩ := h
  obtain ⟨t, rfl⟩ := rx
  obtain ⟨t', rfl⟩ := ry
  refine PySem.P.mul_str ?_ (fun a b => ?_) (fun a b => ?_) ?_
  · rw [decide_eq_false (by omega), decide_eq_false (by omega)]; rfl
  · have hn : 1 < n := by
      simp only [Bool.or_eq_false_iff, beq_eq_false_iff_ne] at b
      omega
    have : (z.length : Int) * n ≤ 1000000 := by
      have e : (n.toNat : Int) = n := Int.toNat_of_nonneg h0
      rw [← e]
      have := Int.ofNat_le.mpr h2
      rw [Int.natCast_mul] at this
      exact this
    have hle : (z.length : Int) ≤ 1000000 := by
      have : (z.length : Int) * 1 ≤ z.length * n := Int.mul_le_mul_of_nonneg_left (by omega) (by omega)
      omega
    have : (1000001 : Int) ≤ (2 ^ 63 - 1) / n := by
      rw [Int.le_ediv_iff_mul_le (by omega)]
      have : (1000001 : Int) * n ≤ 1000001 * 1000000 := Int.mul_le_mul_of_nonneg_left h1 (by omega)
      omega
    omega
  · unfold Builtin.Str.tooLong
    rw [decide_eq_false]
    have : sizeLine = 16777216 := sizeLine_eq
    omega
  · have key : ∀ (t : Tok) (k : Nat), Q (.str (repS z n.toNat)) H := fun _ _ => q
    split
    · rename_i hn
      have e0 : repS z n.toNat = Str.empty := by
        have : n.toNat = 0 := by omega
        rw [this]; rfl
      refine ⟨by decide, ⟨.str Str.empty, H, I.tok _, ⟨_, rfl⟩, ?_⟩⟩
      rw [← e0]; exact q
    · split
      · rename_i hn hb
        have e0 : repS z n.toNat = z := by
          simp only [Bool.or_eq_true, beq_iff_eq] at hb
          rcases hb with rfl | hb
          · unfold repS; simp
          · have ez : z = ⟨#[]⟩ := by
              cases z with
              | mk c => have : c = #[] := Array.eq_empty_of_size_eq_zero hb; rw [this]
            subst ez
            unfold repS
            have : ∀ m : Nat, (List.replicate m ([] : List Nat)).flatten = [] := fun m => by simp
            rw [show (#[] : Array Nat).toList = [] from rfl, this]
        refine ⟨.str z, H, I, ⟨_, rfl⟩, ?_⟩
        rw [← e0]; rw [e0] at q ⊢; exact q
      · rw [rep_fold]
        refine ⟨?_, ⟨.str (repS z n.toNat), H, I.tok _, ⟨_, rfl⟩, q⟩⟩
        show (repS z n.toNat).length ≤ _
        have e1 : (repS z n.toNat).length = z.length * n.toNat := by
          show ((List.replicate n.toNat z.cps.toList).flatten.toArray).size = z.cps.size * n.toNat
          rw [List.size_toArray, List.length_flatten, List.map_replicate, List.sum_replicate_nat, Array.length_toList, Nat.mul_comm]
        rw [e1]
        have : sizeLine = 16777216 := sizeLine_eq
        omega
def gMulS : G2
  | .str z, .int n, h => if decide (0 ≤ n) && decide (n ≤ 1000000) && decide (z.length * n.toNat ≤ 1000000) then some (.str (repS z n.toNat), h) else none
  | _, _, _ => none
theorem ok_mulS : OpOk X (binaryOp .Mult) gMulS := by
  intro ι h d e r h' x y H Q hr r1 r2 eg q
  cases d <;> cases e <;> first
    | (exfalso; simp [gMulS] at eg; done)
    | skip
  rename_i i j
  cases r1; cases r2
  simp only [gMulS] at eg
  split at eg
  · rename_i hz
    simp only [Bool.and_eq_true, decide_eq_true_eq] at hz
    simp only [Option.some.injEq, Prod.mk.injEq] at eg
    obtain ⟨rfl, rfl⟩ := eg
    exact ⟨_, op_mulS, i, j, rfl, rfl, ⟨hz.1.1, hz.1.2, hz.2⟩, qv_same hr q rfl⟩
  · cases eg
end EV

namespace EV
open PySem PySem.Spec PyProof.Rows L2
section
variable {X : Cx} {W : WX} {pos : Pos} {a b c e : Expr}
/-! ### enumerate of a text -/
def inV (i : Nat) : V := .int (0 + (i : Int))
def enS (x : Str) : List D := (List.range x.cps.size).map fun i => .tup [.int (0 + (i : Nat)), chD x i]
def wiEnumS (w : WA) : WI := fun s h Q E => w s h (fun es h1 => ∃ x, es = [.str x] ∧ Q (enS x, fun _ => True) h1) E
theorem enum_loop (prog : Program) (w : World) (elts : List Expr) (kk : Nat) (tpos : Pos) (N : Nat) (x : Str) (t : Tok) (A : Around) (hA : A.handled = none) :
    GoesN prog w A (.Tuple elts kk tpos) (N + 1) ((N + 1) :: [N]) [N + 1, N] x.cps.size (fun i h₀ v h => ∃ T y z, v = .ref T ∧ h₀.objs.size ≤ T ∧ RelV (inV i) y ∧ RelV (chV x i) z ∧ h.IsTuple T #[y, z])
      (fun i h => (∃ old, IsEnum h (N + 1) N ((0 : Int) + (i : Int)) old) ∧ h.IsStrIter N (strIterType x) x t i) :=
  (GoesN.enumFrom 0 (Draws.text (A := A.in1) hA N x t) (N + 1) (Nat.succ_ne_self N) (fun z => Nat.succ_ne_self N (List.mem_singleton.mp z)) (List.mem_singleton.mpr rfl)).mono
    fun i h₀ v h _ ⟨T, tt, y, ev, hn, hx, hT⟩ => ⟨T, _, y, ev, hn, ⟨tt, rfl⟩, chV_rel hx, hT⟩
theorem di_enumS {w : WA} {p pos tpos : Pos} {elts : List Expr} {kk : Nat} (hm : X.mg "enumerate" = none) (hcalm : X.calm = true) (ha : DA X W [e] w) (hg : Gl X "enumerate" := by rfl) (hs : starEach [e] X.env = [(false, eval e X.env)] := by rfl) : DI X W (.Tuple elts kk tpos) (.Call (.Name "enumerate" p) [e] [] pos) (wiEnumS w) := by
  refine ⟨⟨fun pins s σ H R I q => ?_⟩, fun s h Q Q' E E' hq he q => ha.mono s h _ _ _ _ (fun d h1 ⟨x, e, q⟩ => ⟨x, e, hq _ _ q⟩) he q⟩
  obtain ⟨ι, h, sl, hr, sr, q⟩ := q
  have q' : LA X W w σ H (fun vs H1 => ∃ x, vs = [V.str x] ∧ ∃ ι1 h1, HRel X.K H1 ι1 X.mg h1 ∧ R (Itp x.cps.size inV (chV x)) H1) := by
    refine ⟨ι, h, sl, hr, sr, ha.mono sl h _ _ _ _ (fun es h1 ⟨x, e, q⟩ us H1 ι1 g hr1 rs => ?_) (fun _ _ e => e) q⟩
    subst e
    obtain ⟨v, rfl, rv⟩ := rels1 rs
    cases rv
    exact ⟨x, rfl, ι1, h1, hr1, q _ H1 ι1 g hr1 (conf_pairs (fun i _ H ι => rfl) (fun i _ H ι => chD_rel H ι))⟩
  refine Call_ (ld_blt I hg hm boot_enumerate (PyProof.Rows.callWith_type1 (thn (ha.pa.run pos pins s σ H _ I q') fun us s1 ⟨vs, H1, I1, r1, q1⟩ => ?_) hs rfl))
  obtain ⟨x, rfl, ι1, h1, hr1, qR⟩ := q1
  cases r1 with
  | cons r rr =>
    cases rr
    obtain ⟨t, rfl⟩ := r
    refine call_enumerate_str fun h' he hit hsz hk => wpAny_pyIter_enum he ?_
    have I2 : Inv X pins σ H1 { s1 with heap := h' } := I1.kept (t' := s1.toks) hk
    refine ⟨s1.heap.objs.size + 1, _, _, _, H1, rfl, I2, turn_pairs (it := s1.heap.objs.size + 1) (by simp) (fun b hb => ?_) (fun i h st b hb => ?_) (fun A hA => enum_loop X.prog X.w elts kk tpos s1.heap.objs.size x t A hA) (fun A i s Q E st q => ?_) (fun i h h' st k => (enum_loop X.prog X.w elts kk tpos s1.heap.objs.size x t X.A (I.ok.hd hcalm)).frame i h h' st k), ⟨⟨.none, he⟩, hit⟩, fun b hb => ?_, qR⟩
    · simpa using hb
    · obtain ⟨⟨old, z1⟩, z2⟩ := st
      simp only [List.mem_cons, List.not_mem_nil, or_false] at hb
      rcases hb with z | z
      · rw [z]; exact ⟨_, z1, fun v q => nomatch q⟩
      · rw [z]; exact strIter_ok z2
    · obtain ⟨⟨old, z1⟩, z2⟩ := st
      exact wpAny_pyIter_enum z1 q
    · have hle : s1.heap.objs.size ≤ b := by
        simp only [List.mem_cons, List.not_mem_nil, or_false] at hb
        rcases hb with z | z
        · rw [z]; exact Nat.le_add_right _ _
        · rw [z]; exact Nat.le_refl _
      exact I1.fpOk hle (I1.hok.fresh hle)
/-! ### list of a text -/
theorem call_list_txt (hc : X.calm = true) : CallR X (.type "list") (fun xs H Q => ∃ x : Str, xs = [.str x] ∧ x.length ≤ sizeLine ∧ ∀ p, H p = none → Q (.ref p) (upd H p (.lst (x.cps.toList.map fun c => V.str ⟨#[c]⟩)))) := by
  intro pins s σ H xs us Q I r h
  obtain ⟨x, rfl, hz, q⟩ := h
  obtain ⟨u, rfl, rx⟩ := vals1 r
  obtain ⟨t, rfl⟩ := rx
  refine call_list_str (I.ok.hd hc) x t (hn := hz) fun h' tk acc c' hk e hi => ?_
  refine ⟨.ref s.heap.objs.size, upd H s.heap.objs.size (.lst (x.cps.toList.map fun c => V.str ⟨#[c]⟩)), I.laid hk (Nat.le_refl _) ⟨by rw [List.length_map, Array.length_toList]; exact hz, acc.toList, c', ?_, by rw [Array.toArray_toList]; exact e⟩, rfl, q _ (I.hok.fresh (Nat.le_refl _))⟩
  refine vals_of_idx _ _ (by rw [List.length_map, Array.length_toList, Array.length_toList]; exact hi.1) fun j u hj => ?_
  obtain ⟨c, t', hc, rfl⟩ := hi.2 j u (by rw [← Array.getElem?_toList]; exact hj)
  exact ⟨.str ⟨#[c]⟩, by rw [List.getElem?_map, Array.getElem?_toList, hc]; rfl, ⟨_, rfl⟩⟩
def gListS : GA
  | [.str x], h => if x.length ≤ sizeLine then some (.ref h.length, h ++ [.lst (chrs x)]) else none
  | _, _ => none
theorem rel_chrs {K : PySem.W.Frag} {H : Hp} {ι : List Addr} : ∀ l : List Nat, RelDs K H ι (l.map fun c => D.str ⟨#[c]⟩) (l.map fun c => V.str ⟨#[c]⟩)
  | [] => rfl
  | c :: l => ⟨_, _, rfl, rfl, rel_chrs l⟩
theorem ok_listS (hc : X.calm = true) : CallOk X (.type "list") gListS := by
  intro ι h ds r h' xs H Q hr rd eg q
  unfold gListS at eg
  split at eg
  · split at eg
    · rename_i x hz
      simp only [Option.some.injEq, Prod.mk.injEq] at eg
      obtain ⟨rfl, rfl⟩ := eg
      obtain ⟨v, rfl, rv⟩ := rels1 rd
      cases rv
      exact ⟨_, call_list_txt hc, x, rfl, hz, lst_new hr (rel_chrs _) q⟩
    · cases eg
  · cases eg
end
end EV

namespace EV
open PySem PySem.Spec PyProof.Rows L2
/-! ### x != y where the class has an own __eq__ and no __ne__ -/
section
variable {prog : Program} {w : World} {A : Around} {E : Value → Shared → Prop} {s : Shared} {K : PySem.W.Frag} {x C f : Addr} {ox : Obj} {od : Option Obj} {v : Value}
theorem ne_body (X : K.In s.heap) (J : PySem.W.InstAt s.heap x ox C od) (hu : A.units < cLine) (hs : PySem.W.findIn K (.ref C) "__eq__" = some (some (.ref f))) (hf : PySem.W.isFn K (.ref f) = true) {Q : Fin → Shared → Prop}
    (go : wpAny (model prog w) A (call (.ref f) [.ref x, v]) (fun r s' => ∃ b, r = .bool b ∧ Q (.done (.ret (.bool (!b)))) s') E s) : wpAny (model prog w) A (Builtin.«object.__ne__» ⟨[.ref x, v], []⟩) Q E s := by
  unfold Builtin.«object.__ne__»
  repeat (first
    | with_reducible refine wpAny_cRoomFor hu ?_
    | (refine wpAny_bind (m := callSpecialIfBound? (.ref x) (Str.ofString "__eq__") [v]) (PySem.W.ifBound_K X J hs hf (wpAny_mono go (fun r s' hr => by
          obtain ⟨b, rfl, hq⟩ := hr
          repeat (first | exact hq | exact wpAny_pure hq | exact wpAny_truthy_bool hq | (refine wpAny_bind (m := truthy (.bool _)) (wpAny_truthy_bool ?_)) | wp_step)) fun _ _ z => z)))
    | wp_step)
theorem ne_check (X : K.In s.heap) (J : PySem.W.InstAt s.heap x ox C od) (ho : PySem.W.subIn K (.ref C) (.type "object") = some true) {Q : Unit → Shared → Prop} (q : Q () s) : wpAny (model prog w) A (checkBuiltinCall "object.__ne__" ⟨[.ref x, v], []⟩) Q E s := by
  simp only [checkBuiltinCall, F.cmpKind_ne, F.cmpSplit_ne]
  refine wpAny_bind ?_
  unfold isInstance
  refine wpAny_bind (J.type.here ((PySem.W.looks_subIn X ho).here ?_))
  simp only [Bool.not_true, Bool.false_eq_true, if_false]
  have ha := F.cmpArgs_ne (.ref x) v
  cases hsig : Manifest.signature? "object.__ne__" with
  | none => first | exact wpAny_pure (wpAny_pure q) | exact wpAny_pure q | exact q
  | some sig =>
    simp only [argsOk, hsig] at ha
    have h2 : Bind.checkArgs "object.__ne__" sig ⟨[.ref x, v], []⟩ = pure () := ha
    first
      | (refine wpAny_pure ?_; show wpAny _ _ (Bind.checkArgs _ sig _) _ _ _; rw [h2]; exact wpAny_pure q)
      | (show wpAny _ _ (Bind.checkArgs _ sig _) _ _ _; rw [h2]; exact wpAny_pure q)
theorem ne_rich {y : Addr} {oy : Obj} {od' : Option Obj} {Q : Value → Shared → Prop} (hu : A.units + 1 < cLine) (X : K.In s.heap) (J : PySem.W.InstAt s.heap x ox C od) (J' : PySem.W.InstAt s.heap y oy C od') (h1 : PySem.W.findIn K (.ref C) "__ne__" = some (some (.builtin "object.__ne__")))
    (hs : PySem.W.findIn K (.ref C) "__eq__" = some (some (.ref f))) (hf : PySem.W.isFn K (.ref f) = true) (ho : PySem.W.subIn K (.ref C) (.type "object") = some true)
    (go : wpAny (model prog w) A.in1 (call (.ref f) [.ref x, .ref y]) (fun r s' => ∃ b, r = .bool b ∧ Q (.bool (!b)) s') E s) : wpAny (model prog w) A (compareOp .NotEq (.ref x) (.ref y)) Q E s := by
  show wpAny (model prog w) A (richCompare .NotEq (.ref x) (.ref y)) Q E s
  have one : wpAny (model prog w) A (tryCompare (.ref x) (cmpInfo .NotEq).2.1 (.ref y)) (fun r s' => ∃ v, r = some v ∧ Q v s') E s := by
    unfold tryCompare
    rw [cmpInfo_NotEq]
    refine wpAny_bind ?_
    simp only [callSpecialIfBound?, bindSpecialIfBound?]
    refine wpAny_holding (wpAny_bind (wpAny_bind (wpAny_bind (J.type.here ((PySem.W.looks_findIn X h1).here ?_)))))
    have bd : ∀ self, bindSpecial (.builtin "object.__ne__") self = pure (.builtin "object.__ne__", [self]) := F.cmp_object.ne.bind
    simp only [bd]
    refine wpAny_bind (wpAny_askSetting (wpAny_ite ?_))
    have fin : wpAny (model prog w) A (call (.builtin "object.__ne__") ([.ref x] ++ [.ref y]) >>= fun v => pure (some v)) (fun r s' => wpAny (model prog w) A (match r with
        | some .notImplemented => pure none
        | none => pure none
        | some v => pure (some v)) (fun r s' => ∃ v, r = some v ∧ Q v s') E s') E s := by
      refine wpAny_bind (wpAny_call (codeAny_call_builtin F.cmp_object.ne.plain F.cmpEntry_ne (ne_check X J ho (ne_body (A := A.in1) X J hu hs hf (wpAny_mono go (fun r s' hr => ?_) fun _ _ z => z)))))
      obtain ⟨b, rfl, hq⟩ := hr
      exact ⟨b, rfl, wpAny_pure (wpAny_pure ⟨_, rfl, hq⟩)⟩
    split
    · exact wpAny_bind (wpAny_pure (wpAny_pure (by exact fin)))
    · exact wpAny_tryCatch (wpAny_bind (wpAny_pure (wpAny_pure (by exact fin))))
  unfold richCompare
  simp only [oneThing_ref]
  refine wpAny_holding (wpAny_bind (wpAny_cRoomFor (Nat.lt_of_succ_lt hu) ?_))
  refine wpAny_bind (J.type.here (wpAny_bind (J'.type.here ?_)))
  rw [show (Value.ref C != Value.ref C) = false from by simp]
  simp only [Bool.false_eq_true, if_false]
  refine wpAny_bind (wpAny_pure ?_)
  simp only [Bool.false_eq_true, if_false]
  refine wpAny_bind (wpAny_mono one (fun r s' z => ?_) fun _ _ e => e)
  obtain ⟨v, rfl, hq⟩ := z
  exact wpAny_pure hq
end
section
variable {X : Cx} {W : WX} {pos : Pos} {a b : Expr} {wa wb : WE}
/-- a def of the program, run one step deeper -/
theorem run_deep {pins : List (Addr × Obj)} {σ : St} {H : Hp} {s : Shared} {Q : VK} {us : List Value} {vs : List V} {k : Nat} {f : Addr} {fd : FuncData} {ps : List Str} {sp : Sp} {A : Around} {E : XK} (F : FnOk X.prog X.w X.K X.mg X.base (L2.CX X.prog X.w) k f fd ps sp) (hr : Room k A) (hfr : A.frames = X.A.frames) (hb : Binds X.K fd ps []) (hx : Passes (L2.CX X.prog X.w) X E)
    (I : Inv X pins σ H s) (r : Vals vs us) (h : sp vs H Q E) : wpAny (model X.prog X.w) A (call (.ref f) us) (EP X pins σ Q) X.xe s := by
  have hl : us.length = ps.length := by rw [← r.length]; exact F.len _ _ _ _ h
  have e := I.env0
  have bd := hb s us I.kIn (by rw [List.append_nil]; exact hl)
  rw [List.append_nil] at bd
  refine wpAny_call (codeAny_mono (F.run A X.stack s H ⟨us, []⟩ us vs Q E hr ⟨by rw [hfr]; exact e.frames, e.mod, e.bs, e.bsz, e.funs, e.frf, e.hok, e.bare⟩ bd r h) fun r s' hq => ?_)
  cases r with
  | ok fl =>
    cases fl with
    | ret u => exact I.after hq
    | brk => exact (show False from hq).elim
    | cont => exact (show False from hq).elim
    | next => exact (show False from hq).elim
  | error u => exact hx pins σ H s u s' I hq
def rOwn (C : Addr) (sp : Sp) (neg : Bool) : R2 := fun x y H Q => ∃ p q dx dy fs gs, x = .ref p ∧ y = .ref q ∧ H p = some (.ins C dx fs) ∧ H q = some (.ins C dy gs) ∧ sp [.ref p, .ref q] H (fun v H' => ∃ r, v = .bl r ∧ Q (.bl (r ^^ neg)) H') (fun _ _ _ => False)
/-- what the class with its own __eq__ must have -/
structure EqCls (K : PySem.W.Frag) (C f : Addr) : Prop where
  eq : PySem.W.findIn K (.ref C) "__eq__" = some (some (.ref f))
  fn : PySem.W.isFn K (.ref f) = true
  ne : PySem.W.findIn K (.ref C) "__ne__" = some (some (.builtin "object.__ne__"))
  ob : PySem.W.subIn K (.ref C) (.type "object") = some true
theorem op_eqOwn {n : Nat} {C f : Addr} {fd : FuncData} {ps : List Str} {sp : Sp} (F : FnOk X.prog X.w X.K X.mg X.base (L2.CX X.prog X.w) n f fd ps sp) (hc : EqCls X.K C f) (hb : Binds X.K fd ps []) (hr : Room n X.A) : OpR X (compareOp .Eq) (rOwn C sp false) := by
  intro pins s σ H x y v u Q I rx ry h
  obtain ⟨p, q, dx, dy, fs, gs, rfl, rfl, hp, hq, hsp⟩ := h
  cases rx
  cases ry
  obtain ⟨mA, J, _⟩ := ins_get I.hok hp
  obtain ⟨mB, J', _⟩ := ins_get I.hok hq
  obtain ⟨od, J, _⟩ := J.look
  obtain ⟨od', J', _⟩ := J'.look
  obtain ⟨m, hF⟩ := I.fr
  have un : X.A.units < cLine := by have := hr.un; omega
  refine PySem.W.cmp_K (op := .Eq) (tb := .ref C) un hF I.ok.mod.kin J J'.type (by simp [PySem.W.notFirst]) hc.eq hc.fn ?_
  refine wpAny_mono (run_deep F hr rfl hb (passes_call takes0 fun _ _ _ _ z => z) I (vs := [.ref p, .ref q]) (us := [.ref p, .ref q]) (.cons rfl (.cons rfl .nil)) hsp) (fun v s' ⟨z, H', I', rz, r, ez, q'⟩ => ?_) fun _ _ e => e
  subst ez
  cases rz
  rw [Bool.xor_false] at q'
  exact ⟨.bl r, H', I', rfl, q'⟩
theorem op_neOwn {n : Nat} {C f : Addr} {fd : FuncData} {ps : List Str} {sp : Sp} (F : FnOk X.prog X.w X.K X.mg X.base (L2.CX X.prog X.w) n f fd ps sp) (hc : EqCls X.K C f) (hb : Binds X.K fd ps []) (hr : Room (n + 1) X.A) : OpR X (compareOp .NotEq) (rOwn C sp true) := by
  intro pins s σ H x y v u Q I rx ry h
  obtain ⟨p, q, dx, dy, fs, gs, rfl, rfl, hp, hq, hsp⟩ := h
  cases rx
  cases ry
  obtain ⟨mA, J, _⟩ := ins_get I.hok hp
  obtain ⟨mB, J', _⟩ := ins_get I.hok hq
  obtain ⟨od, J, _⟩ := J.look
  obtain ⟨od', J', _⟩ := J'.look
  have un : X.A.units + 1 < cLine := by have := hr.un; omega
  refine ne_rich un I.kIn J J' hc.ne hc.eq hc.fn hc.ob ?_
  refine wpAny_mono (run_deep F hr.in1 rfl hb (passes_call takes0 fun _ _ _ _ z => z) I (vs := [.ref p, .ref q]) (us := [.ref p, .ref q]) (.cons rfl (.cons rfl .nil)) hsp) (fun v s' ⟨z, H', I', rz, r, ez, q'⟩ => ?_) fun _ _ e => e
  subst ez
  cases rz
  rw [Bool.xor_true] at q'
  exact ⟨r, rfl, .bl (!r), H', I', rfl, q'⟩
/-- the class C has an own __eq__ that keeps sp -/
structure GEq (P : Program) (w : World) (K : PySem.W.Frag) (mg : Str → Option Value) (base : Heap) (C : Str) (k : Nat) (sp : SpD) : Prop where
  ex : ∃ c f fd ps, FnOk P w K mg base (L2.CX P w) k f fd ps (LSp K mg sp) ∧ mg C = some (.ref c) ∧ EqCls K c f ∧ Binds K fd ps []
  mono : MonoSp sp
def kOwn (C : Str) (sp : SpD) (neg : Bool) : K2 := fun _ d e h Q _ => ∃ n m fs gs, d = .ref n ∧ e = .ref m ∧ h[n]? = some (.ins C fs) ∧ h[m]? = some (.ins C gs) ∧ sp [d, e] h (fun r h' => ∃ b, r = .bl b ∧ Q (.bl (b ^^ neg)) h') (fun _ _ => False)
theorem mono_kOwn {C : Str} {sp : SpD} {neg : Bool} (ms : MonoSp sp) : Mono2 (kOwn C sp neg) := fun s d e h Q Q' E E' hq _ ⟨n, m, fs, gs, e1, e2, z1, z2, q⟩ => ⟨n, m, fs, gs, e1, e2, z1, z2, ms _ _ _ _ _ _ (fun r h' ⟨b, eb, q⟩ => ⟨b, eb, hq _ _ q⟩) (fun _ _ z => z) q⟩
theorem own_red {C : Str} {sp : SpD} {neg : Bool} {c : Addr} (ms : MonoSp sp) (mc : X.mg C = some (.ref c)) (ma : Mono wa) (mb : Mono wb) {σ : St} {H : Hp} {Q : VK} (h : LE X W (wBin (kOwn C sp neg) wa wb) σ H Q) : tOp (rOwn c (LSp X.K X.mg sp) neg) (LE X W wa) (LE X W wb) σ H Q := by
  obtain ⟨ι, hh, s, hr, sr, w⟩ := LE.bind2 ma mb (mono_kOwn ms) h
  refine ⟨ι, hh, s, hr, sr, ma s hh _ _ _ _ (fun d h1 q v H1 ι1 g hr1 rd => ?_) (fun _ _ e => e) w⟩
  obtain ⟨ι', hh', s', hr', sr', w'⟩ := q v H1 ι1 g hr1 rd
  refine ⟨ι', hh', s', hr', sr', mb s' hh' _ _ _ _ (fun d2 h2 q2 v2 H2 ι2 g2 hr2 rd2 => ?_) (fun _ _ e => e) w'⟩
  obtain ⟨ι3, h3, s3, d3, e3, hr3, sr3, r1, r2, n, m, fs, gs, rfl, rfl, z1, z2, q3⟩ := q2 v2 H2 ι2 g2 hr2 rd2
  obtain ⟨p, ep, rfl⟩ := r1
  obtain ⟨q, eq, rfl⟩ := r2
  obtain ⟨c1, dx, vs, m1, o1, _⟩ := hr3.obj _ _ _ z1 ep
  obtain ⟨c2, dy, us, m2, o2, _⟩ := hr3.obj _ _ _ z2 eq
  rw [mc] at m1 m2
  cases m1; cases m2
  refine ⟨p, q, dx, dy, vs, us, rfl, rfl, o1, o2, ι3, h3, [.ref n, .ref m], hr3, ⟨_, _, rfl, ⟨p, ep, rfl⟩, _, _, rfl, ⟨q, eq, rfl⟩, rfl⟩, ms _ _ _ _ _ _ (fun r h' ⟨b, eb, qq⟩ v' H' ι' g' hr' rd' => ?_) (fun _ _ z => z.elim) q3⟩
  subst eb
  cases rd'
  exact ⟨b, rfl, qq (.bl (b ^^ neg)) H' ι' g' hr' rfl⟩
theorem de_eqOwn {C : Str} {k j : Nat} {sp : SpD} (G : GEq X.prog X.w X.K X.mg X.base C k sp) (hr : Room j X.A) (ha : DE X W a wa) (hb : DE X W b wb) (hj : k ≤ j := by omega) (hm : behindInMarks .Eq b = false := by first | exact nomark _ | rfl | with_unfolding_all rfl) : DE X W (.Compare a [.Eq] [b] pos) (wBin (kOwn C sp false) wa wb) := by
  obtain ⟨c, f, fd, ps, F, mc, hc, bd⟩ := G.ex
  exact ⟨PE.imp (pe_cmpR (op_eqOwn F hc bd (hr.mono hj)) ha.pe hb.pe hm) fun σ H Q h => own_red G.mono mc ha.mono hb.mono h, mono_bin ha.mono hb.mono (mono_kOwn G.mono)⟩
theorem de_neOwn {C : Str} {k j : Nat} {sp : SpD} (G : GEq X.prog X.w X.K X.mg X.base C k sp) (hr : Room j X.A) (ha : DE X W a wa) (hb : DE X W b wb) (hj : k + 1 ≤ j := by omega) (hm : behindInMarks .NotEq b = false := by first | exact nomark _ | rfl | with_unfolding_all rfl) : DE X W (.Compare a [.NotEq] [b] pos) (wBin (kOwn C sp true) wa wb) := by
  obtain ⟨c, f, fd, ps, F, mc, hc, bd⟩ := G.ex
  exact ⟨PE.imp (pe_cmpR (op_neOwn F hc bd (hr.mono hj)) ha.pe hb.pe hm) fun σ H Q h => own_red G.mono mc ha.mono hb.mono h, mono_bin ha.mono hb.mono (mono_kOwn G.mono)⟩
theorem dt_eqOwn {C : Str} {k j : Nat} {sp : SpD} (G : GEq X.prog X.w X.K X.mg X.base C k sp) (hr : Room j X.A) (ha : DE X W a wa) (hb : DE X W b wb) (hj : k ≤ j := by omega) (hm : behindInMarks .Eq b = false := by first | exact nomark _ | rfl | with_unfolding_all rfl) : DT X W (.Compare a [.Eq] [b] pos) (wB (wBin (kOwn C sp false) wa wb)) := by
  obtain ⟨c, f, fd, ps, F, mc, hc, bd⟩ := G.ex
  exact ⟨PT.imp (pt_cmpR (op_eqOwn F hc bd (hr.mono hj)) ha.pe hb.pe hm) fun σ H Q h => tTest_mono (t' := LE X W (wBin (kOwn C sp false) wa wb)) (fun Q h => own_red G.mono mc ha.mono hb.mono h) (LT.bool (mono_bin ha.mono hb.mono (mono_kOwn G.mono)) h), mono_b (mono_bin ha.mono hb.mono (mono_kOwn G.mono))⟩
theorem dt_neOwn {C : Str} {k j : Nat} {sp : SpD} (G : GEq X.prog X.w X.K X.mg X.base C k sp) (hr : Room j X.A) (ha : DE X W a wa) (hb : DE X W b wb) (hj : k + 1 ≤ j := by omega) (hm : behindInMarks .NotEq b = false := by first | exact nomark _ | rfl | with_unfolding_all rfl) : DT X W (.Compare a [.NotEq] [b] pos) (wB (wBin (kOwn C sp true) wa wb)) := by
  obtain ⟨c, f, fd, ps, F, mc, hc, bd⟩ := G.ex
  exact ⟨PT.imp (pt_cmpR (op_neOwn F hc bd (hr.mono hj)) ha.pe hb.pe hm) fun σ H Q h => tTest_mono (t' := LE X W (wBin (kOwn C sp true) wa wb)) (fun Q h => own_red G.mono mc ha.mono hb.mono h) (LT.bool (mono_bin ha.mono hb.mono (mono_kOwn G.mono)) h), mono_b (mono_bin ha.mono hb.mono (mono_kOwn G.mono))⟩
end
end EV

namespace EV
open PySem PySem.Spec PyProof.Rows L2
section
variable {X : Cx} {W : WX} {pos p p2 : Pos} {a b : Expr} {wa wb : WE}
/-! ### isinstance(x, C), C an own class: x an instance of one of the classes of the table, or of a built-in kind -/
def kinds7 : List String := ["NoneType", "bool", "int", "str", "tuple", "list", "dict"]
/-- what the type of an instance asks of its class -/
structure InsC (K : PySem.W.Frag) (C : Addr) : Prop where
  cl : Cls K C
  ha : PySem.W.findIn K (.ref C) "__class__" = some (some (.builtin "object.__class__"))
  hn : PySem.W.specialIn K (.builtin "object.__class__") "__get__" = some (some (.builtin "getset_descriptor.__get__"))
  ht : PySem.W.takesIn K (.builtin "object.__class__") = some true
  hm : PySem.W.mroIn K C (.type "object") = some true
structure GIsI (K : PySem.W.Frag) (mg : Str → Option Value) (C : Str) (tab : List (Str × Bool)) : Prop where
  ex : ∃ c, mg C = some (.ref c) ∧ (∀ t ∈ kinds7, PySem.W.kitOne K (.type t) (.ref c) = some false) ∧ ∀ D b, tab.lookup D = some b → ∃ d, mg D = some (.ref d) ∧ InsC K d ∧ PySem.W.kitOne K (.ref d) (.ref c) = some b
/-- what is told -/
def isI (tab : List (Str × Bool)) (d : D) (h : Hh) : Option Bool := match tyD h d with
  | some _ => some false
  | none => (match d with
    | .ref n => (match h[n]? with
      | some (.ins C _) => tab.lookup C
      | _ => none)
    | _ => none)
def kIsI (tab : List (Str × Bool)) : K1 := fun _ d h Q _ => ∃ b, isI tab d h = some b ∧ Q (.bl b) h
theorem mono_isI {tab : List (Str × Bool)} : Mono1 (kIsI tab) := fun s d h Q Q' E E' hq _ ⟨b, e, q⟩ => ⟨b, e, hq _ _ q⟩
theorem ty_kinds {h : Hh} {d : D} {T : String} (e : tyD h d = some T) : T ∈ kinds7 := by
  cases d with
  | ref n =>
    simp only [tyD] at e
    split at e <;> cases e <;> simp [kinds7]
  | opq v => cases e
  | _ => cases e; simp [kinds7]
theorem de_isI {C : Str} {tab : List (Str × Bool)} (G : GIsI X.K X.mg C tab) (hm : X.mg "isinstance" = none) (ha : DE X W a wa) (hg : Gl X "isinstance" := by rfl) (hC : Gl X C := by rfl) (hd : (C == ("__debug__" : Str)) = false := by decide)
    (he : starEach [a, .Name C p2] X.env = (false, eval a X.env) :: starEach [.Name C p2] X.env := by rfl) (hpl : (backTo pos (starEach [.Name C p2] X.env)).any (·.1) = false := by rfl) : DE X W (.Call (.Name "isinstance" p) [a, .Name C p2] [] pos) (wUn (kIsI tab) wa) := by
  obtain ⟨c, mc, k7, kt⟩ := G.ex
  have hc : DE X W (.Name C p2) (wC (.opq (.ref c))) := de_glob ⟨.ref c, .ref c, mc, rfl, fun _ _ => rfl⟩ hC hd
  have hda : DA X W [a, .Name C p2] (wCons wa (wCons (wC (.opq (.ref c))) wNil)) := da_cons ha (da_cons hc da_nil (by rfl)) he
  refine ⟨PE.imp (pe_callB call_isi hg hm (by decide +kernel) hda.pa (by decide) (by decide) he hpl) fun σ H Q ⟨ι, h, s, hr, sr, q⟩ => ?_, mono_un ha.mono mono_isI⟩
  refine ⟨ι, h, s, hr, sr, ha.mono s h _ _ _ _ (fun d h1 ⟨b, eb, q⟩ xs H1 ι1 g1 hr1 rs => ?_) (fun _ _ e => e) q⟩
  obtain ⟨x, _, rfl, rx, _, _, rfl, rv, rn⟩ := rs
  cases rn
  cases rv
  unfold isI at eb
  split at eb
  · rename_i T eT
    cases eb
    exact ⟨x, .ref c, .type T, .ref c, false, rfl, .own c, tyX_of hr1 rx eT, k7 T (ty_kinds eT), q _ H1 ι1 g1 hr1 rfl⟩
  · split at eb
    · rename_i n
      split at eb
      · rename_i D0 fs z
        obtain ⟨d0, md, ic, kd⟩ := kt D0 b eb
        obtain ⟨y, ey, rfl⟩ := rx
        obtain ⟨c1, dx, vs, m1, e1, _⟩ := hr1.obj _ _ _ z ey
        rw [md] at m1
        cases m1
        exact ⟨.ref y, .ref c, .ref d0, .ref c, b, rfl, .own c, (.base (.ins e1 ic.cl ic.ha ic.hn ic.ht ic.hm)), kd, q _ H1 ι1 g1 hr1 rfl⟩
      · cases eb
    · cases eb
end
end EV

namespace EV
open PySem PySem.Spec PyProof.Rows L2
/-! ### heaps -/
theorem ap_get (h g : Hh) (k : Nat) : (h ++ g)[h.length + k]? = g[k]? := by rw [List.getElem?_append_right (Nat.le_add_right _ _), Nat.add_sub_cancel_left]
theorem ap_get0 (h g : Hh) : (h ++ g)[h.length]? = g[0]? := ap_get h g 0
theorem ap_set (h g : Hh) (k : Nat) (x : O) : (h ++ g).set (h.length + k) x = h ++ g.set k x := by rw [List.set_append_right _ _ (Nat.le_add_right _ _), Nat.add_sub_cancel_left]
theorem ap_set0 (h g : Hh) (x : O) : (h ++ g).set h.length x = h ++ g.set 0 x := ap_set h g 0 x
theorem get_in {h : Hh} {n : Nat} {o : O} (e : h[n]? = some o) (g : Hh) : (h ++ g)[n]? = some o := by
  rw [List.getElem?_append_left (List.getElem?_eq_some_iff.mp e).1]; exact e
theorem lsOf_in {h : Hh} {n : Nat} {ds : List D} (e : lsOf h n = some ds) (g : Hh) : lsOf (h ++ g) n = some ds := by
  unfold lsOf at e ⊢
  cases z : h[n]? with
  | none => rw [z] at e; cases e
  | some o => rw [z] at e; rw [get_in z]; exact e
theorem sqOf_in {h : Hh} {d : D} {ds : List D} (e : sqOf h d = some ds) (g : Hh) : sqOf (h ++ g) d = some ds := by
  cases d with
  | tup es => exact e
  | ref n => exact lsOf_in e g
  | _ => cases e
theorem tyD_in {h : Hh} {d : D} {T : String} (e : tyD h d = some T) (g : Hh) : tyD (h ++ g) d = some T := by
  cases d with
  | ref n =>
    simp only [tyD] at e ⊢
    cases z : h[n]? with
    | none => rw [z] at e; cases e
    | some o => rw [z] at e; rw [get_in z]; exact e
  | _ => exact e
/-- a number of the heap -/
def In (h : Hh) (n : Nat) : Prop := n < h.length
theorem in_of {h : Hh} {n : Nat} {o : O} (e : h[n]? = some o) : In h n := (List.getElem?_eq_some_iff.mp e).1
@[simp] theorem in_set {h : Hh} {n m : Nat} {x : O} : In (List.set h m x) n = In h n := by unfold In; rw [List.length_set]
theorem in_app {h g : Hh} {n : Nat} (e : In h n) : In (h ++ g) n := by unfold In at *; rw [List.length_append]; omega
@[simp] theorem get_set_self {h : Hh} {n : Nat} {x : O} (e : In h n) : (List.set h n x)[n]? = some x := List.getElem?_set_self e
@[simp] theorem get_app_in {h g : Hh} {n : Nat} (e : In h n) : (h ++ g)[n]? = h[n]? := List.getElem?_append_left e
@[simp] theorem set_app_in {h g : Hh} {n : Nat} {x : O} (e : In h n) : (h ++ g).set n x = h.set n x ++ g := List.set_append_left _ _ e
@[simp] theorem isT_list {h : Hh} {n : Nat} : isT "list" (.ref n) h = (lsOf h n).isSome := by simp [isT]
theorem gPop_snoc {h : Hh} {n : Nat} {ds : List D} {x : D} (e : h[n]? = some (.lst (ds ++ [x]))) : gPop (.ref n) [] h = some (x, h.set n (.lst ds)) := by simp [gPop, e]
theorem gAppend_ok {h : Hh} {n : Nat} {ds : List D} {x : D} (e : h[n]? = some (.lst ds)) (hl : ds.length < sizeLine) : gAppend (.ref n) [x] h = some (.non, h.set n (.lst (ds ++ [x]))) := by simp only [gAppend, e]; rw [if_pos hl]
theorem gExtend_ok {h : Hh} {n m : Nat} {ds es : List D} (e : h[n]? = some (.lst ds)) (e' : h[m]? = some (.lst es)) (hl : ds.length + es.length ≤ sizeLine) : gExtend (.ref n) [.ref m] h = some (.non, h.set n (.lst (ds ++ es))) := by simp only [gExtend, e, e']; rw [if_pos hl]
theorem gRev_ok {h : Hh} {n : Nat} {ds : List D} (e : lsOf h n = some ds) : gRev (.ref n) h = some (.ref h.length, h ++ [.lst ds.reverse]) := by simp [gRev, e]
theorem ls_of {h : Hh} {n : Nat} {ds : List D} (e : h[n]? = some (.lst ds)) : lsOf h n = some ds := by simp [lsOf, e]
/-! ### comprehensions -/
theorem lc_gen {chk : Hh → Prop} {t : Tg} {wt : WT} {we : WE} {s : Sl} {Q : PV} {h : Hh} (f : D → D) (p : D → Bool) (hc : ∀ acc, chk (h ++ [.lst acc])) :
    ∀ (ds acc : List D), (∀ d ∈ ds, ∃ s', asgD t d s = some s' ∧ (∀ g Q' E', Q' (p d) g → wt s' g Q' E') ∧ (p d = true → ∀ acc Q' E', Q' (f d) (h ++ [.lst acc]) → we s' (h ++ [.lst acc]) Q' E')) → acc.length + ds.length ≤ sizeLine →
      Q (.ref h.length) (h ++ [.lst (acc ++ (ds.filter p).map f)]) → wLcGo h.length chk t wt we s Q ds (h ++ [.lst acc])
  | [], acc, _, _, q => ⟨hc acc, by simpa using q⟩
  | d :: ds, acc, hd, hl, q => by
    obtain ⟨s', e, ht, hf⟩ := hd d (by simp)
    rw [List.length_cons] at hl
    refine ⟨hc acc, s', e, ht _ _ _ ?_⟩
    cases hp : p d with
    | true =>
      rw [if_pos rfl]
      refine hf hp acc _ _ ⟨acc, by rw [ap_get0]; rfl, by omega, ?_⟩
      rw [ap_set0]
      refine lc_gen f p hc ds (acc ++ [f d]) (fun x hx => hd x (by simp [hx])) (by rw [List.length_append, List.length_singleton]; omega) ?_
      rw [List.filter_cons_of_pos hp, List.map_cons] at q
      simpa using q
    | false =>
      rw [if_neg (by simp)]
      refine lc_gen f p hc ds acc (fun x hx => hd x (by simp [hx])) (by omega) ?_
      rw [List.filter_cons_of_neg (by simp [hp])] at q
      exact q
theorem lc_map {chk : Hh → Prop} {t : Tg} {we : WE} {s : Sl} {Q : PV} {h : Hh} (f : D → D) (hc : ∀ acc, chk (h ++ [.lst acc])) (ds : List D) (hd : ∀ d ∈ ds, ∃ s', asgD t d s = some s' ∧ ∀ acc Q' E', Q' (f d) (h ++ [.lst acc]) → we s' (h ++ [.lst acc]) Q' E')
    (hl : ds.length ≤ sizeLine) (q : Q (.ref h.length) (h ++ [.lst (ds.map f)])) : wLcGo h.length chk t wYes we s Q ds (h ++ [.lst []]) := by
  refine lc_gen f (fun _ => true) hc ds [] (fun d hd' => ?_) (by simpa using hl) (by rw [List.filter_eq_self.mpr (fun _ _ => rfl)]; exact q)
  obtain ⟨s', e, hf⟩ := hd d hd'
  exact ⟨s', e, fun g Q' E' q => q, fun _ => hf⟩
theorem lc_map2 {chk : Hh → Prop} {t : Tg} {we : WE} {s : Sl} {Q : PV} {L : Nat} {H0 h : Hh} {ds : List D} (f : D → D) (hL : L = h.length) (hH : H0 = h ++ [.lst []]) (hc : ∀ acc, chk (h ++ [.lst acc])) (hd : ∀ d ∈ ds, ∃ s', asgD t d s = some s' ∧ ∀ acc Q' E', Q' (f d) (h ++ [.lst acc]) → we s' (h ++ [.lst acc]) Q' E')
    (hl : ds.length ≤ sizeLine) (q : Q (.ref h.length) (h ++ [.lst (ds.map f)])) : wLcGo L chk t wYes we s Q ds H0 := by
  subst hL hH
  exact lc_map f hc ds hd hl q
theorem lc_gen2 {chk : Hh → Prop} {t : Tg} {wt : WT} {we : WE} {s : Sl} {Q : PV} {L : Nat} {H0 h : Hh} {ds : List D} (f : D → D) (p : D → Bool) (hL : L = h.length) (hH : H0 = h ++ [.lst []]) (hc : ∀ acc, chk (h ++ [.lst acc]))
    (hd : ∀ d ∈ ds, ∃ s', asgD t d s = some s' ∧ (∀ g Q' E', Q' (p d) g → wt s' g Q' E') ∧ (p d = true → ∀ acc Q' E', Q' (f d) (h ++ [.lst acc]) → we s' (h ++ [.lst acc]) Q' E')) (hl : ds.length ≤ sizeLine)
    (q : Q (.ref h.length) (h ++ [.lst ((ds.filter p).map f)])) : wLcGo L chk t wt we s Q ds H0 := by
  subst hL hH
  exact lc_gen f p hc ds [] hd (by simpa using hl) q
theorem set_get0 {h g : Hh} {n : Nat} {o : O} : (List.set h n o ++ g)[h.length]? = g[0]? := by
  have := ap_get0 (List.set h n o) g
  rwa [List.length_set] at this
theorem set_get {h g : Hh} {n k : Nat} {o : O} : (List.set h n o ++ g)[h.length + k]? = g[k]? := by
  have := ap_get (List.set h n o) g k
  rwa [List.length_set] at this
/-! ### bools in lists -/
theorem bls_map (bs : List Bool) : blsOf (bs.map .bl) = some bs := by
  induction bs with
  | nil => rfl
  | cons b bs ih => simp [blsOf, ih]
theorem gAll_new {h : Hh} {bs : List Bool} : gAll [.ref h.length] (h ++ [.lst (bs.map .bl)]) = some (.bl (bs.all id), h ++ [.lst (bs.map .bl)]) := by
  simp [gAll, lsOf, bls_map]
theorem gAny_new {h : Hh} {bs : List Bool} : gAny [.ref h.length] (h ++ [.lst (bs.map .bl)]) = some (.bl (bs.any id), h ++ [.lst (bs.map .bl)]) := by
  simp [gAny, lsOf, bls_map]
/-! ### equality of ints and texts -/
@[simp] theorem gEq_str {x y : Str} {h : Hh} : gEq (.str x) (.str y) h = some (.bl (decide (x = y)), h) := rfl
@[simp] theorem gNe_str {x y : Str} {h : Hh} : gNe (.str x) (.str y) h = some (.bl (!decide (x = y)), h) := rfl
@[simp] theorem pyD_int {h : Hh} {n : Nat} {i : Int} : pyD h (n + 1) (.int i) = some (.int i) := by simp only [pyD]
@[simp] theorem gEq_int {h : Hh} {i j : Int} : gEq (.int i) (.int j) h = some (.bl (i == j), h) := by
  have e1 : ∀ i : Int, pyD h 2000 (.int i) = some (.int i) := fun i => by rw [show (2000 : Nat) = 1999 + 1 from rfl]; simp only [pyD]
  simp [gEq, orG, gS2, gEqE, gEqD, eqD, e1, SeqAt.shaped, PyData.canLay0, PyData.depth, PyData.eqv]
@[simp] theorem gNe_int {h : Hh} {i j : Int} : gNe (.int i) (.int j) h = some (.bl (!(i == j)), h) := by
  have e1 : ∀ i : Int, pyD h 2000 (.int i) = some (.int i) := fun i => by rw [show (2000 : Nat) = 1999 + 1 from rfl]; simp only [pyD]
  simp [gNe, orG, gS2, gEqE, gEqD, eqD, e1, SeqAt.shaped, PyData.canLay0, PyData.depth, PyData.eqv]
@[simp] theorem gEq_nil {ds : List D} {h : Hh} : gEq (.tup ds) (.tup []) h = some (.bl ds.isEmpty, h) := by simp [gEq, orG, gS2, gEqE]
theorem gNe_empty {h : Hh} {m n : Nat} {ds : List D} (e : lsOf h m = some ds) (z : lsOf h n = some []) : gNe (.ref m) (.ref n) h = some (.bl (!ds.isEmpty), h) := by simp [gNe, orG, gS2, gEqE, e, z]
theorem gEq_empty {h : Hh} {m n : Nat} {ds : List D} (e : lsOf h m = some ds) (z : lsOf h n = some []) : gEq (.ref m) (.ref n) h = some (.bl ds.isEmpty, h) := by simp [gEq, orG, gS2, gEqE, e, z]
@[simp] theorem gIs_non {h : Hh} : gIs .non .non h = some (.bl true, h) := rfl
@[simp] theorem gIs_str {h : Hh} {x : Str} : gIs (.str x) .non h = some (.bl false, h) := rfl
@[simp] theorem gIsNot_non {h : Hh} : gIsNot .non .non h = some (.bl false, h) := rfl
@[simp] theorem gIsNot_str {h : Hh} {x : Str} : gIsNot (.str x) .non h = some (.bl true, h) := rfl
@[simp] theorem gAdd_int {h : Hh} {i j : Int} : gAdd (.int i) (.int j) h = some (.int (i + j), h) := rfl
@[simp] theorem gSub_int {h : Hh} {i j : Int} : gSub (.int i) (.int j) h = some (.int (i - j), h) := rfl
@[simp] theorem gNeg_int {h : Hh} {i : Int} : gNeg (.int i) h = some (.int (-i), h) := rfl
@[simp] theorem gLt_int {h : Hh} {i j : Int} : gLt (.int i) (.int j) h = some (.bl (decide (i < j)), h) := rfl
@[simp] theorem gLe_int {h : Hh} {i j : Int} : gLe (.int i) (.int j) h = some (.bl (decide (i ≤ j)), h) := rfl
@[simp] theorem gGt_int {h : Hh} {i j : Int} : gGt (.int i) (.int j) h = some (.bl (decide (j < i)), h) := rfl
@[simp] theorem gGe_int {h : Hh} {i j : Int} : gGe (.int i) (.int j) h = some (.bl (decide (j ≤ i)), h) := rfl
@[simp] theorem gLt_str {h : Hh} {i j : Str} : gLt (.str i) (.str j) h = some (.bl (decide (i.cps.toList < j.cps.toList)), h) := rfl
@[simp] theorem gLe_str {h : Hh} {i j : Str} : gLe (.str i) (.str j) h = some (.bl (!decide (j.cps.toList < i.cps.toList)), h) := rfl
@[simp] theorem gIx_tup {h : Hh} {ds : List D} {i : Int} : gIx (.tup ds) (.int i) h = (match atI ds i with | some d => some (d, h) | none => none) := rfl
@[simp] theorem gLen_tup {h : Hh} {ds : List D} : gLen [.tup ds] h = some (.int ds.length, h) := rfl
@[simp] theorem truD_bl {b : Bool} {h : Hh} : truD (.bl b) h = some b := rfl
@[simp] theorem truD_non {h : Hh} : truD .non h = some false := rfl
@[simp] theorem truD_int {i : Int} {h : Hh} : truD (.int i) h = some (i != 0) := rfl
@[simp] theorem truD_tup {ds : List D} {h : Hh} : truD (.tup ds) h = some (!ds.isEmpty) := rfl
/-- a text's char -/
abbrev chS (c : Nat) : Str := ⟨#[c]⟩
@[simp] theorem gIn_chr {h : Hh} {c : Nat} {z : Str} : gIn (.str (chS c)) (.str z) h = some (.bl (decide (c ∈ z.cps.toList)), h) := by simp [gIn, orG, gInS]
@[simp] theorem gNotIn_chr {h : Hh} {c : Nat} {z : Str} : gNotIn (.str (chS c)) (.str z) h = some (.bl (!decide (c ∈ z.cps.toList)), h) := by simp [gNotIn, orG, gInS]
theorem gIn_strs {h : Hh} {x : Str} {ds : List D} (hd : ds.all flatD = true) : gIn (.str x) (.tup ds) h = some (.bl (ds.any fun e => eqF e (.str x)), h) := by simp [gIn, orG, gInS, gInL, sqOf, flatD, hd]
theorem gNotIn_strs {h : Hh} {x : Str} {ds : List D} (hd : ds.all flatD = true) : gNotIn (.str x) (.tup ds) h = some (.bl (!ds.any fun e => eqF e (.str x)), h) := by simp [gNotIn, orG, gInS, gInL, sqOf, flatD, hd]
/-! ### dicts -/
section
variable {w : WP} {wk wv wo wi : WE} {s : Sl} {h : Hh} {Q : PV} {E : PX} {QP : List (D × D) → Hh → Prop} {B : DEnds}
@[simp] theorem e_pnil : wPnil s h QP E = QP [] h := rfl
@[simp] theorem e_pcons : wPcons wk wv w s h QP E = wk s h (fun k h1 => wv s h1 (fun d h2 => w s h2 (fun ps h3 => QP ((k, d) :: ps) h3) E) E) E := rfl
def GetKs (o : Option (List (Key × D))) (k : List (Key × D) → Prop) : Prop := ∃ kvs, o = some kvs ∧ k kvs
@[simp] theorem GetKs_some (a : List (Key × D)) (k : List (Key × D) → Prop) : GetKs (some a) k = k a := propext ⟨fun ⟨_, e, q⟩ => by cases e; exact q, fun q => ⟨_, rfl, q⟩⟩
@[simp] theorem e_disp : wDisp w s h Q E = w s (h ++ [.dic []]) (fun ps h1 => h1[h.length]? = some (.dic []) ∧ GetKs (keysOf ps) fun kvs => kvs.length ≤ 15 ∧ Q (.ref h.length) (h1.set h.length (.dic (mergeD [] kvs)))) E := by
  refine congrArg (fun k => w s (h ++ [.dic []]) k E) (funext fun ds => funext fun h1 => propext ⟨?_, ?_⟩)
  · rintro ⟨kvs, a, b, c, q⟩; exact ⟨a, kvs, b, c, q⟩
  · rintro ⟨a, kvs, b, c, q⟩; exact ⟨kvs, a, b, c, q⟩
def GetKy (o : Option Key) (k : Key → Prop) : Prop := ∃ x, o = some x ∧ k x
@[simp] theorem GetKy_some (a : Key) (k : Key → Prop) : GetKy (some a) k = k a := propext ⟨fun ⟨_, e, q⟩ => by cases e; exact q, fun q => ⟨_, rfl, q⟩⟩
def IsDic (o : Option O) (k : List (Key × D) → Prop) : Prop := ∃ kvs, o = some (.dic kvs) ∧ k kvs
@[simp] theorem IsDic_dic (kvs : List (Key × D)) (k : List (Key × D) → Prop) : IsDic (some (.dic kvs)) k = k kvs := propext ⟨fun ⟨_, e, q⟩ => by cases e; exact q, fun q => ⟨_, rfl, q⟩⟩
@[simp] theorem e_setD : wSetD wo wi wv B s h = wv s h (fun d h1 => wo s h1 (fun o h2 => wi s h2 (fun i h3 => IsRef o fun n => GetKy (keyOf i) fun k => IsDic h3[n]? fun kvs => kvs.length < sizeLine ∧ B.nx s (h3.set n (.dic (putKD kvs k d)))) (B.ex s)) (B.ex s)) (B.ex s) := by
  refine congrArg (fun k => wv s h k (B.ex s)) (funext fun d => funext fun h1 => congrArg (fun k => wo s h1 k (B.ex s)) (funext fun o => funext fun h2 => congrArg (fun k => wi s h2 k (B.ex s)) (funext fun i => funext fun h3 => propext ⟨?_, ?_⟩)))
  · rintro ⟨n, kvs, k, e1, e2, z, l, q⟩; exact ⟨n, e1, k, e2, kvs, z, l, q⟩
  · rintro ⟨n, e1, k, e2, kvs, z, l, q⟩; exact ⟨n, kvs, k, e1, e2, z, l, q⟩
end
@[simp] theorem keyOf_int {i : Int} : keyOf (.int i) = some (.inl i) := rfl
@[simp] theorem keyOf_str {x : Str} : keyOf (.str x) = some (.inr x) := rfl
/-! ### own errors, made with one or two attributes -/
def spIni1 (C f : Str) : SpD := fun ds h Q _ => ∃ n v, ds = [.ref n, v] ∧ h[n]? = some (.exo C none) ∧ Q .non ((h ++ [O.exd [(f, v)]]).set n (.exo C (some h.length)))
theorem mono_ini1 (C f : Str) : MonoSp (spIni1 C f) := fun ds h Q Q' E E' hq he ⟨n, v, a, b, q⟩ => ⟨n, v, a, b, hq _ _ q⟩
abbrev sp_NoTextDD_initDD : SpD := spIni1 "NoText" "at"
def sp_NoPatternDD_initDD : SpD := fun ds h Q _ => ∃ n a b, ds = [.ref n, a, b] ∧ h[n]? = some (.exo "NoPattern" none) ∧ Q .non (((h ++ [O.exd [("at", a)]]).set n (.exo "NoPattern" (some h.length))).set h.length (.exd [("why", b), ("at", a)]))
theorem mono_nop : MonoSp sp_NoPatternDD_initDD := fun ds h Q Q' E E' hq he ⟨n, v, w, a, b, q⟩ => ⟨n, v, w, a, b, hq _ _ q⟩
def Is1 (ds : List D) (k : D → Prop) : Prop := ∃ v, ds = [v] ∧ k v
@[simp] theorem Is1_one (d : D) (k : D → Prop) : Is1 [d] k = k d := propext ⟨fun ⟨_, e, q⟩ => by cases e; exact q, fun q => ⟨_, rfl, q⟩⟩
def Is2 (ds : List D) (k : D → D → Prop) : Prop := ∃ a b, ds = [a, b] ∧ k a b
@[simp] theorem Is2_two (d e : D) (k : D → D → Prop) : Is2 [d, e] k = k d e := propext ⟨fun ⟨_, _, e, q⟩ => by cases e; exact q, fun q => ⟨_, _, rfl, q⟩⟩
section
variable {w : WA} {s : Sl} {h : Hh} {QI : IT → Hh → Prop} {E : PX}
@[simp] theorem e_iZipS : wiZipS w s h QI E = w s h (fun es h1 => Is2 es fun a b => IsS a fun x => IsS b fun y => QI (zipS x y, fun _ => True) h1) E := by
  refine congrArg (fun k => w s h k E) (funext fun ds => funext fun h1 => propext ⟨?_, ?_⟩)
  · rintro ⟨x, y, e, q⟩; exact ⟨_, _, e, x, rfl, y, rfl, q⟩
  · rintro ⟨_, _, e, x, rfl, y, rfl, q⟩; exact ⟨x, y, e, q⟩
@[simp] theorem e_iEnum : wiEnum w s h QI E = w s h (fun es h1 => Is1 es fun d => IsRef d fun n => GetL (lsOf h1 n) fun ds => QI (enD ds, fun h => lsOf h n = some ds) h1) E := by
  refine congrArg (fun k => w s h k E) (funext fun ds => funext fun h1 => propext ⟨?_, ?_⟩)
  · rintro ⟨n, ds, e, z, q⟩; exact ⟨_, e, n, rfl, ds, z, q⟩
  · rintro ⟨_, e, n, rfl, ds, z, q⟩; exact ⟨n, ds, e, z, q⟩
@[simp] theorem e_iRg1 : wiRg1 w s h QI E = w s h (fun es h1 => Is1 es fun d => IsI d fun j => (-(2 ^ 62) ≤ j ∧ j < 2 ^ 62) ∧ QI (rgD 0 j.toNat, fun _ => True) h1) E := by
  refine congrArg (fun k => w s h k E) (funext fun ds => funext fun h1 => propext ⟨?_, ?_⟩)
  · rintro ⟨j, e, z, q⟩; exact ⟨_, e, j, rfl, z, q⟩
  · rintro ⟨_, e, j, rfl, z, q⟩; exact ⟨j, e, z, q⟩
@[simp] theorem e_iRg2 : wiRg2 w s h QI E = w s h (fun es h1 => Is2 es fun a b => IsI a fun i => IsI b fun j => (-(2 ^ 62) ≤ i ∧ i < 2 ^ 62 ∧ -(2 ^ 62) ≤ j ∧ j < 2 ^ 62) ∧ QI (rgD i (j - i).toNat, fun _ => True) h1) E := by
  refine congrArg (fun k => w s h k E) (funext fun ds => funext fun h1 => propext ⟨?_, ?_⟩)
  · rintro ⟨i, j, e, z, q⟩; exact ⟨_, _, e, i, rfl, j, rfl, z, q⟩
  · rintro ⟨_, _, e, i, rfl, j, rfl, z, q⟩; exact ⟨i, j, e, z, q⟩
end
section
variable {wr : WA} {B : DEnds} {s : Sl} {h : Hh} {C f : Str}
@[simp] theorem raise1 : wRaise C (spIni1 C f) wr B s h = wr s h (fun ds h1 => Is1 ds fun v => B.ex s (C, [(f, v)]) h1) (B.ex s) := by
  refine congrArg (fun k => wr s h k (B.ex s)) (funext fun ds => funext fun h1 => propext ⟨?_, ?_⟩)
  · rintro ⟨_, n, v, e, z, _, fs, e2, hf, q⟩
    cases e
    refine ⟨v, rfl, ?_⟩
    simp [List.append_assoc, ap_set0] at e2
    subst e2; exact q
  · rintro ⟨v, rfl, q⟩
    refine ⟨by simp, h1.length, v, rfl, by simp, rfl, [(f, v)], ?_, ?_, q⟩
    · simp [List.append_assoc, ap_set0]
    · simp
@[simp] theorem raiseP : wRaise "NoPattern" sp_NoPatternDD_initDD wr B s h = wr s h (fun ds h1 => Is2 ds fun a b => B.ex s ("NoPattern", [("why", b), ("at", a)]) h1) (B.ex s) := by
  refine congrArg (fun k => wr s h k (B.ex s)) (funext fun ds => funext fun h1 => propext ⟨?_, ?_⟩)
  · rintro ⟨_, n, v, w, e, z, _, fs, e2, hf, q⟩
    cases e
    refine ⟨v, w, rfl, ?_⟩
    simp [List.append_assoc, ap_set0, ap_set] at e2
    subst e2; exact q
  · rintro ⟨v, w, rfl, q⟩
    refine ⟨by simp, h1.length, v, w, rfl, by simp, rfl, [("why", w), ("at", v)], ?_, ?_, q⟩
    · simp [List.append_assoc, ap_set0, ap_set]
    · simp
end
abbrev xText (i : Int) : XD := ("NoText", [("at", .int i)])
abbrev xPat (i : Int) (w : Str) : XD := ("NoPattern", [("why", .str w), ("at", .int i)])
end EV

namespace EV
open PySem PySem.Spec PyProof.Rows L2
/-! ### specs by functions -/
inductive Out where
  | ok (d : D) (h : Hh)
  | ex (x : XD) (h : Hh)
def GetO (o : Option Out) (Q : PV) (E : PX) : Prop := match o with
  | some (.ok d h) => Q d h
  | some (.ex x h) => E x h
  | none => False
@[simp] theorem GetO_ok (d : D) (h : Hh) (Q : PV) (E : PX) : GetO (some (.ok d h)) Q E = Q d h := rfl
@[simp] theorem GetO_ex (x : XD) (h : Hh) (Q : PV) (E : PX) : GetO (some (.ex x h)) Q E = E x h := rfl
@[simp] theorem GetO_none (Q : PV) (E : PX) : GetO none Q E = False := rfl
def spN (n : Nat) (f : List D → Hh → Option Out) : SpD := fun ds h Q E => ds.length = n ∧ GetO (f ds h) Q E
@[simp] theorem e_spN {n : Nat} {f : List D → Hh → Option Out} {ds : List D} {h : Hh} {Q : PV} {E : PX} : spN n f ds h Q E = (ds.length = n ∧ GetO (f ds h) Q E) := rfl
theorem mono_spN (n : Nat) (f : List D → Hh → Option Out) : MonoSp (spN n f) := fun ds h Q Q' E E' hq he ⟨l, q⟩ => ⟨l, by
  cases z : f ds h with
  | none => rw [z] at q; exact q
  | some o => cases o with
    | ok d h => rw [z] at q; exact hq _ _ q
    | ex x h => rw [z] at q; exact he _ _ q⟩
theorem len_spN {n : Nat} {f : List D → Hh → Option Out} : ∀ ds h Q E, spN n f ds h Q E → ds.length = n := fun _ _ _ _ q => q.1
theorem one_of {ds : List D} (h : ds.length = 1) : ∃ a, ds = [a] := by
  match ds, h with
  | [a], _ => exact ⟨a, rfl⟩
theorem two_of {ds : List D} (h : ds.length = 2) : ∃ a b, ds = [a, b] := by
  match ds, h with
  | [a, b], _ => exact ⟨a, b, rfl⟩
theorem three_of {ds : List D} (h : ds.length = 3) : ∃ a b c, ds = [a, b, c] := by
  match ds, h with
  | [a, b, c], _ => exact ⟨a, b, c, rfl⟩
/-! ### texts -/
@[simp] theorem str_nil : (Str.ofString "") = ⟨#[]⟩ := by decide +kernel
theorem str_ext {x y : Str} (h : x.cps.toList = y.cps.toList) : x = y := by
  cases x with | mk a => cases y with | mk b =>
    congr 1
    exact Array.toList_inj.mp h
theorem str_nil_iff (z : Str) : (z = ⟨#[]⟩) = (z.cps.toList = []) := propext ⟨fun h => by rw [h], fun h => str_ext h⟩
@[simp] theorem chS_inj (a b : Nat) : (chS a = chS b) = (a = b) := propext ⟨fun h => by injection h with h; simpa using h, fun h => by rw [h]⟩
theorem len_list (z : Str) : z.length = z.cps.toList.length := by simp [Str.length]
/-! ### letters -/
def asc : List Nat → Bool
  | a :: b :: r => decide (a < b) && asc (b :: r)
  | _ => true
def lettersOk (z A : List Nat) : Bool := !z.isEmpty && z.all (fun c => decide (c ∈ A)) && asc z
def areL (d : D) (A : Str) : Bool := match d with | .str z => lettersOk z.cps.toList A.cps.toList | _ => false
def shortB : D → Bool
  | .str z => decide (z.length ≤ 100000)
  | _ => true
def f_is_row : List D → Hh → Option Out
  | [d], h => (tyD h d).map fun T => .ok (.bl (T == "list" || T == "tuple")) h
  | _, _ => none
abbrev sp_is_row := spN 1 f_is_row
def f_are_letters : List D → Hh → Option Out
  | [d, .str A], h => if (tyD h d).isSome && shortB d then some (.ok (.bl (areL d A)) h) else none
  | _, _ => none
abbrev sp_are_letters := spN 2 f_are_letters
def alphabet : Str := "abcdefghijklmnopqrstuvwxyz"
def okLetters (d : D) : Bool := areL d "abcdefghijklmnopqrstuvwxyz" && (match d with | .str z => decide (z.length ≤ 4) | _ => true)
def f_check_letters : List D → Hh → Option Out
  | [d], h => if (tyD h d).isSome && shortB d then some (if okLetters d then .ok .non h else .ex (xPat (-1) "letters") h) else none
  | _, _ => none
abbrev sp_check_letters := spN 1 f_check_letters
def w_is_row : WS := wRet (wCa gIsinst (wCons (wVar 0) (wCons (wTup (wCons (wC (.opq (.ty "list"))) (wCons (wC (.opq (.ty "tuple"))) (wNil)))) (wNil))))
def w_are_letters : WS := wSeq (wIf (wOr (wNot (wTru (wCa gIsinst (wCons (wVar 0) (wCons (wC (.opq (.ty "str"))) (wNil)))))) (wB (wOp gEq (wVar 0) (wC (.str ""))))) (wRet (wC (.bl false))) (wNext)) (wRet (wAndV (wCa gAll (wCons (wLc (wiStr (wVar 0)) [2] (.nm 2) (wYes) (wOp gIn (wVar 2) (wVar 1))) (wNil))) (wCa gAll (wCons (wLc (wiZipS (wCons (wVar 0) (wCons (wSl (wVar 0) (wPart (wC (.int 1))) (wNoPart)) (wNil)))) [3, 4] (.tp [.nm 3, .nm 4]) (wYes) (wOp gLt (wVar 3) (wVar 4))) (wNil)))))
def w_check_letters : WS := wIf (wOr (wNot (wTru (wCall sp_are_letters (wCons (wVar 0) (wCons (wC (.str "abcdefghijklmnopqrstuvwxyz")) (wNil)))))) (wB (wOp gGt (wCa gLen (wCons (wVar 0) (wNil))) (wC (.int 4))))) (wRaise "NoPattern" sp_NoPatternDD_initDD (wCons (wUn (k1 gNeg) (wC (.int 1))) (wCons (wC (.str "letters")) (wNil)))) (wNext)
theorem kit_types {t : String} : t ∈ ["NoneType", "bool", "int", "str", "tuple", "list", "dict"] → kitB t "str" = some (t == "str") ∧ kitB t "tuple" = some (t == "tuple") ∧ kitB t "list" = some (t == "list") := by
  intro h
  simp only [List.mem_cons, List.not_mem_nil, or_false] at h
  rcases h with rfl | rfl | rfl | rfl | rfl | rfl | rfl <;> refine ⟨?_, ?_, ?_⟩ <;> decide +kernel
theorem ty_among {h : Hh} {d : D} {T : String} (e : tyD h d = some T) : T ∈ ["NoneType", "bool", "int", "str", "tuple", "list", "dict"] := by
  cases d with
  | ref n =>
    simp only [tyD] at e
    split at e <;> cases e <;> simp
  | opq v => cases e
  | _ => cases e; simp
theorem isi_str {h : Hh} {d : D} {T : String} (e : tyD h d = some T) : gIsinst [d, .opq (.ty "str")] h = some (.bl (T == "str"), h) := by
  simp [gIsinst, orA, gIsi1, e, (kit_types (ty_among e)).1]
theorem isi_tup {h : Hh} {d : D} {T : String} (e : tyD h d = some T) : gIsinst [d, .opq (.ty "tuple")] h = some (.bl (T == "tuple"), h) := by
  simp [gIsinst, orA, gIsi1, e, (kit_types (ty_among e)).2.1]
theorem isi_row {h : Hh} {d : D} {T : String} (e : tyD h d = some T) : gIsinst [d, .tup [.opq (.ty "list"), .opq (.ty "tuple")]] h = some (.bl (T == "list" || T == "tuple"), h) := by
  have k := kit_types (ty_among e)
  simp only [gIsinst, orA, gIsi1, gIsiT, e, tysOf, kitBs, k.2.1, k.2.2]
  cases (T == "list") <;> cases (T == "tuple") <;> rfl
theorem ty_str {h : Hh} {d : D} (e : tyD h d = some "str") : ∃ z, d = .str z := by
  cases d with
  | str z => exact ⟨z, rfl⟩
  | ref n => simp only [tyD] at e; split at e <;> simp at e
  | _ => simp [tyD] at e
theorem ty_tup {h : Hh} {d : D} (e : tyD h d = some "tuple") : ∃ ds, d = .tup ds := by
  cases d with
  | tup z => exact ⟨z, rfl⟩
  | ref n => simp only [tyD] at e; split at e <;> simp at e
  | _ => simp [tyD] at e
theorem areL_no {h : Hh} {d : D} {T : String} {A : Str} (e : tyD h d = some T) (ne : T ≠ "str") : areL d A = false := by
  cases d with
  | str z => cases e; exact absurd rfl ne
  | _ => rfl
theorem b_is_row : ∀ ds h Q E, sp_is_row ds h Q E → w_is_row (endsOf Q E) (slots0 ["thing"] ds) h := by
  rintro ds h Q E ⟨l, q⟩
  obtain ⟨d, rfl⟩ := one_of l
  cases e : tyD h d with
  | none => simp [f_is_row, e] at q
  | some T =>
    simp [f_is_row, e] at q
    simp [w_is_row, slots0, isi_row e, q]
theorem cut1_list (z : Str) : (cutS z (some 1) none).cps.toList = z.cps.toList.tail := by
  simp only [cutS]
  have h1 : HT.sIx z.length 0 (some 1) = min 1 z.length := HT.sIx_nat z.length 0 1
  rw [h1, HT.sIx_none, len_list]
  generalize z.cps.toList = l
  cases l with
  | nil => simp
  | cons a l => simp
theorem zipS_list (x y : Str) : zipS x y = (x.cps.toList.zip y.cps.toList).map fun p => .tup [.str (chS p.1), .str (chS p.2)] := by
  unfold zipS
  apply List.ext_getElem?
  intro i
  simp only [List.getElem?_map]
  by_cases hi : i < min x.cps.size y.cps.size
  · rw [List.getElem?_range hi]
    have h1 : i < x.cps.toList.length := by rw [Array.length_toList]; omega
    have h2 : i < y.cps.toList.length := by rw [Array.length_toList]; omega
    rw [List.getElem?_eq_getElem (by rw [List.length_zip]; omega), List.getElem_zip]
    have f1 : x.cps[i]? = some (x.cps.toList[i]) := by rw [← Array.getElem?_toList]; exact List.getElem?_eq_getElem h1
    have f2 : y.cps[i]? = some (y.cps.toList[i]) := by rw [← Array.getElem?_toList]; exact List.getElem?_eq_getElem h2
    simp only [Option.map_some, chD, f1, f2]
  · rw [List.getElem?_eq_none (by rw [List.length_range]; omega), List.getElem?_eq_none (by rw [List.length_zip, Array.length_toList, Array.length_toList]; omega)]
    rfl
theorem asc_zip : ∀ l : List Nat, ((l.zip l.tail).map fun p => decide (p.1 < p.2)).all id = asc l
  | [] => rfl
  | [_] => rfl
  | a :: b :: r => by
    have := asc_zip (b :: r)
    simp only [List.tail_cons, List.zip_cons_cons, List.map_cons, List.all_cons, id, asc] at this ⊢
    rw [this]
theorem lt_single (a b : Nat) : decide (([a] : List Nat) < [b]) = decide (a < b) := by
  rw [decide_eq_decide]
  constructor
  · intro h
    cases h with
    | rel h => exact h
    | cons h => cases h
  · intro h; exact List.Lex.rel h
theorem lc_chars {chk : Hh → Prop} {i : Nat} {we : WE} {s : Sl} {Q : PV} {h : Hh} (f : Nat → Bool) (hc : ∀ acc, chk (h ++ [.lst acc])) (z : Str) (hz : z.length ≤ 100000) (he : ∀ c acc Q' E', Q' (.bl (f c)) (h ++ [.lst acc]) → we (s.set i (some (.str (chS c)))) (h ++ [.lst acc]) Q' E')
    (q : Q (.ref h.length) (h ++ [.lst ((z.cps.toList.map f).map .bl)])) : wLcGo h.length chk (.nm i) wYes we s Q (chrs z) (h ++ [.lst []]) := by
  refine lc_map (h := h) (fun d => match d with | .str x => .bl (f (x.cps.toList.headD 0)) | _ => .non) hc (chrs z) (fun d hd => ?_) (by rw [len_list] at hz; simp [chrs] at hz ⊢; omega) ?_
  · obtain ⟨c, _, rfl⟩ := List.mem_map.mp hd
    exact ⟨_, asgD_nm, fun acc Q' E' q => he c acc Q' E' q⟩
  · have em : (chrs z).map (fun d => match d with | D.str x => D.bl (f (x.cps.toList.headD 0)) | _ => .non) = (z.cps.toList.map f).map .bl := by simp [chrs, List.map_map, Function.comp_def]
    rw [em]; exact q
theorem b_are_letters : ∀ ds h Q E, ScH h → Clo h.length Q → sp_are_letters ds h Q E → w_are_letters (endsOf Q E) (slots0 ["thing", "allowed", "sign", "one", "other"] ds) h := by
  rintro ds h Q E sc clo ⟨l, q⟩
  obtain ⟨d, a, rfl⟩ := two_of l
  cases a with
  | str A =>
    cases e : tyD h d with
    | none => simp [f_are_letters, e] at q
    | some T =>
      simp only [f_are_letters, e] at q
      split at q
      · rename_i hb
        simp at hb q
        by_cases hT : T = "str"
        · subst hT
          obtain ⟨z, rfl⟩ := ty_str e
          have hz : z.length ≤ 100000 := by simpa [shortB] using hb
          have hsz : z.length ≤ 16777216 := by omega
          simp [w_are_letters, slots0, isi_str e, str_nil_iff]
          split
          · rename_i hnz
            simpa [areL, lettersOk, hnz] using q
          · rename_i hnz
            refine lc_chars (h := h) (fun c => decide (c ∈ A.cps.toList)) (fun _ => trivial) z hz (fun c acc Q' E' q => by simpa [wipeD] using q) ?_
            rw [gAll_new]
            simp
            split
            · rename_i hall
              simp [gSl, hsz]
              have hl2 : (z.cps.toList.zip z.cps.toList.tail).length ≤ 100000 := by rw [List.length_zip, ← len_list]; omega
              rw [zipS_list, cut1_list]
              refine lc_map2 (h := h ++ [O.lst ((z.cps.toList.map fun c => decide (c ∈ A.cps.toList)).map D.bl)]) (fun d => match d with | .tup [.str x, .str y] => .bl (decide (x.cps.toList < y.cps.toList)) | _ => .non) (by simp) (by simp) (fun _ => trivial) (fun d hd => ?_) (by rw [List.length_map, sizeLine_is]; omega) ?_
              · obtain ⟨p, _, rfl⟩ := List.mem_map.mp hd
                exact ⟨_, by simp; rfl, fun acc Q' E' q => by simpa [wipeD] using q⟩
              · have em : ((z.cps.toList.zip z.cps.toList.tail).map fun p => D.tup [.str (chS p.1), .str (chS p.2)]).map (fun d => match d with | D.tup [.str x, .str y] => D.bl (decide (x.cps.toList < y.cps.toList)) | _ => .non) = ((z.cps.toList.zip z.cps.toList.tail).map fun p => decide (p.1 < p.2)).map .bl := by
                  simp only [List.map_map]
                  refine List.map_congr_left fun p _ => ?_
                  simp only [Function.comp_def, lt_single]
                rw [em, gAll_new]
                simp only [Get_some, asc_zip]
                rw [List.append_assoc]
                refine clo.cut _ h _ rfl sc trivial ?_
                have : areL (.str z) A = asc z.cps.toList := by
                  simp only [areL, lettersOk]
                  have h1 : (!z.cps.toList.isEmpty) = true := by simp [List.isEmpty_iff]; simpa using hnz
                  have h2 : (z.cps.toList.all fun c => decide (c ∈ A.cps.toList)) = true := by simpa [List.all_eq_true] using hall
                  rw [h1, h2]; simp
                rw [← this]; exact q
            · rename_i hall
              refine clo.cut _ h _ rfl sc trivial ?_
              have : areL (.str z) A = false := by
                simp only [areL, lettersOk]
                have h2 : (z.cps.toList.all fun c => decide (c ∈ A.cps.toList)) = false := by
                  rw [Bool.eq_false_iff]; intro q; exact hall (by simpa [List.all_eq_true] using q)
                rw [h2]; simp
              rw [← this]; exact q
        · rw [areL_no e hT] at q
          simp [w_are_letters, slots0, isi_str e, hT, q]
      · exact q.elim
  | _ => simp [f_are_letters] at q
theorem b_check_letters : ∀ ds h Q E, sp_check_letters ds h Q E → w_check_letters (endsOf Q E) (slots0 ["letters"] ds) h := by
  rintro ds h Q E ⟨l, q⟩
  obtain ⟨d, rfl⟩ := one_of l
  simp only [f_check_letters] at q
  split at q
  · rename_i hb
    have ha : f_are_letters [d, .str "abcdefghijklmnopqrstuvwxyz"] h = some (.ok (.bl (areL d "abcdefghijklmnopqrstuvwxyz")) h) := by simp only [f_are_letters]; rw [if_pos hb]
    simp [w_check_letters, slots0, ha]
    cases hA : areL d "abcdefghijklmnopqrstuvwxyz" with
    | false => 
      simp [okLetters, hA] at q
      simp [q]
    | true =>
      cases d with
      | str z =>
        have hz : z.length ≤ 16777216 := by simp [shortB] at hb; omega
        simp [gLen, hz]
        by_cases h4 : z.length ≤ 4
        · have : okLetters (.str z) = true := by simp [okLetters, hA, h4]
          rw [this] at q
          simp at q
          rw [if_neg (by omega)]
          exact q
        · have : okLetters (.str z) = false := by simp [okLetters, h4]
          rw [this] at q
          simp at q
          rw [if_pos (by omega)]
          exact q
      | _ => simp [areL] at hA
  · exact q.elim
end EV

namespace EV
open PySem PySem.Spec PyProof.Rows L2
/-! ### the form of a tree -/
def szs : List (Str × Int) := [("empty", 1), ("one", 2), ("row", 2), ("either", 2), ("group", 2), ("many", 3), ("some", 3), ("maybe", 3)]
def tblSizes : Str → Option (Option D) := fun z => some ((szs.lookup z).map .int)
def sgs : List (Str × D) := [("*", .str "many"), ("+", .str "some"), ("?", .str "maybe")]
def tblSigns : Str → Option (Option D) := fun z => some (sgs.lookup z)
def hasF (h : Hh) (d : D) : Option Bool := match tyD h d with
  | none => none
  | some _ => match d with
    | .tup [] => some false
    | .tup (x :: r) => (match tyD h x with
      | none => none
      | some _ => match x with
        | .str w => (match szs.lookup w with
          | none => some false
          | some k => if k = r.length + 1 then (if w = "row" ∨ w = "either" then (match r with
              | y :: _ => (match tyD h y with
                | none => none
                | some _ => some (match sqOf h y with | some ds => decide (1 ≤ ds.length) && decide (ds.length ≤ 8) | none => false))
              | [] => none) else some true) else some false)
        | _ => some false)
    | _ => some false
inductive Form (h : Hh) : D → Prop
  | emp : Form h (.tup [.str "empty"])
  | one (y : D) : Form h (.tup [.str "one", y])
  | grp (y : D) : Form h (.tup [.str "group", y])
  | row (w : Str) (y : D) (ds : List D) (hw : w = "row" ∨ w = "either") (e : sqOf h y = some ds) (h1 : 1 ≤ ds.length) (h8 : ds.length ≤ 8) : Form h (.tup [.str w, y])
  | rep (w : Str) (y g : D) (hw : w = "many" ∨ w = "some" ∨ w = "maybe") : Form h (.tup [.str w, y, g])
theorem lookup_szs {w : Str} {k : Int} (e : szs.lookup w = some k) : (w = "empty" ∧ k = 1) ∨ (w = "one" ∧ k = 2) ∨ (w = "row" ∧ k = 2) ∨ (w = "either" ∧ k = 2) ∨ (w = "group" ∧ k = 2) ∨ (w = "many" ∧ k = 3) ∨ (w = "some" ∧ k = 3) ∨ (w = "maybe" ∧ k = 3) := by
  simp only [szs, List.lookup] at e
  repeat' split at e
  all_goals first
    | (rename_i hb; cases e; rw [beq_iff_eq] at hb; simp [hb]; done)
    | cases e
theorem hasF_true {h : Hh} {d : D} (e : hasF h d = some true) : Form h d := by
  unfold hasF at e
  cases ht : tyD h d with
  | none => rw [ht] at e; cases e
  | some T =>
    rw [ht] at e
    cases d with
    | tup ds =>
      cases ds with
      | nil => cases e
      | cons x r =>
        simp only at e
        cases hx : tyD h x with
        | none => rw [hx] at e; cases e
        | some Tx =>
          rw [hx] at e
          cases x with
          | str w =>
            simp only at e
            cases hk : szs.lookup w with
            | none => rw [hk] at e; cases e
            | some k =>
              rw [hk] at e
              simp only at e
              split at e
              · rename_i hl
                rcases lookup_szs hk with ⟨rfl, rfl⟩ | ⟨rfl, rfl⟩ | ⟨rfl, rfl⟩ | ⟨rfl, rfl⟩ | ⟨rfl, rfl⟩ | ⟨rfl, rfl⟩ | ⟨rfl, rfl⟩ | ⟨rfl, rfl⟩
                · have : r.length = 0 := by omega
                  obtain rfl := List.eq_nil_of_length_eq_zero this
                  exact .emp
                · have : r.length = 1 := by omega
                  obtain ⟨y, rfl⟩ := one_of this
                  exact .one y
                all_goals first
                  | (have : r.length = 1 := by omega
                     obtain ⟨y, rfl⟩ := one_of this
                     first
                       | exact .grp y
                       | (simp at e
                          cases hy : tyD h y with
                          | none => rw [hy] at e; cases e
                          | some Ty =>
                            rw [hy] at e
                            cases hs : sqOf h y with
                            | none => rw [hs] at e; cases e
                            | some ds =>
                              rw [hs] at e
                              simp at e
                              exact .row _ y ds (by simp) hs e.1 e.2))
                  | (have : r.length = 2 := by omega
                     obtain ⟨y, g, rfl⟩ := two_of this
                     exact .rep _ y g (by simp))
              · cases e
          | _ => cases e
    | _ => cases e
def f_has_form : List D → Hh → Option Out
  | [d], h => (hasF h d).map fun b => .ok (.bl b) h
  | _, _ => none
abbrev sp_has_form := spN 1 f_has_form
def w_has_form : WS := wSeq (wIf (wOr (wNot (wTru (wCa gIsinst (wCons (wVar 0) (wCons (wC (.opq (.ty "tuple"))) (wNil)))))) (wOr (wB (wOp gEq (wVar 0) (wTup (wNil)))) (wNot (wTru (wCa gIsinst (wCons (wOp gIx (wVar 0) (wC (.int 0))) (wCons (wC (.opq (.ty "str"))) (wNil)))))))) (wRet (wC (.bl false))) (wNext)) (wSeq (wIf (wOr (wB (wUn (kWIn tblSizes true) (wOp gIx (wVar 0) (wC (.int 0))))) (wB (wOp gNe (wCa gLen (wCons (wVar 0) (wNil))) (wUn (kWGet tblSizes) (wOp gIx (wVar 0) (wC (.int 0))))))) (wRet (wC (.bl false))) (wNext)) (wSeq (wIf (wB (wOp gNotIn (wOp gIx (wVar 0) (wC (.int 0))) (wTup (wCons (wC (.str "row")) (wCons (wC (.str "either")) (wNil)))))) (wRet (wC (.bl true))) (wNext)) (wRet (wAndV (wCall sp_is_row (wCons (wOp gIx (wVar 0) (wC (.int 1))) (wNil))) (wChain gLe gLe (wC (.int 1)) (wCa gLen (wCons (wOp gIx (wVar 0) (wC (.int 1))) (wNil))) (wC (.int 8)))))))
theorem sq_ty {h : Hh} {y : D} {T : String} (e : tyD h y = some T) : (sqOf h y).isSome = (T == "list" || T == "tuple") := by
  cases y with
  | ref n =>
    simp only [tyD] at e
    simp only [sqOf, lsOf]
    split at e <;> cases e <;> rename_i hz <;> rw [hz] <;> rfl
  | opq v => cases e
  | _ => cases e; rfl
theorem gLen_sq {h : Hh} {y : D} {ds : List D} (e : sqOf h y = some ds) : gLen [y] h = some (.int ds.length, h) := by
  cases y with
  | tup es => cases e; rfl
  | ref n => simp only [sqOf] at e; simp [gLen, e]
  | _ => cases e
theorem b_has_form : ∀ ds h Q E, sp_has_form ds h Q E → w_has_form (endsOf Q E) (slots0 ["thing"] ds) h := by
  rintro ds h Q E ⟨l, q⟩
  obtain ⟨d, rfl⟩ := one_of l
  cases ht : tyD h d with
  | none => simp [f_has_form, hasF, ht] at q
  | some T =>
    by_cases hT : T = "tuple"
    · subst hT
      obtain ⟨ds, rfl⟩ := ty_tup ht
      cases ds with
      | nil =>
        simp [f_has_form, hasF, ht] at q
        simp [w_has_form, slots0, isi_tup ht, q]
      | cons x r =>
        cases hx : tyD h x with
        | none => simp [f_has_form, hasF, ht, hx] at q
        | some Tx =>
          by_cases hTx : Tx = "str"
          · subst hTx
            obtain ⟨w, rfl⟩ := ty_str hx
            cases hk : szs.lookup w with
            | none =>
              simp [f_has_form, hasF, ht, hx, hk] at q
              simp [w_has_form, slots0, isi_tup ht, isi_str hx, tblSizes, hk, q]
            | some k =>
              simp only [f_has_form, hasF, ht, hx, hk] at q
              simp [w_has_form, slots0, isi_tup ht, isi_str hx, tblSizes, hk, gNotIn_strs, flatD, eqF]
              by_cases hl : (r.length : Int) + 1 = k
              · subst hl
                simp at q ⊢
                by_cases hw : w = "row" ∨ w = "either"
                · rw [if_pos hw] at q
                  have hw2 : (Str.ofString "row" = w ∨ Str.ofString "either" = w) := by rcases hw with rfl | rfl <;> simp
                  rw [if_neg (fun z => hw2.elim z.1 z.2)]
                  cases r with
                  | nil => simp at q
                  | cons y r =>
                    cases hy : tyD h y with
                    | none => simp [hy] at q
                    | some Ty =>
                      simp [hy] at q
                      simp [f_is_row, hy]
                      have hs := sq_ty hy
                      cases hsq : sqOf h y with
                      | none =>
                        rw [hsq] at hs q
                        simp at hs q
                        simp [hs, q]
                      | some ds =>
                        rw [hsq] at hs q
                        simp at hs q
                        rw [if_pos hs]
                        simp [gLen_sq hsq]
                        by_cases h1 : 1 ≤ ds.length
                        · rw [if_pos (by omega), show decide ((ds.length : Int) ≤ 8) = decide (ds.length ≤ 8) from by rw [decide_eq_decide]; omega]
                          simpa [h1] using q
                        · rw [if_neg (by omega)]
                          have : decide (1 ≤ ds.length) = false := by simpa using h1
                          simpa [this] using q
                · rw [if_neg hw] at q
                  have hw2 : ¬(Str.ofString "row" = w ∨ Str.ofString "either" = w) := fun z => hw (by rcases z with rfl | rfl <;> simp)
                  rw [if_pos ⟨fun z => hw2 (.inl z), fun z => hw2 (.inr z)⟩]
                  simpa using q
              · have : ¬ (k = ↑r.length + 1) := fun z => hl z.symm
                rw [if_neg this] at q
                simp at q
                simp [hl, q]
          · have q2 : Q (.bl false) h := by
              cases x with
              | str w => cases hx; exact absurd rfl hTx
              | _ => simpa [f_has_form, hasF, ht, hx] using q
            simp [w_has_form, slots0, isi_tup ht, isi_str hx, hTx, q2]
    · have q2 : Q (.bl false) h := by
        cases d with
        | tup ds => cases ht; exact absurd rfl hT
        | _ => simpa [f_has_form, hasF, ht] using q
      simp [w_has_form, slots0, isi_tup ht, hT, q2]
/-! ### what is within -/
def withinF (h : Hh) (d : D) : Option (List D) := match d with
  | .tup (.str w :: r) => if w = "row" ∨ w = "either" then (match r with | y :: _ => sqOf h y | [] => none) else if w = "empty" ∨ w = "one" then some [] else (match r with | y :: _ => some [y] | [] => none)
  | _ => none
def f_within : List D → Hh → Option Out
  | [d], h => (withinF h d).map fun ds => .ok (.ref h.length) (h ++ [.lst ds])
  | _, _ => none
abbrev sp_within := spN 1 f_within
def w_within : WS := wSeq (wIf (wB (wOp gIn (wOp gIx (wVar 0) (wC (.int 0))) (wTup (wCons (wC (.str "row")) (wCons (wC (.str "either")) (wNil)))))) (wRet (wCa gList (wCons (wOp gIx (wVar 0) (wC (.int 1))) (wNil)))) (wNext)) (wRet (wIfE (wB (wOp gIn (wOp gIx (wVar 0) (wC (.int 0))) (wTup (wCons (wC (.str "empty")) (wCons (wC (.str "one")) (wNil)))))) (wLst (wNil)) (wLst (wCons (wOp gIx (wVar 0) (wC (.int 1))) (wNil)))))
theorem gList_sq {h : Hh} {y : D} {ds : List D} (e : sqOf h y = some ds) : gList [y] h = some (.ref h.length, h ++ [.lst ds]) := by
  cases y with
  | tup es => cases e; rfl
  | ref n => simp only [sqOf] at e; simp [gList, e]
  | _ => cases e
theorem b_within : ∀ ds h Q E, sp_within ds h Q E → w_within (endsOf Q E) (slots0 ["tree"] ds) h := by
  rintro ds h Q E ⟨l, q⟩
  obtain ⟨d, rfl⟩ := one_of l
  cases hw : withinF h d with
  | none => simp [f_within, hw] at q
  | some es =>
    simp [f_within, hw] at q
    unfold withinF at hw
    split at hw
    · rename_i w r
      simp [w_within, slots0, gIn_strs, flatD, eqF]
      split at hw
      · rename_i hw1
        rw [if_pos (by rcases hw1 with rfl | rfl <;> simp)]
        split at hw
        · rename_i y r
          simp [gList_sq hw, q]
        · cases hw
      · rename_i hw1
        rw [if_neg (fun z => hw1 (by rcases z with rfl | rfl <;> simp))]
        split at hw
        · rename_i hw2
          cases hw
          rw [if_pos (by rcases hw2 with rfl | rfl <;> simp)]
          exact q
        · rename_i hw2
          rw [if_neg (fun z => hw2 (by rcases z with rfl | rfl <;> simp))]
          split at hw
          · rename_i y r
            cases hw
            simpa using q
          · cases hw
    · cases hw
/-! ### Check -/
structure Ck where
  n : Nat
  n1 : Nat
  n2 : Nat
def ckO (L : Str) (k : Nat) (x : Ck) : O := .ins "Check" [("letters", .str L), ("counts", .ref k), ("trees", .int x.n)]
def ckD (x : Ck) : O := .dic [(.inr "one", .int x.n1), (.inr "group", .int x.n2)]
structure CkOk (h : Hh) (c k : Nat) (L : Str) (x : Ck) : Prop where
  c : h[c]? = some (ckO L k x)
  k : h[k]? = some (ckD x)
def ckSet (h : Hh) (c k : Nat) (L : Str) (x : Ck) : Hh := (h.set c (ckO L k x)).set k (ckD x)
theorem ckSet_same {h : Hh} {c k : Nat} {L : Str} {x : Ck} (o : CkOk h c k L x) : ckSet h c k L x = h := by
  unfold ckSet
  have h1 : h.set c (ckO L k x) = h := by
    apply List.ext_getElem?
    intro i
    rw [List.getElem?_set]
    split
    · rename_i e; subst e; rw [if_pos (get_lt o.c), o.c]
    · rfl
  rw [h1]
  apply List.ext_getElem?
  intro i
  rw [List.getElem?_set]
  split
  · rename_i e; subst e; rw [if_pos (get_lt o.k), o.k]
  · rfl
def sp_CheckDD_initDD : SpD := fun ds h Q _ => ∃ n L, ds = [.ref n, .str L] ∧ h[n]? = some (.ins "Check" []) ∧ Q .non ((h ++ [ckD ⟨0, 0, 0⟩]).set n (ckO L h.length ⟨0, 0, 0⟩))
theorem mono_ckInit : MonoSp sp_CheckDD_initDD := fun ds h Q Q' E E' hq he ⟨n, L, a, b, q⟩ => ⟨n, L, a, b, hq _ _ q⟩
def w_CheckDD_initDD : WS := wSeq (wSetF "Check" "letters" (wVar 0) (wVar 1)) (wSeq (wSetF "Check" "counts" (wVar 0) (wDisp (wPcons (wC (.str "one")) (wC (.int 0)) (wPcons (wC (.str "group")) (wC (.int 0)) (wPnil))))) (wSetF "Check" "trees" (wVar 0) (wC (.int 0))))
def probF (h : Hh) (L : Str) (d : D) (deep : Int) (x : Ck) : Option (Option Str × Ck) := match hasF h d with
  | none => none
  | some false => some (some "tree", x)
  | some true => match d with
    | .tup (.str w :: r) =>
      (match (if w = "one" then (match r with | y :: _ => if (tyD h y).isSome && shortB y then some (!areL y L) else none | [] => none) else some false : Option Bool) with
      | none => none
      | some true => some (some "letters", x)
      | some false => (match (if w = "many" ∨ w = "some" ∨ w = "maybe" then (match r with | _ :: g :: _ => (tyD h g).map fun _ => (match g with | .str s => !(decide (s = "greedy") || decide (s = "lazy")) | _ => true) | _ => none) else some false : Option Bool) with
        | none => none
        | some true => some (some "greed", x)
        | some false => if 8 < deep then some (some "deep", x) else
          some (if 10 < x.n1 + (if w = "one" then 1 else 0) ∨ 5 < x.n2 + (if w = "group" then 1 else 0) ∨ 60 < x.n + 1 then some "much" else none, ⟨x.n + 1, x.n1 + (if w = "one" then 1 else 0), x.n2 + (if w = "group" then 1 else 0)⟩)))
    | _ => none
def sOrN : Option Str → D
  | none => .non
  | some w => .str w
def sp_Check_problem : SpD := fun ds h Q _ => ∃ c k L x d deep r, ds = [.ref c, d, .int deep] ∧ c ≠ k ∧ CkOk h c k L x ∧ probF h L d deep x = some r ∧ Q (sOrN r.1) (ckSet h c k L r.2)
theorem mono_problem : MonoSp sp_Check_problem := fun ds h Q Q' E E' hq he ⟨c, k, L, x, d, dp, r, a, b, e, f, q⟩ => ⟨c, k, L, x, d, dp, r, a, b, e, f, hq _ _ q⟩
def w_Check_problem : WS := wSeq (wIf (wNot (wTru (wCall sp_has_form (wCons (wVar 1) (wNil))))) (wRet (wC (.str "tree"))) (wNext)) (wSeq (wIf (wAnd (wB (wOp gEq (wOp gIx (wVar 1) (wC (.int 0))) (wC (.str "one")))) (wNot (wTru (wCall sp_are_letters (wCons (wOp gIx (wVar 1) (wC (.int 1))) (wCons (wUn (kFld "Check" "letters") (wVar 0)) (wNil))))))) (wRet (wC (.str "letters"))) (wNext)) (wSeq (wIf (wAnd (wB (wOp gIn (wOp gIx (wVar 1) (wC (.int 0))) (wC (.tup [.str "many", .str "some", .str "maybe"])))) (wOr (wNot (wTru (wCa gIsinst (wCons (wOp gIx (wVar 1) (wC (.int 2))) (wCons (wC (.opq (.ty "str"))) (wNil)))))) (wB (wOp gNotIn (wOp gIx (wVar 1) (wC (.int 2))) (wC (.tup [.str "greedy", .str "lazy"])))))) (wRet (wC (.str "greed"))) (wNext)) (wSeq (wIf (wB (wOp gGt (wVar 2) (wC (.int 8)))) (wRet (wC (.str "deep"))) (wNext)) (wSeq (wSetF "Check" "trees" (wVar 0) (wOp gAdd (wUn (kFld "Check" "trees") (wVar 0)) (wC (.int 1)))) (wSeq (wIf (wB (wOp (gDIn false) (wOp gIx (wVar 1) (wC (.int 0))) (wUn (kFld "Check" "counts") (wVar 0)))) (wSetD (wUn (kFld "Check" "counts") (wVar 0)) (wOp gIx (wVar 1) (wC (.int 0))) (wOp gAdd (wOp gDGet (wUn (kFld "Check" "counts") (wVar 0)) (wOp gIx (wVar 1) (wC (.int 0)))) (wC (.int 1)))) (wNext)) (wSeq (wAsg (.nm 3) (wOrV (wOp gGt (wOp gDGet (wUn (kFld "Check" "counts") (wVar 0)) (wC (.str "one"))) (wC (.int 10))) (wOrV (wOp gGt (wOp gDGet (wUn (kFld "Check" "counts") (wVar 0)) (wC (.str "group"))) (wC (.int 5))) (wOp gGt (wUn (kFld "Check" "trees") (wVar 0)) (wC (.int 60)))))) (wRet (wIfE (wTru (wVar 3)) (wC (.str "much")) (wC .non)))))))))
theorem b_ckInit : ∀ ds h Q E, sp_CheckDD_initDD ds h Q E → w_CheckDD_initDD (endsOf Q E) (slots0 ["self", "letters"] ds) h := by
  rintro ds h Q E ⟨n, L, rfl, hn, q⟩
  have hlt := in_of hn
  rw [set_app_in hlt] at q
  simpa [w_CheckDD_initDD, slots0, hn, hlt, putD, keysOf, mergeD, putKD, ckO, ckD] using q
theorem prob_tail {Q : PV} {hh : Hh} {A B N : Int} {a b n : Nat} (hA : A = a) (hB : B = b) (hN : N = n) (q : Q (sOrN (if 10 < a ∨ 5 < b ∨ 60 < n then some "much" else none)) hh) :
    if 10 < A then Q (.str "much") hh else if 5 < B then Q (.str "much") hh else if 60 < N then Q (.str "much") hh else Q .non hh := by
  subst hA hB hN
  by_cases h1 : 10 < a
  · rw [if_pos (.inl h1)] at q; rw [if_pos (by omega)]; exact q
  · rw [if_neg (show ¬ (10 : Int) < (a : Int) by omega)]
    by_cases h2 : 5 < b
    · rw [if_pos (.inr (.inl h2))] at q; rw [if_pos (by omega)]; exact q
    · rw [if_neg (show ¬ (5 : Int) < (b : Int) by omega)]
      by_cases h3 : 60 < n
      · rw [if_pos (.inr (.inr h3))] at q; rw [if_pos (by omega)]; exact q
      · rw [if_neg (by omega)] at q; rw [if_neg (by omega)]; exact q
theorem ckSet_c {h : Hh} {c k : Nat} {L : Str} {x : Ck} {m : Nat} (o : CkOk h c k L x) (hck : c ≠ k) : ckSet h c k L ⟨m, x.n1, x.n2⟩ = h.set c (ckO L k ⟨m, x.n1, x.n2⟩) := by
  unfold ckSet
  apply List.ext_getElem?
  intro i
  rw [List.getElem?_set]
  split
  · rename_i e; subst e
    rw [List.getElem?_set_ne hck, o.k, List.length_set, if_pos (get_lt o.k)]
    rfl
  · rfl
theorem b_problem : ∀ ds h Q E, sp_Check_problem ds h Q E → w_Check_problem (endsOf Q E) (slots0 ["self", "tree", "deep", "is_much"] ds) h := by
  rintro ds h Q E ⟨c, k, L, x, d, deep, r, rfl, hck, o, hp, q⟩
  have hc : h[c]? = some (.ins "Check" [("letters", .str L), ("counts", .ref k), ("trees", .int x.n)]) := o.c
  have hk : h[k]? = some (.dic [(.inr "one", .int x.n1), (.inr "group", .int x.n2)]) := o.k
  have lc := in_of hc
  have lk := in_of hk
  have hkc : ¬ k = c := fun z => hck z.symm
  have same := ckSet_same o
  have sc := fun m => ckSet_c (m := m) o hck
  cases hf : hasF h d with
  | none => simp [probF, hf] at hp
  | some b =>
    have ff : f_has_form [d] h = some (.ok (.bl b) h) := by simp [f_has_form, hf]
    cases b with
    | false =>
      simp [probF, hf] at hp
      subst hp
      simp [w_Check_problem, slots0, ff]
      rw [same] at q
      exact q
    | true =>
      have fm := hasF_true hf
      have dt : ∀ {a b : Nat} {A B : Int} {hh : Hh}, (if 8 < deep then some (some ("deep" : Str), x) else some (if 10 < a ∨ 5 < b ∨ 60 < x.n + 1 then some ("much" : Str) else none, (⟨x.n + 1, a, b⟩ : Ck))) = some r → A = a → B = b → hh = ckSet h c k L ⟨x.n + 1, a, b⟩ →
          (if 8 < deep then Q (.str "deep") h else if 10 < A then Q (.str "much") hh else if 5 < B then Q (.str "much") hh else if 60 < (x.n : Int) + 1 then Q (.str "much") hh else Q .non hh) := by
        intro a b A B hh hp hA hB eh
        by_cases hd : 8 < deep
        · rw [if_pos hd] at hp ⊢
          cases hp
          rw [same] at q
          exact q
        · rw [if_neg hd] at hp ⊢
          cases hp
          rw [eh]
          exact prob_tail hA hB (by simp) q
      have h1 : ∀ {y : D}, (if (tyD h y).isSome = true ∧ shortB y = true then some (!areL y L) else none) = some true → ((tyD h y).isSome && shortB y) = true ∧ areL y L = false := fun {y} z => by
        split at z
        · rename_i hz; exact ⟨by simpa using hz, by simpa using z⟩
        · cases z
      have h0 : ∀ {y : D}, (if (tyD h y).isSome = true ∧ shortB y = true then some (!areL y L) else none) = some false → ((tyD h y).isSome && shortB y) = true ∧ areL y L = true := fun {y} z => by
        split at z
        · rename_i hz; exact ⟨by simpa using hz, by simpa using z⟩
        · cases z
      have fa : ∀ {y : D}, ((tyD h y).isSome && shortB y) = true → f_are_letters [y, .str L] h = some (.ok (.bl (areL y L)) h) := fun {y} z => by simp only [f_are_letters]; rw [if_pos z]
      cases fm with
      | emp =>
        simp [probF, hf] at hp
        simp [w_Check_problem, slots0, ff, gIn_strs, flatD, eqF, hc, hk, lc, lk, hck, hkc, List.lookup, putD, gDIn, gDGet, dcOf, valD, putKD]
        exact dt hp rfl rfl (by rw [sc]; rfl)
      | one y =>
        simp [probF, hf] at hp
        split at hp
        · cases hp
        · rename_i hz
          obtain ⟨z1, z2⟩ := h1 hz
          cases hp
          rw [same] at q
          simp [w_Check_problem, slots0, ff, hc, List.lookup, fa z1, z2]
          exact q
        · rename_i hz
          obtain ⟨z1, z2⟩ := h0 hz
          simp [w_Check_problem, slots0, ff, gIn_strs, flatD, eqF, hc, hk, lc, lk, hck, hkc, List.lookup, putD, gDIn, gDGet, dcOf, valD, putKD, fa z1, z2]
          exact dt hp (by simp) rfl (by simp [ckSet, ckO, ckD])
      | grp y =>
        simp [probF, hf] at hp
        simp [w_Check_problem, slots0, ff, gIn_strs, flatD, eqF, hc, hk, lc, lk, hck, hkc, List.lookup, putD, gDIn, gDGet, dcOf, valD, putKD]
        exact dt hp rfl (by simp) (by simp [ckSet, ckO, ckD])
      | row w y ds hw e e1 e8 =>
        rcases hw with rfl | rfl <;>
        · simp [probF, hf] at hp
          simp [w_Check_problem, slots0, ff, gIn_strs, flatD, eqF, hc, hk, lc, lk, hck, hkc, List.lookup, putD, gDIn, gDGet, dcOf, valD, putKD]
          exact dt hp rfl rfl (by rw [sc]; rfl)
      | rep w y g hw =>
        cases hg : tyD h g with
        | none => rcases hw with rfl | rfl | rfl <;> simp [probF, hf, hg] at hp
        | some T =>
          by_cases hT : T = "str"
          · subst hT
            obtain ⟨s, rfl⟩ := ty_str hg
            by_cases hs : s = "greedy" ∨ s = "lazy"
            · have hs2 : (Str.ofString "greedy" = s ∨ Str.ofString "lazy" = s) := by rcases hs with rfl | rfl <;> simp
              have hs3 : ((decide (s = "greedy") || decide (s = "lazy")) : Bool) = true := by simpa using hs
              rcases hw with rfl | rfl | rfl <;>
              · simp [probF, hf, hg, hs3] at hp
                simp [w_Check_problem, slots0, ff, gIn_strs, gNotIn_strs, flatD, eqF, hc, hk, lc, lk, hck, hkc, List.lookup, putD, gDIn, gDGet, dcOf, valD, putKD, isi_str hg]
                rw [if_neg (fun z => hs2.elim z.1 z.2)]
                exact dt hp rfl rfl (by rw [sc]; rfl)
            · have hs2 : ¬ Str.ofString "greedy" = s ∧ ¬ Str.ofString "lazy" = s := ⟨fun z => hs (.inl z.symm), fun z => hs (.inr z.symm)⟩
              have hs3 : ((decide (s = "greedy") || decide (s = "lazy")) : Bool) = false := by simpa using hs
              rcases hw with rfl | rfl | rfl <;>
              · simp [probF, hf, hg, hs3] at hp
                subst hp
                rw [same] at q
                simp [w_Check_problem, slots0, ff, gIn_strs, gNotIn_strs, flatD, eqF, hc, List.lookup, isi_str hg]
                rw [if_pos hs2]
                exact q
          · cases g with
            | str s => cases hg; exact absurd rfl hT
            | _ =>
              rcases hw with rfl | rfl | rfl <;>
              · simp [probF, hf, hg] at hp
                subst hp
                rw [same] at q
                simp [w_Check_problem, slots0, ff, gIn_strs, gNotIn_strs, flatD, eqF, hc, List.lookup, isi_str hg, hT]
                exact q
end EV

namespace EV
open PySem PySem.Spec PyProof.Rows L2
/-! ### lists of options -/
def mapO {α β : Type} (f : α → Option β) : List α → Option (List β)
  | [] => some []
  | a :: as => match f a, mapO f as with
    | some b, some bs => some (b :: bs)
    | _, _ => none
theorem mapO_cons {α β : Type} {f : α → Option β} {a : α} {as : List α} {r : List β} (e : mapO f (a :: as) = some r) : ∃ b bs, f a = some b ∧ mapO f as = some bs ∧ r = b :: bs := by
  simp only [mapO] at e
  cases h1 : f a with
  | none => rw [h1] at e; cases e
  | some b =>
    cases h2 : mapO f as with
    | none => rw [h1, h2] at e; cases e
    | some bs => rw [h1, h2] at e; cases e; exact ⟨b, bs, rfl, rfl, rfl⟩
theorem mapO_mono {α β : Type} {f g : α → Option β} (hfg : ∀ a b, f a = some b → g a = some b) : ∀ {as : List α} {bs : List β}, mapO f as = some bs → mapO g as = some bs
  | [], _, e => e
  | a :: as, _, e => by
    obtain ⟨b, bs, h1, h2, rfl⟩ := mapO_cons e
    simp only [mapO, hfg a b h1, mapO_mono hfg h2]
theorem mapO_get {α β : Type} {f : α → Option β} : ∀ {as : List α} {bs : List β} {a : α}, mapO f as = some bs → a ∈ as → ∃ b, f a = some b
  | a :: as, _, x, e, h => by
    obtain ⟨b, bs, h1, h2, rfl⟩ := mapO_cons e
    rcases List.mem_cons.mp h with rfl | h
    · exact ⟨b, h1⟩
    · exact mapO_get h2 h
theorem mapO_map {α β γ : Type} {f : α → Option β} {k : α → γ} {j : β → γ} (hk : ∀ a b, f a = some b → k a = j b) : ∀ {as : List α} {bs : List β}, mapO f as = some bs → as.map k = bs.map j
  | [], _, e => by cases e; rfl
  | a :: as, _, e => by
    obtain ⟨b, bs, h1, h2, rfl⟩ := mapO_cons e
    simp only [List.map_cons, hk a b h1, mapO_map hk h2]
theorem mapO_len {α β : Type} {f : α → Option β} : ∀ {as : List α} {bs : List β}, mapO f as = some bs → bs.length = as.length
  | [], _, e => by cases e; rfl
  | a :: as, _, e => by
    obtain ⟨b, bs, h1, h2, rfl⟩ := mapO_cons e
    simp [mapO_len h2]
/-! ### a longer heap tells the same -/
theorem sqOf_ty {h : Hh} {y : D} {T : String} (g : Hh) (e : tyD h y = some T) : sqOf (h ++ g) y = sqOf h y := by
  cases y with
  | ref n =>
    simp only [tyD] at e
    simp only [sqOf, lsOf]
    cases z : h[n]? with
    | none => rw [z] at e; cases e
    | some o => rw [get_in z]
  | _ => rfl
theorem hasF_in {h : Hh} {d : D} {b : Bool} (g : Hh) (e : hasF h d = some b) : hasF (h ++ g) d = some b := by
  unfold hasF at e ⊢
  cases ht : tyD h d with
  | none => rw [ht] at e; cases e
  | some T =>
    rw [ht] at e
    rw [tyD_in ht]
    cases d with
    | tup ds =>
      cases ds with
      | nil => exact e
      | cons x r =>
        simp only at e ⊢
        cases hx : tyD h x with
        | none => rw [hx] at e; cases e
        | some Tx =>
          rw [hx] at e
          rw [tyD_in hx]
          cases x with
          | str w =>
            simp only at e ⊢
            cases hk : szs.lookup w with
            | none => rw [hk] at e; exact e
            | some k =>
              rw [hk] at e
              simp only at e ⊢
              split at e
              · rename_i hl
                rw [if_pos hl]
                split at e
                · rename_i hw
                  rw [if_pos hw]
                  cases r with
                  | nil => cases e
                  | cons y r =>
                    simp only at e ⊢
                    cases hy : tyD h y with
                    | none => rw [hy] at e; cases e
                    | some Ty =>
                      rw [hy] at e
                      rw [tyD_in hy, sqOf_ty g hy]
                      exact e
                · rename_i hw
                  rw [if_neg hw]
                  exact e
              · rename_i hl
                rw [if_neg hl]
                exact e
          | _ => exact e
    | _ => exact e
theorem withinF_in {h : Hh} {d : D} {ds : List D} (g : Hh) (e : withinF h d = some ds) : withinF (h ++ g) d = some ds := by
  unfold withinF at e ⊢
  split at e
  · rename_i w r
    split at e
    · rename_i hw
      rw [if_pos hw]
      split at e
      · exact sqOf_in e g
      · cases e
    · rename_i hw
      rw [if_neg hw]
      exact e
  · cases e
theorem probF_in {h : Hh} {L : Str} {d : D} {k : Int} {x : Ck} {r : Option Str × Ck} (g : Hh) (e : probF h L d k x = some r) : probF (h ++ g) L d k x = some r := by
  unfold probF at e ⊢
  cases hf : hasF h d with
  | none => rw [hf] at e; cases e
  | some b =>
    rw [hf] at e
    rw [hasF_in g hf]
    cases b with
    | false => exact e
    | true =>
      have fm := hasF_true hf
      cases fm with
      | emp => exact e
      | one y =>
        simp at e ⊢
        cases hy : tyD h y with
        | none => simp [hy] at e
        | some T => rw [tyD_in hy]; simp [hy] at e ⊢; exact e
      | grp y => exact e
      | row w y ds hw _ _ _ => rcases hw with rfl | rfl <;> exact e
      | rep w y q hw =>
        cases hq : tyD h q with
        | none => rcases hw with rfl | rfl | rfl <;> simp [hq] at e
        | some T => rcases hw with rfl | rfl | rfl <;> simp [hq, tyD_in hq] at e ⊢ <;> exact e
/-! ### going through the trees -/
def chkL (h : Hh) (L : Str) : Nat → List (D × Nat) → Ck → Option (Option (Int × Str))
  | 0, _, _ => none
  | _ + 1, [], _ => some none
  | n + 1, (d, k) :: st, x => match probF h L d k x with
    | none => none
    | some (some why, _) => some (some (x.n, why))
    | some (none, x') => match withinF h d with
      | none => none
      | some ds => if ds.length ≤ 8 then chkL h L n (ds.map (fun e => (e, k + 1)) ++ st) x' else none
def f_check_tree : List D → Hh → Option Out
  | [.str L, d], h => (chkL h L 100 [(d, 0)] ⟨0, 0, 0⟩).map fun r => match r with
    | none => .ok .non h
    | some (i, w) => .ex (xPat i w) h
  | _, _ => none
abbrev sp_check_tree := spN 2 f_check_tree
def wt_check_tree_0 : WT := wB (wOp gNe (wVar 3) (wLst (wNil)))
def wb_check_tree_0 : WS := wSeq (wAsg (.tp [.nm 6, .nm 7]) (wMt "list" gPop (wVar 3) wNil)) (wSeq (wAsg (.nm 4) (wUn (kFld "Check" "trees") (wVar 2))) (wSeq (wAsg (.nm 5) (wMeth "Check" "problem" sp_Check_problem (wVar 2) (wCons (wVar 6) (wCons (wVar 7) (wNil))))) (wSeq (wIf (wB (wOp gIsNot (wVar 5) (wC .non))) (wRaise "NoPattern" sp_NoPatternDD_initDD (wCons (wVar 4) (wCons (wVar 5) (wNil)))) (wNext)) (wExpr (wMt "list" gExtend (wVar 3) (wCons (wLc (wiList (wUn (k1 gRev) (wCall sp_within (wCons (wVar 6) (wNil))))) [8] (.nm 8) (wYes) (wTup (wCons (wVar 8) (wCons (wOp gAdd (wVar 7) (wC (.int 1))) (wNil))))) (wNil)))))))
def w_check_tree : WS := wSeq (wAsg (.nm 2) (wMake "Check" sp_CheckDD_initDD (wCons (wVar 0) (wNil)))) (wSeq (wAsg (.nm 3) (wLst (wCons (wTup (wCons (wVar 1) (wCons (wC (.int 0)) (wNil)))) (wNil)))) (wWhile wt_check_tree_0 wb_check_tree_0))
def ckRes (Q : PV) (E : PX) (h : Hh) : Option (Int × Str) → Prop
  | none => Q .non h
  | some p => E (xPat p.1 p.2) h
def stD (st : List (D × Nat)) : List D := st.reverse.map fun p => .tup [p.1, .int p.2]
theorem stD_pop {d : D} {k : Nat} {st : List (D × Nat)} : stD ((d, k) :: st) = stD st ++ [.tup [d, .int k]] := by simp [stD]
theorem ct_loop {h : Hh} {L : Str} {Q : PV} {E : PX} {d0 : D} (hE : ∀ x g, ScX h.length x → E x h → E x (h ++ g)) (hQ : ∀ g, Q .non h → Q .non (h ++ g)) : ∀ (n : Nat) (st : List (D × Nat)) (x : Ck) (r : Option (Int × Str)) (g : Hh) (s4 s5 s6 s7 s8 : Option D), chkL h L n st x = some r → st.length + 8 * n ≤ 1000 →
    ckRes Q E h r →
    wWh wt_check_tree_0 wb_check_tree_0 (endsOf Q E) n [some (.str L), some d0, some (.ref h.length), some (.ref (h.length + 2)), s4, s5, s6, s7, s8] (h ++ (ckO L (h.length + 1) x :: ckD x :: .lst (stD st) :: g))
  | 0, _, _, _, _, _, _, _, _, _, e, _, _ => by simp [chkL] at e
  | n + 1, [], x, r, g, s4, s5, s6, s7, s8, e, hl, q => by
    simp [chkL] at e
    subst e
    have h3 : (h ++ (ckO L (h.length + 1) x :: ckD x :: .lst (stD []) :: g))[h.length + 2]? = some (.lst []) := by rw [ap_get]; rfl
    have z := gNe_empty (h := h ++ (ckO L (h.length + 1) x :: ckD x :: .lst (stD []) :: g) ++ [.lst []]) (m := h.length + 2) (n := (h ++ (ckO L (h.length + 1) x :: ckD x :: .lst (stD []) :: g)).length) (ds := []) (by unfold lsOf; rw [get_in h3]) (by unfold lsOf; rw [ap_get0]; rfl)
    simp at z
    simp [wWh, wt_check_tree_0, z]
    exact hQ _ q
  | n + 1, (d, k) :: st, x, r, g, s4, s5, s6, s7, s8, e, hl, q => by
    have h3 : (h ++ (ckO L (h.length + 1) x :: ckD x :: .lst (stD ((d, k) :: st)) :: g))[h.length + 2]? = some (.lst (stD ((d, k) :: st))) := by rw [ap_get]; rfl
    have z := gNe_empty (h := h ++ (ckO L (h.length + 1) x :: ckD x :: .lst (stD ((d, k) :: st)) :: g) ++ [.lst []]) (m := h.length + 2) (n := (h ++ (ckO L (h.length + 1) x :: ckD x :: .lst (stD ((d, k) :: st)) :: g)).length) (ds := stD ((d, k) :: st)) (by unfold lsOf; rw [get_in h3]) (by unfold lsOf; rw [ap_get0]; rfl)
    simp [stD_pop] at z
    simp [wWh, wt_check_tree_0, stD_pop, z, wb_check_tree_0, lsOf, ap_get]
    rw [gPop_snoc (ds := stD st) (x := .tup [d, .int k]) (by rw [ap_get]; rfl)]
    simp [ap_set, ap_get0, ckO, List.lookup]
    cases hp : probF h L d k x with
    | none => simp [chkL, hp] at e
    | some rr =>
      obtain ⟨w, x'⟩ := rr
      refine ⟨h.length, h.length + 1, L, x, d, k, (w, x'), rfl, by omega, ⟨by rw [ap_get0]; rfl, by rw [ap_get]; rfl⟩, probF_in _ hp, ?_⟩
      have es : ckSet (h ++ ckO L (h.length + 1) x :: ckD x :: O.lst (stD st) :: (g ++ [O.lst []])) h.length (h.length + 1) L x' = h ++ ckO L (h.length + 1) x' :: ckD x' :: O.lst (stD st) :: (g ++ [O.lst []]) := by
        simp [ckSet, ap_set0, ap_set]
      have es2 := es
      simp only [ckO] at es2
      rw [es2]
      cases w with
      | some why =>
        simp [chkL, hp] at e
        subst e
        simp [sOrN]
        exact hE _ _ ⟨trivial, trivial, trivial⟩ q
      | none =>
        cases hw : withinF h d with
        | none => simp [chkL, hp, hw] at e
        | some ds =>
          simp [chkL, hp, hw] at e
          obtain ⟨h8, e⟩ := e
          have hf : ∀ g, f_within [d] (h ++ g) = some (.ok (.ref (h ++ g).length) ((h ++ g) ++ [.lst ds])) := fun g => by simp [f_within, withinF_in g hw]
          have hi : (h ++ ckO L (h.length + 1) x' :: ckD x' :: O.lst (stD st) :: (g ++ [O.lst [], O.lst ds]))[h.length + (g.length + 1 + 1 + 1 + 1)]? = some (.lst ds) := by
            rw [ap_get]; simp [List.getElem?_append_right]
          have hi2 := hi
          simp only [ckO] at hi2
          simp [sOrN, hf, ap_get, gRev_ok (ls_of hi2), lsOf]
          refine lc_map2 (h := h ++ ckO L (h.length + 1) x' :: ckD x' :: O.lst (stD st) :: (g ++ [O.lst [], O.lst ds, O.lst ds.reverse])) (fun e => .tup [e, .int (k + 1)]) (by simp) (by simp [ckO]) (fun acc => ?_) (fun e he => ⟨_, asgD_nm, fun acc Q' E' q => ?_⟩) (by simp; omega) ?_
          · rw [List.append_assoc, ap_get]; simp [List.getElem?_append_right]
          · simpa [wipeD] using q
          · have hx : (h ++ ckO L (h.length + 1) x' :: ckD x' :: O.lst (stD st) :: (g ++ [O.lst [], O.lst ds, O.lst ds.reverse]) ++ [O.lst (ds.reverse.map fun e => D.tup [e, .int (k + 1)])]) = h ++ (ckO L (h.length + 1) x' :: ckD x' :: O.lst (stD st) :: (g ++ [O.lst [], O.lst ds, O.lst ds.reverse, O.lst (ds.reverse.map fun e => D.tup [e, .int (k + 1)])])) := by simp
            have hstl : (stD st).length = st.length := by simp [stD]
            rw [hx, gExtend_ok (ds := stD st) (es := ds.reverse.map fun e => D.tup [e, .int (k + 1)]) (by rw [ap_get]; rfl) (by simp [ap_get, List.getElem?_append_right]) (by rw [hstl]; simp at hl ⊢; omega)]
            rw [ap_set]
            have hst : stD st ++ (ds.reverse.map fun e => D.tup [e, .int (k + 1)]) = stD (ds.map (fun e => (e, k + 1)) ++ st) := by
              simp [stD, Function.comp_def]
            simp only [Get_some]
            rw [hst]
            exact ct_loop hE hQ n (ds.map (fun e => (e, k + 1)) ++ st) x' r _ _ _ _ _ _ e (by simp at hl ⊢; omega) q
theorem b_check_tree : ∀ ds h Q E, ScH h → Clo h.length Q → CloX h.length E → sp_check_tree ds h Q E → w_check_tree (endsOf Q E) (slots0 ["letters", "tree", "check", "waiting", "at", "why", "one", "deep", "inner"] ds) h := by
  rintro ds h Q E sc clo clx ⟨l, q⟩
  obtain ⟨a, d, rfl⟩ := two_of l
  cases a with
  | str L =>
    cases hc : chkL h L 100 [(d, 0)] ⟨0, 0, 0⟩ with
    | none => simp [f_check_tree, hc] at q
    | some r =>
      simp [w_check_tree, slots0]
      have q2 : ckRes Q E h r := by
        simp only [f_check_tree, hc, Option.map_some] at q
        cases r with
        | none => exact q
        | some p => exact q
      refine ⟨h.length, L, rfl, by rw [ap_get0]; rfl, rfl, 100, ?_⟩
      have := ct_loop (d0 := d) (fun x g sx e => clx x h g rfl sc sx e) (fun g e => clo.cut _ h g rfl sc trivial e) 100 [(d, 0)] ⟨0, 0, 0⟩ r [] none none none none none hc (by simp) q2
      simpa [ap_set0, stD] using this
  | _ => simp [f_check_tree] at q
end EV

namespace EV
open PySem PySem.Spec PyProof.Rows L2
/-! ### can a tree be empty -/
def canF (h : Hh) : Nat → D → Option Bool
  | 0, _ => none
  | n + 1, d => match d with
    | .tup (.str w :: r) => if w = "row" then (match r with | y :: _ => (match sqOf h y with | some ds => if ds.length ≤ 8 then (mapO (canF h n) ds).map fun bs => bs.all id else none | none => none) | [] => none)
      else if w = "either" then (match r with | y :: _ => (match sqOf h y with | some ds => if ds.length ≤ 8 then (mapO (canF h n) ds).map fun bs => bs.any id else none | none => none) | [] => none)
      else if w = "group" ∨ w = "some" then (match r with | y :: _ => canF h n y | [] => none)
      else some (!decide (w = "one"))
    | _ => none
def f_can_be_empty (n : Nat) : List D → Hh → Option Out
  | [d], h => (canF h n d).map fun b => .ok (.bl b) h
  | _, _ => none
abbrev sp_can_be_empty (n : Nat) := spN 1 (f_can_be_empty n)
def w_can_be_empty (n : Nat) : WS := wSeq (wIf (wB (wOp gEq (wOp gIx (wVar 0) (wC (.int 0))) (wC (.str "row")))) (wRet (wCa gAll (wCons (wLc (wiSq (wOp gIx (wVar 0) (wC (.int 1)))) [1] (.nm 1) (wYes) (wCall (sp_can_be_empty n) (wCons (wVar 1) (wNil)))) (wNil)))) (wNext)) (wSeq (wIf (wB (wOp gEq (wOp gIx (wVar 0) (wC (.int 0))) (wC (.str "either")))) (wRet (wCa gAny (wCons (wLc (wiSq (wOp gIx (wVar 0) (wC (.int 1)))) [1] (.nm 1) (wYes) (wCall (sp_can_be_empty n) (wCons (wVar 1) (wNil)))) (wNil)))) (wNext)) (wSeq (wIf (wB (wOp gIn (wOp gIx (wVar 0) (wC (.int 0))) (wTup (wCons (wC (.str "group")) (wCons (wC (.str "some")) (wNil)))))) (wRet (wCall (sp_can_be_empty n) (wCons (wOp gIx (wVar 0) (wC (.int 1))) (wNil)))) (wNext)) (wRet (wOp gNe (wOp gIx (wVar 0) (wC (.int 0))) (wC (.str "one"))))))
theorem canF_in {h : Hh} (g : Hh) : ∀ {n : Nat} {d : D} {b : Bool}, canF h n d = some b → canF (h ++ g) n d = some b
  | 0, _, _, e => by cases e
  | n + 1, d, b, e => by
    have ih : ∀ d b, canF h n d = some b → canF (h ++ g) n d = some b := fun d b e => canF_in g e
    unfold canF at e ⊢
    split at e
    · rename_i w r
      split at e
      · rename_i hw
        rw [if_pos hw]
        split at e
        · rename_i y r
          split at e
          · rename_i ds hs
            split at e
            · rename_i h8
              simp only [sqOf_in hs g]
              rw [if_pos h8]
              cases hm : mapO (canF h n) ds with
              | none => rw [hm] at e; cases e
              | some bs => rw [hm] at e; rw [mapO_mono ih hm]; exact e
            · cases e
          · cases e
        · cases e
      · rename_i hw
        rw [if_neg hw]
        split at e
        · rename_i hw2
          rw [if_pos hw2]
          split at e
          · rename_i y r
            split at e
            · rename_i ds hs
              split at e
              · rename_i h8
                simp only [sqOf_in hs g]
                rw [if_pos h8]
                cases hm : mapO (canF h n) ds with
                | none => rw [hm] at e; cases e
                | some bs => rw [hm] at e; rw [mapO_mono ih hm]; exact e
              · cases e
            · cases e
          · cases e
        · rename_i hw2
          rw [if_neg hw2]
          split at e
          · rename_i hw3
            rw [if_pos hw3]
            split at e
            · exact ih _ _ e
            · cases e
          · rename_i hw3
            rw [if_neg hw3]
            exact e
    · cases e
theorem lc_can {n : Nat} {h : Hh} {s : Sl} {Q : PV} {ds : List D} {bs : List Bool} {chk : Hh → Prop} (hs : s.length = 2) (hc : ∀ acc, chk (h ++ [.lst acc])) (hm : mapO (canF h n) ds = some bs) (h8 : ds.length ≤ 8) (q : Q (.ref h.length) (h ++ [.lst (bs.map .bl)])) :
    wLcGo h.length chk (.nm 1) wYes (wCall (sp_can_be_empty n) (wCons (wVar 1) wNil)) s Q ds (h ++ [.lst []]) := by
  refine lc_map (h := h) (fun d => match canF h n d with | some b => .bl b | none => .non) hc ds (fun d hd => ⟨_, asgD_nm, fun acc Q' E' q => ?_⟩) (by simp; omega) ?_
  · obtain ⟨b, eb⟩ := mapO_get hm hd
    match s, hs with
    | [s0, s1], _ =>
      simp [f_can_be_empty, canF_in _ eb]
      simpa [eb] using q
  · rw [mapO_map (j := .bl) (fun a b e => by simp [e]) hm]
    exact q
theorem b_can_be_empty (n : Nat) : ∀ ds h Q E, ScH h → Clo h.length Q → sp_can_be_empty (n + 1) ds h Q E → w_can_be_empty n (endsOf Q E) (slots0 ["tree", "inner"] ds) h := by
  rintro ds h Q E sc clo ⟨l, q⟩
  obtain ⟨d, rfl⟩ := one_of l
  cases hc : canF h (n + 1) d with
  | none => simp [f_can_be_empty, hc] at q
  | some b =>
    simp [f_can_be_empty, hc] at q
    unfold canF at hc
    split at hc
    · rename_i w r
      simp [w_can_be_empty, slots0, gIn_strs, flatD, eqF]
      split at hc
      · rename_i hw
        rw [if_pos hw]
        split at hc
        · rename_i y r
          split at hc
          · rename_i ds hs
            split at hc
            · rename_i h8
              simp at hc
              obtain ⟨bs, hm, rfl⟩ := hc
              simp [hs]
              refine lc_can (h := h) (by simp [wipeD]) (fun acc => sqOf_in hs _) hm h8 ?_
              rw [gAll_new, Get_some]
              exact clo.cut (.bl _) h _ rfl sc trivial q
            · cases hc
          · cases hc
        · cases hc
      · rename_i hw
        rw [if_neg hw]
        split at hc
        · rename_i hw2
          rw [if_pos hw2]
          split at hc
          · rename_i y r
            split at hc
            · rename_i ds hs
              split at hc
              · rename_i h8
                simp at hc
                obtain ⟨bs, hm, rfl⟩ := hc
                simp [hs]
                refine lc_can (h := h) (by simp [wipeD]) (fun acc => sqOf_in hs _) hm h8 ?_
                rw [gAny_new, Get_some]
                exact clo.cut (.bl _) h _ rfl sc trivial q
              · cases hc
            · cases hc
          · cases hc
        · rename_i hw2
          rw [if_neg hw2]
          split at hc
          · rename_i hw3
            rw [if_pos (by rcases hw3 with rfl | rfl <;> simp)]
            split at hc
            · rename_i y r
              simp [f_can_be_empty, hc, q]
            · cases hc
          · rename_i hw3
            rw [if_neg (fun z => hw3 (by rcases z with rfl | rfl <;> simp))]
            cases hc
            exact q
    · cases hc
/-! ### all trees in their order -/
def ordF (h : Hh) : Nat → D → Option (List D)
  | 0, _ => none
  | n + 1, d => match withinF h d with
    | some es => if es.length ≤ 8 then (mapO (ordF h n) es).map fun ls => d :: ls.flatten else none
    | none => none
def f_in_order (n : Nat) : List D → Hh → Option Out
  | [d], h => match ordF h n d with
    | some ls => if ls.length ≤ 1000 then some (.ok (.ref h.length) (h ++ [.lst ls])) else none
    | none => none
  | _, _ => none
abbrev sp_in_order (n : Nat) := spN 1 (f_in_order n)
def wb_in_order_0 (n : Nat) : WS := wExpr (wMt "list" gExtend (wVar 1) (wCons (wCall (sp_in_order n) (wCons (wVar 2) (wNil))) (wNil)))
def w_in_order (n : Nat) : WS := wSeq (wAsg (.nm 1) (wLst (wCons (wVar 0) (wNil)))) (wSeq (wFor (wiList (wCall sp_within (wCons (wVar 0) (wNil)))) (.nm 2) (wb_in_order_0 n)) (wRet (wVar 1)))
theorem ordF_in {h : Hh} (g : Hh) : ∀ {n : Nat} {d : D} {b : List D}, ordF h n d = some b → ordF (h ++ g) n d = some b
  | 0, _, _, e => by cases e
  | n + 1, d, b, e => by
    have ih : ∀ d b, ordF h n d = some b → ordF (h ++ g) n d = some b := fun d b e => ordF_in g e
    unfold ordF at e ⊢
    split at e
    · rename_i es hw
      rw [withinF_in g hw]
      simp only
      split at e
      · rename_i h8
        rw [if_pos h8]
        cases hm : mapO (ordF h n) es with
        | none => rw [hm] at e; cases e
        | some bs => rw [hm] at e; rw [mapO_mono ih hm]; exact e
      · cases e
    · cases e
theorem ScDs.append {n : Nat} : ∀ {as bs : List D}, ScDs n as → ScDs n bs → ScDs n (as ++ bs)
  | [], _, _, h => h
  | _ :: _, _, h, h' => ⟨h.1, h.2.append h'⟩
theorem sqOf_sc {h : Hh} {y : D} {ds : List D} (sc : ScH h) (sy : ScD h.length y) (e : sqOf h y = some ds) : ScDs h.length ds := by
  cases y with
  | tup es => cases e; exact sy
  | ref n =>
    simp only [sqOf, lsOf] at e
    cases z : h[n]? with
    | none => rw [z] at e; cases e
    | some o =>
      rw [z] at e
      have := sc o (List.mem_of_getElem? z)
      cases o with
      | lst xs => cases e; exact this
      | rol xs => cases e; exact this
      | _ => cases e
  | _ => cases e
theorem withinF_sc {h : Hh} {d : D} {ds : List D} (sc : ScH h) (sd : ScD h.length d) (e : withinF h d = some ds) : ScDs h.length ds := by
  unfold withinF at e
  split at e
  · rename_i w r
    split at e
    · split at e
      · rename_i y r; exact sqOf_sc sc sd.2.1 e
      · cases e
    · split at e
      · cases e; trivial
      · split at e
        · rename_i y r; cases e; exact ⟨sd.2.1, trivial⟩
        · cases e
  · cases e
theorem ordF_sc {h : Hh} (sc : ScH h) : ∀ {n : Nat} {d : D} {ls : List D}, ScD h.length d → ordF h n d = some ls → ScDs h.length ls
  | 0, _, _, _, e => by cases e
  | n + 1, d, ls, sd, e => by
    unfold ordF at e
    split at e
    · rename_i es hw
      split at e
      · cases hm : mapO (ordF h n) es with
        | none => rw [hm] at e; cases e
        | some bs =>
          rw [hm] at e; cases e
          refine ⟨sd, ?_⟩
          have go : ∀ {es : List D} {bs : List (List D)}, ScDs h.length es → mapO (ordF h n) es = some bs → ScDs h.length bs.flatten := by
            intro es
            induction es with
            | nil => intro bs _ e; cases e; trivial
            | cons x xs ih =>
              intro bs s e
              obtain ⟨b, bs', h1, h2, rfl⟩ := mapO_cons e
              exact (ordF_sc sc s.1 h1).append (ih s.2 h2)
          exact go (withinF_sc sc sd hw) hm
      · cases e
    · cases e
theorem io_body {n : Nat} {h g : Hh} {d x : D} {es acc b : List D} {B : DEnds} (h1 : ordF h n x = some b) (hl : (d :: acc ++ b).length ≤ 1000) (q : B.nx [some d, some (.ref h.length), some x] (h ++ (.lst (d :: (acc ++ b)) :: .lst es :: (g ++ [.lst b])))) :
    wb_in_order_0 n B [some d, some (.ref h.length), some x] (h ++ (.lst (d :: acc) :: .lst es :: g)) := by
  have hb : b.length ≤ 1000 := by simp at hl; omega
  have hf : ∀ g, f_in_order n [x] (h ++ g) = some (.ok (.ref (h ++ g).length) ((h ++ g) ++ [.lst b])) := fun g => by simp [f_in_order, ordF_in g h1, hb]
  have hx := gExtend_ok (h := h ++ O.lst (d :: acc) :: O.lst es :: (g ++ [O.lst b])) (n := h.length) (m := h.length + (g.length + 1 + 1)) (ds := d :: acc) (es := b) (by rw [ap_get0]; rfl) (by rw [ap_get]; simp [List.getElem?_append_right]) (by simp at hl ⊢; omega)
  simp [wb_in_order_0, hf, lsOf, ap_get0]
  rw [hx]
  simpa [ap_set0] using q
theorem io_loop {n : Nat} {h : Hh} {d : D} {es : List D} {B : DEnds} :
    ∀ (xs : List D) (bs : List (List D)) (acc : List D) (g : Hh) (s2 : Option D), mapO (ordF h n) xs = some bs → (d :: acc ++ bs.flatten).length ≤ 1000 → (∀ s2 g, B.nx [some d, some (.ref h.length), s2] (h ++ (.lst (d :: acc ++ bs.flatten) :: .lst es :: g))) →
      wLoop (fun h' => lsOf h' (h.length + 1) = some es) (.nm 2) (wb_in_order_0 n) B xs [some d, some (.ref h.length), s2] (h ++ (.lst (d :: acc) :: .lst es :: g))
  | [], bs, acc, g, s2, e, hl, q => by
    cases e
    refine ⟨ls_of (by rw [ap_get]; rfl), ?_⟩
    have := q s2 g
    simpa using this
  | x :: xs, _, acc, g, s2, e, hl, q => by
    obtain ⟨b, bs, h1, h2, rfl⟩ := mapO_cons e
    refine ⟨ls_of (by rw [ap_get]; rfl), [some d, some (.ref h.length), some x], by simp, ?_⟩
    refine io_body h1 (by simp at hl ⊢; omega) ?_
    exact io_loop xs bs (acc ++ b) (g ++ [O.lst b]) (some x) h2 (by simpa using hl) (fun s2 g => by simpa using q s2 g)
theorem b_in_order (n : Nat) : ∀ ds h Q E, ScH h → ScDs h.length ds → Clo h.length Q → sp_in_order (n + 1) ds h Q E → w_in_order n (endsOf Q E) (slots0 ["tree", "found", "inner"] ds) h := by
  rintro ds h Q E sc sds clo ⟨l, q⟩
  obtain ⟨d, rfl⟩ := one_of l
  cases hc : ordF h (n + 1) d with
  | none => simp [f_in_order, hc] at q
  | some ls =>
    simp only [f_in_order, hc] at q
    split at q
    · rename_i hl
      have sl := ordF_sc sc sds.1 hc
      unfold ordF at hc
      split at hc
      · rename_i es hw
        split at hc
        · cases hm : mapO (ordF h n) es with
          | none => rw [hm] at hc; cases hc
          | some bs =>
            rw [hm] at hc; cases hc
            have hf : ∀ g, f_within [d] (h ++ g) = some (.ok (.ref (h ++ g).length) ((h ++ g) ++ [.lst es])) := fun g => by simp [f_within, withinF_in g hw]
            have hls : lsOf (h ++ [O.lst [d], O.lst es]) (h.length + 1) = some es := ls_of (by rw [ap_get]; rfl)
            simp [w_in_order, slots0, hf, hls]
            refine io_loop es bs [] [] none hm (by simpa using hl) (fun s2 g => ?_)
            simp
            exact clo.pick 0 _ h _ rfl sc rfl sl q
        · cases hc
      · cases hc
    · exact q.elim
/-! ### repetitions of what can be empty -/
def repL (h : Hh) (n : Nat) : Nat → List D → Option (Option Nat)
  | _, [] => some none
  | i, d :: ds => match d with
    | .tup (.str w :: r) => if w = "many" ∨ w = "some" then (match r with
        | y :: _ => (match canF h n y with
          | some true => some (some i)
          | some false => repL h n (i + 1) ds
          | none => none)
        | [] => none) else repL h n (i + 1) ds
    | _ => none
def f_check_repeated : List D → Hh → Option Out
  | [d], h => match ordF h 20 d with
    | some ls => if ls.length ≤ 1000 then (repL h 20 0 ls).map fun r => match r with
      | none => .ok .non h
      | some i => .ex (xPat i "empty") h else none
    | none => none
  | _, _ => none
abbrev sp_check_repeated := spN 1 f_check_repeated
def wb_check_repeated_0 : WS := wIf (wAnd (wB (wOp gIn (wOp gIx (wVar 2) (wC (.int 0))) (wTup (wCons (wC (.str "many")) (wCons (wC (.str "some")) (wNil)))))) (wTru (wCall (sp_can_be_empty 20) (wCons (wOp gIx (wVar 2) (wC (.int 1))) (wNil))))) (wRaise "NoPattern" sp_NoPatternDD_initDD (wCons (wVar 1) (wCons (wC (.str "empty")) (wNil)))) (wNext)
def w_check_repeated : WS := wFor (wiEnum (wCons (wCall (sp_in_order 20) (wCons (wVar 0) (wNil))) (wNil))) (.tp [.nm 1, .nm 2]) wb_check_repeated_0
def enF (i : Nat) : List D → List D
  | [] => []
  | d :: ds => .tup [.int (i : Nat), d] :: enF (i + 1) ds
theorem enD_enF (ds : List D) : enD ds = enF 0 ds := by
  have : ∀ (ds : List D) (i : Nat), ds.mapIdx (fun j d => D.tup [.int ((i + j : Nat) : Int), d]) = enF i ds := by
    intro ds
    induction ds with
    | nil => intro i; rfl
    | cons d ds ih =>
      intro i
      rw [List.mapIdx_cons, enF]
      congr 1
      rw [← ih (i + 1)]
      congr 1
      funext j d
      congr 4
      omega
  have h0 := this ds 0
  simp only [Nat.zero_add] at h0
  exact h0
theorem cr_loop {h : Hh} {d0 : D} {ls : List D} {Q : PV} {E : PX} (hE : ∀ x g, ScX h.length x → E x h → E x (h ++ g)) (hQ : ∀ g, Q .non h → Q .non (h ++ g)) : ∀ (ds : List D) (i : Nat) (r : Option Nat) (s1 s2 : Option D), repL h 20 i ds = some r →
    (match r with | none => Q .non h | some i => E (xPat i "empty") h) →
    wLoop (fun h' => lsOf h' h.length = some ls) (.tp [.nm 1, .nm 2]) wb_check_repeated_0 (endsOf Q E) (enF i ds) [some d0, s1, s2] (h ++ [.lst ls])
  | [], i, r, s1, s2, e, q => by
    cases e
    exact ⟨ls_of (by rw [ap_get0]; rfl), hQ _ q⟩
  | d :: ds, i, r, s1, s2, e, q => by
    refine ⟨ls_of (by rw [ap_get0]; rfl), [some d0, some (.int (i : Nat)), some d], by simp, ?_⟩
    unfold repL at e
    split at e
    · rename_i w t
      have K := fun (z : repL h 20 (i + 1) ds = some r) => cr_loop (d0 := d0) (ls := ls) hE hQ ds (i + 1) r (some (.int (i : Nat))) (some (.tup (.str w :: t))) z q
      generalize wLoop (fun h' => lsOf h' h.length = some ls) (.tp [.nm 1, .nm 2]) wb_check_repeated_0 (endsOf Q E) (enF (i + 1) ds) = KK at K ⊢
      simp [wb_check_repeated_0, gIn_strs, flatD, eqF]
      split at e
      · rename_i hw
        rw [if_pos (by rcases hw with rfl | rfl <;> simp)]
        split at e
        · rename_i y t
          split at e
          · rename_i hc
            cases e
            simp [f_can_be_empty, canF_in _ hc]
            exact hE _ _ ⟨trivial, trivial, trivial⟩ q
          · rename_i hc
            simp [f_can_be_empty, canF_in _ hc]
            exact K e
          · cases e
        · cases e
      · rename_i hw
        rw [if_neg (fun z => hw (by rcases z with rfl | rfl <;> simp))]
        exact K e
    · cases e
theorem b_check_repeated : ∀ ds h Q E, ScH h → Clo h.length Q → CloX h.length E → sp_check_repeated ds h Q E → w_check_repeated (endsOf Q E) (slots0 ["tree", "at", "one"] ds) h := by
  rintro ds h Q E sc clo clx ⟨l, q⟩
  obtain ⟨d, rfl⟩ := one_of l
  simp only [f_check_repeated] at q
  split at q
  · rename_i ls ho
    split at q
    · rename_i hl
      cases hr : repL h 20 0 ls with
      | none => simp [hr] at q
      | some r =>
        have hf : f_in_order 20 [d] h = some (.ok (.ref h.length) (h ++ [.lst ls])) := by simp [f_in_order, ho, hl]
        have hls : lsOf (h ++ [O.lst ls]) h.length = some ls := ls_of (by rw [ap_get0]; rfl)
        simp [w_check_repeated, slots0, hf, hls]
        rw [enD_enF]
        refine cr_loop (fun x g sx e => clx x h g rfl sc sx e) (fun g e => clo.cut _ h g rfl sc trivial e) ls 0 r none none hr ?_
        rw [hr] at q
        cases r with
        | none => exact q
        | some i => exact q
    · exact q.elim
  · exact q.elim
end EV

namespace EV
open PySem PySem.Spec PyProof.Rows L2
def SameSq (h h' : Hh) : Prop := ∀ y ds, sqOf h y = some ds → sqOf h' y = some ds
theorem SameSq.app (h g : Hh) : SameSq h (h ++ g) := fun y ds e => sqOf_in e g
theorem SameSq.trans {h h1 h2 : Hh} (a : SameSq h h1) (b : SameSq h1 h2) : SameSq h h2 := fun y ds e => b y ds (a y ds e)
theorem SameSq.ins {h : Hh} {n : Nat} {C C' : Str} {fs fs' : List (Str × D)} (e : h[n]? = some (.ins C fs)) : SameSq h (h.set n (.ins C' fs')) := fun y ds z => by
  cases y with
  | ref m =>
    simp only [sqOf, lsOf] at z ⊢
    by_cases hm : n = m
    · subst hm; rw [e] at z; cases z
    · rw [List.getElem?_set_ne hm]; exact z
  | _ => exact z
theorem withinF_sq {h h' : Hh} {d : D} {ds : List D} (S : SameSq h h') (e : withinF h d = some ds) : withinF h' d = some ds := by
  unfold withinF at e ⊢
  split at e
  · rename_i w r
    split at e
    · rename_i hw
      rw [if_pos hw]
      split at e
      · exact S _ _ e
      · cases e
    · rename_i hw
      rw [if_neg hw]
      exact e
  · cases e
theorem ordF_sq {h h' : Hh} (S : SameSq h h') : ∀ {n : Nat} {d : D} {b : List D}, ordF h n d = some b → ordF h' n d = some b
  | 0, _, _, e => by cases e
  | n + 1, d, b, e => by
    have ih : ∀ d b, ordF h n d = some b → ordF h' n d = some b := fun d b e => ordF_sq S e
    unfold ordF at e ⊢
    split at e
    · rename_i es hw
      rw [withinF_sq S hw]
      simp only
      split at e
      · rename_i h8
        rw [if_pos h8]
        cases hm : mapO (ordF h n) es with
        | none => rw [hm] at e; cases e
        | some bs => rw [hm] at e; rw [mapO_mono ih hm]; exact e
      · cases e
    · cases e
/-! ### a tree with tuples in the place of rows -/
def setF (h : Hh) : Nat → D → Option D
  | 0, _ => none
  | n + 1, d => match d with
    | .tup (.str w :: r) => if w = "row" ∨ w = "either" then (match r with | y :: _ => (match sqOf h y with | some ds => if ds.length ≤ 8 then (mapO (setF h n) ds).map fun es => .tup [.str w, .tup es] else none | none => none) | [] => none)
      else if w = "empty" ∨ w = "one" then some d
      else (match r with | y :: t => if t.length ≤ 8 then (setF h n y).map fun y' => .tup (.str w :: y' :: t) else none | [] => none)
    | _ => none
def f_settled_tree (n : Nat) : List D → Hh → Option Out
  | [d], h => (setF h n d).map fun b => .ok b h
  | _, _ => none
abbrev sp_settled_tree (n : Nat) := spN 1 (f_settled_tree n)
def w_settled_tree (n : Nat) : WS := wSeq (wIf (wB (wOp gIn (wOp gIx (wVar 0) (wC (.int 0))) (wTup (wCons (wC (.str "row")) (wCons (wC (.str "either")) (wNil)))))) (wRet (wTup (wCons (wOp gIx (wVar 0) (wC (.int 0))) (wCons (wCa gTuple (wCons (wLc (wiSq (wOp gIx (wVar 0) (wC (.int 1)))) [1] (.nm 1) (wYes) (wCall (sp_settled_tree n) (wCons (wVar 1) (wNil)))) (wNil))) (wNil))))) (wNext)) (wSeq (wIf (wB (wOp gIn (wOp gIx (wVar 0) (wC (.int 0))) (wTup (wCons (wC (.str "empty")) (wCons (wC (.str "one")) (wNil)))))) (wRet (wVar 0)) (wNext)) (wRet (wOp gAdd (wTup (wCons (wOp gIx (wVar 0) (wC (.int 0))) (wCons (wCall (sp_settled_tree n) (wCons (wOp gIx (wVar 0) (wC (.int 1))) (wNil))) (wNil)))) (wSl (wVar 0) (wPart (wC (.int 2))) (wNoPart)))))
theorem setF_sq {h h' : Hh} (S : SameSq h h') : ∀ {n : Nat} {d b : D}, setF h n d = some b → setF h' n d = some b
  | 0, _, _, e => by cases e
  | n + 1, d, b, e => by
    have ih : ∀ d b, setF h n d = some b → setF h' n d = some b := fun d b e => setF_sq S e
    unfold setF at e ⊢
    split at e
    · rename_i w r
      split at e
      · rename_i hw
        rw [if_pos hw]
        split at e
        · rename_i y r
          split at e
          · rename_i ds hs
            split at e
            · rename_i h8
              simp only [S _ _ hs]
              rw [if_pos h8]
              cases hm : mapO (setF h n) ds with
              | none => rw [hm] at e; cases e
              | some bs => rw [hm] at e; rw [mapO_mono ih hm]; exact e
            · cases e
          · cases e
        · cases e
      · rename_i hw
        rw [if_neg hw]
        split at e
        · rename_i hw2
          rw [if_pos hw2]
          exact e
        · rename_i hw2
          rw [if_neg hw2]
          split at e
          · rename_i y t
            split at e
            · rename_i ht
              rw [if_pos ht]
              cases hm : setF h n y with
              | none => rw [hm] at e; cases e
              | some y' => rw [hm] at e; rw [ih _ _ hm]; exact e
            · cases e
          · cases e
    · cases e
theorem mapO_sc {h : Hh} {f : D → Option D} (hf : ∀ d b, ScD h.length d → f d = some b → ScD h.length b) : ∀ {es bs : List D}, ScDs h.length es → mapO f es = some bs → ScDs h.length bs
  | [], _, _, e => by cases e; trivial
  | x :: xs, _, s, e => by
    obtain ⟨b, bs', h1, h2, rfl⟩ := mapO_cons e
    exact ⟨hf x b s.1 h1, mapO_sc hf s.2 h2⟩
theorem setF_sc {h : Hh} (sc : ScH h) : ∀ {n : Nat} {d b : D}, ScD h.length d → setF h n d = some b → ScD h.length b
  | 0, _, _, _, e => by cases e
  | n + 1, d, b, sd, e => by
    unfold setF at e
    split at e
    · rename_i w r
      split at e
      · split at e
        · rename_i y r
          split at e
          · rename_i ds hs
            split at e
            · cases hm : mapO (setF h n) ds with
              | none => rw [hm] at e; cases e
              | some bs =>
                rw [hm] at e; cases e
                exact ⟨trivial, mapO_sc (fun d b s e => setF_sc sc s e) (sqOf_sc sc sd.2.1 hs) hm, trivial⟩
            · cases e
          · cases e
        · cases e
      · split at e
        · cases e; exact sd
        · split at e
          · rename_i y t
            split at e
            · cases hm : setF h n y with
              | none => rw [hm] at e; cases e
              | some y' => rw [hm] at e; cases e; exact ⟨trivial, setF_sc sc sd.2.1 hm, sd.2.2⟩
            · cases e
          · cases e
    · cases e
theorem cut2 (a b : D) (t : List D) : cutD (a :: b :: t) (some 2) none = t := by
  unfold cutD
  rw [HT.sIx_none, show HT.sIx (a :: b :: t).length 0 (some 2) = min 2 (a :: b :: t).length from HT.sIx_nat _ 0 2]
  simp
theorem b_settled_tree (n : Nat) : ∀ ds h Q E, ScH h → ScDs h.length ds → Clo h.length Q → sp_settled_tree (n + 1) ds h Q E → w_settled_tree n (endsOf Q E) (slots0 ["tree", "inner"] ds) h := by
  rintro ds h Q E sc sds clo ⟨l, q⟩
  obtain ⟨d, rfl⟩ := one_of l
  cases hc : setF h (n + 1) d with
  | none => simp [f_settled_tree, hc] at q
  | some b =>
    have sb := setF_sc sc sds.1 hc
    simp [f_settled_tree, hc] at q
    unfold setF at hc
    split at hc
    · rename_i w r
      simp [w_settled_tree, slots0, gIn_strs, flatD, eqF]
      split at hc
      · rename_i hw
        rw [if_pos (by rcases hw with rfl | rfl <;> simp)]
        split at hc
        · rename_i y r
          split at hc
          · rename_i ds hs
            split at hc
            · rename_i h8
              simp at hc
              obtain ⟨bs, hm, rfl⟩ := hc
              simp [hs]
              refine lc_map (h := h) (fun d => match setF h n d with | some b => b | none => .non) (fun acc => sqOf_in hs _) ds (fun d hd => ⟨_, asgD_nm, fun acc Q' E' q => ?_⟩) (by simp; omega) ?_
              · obtain ⟨b, eb⟩ := mapO_get hm hd
                simp [f_settled_tree, setF_sq (SameSq.app h _) eb, wipeD]
                simpa [eb] using q
              · rw [mapO_map (j := id) (fun a b e => by simp [e]) hm]
                simp [gTuple, lsOf]
                exact clo.cut _ h _ rfl sc sb q
            · cases hc
          · cases hc
        · cases hc
      · rename_i hw
        rw [if_neg (fun z => hw (by rcases z with rfl | rfl <;> simp))]
        split at hc
        · rename_i hw2
          cases hc
          rw [if_pos (by rcases hw2 with rfl | rfl <;> simp)]
          exact q
        · rename_i hw2
          rw [if_neg (fun z => hw2 (by rcases z with rfl | rfl <;> simp))]
          split at hc
          · rename_i y t
            split at hc
            · rename_i ht
              simp at hc
              obtain ⟨y', hm, rfl⟩ := hc
              simp [f_settled_tree, hm, gSl, cut2, gAdd]
              rw [if_pos (by omega)]
              simpa using q
            · cases hc
          · cases hc
    · cases hc
/-! ### Pattern -/
structure PatR where
  tree : D
  groups : Nat
  ones : List D
def tagB (t : Str) : D → Bool
  | .tup (.str w :: _) => decide (w = t)
  | _ => false
def isTag : D → Bool
  | .tup (.str w :: r) => !decide (w = "one") || !r.isEmpty
  | _ => false
def sndD : D → D
  | .tup (_ :: y :: _) => y
  | _ => .non
def patF (h : Hh) (L d : D) : Option (Sum XD PatR) := match f_check_letters [L] h with
  | some (.ex x _) => some (.inl x)
  | some (.ok _ _) => (match f_check_tree [L, d] h with
    | some (.ex x _) => some (.inl x)
    | some (.ok _ _) => (match f_check_repeated [d] h with
      | some (.ex x _) => some (.inl x)
      | some (.ok _ _) => (match setF h 20 d with
        | some t => (match ordF h 20 t with
          | some ls => if decide (ls.length ≤ 1000) && ls.all isTag then some (.inr ⟨t, (ls.filter (tagB "group")).length, (ls.filter (tagB "one")).map sndD⟩) else none
          | none => none)
        | none => none)
      | none => none)
    | none => none)
  | none => none
def patO (L : D) (r : PatR) : O := .ins "Pattern" [("letters", L), ("tree", r.tree), ("groups", .int r.groups), ("ones", .tup r.ones)]
def patRes (Q : PV) (E : PX) (h : Hh) (n : Nat) (L : D) : Sum XD PatR → Prop
  | .inl x => E x h
  | .inr r => Q .non (h.set n (patO L r))
def sp_PatternDD_initDD : SpD := fun ds h Q E => ∃ n L d r, ds = [.ref n, L, d] ∧ h[n]? = some (.ins "Pattern" []) ∧ patF h L d = some r ∧ patRes Q E h n L r
theorem mono_patInit : MonoSp sp_PatternDD_initDD := fun ds h Q Q' E E' hq he ⟨n, L, d, r, a, b, c, q⟩ => ⟨n, L, d, r, a, b, c, by
  cases r with
  | inl x => exact he _ _ q
  | inr r => exact hq _ _ q⟩
def w_PatternDD_initDD : WS := wSeq (wExpr (wCall sp_check_letters (wCons (wVar 1) (wNil)))) (wSeq (wExpr (wCall sp_check_tree (wCons (wVar 1) (wCons (wVar 2) (wNil))))) (wSeq (wExpr (wCall sp_check_repeated (wCons (wVar 2) (wNil)))) (wSeq (wSetF "Pattern" "letters" (wVar 0) (wVar 1)) (wSeq (wSetF "Pattern" "tree" (wVar 0) (wCall (sp_settled_tree 20) (wCons (wVar 2) (wNil)))) (wSeq (wAsg (.nm 3) (wCall (sp_in_order 20) (wCons (wUn (kFld "Pattern" "tree") (wVar 0)) (wNil)))) (wSeq (wSetF "Pattern" "groups" (wVar 0) (wCa gLen (wCons (wLc (wiList (wVar 3)) [4] (.nm 4) (wB (wOp gEq (wOp gIx (wVar 4) (wC (.int 0))) (wC (.str "group")))) (wVar 4)) (wNil)))) (wSetF "Pattern" "ones" (wVar 0) (wCa gTuple (wCons (wLc (wiList (wVar 3)) [4] (.nm 4) (wB (wOp gEq (wOp gIx (wVar 4) (wC (.int 0))) (wC (.str "one")))) (wOp gIx (wVar 4) (wC (.int 1)))) (wNil))))))))))
theorem out_heap {f : List D → Hh → Option Out} : True := trivial
theorem fcl_out {L : D} {h : Hh} {o : Out} (e : f_check_letters [L] h = some o) : (∃ x, o = .ex x h) ∨ o = .ok .non h := by
  simp only [f_check_letters] at e
  split at e
  · cases e
    split
    · exact .inr rfl
    · exact .inl ⟨_, rfl⟩
  · cases e
theorem fct_out {L d : D} {h : Hh} {o : Out} (e : f_check_tree [L, d] h = some o) : (∃ x, o = .ex x h) ∨ o = .ok .non h := by
  cases L with
  | str z =>
    simp only [f_check_tree] at e
    cases hc : chkL h z 100 [(d, 0)] ⟨0, 0, 0⟩ with
    | none => rw [hc] at e; cases e
    | some r =>
      rw [hc] at e
      cases r with
      | none => cases e; exact .inr rfl
      | some p => cases e; exact .inl ⟨_, rfl⟩
  | _ => simp [f_check_tree] at e
theorem fcr_out {d : D} {h : Hh} {o : Out} (e : f_check_repeated [d] h = some o) : (∃ x, o = .ex x h) ∨ o = .ok .non h := by
  simp only [f_check_repeated] at e
  split at e
  · split at e
    · rename_i ls ho hl
      cases hr : repL h 20 0 ls with
      | none => rw [hr] at e; cases e
      | some r =>
        rw [hr] at e
        cases r with
        | none => cases e; exact .inr rfl
        | some p => cases e; exact .inl ⟨_, rfl⟩
    · cases e
  · cases e
theorem isTag_ex {d : D} (h : isTag d = true) : ∃ w r, d = .tup (.str w :: r) ∧ (w = "one" → ∃ y t, r = y :: t) := by
  cases d with
  | tup ds =>
    cases ds with
    | nil => simp [isTag] at h
    | cons x r =>
      cases x with
      | str w =>
        refine ⟨w, r, rfl, fun hw => ?_⟩
        cases r with
        | nil => simp [isTag, hw] at h
        | cons y t => exact ⟨y, t, rfl⟩
      | _ => simp [isTag] at h
  | _ => simp [isTag] at h
theorem ScH.set {h : Hh} {n : Nat} {o : O} (sc : ScH h) (so : ScO h.length o) : ScH (h.set n o) := fun x hx => by
  rw [List.length_set]
  rcases List.mem_or_eq_of_mem_set hx with z | z
  · exact sc x z
  · rw [z]; exact so
theorem sndD_sc {n : Nat} {d : D} (s : ScD n d) : ScD n (sndD d) := by
  unfold sndD
  split
  · exact s.2.1
  · trivial
theorem ScDs.of {n : Nat} : ∀ {ds : List D}, (∀ d ∈ ds, ScD n d) → ScDs n ds
  | [], _ => trivial
  | d :: ds, h => ⟨h d (by simp), ScDs.of fun x hx => h x (by simp [hx])⟩
theorem b_patInit : ∀ ds h Q E, ScH h → ScDs h.length ds → Clo h.length Q → CloX h.length E → sp_PatternDD_initDD ds h Q E → w_PatternDD_initDD (endsOf Q E) (slots0 ["self", "letters", "tree", "every", "one"] ds) h := by
  rintro ds h Q E sc sds clo clx ⟨n, L, d, r, rfl, hn, hp, q⟩
  have hI := in_of hn
  unfold patF at hp
  cases h1 : f_check_letters [L] h with
  | none => rw [h1] at hp; cases hp
  | some o1 =>
    rw [h1] at hp
    rcases fcl_out h1 with ⟨x, rfl⟩ | rfl
    · cases hp
      simp [w_PatternDD_initDD, slots0, h1]
      exact q
    · simp only at hp
      cases h2 : f_check_tree [L, d] h with
      | none => rw [h2] at hp; cases hp
      | some o2 =>
        rw [h2] at hp
        rcases fct_out h2 with ⟨x, rfl⟩ | rfl
        · cases hp
          simp [w_PatternDD_initDD, slots0, h1, h2]
          exact q
        · simp only at hp
          cases h3 : f_check_repeated [d] h with
          | none => rw [h3] at hp; cases hp
          | some o3 =>
            rw [h3] at hp
            rcases fcr_out h3 with ⟨x, rfl⟩ | rfl
            · cases hp
              simp [w_PatternDD_initDD, slots0, h1, h2, h3]
              exact q
            · simp only at hp
              cases h4 : setF h 20 d with
              | none => rw [h4] at hp; cases hp
              | some t =>
                rw [h4] at hp
                simp only at hp
                cases h5 : ordF h 20 t with
                | none => rw [h5] at hp; cases hp
                | some ls =>
                  rw [h5] at hp
                  simp only at hp
                  split at hp
                  · rename_i hb
                    simp at hb
                    obtain ⟨hl, ht⟩ := hb
                    cases hp
                    have s4 := fun fs => setF_sq (SameSq.ins (C' := "Pattern") (fs' := fs) hn) h4
                    have s5 := fun fs => ordF_sq (SameSq.ins (C' := "Pattern") (fs' := fs) hn) h5
                    have f4 : ∀ fs, f_settled_tree 20 [d] (h.set n (.ins "Pattern" fs)) = some (.ok t (h.set n (.ins "Pattern" fs))) := fun fs => by simp [f_settled_tree, s4 fs]
                    have f5 : ∀ fs, f_in_order 20 [t] (h.set n (.ins "Pattern" fs)) = some (.ok (.ref h.length) ((h.set n (.ins "Pattern" fs)) ++ [.lst ls])) := fun fs => by simp [f_in_order, s5 fs, hl]
                    simp [w_PatternDD_initDD, slots0, h1, h2, h3, hn, hI, putD, f4, f5, List.lookup]
                    have hls : ∀ fs g, lsOf ((h.set n (.ins "Pattern" fs)) ++ (.lst ls :: g)) h.length = some ls := fun fs g => ls_of (by rw [set_get0]; rfl)
                    rw [hls]
                    simp
                    refine lc_gen2 (h := h.set n (.ins "Pattern" [("letters", L), ("tree", t)]) ++ [.lst ls]) id (tagB "group") (by simp) (by simp) (fun acc => by rw [List.append_assoc]; exact hls _ _) (fun x hx => ?_) (by simp; omega) ?_
                    · obtain ⟨w, r, rfl, _⟩ := isTag_ex (ht x hx)
                      exact ⟨_, asgD_nm, fun g Q' E' q => by simpa [wipeD, tagB] using q, fun _ acc Q' E' q => by simpa [wipeD] using q⟩
                    · have e1 : (h.set n (.ins "Pattern" [("letters", L), ("tree", t)]) ++ [O.lst ls] ++ [O.lst ((ls.filter (tagB "group")).map id)]) = h.set n (.ins "Pattern" [("letters", L), ("tree", t)]) ++ [O.lst ls, O.lst (ls.filter (tagB "group"))] := by simp
                      have e2 : lsOf (h.set n (.ins "Pattern" [("letters", L), ("tree", t)]) ++ [O.lst ls, O.lst (ls.filter (tagB "group"))]) (h.length + 1) = some (ls.filter (tagB "group")) := ls_of (by rw [set_get]; rfl)
                      rw [e1]
                      simp [gLen, e2, hI, putD, hls]
                      refine lc_gen2 (h := h.set n (.ins "Pattern" [("letters", L), ("tree", t), ("groups", .int ((ls.filter (tagB "group")).length : Nat))]) ++ [.lst ls, .lst (ls.filter (tagB "group"))]) sndD (tagB "one") (by simp) (by simp) (fun acc => by rw [List.append_assoc]; exact hls _ _) (fun x hx => ?_) (by simp; omega) ?_
                      · obtain ⟨w, r, rfl, h1⟩ := isTag_ex (ht x hx)
                        refine ⟨_, asgD_nm, fun g Q' E' q => by simpa [wipeD, tagB] using q, fun hp acc Q' E' q => ?_⟩
                        obtain ⟨y, tt, rfl⟩ := h1 (by simpa [tagB] using hp)
                        simpa [wipeD, sndD] using q
                      · have e3 : ∀ zs, lsOf (h.set n (.ins "Pattern" [("letters", L), ("tree", t), ("groups", .int ((ls.filter (tagB "group")).length : Nat))]) ++ [O.lst ls, O.lst (ls.filter (tagB "group")), O.lst zs]) (h.length + 2) = some zs := fun zs => ls_of (by rw [set_get]; rfl)
                        simp [gTuple, e3, hI, putD]
                        have q2 : Q .non (h.set n (patO L ⟨t, (ls.filter (tagB "group")).length, (ls.filter (tagB "one")).map sndD⟩)) := q
                        have hlen : (h.set n (patO L ⟨t, (ls.filter (tagB "group")).length, (ls.filter (tagB "one")).map sndD⟩)).length = h.length := by simp
                        refine clo.cut .non _ _ hlen ?_ trivial q2
                        refine sc.set ⟨sds.2.1, setF_sc sc sds.2.2.1 h4, trivial, ScDs.of fun x hx => ?_, trivial⟩
                        obtain ⟨y, hy, rfl⟩ := List.mem_map.mp hx
                        exact sndD_sc ((ordF_sc sc (setF_sc sc sds.2.2.1 h4) h5).mem (List.mem_filter.mp hy).1)
                  · cases hp
end EV

namespace EV
open PySem PySem.Spec PyProof.Rows L2
/-! ### levels and the reader, as data -/
structure Lv where
  g : Bool
  cs : List D
  ls : List D
structure Rs where
  pos : Nat
  lv : List Lv
  bh : Nat
def rowD : List D → D
  | [] => .tup [.str "empty"]
  | [t] => t
  | a :: b :: r => .tup [.str "row", .tup (a :: b :: r)]
def endRow (l : Lv) : Lv := ⟨l.g, l.cs ++ [rowD l.ls], []⟩
def altD : List D → D
  | [c] => c
  | cs => .tup [.str "either", .tup cs]
def finD (l : Lv) : D := if l.g then .tup [.str "group", altD (endRow l).cs] else altD (endRow l).cs
def lvO (g : Bool) (c e : Nat) : O := .ins "Level" [("is_group", .bl g), ("choices", .ref c), ("last", .ref e)]
def rdO (L T : Str) (v a b : Nat) : O := .ins "Reader" [("letters", .str L), ("text", .str T), ("at", .int a), ("levels", .ref v), ("behind", .int b)]
/-- all but the numbers of S stay -/
structure Chg (S : List Nat) (h h' : Hh) : Prop where
  le : h.length ≤ h'.length
  eq : ∀ i, i < h.length → i ∉ S → h'[i]? = h[i]?
theorem Chg.refl {S : List Nat} {h : Hh} : Chg S h h := ⟨Nat.le_refl _, fun _ _ _ => rfl⟩
theorem Chg.trans {S : List Nat} {h h1 h2 : Hh} (a : Chg S h h1) (b : Chg S h1 h2) : Chg S h h2 := ⟨Nat.le_trans a.le b.le, fun i hi hn => (b.eq i (Nat.lt_of_lt_of_le hi a.le) hn).trans (a.eq i hi hn)⟩
theorem Chg.mono {S S' : List Nat} {h h' : Hh} (a : Chg S h h') (hs : ∀ i ∈ S, i ∈ S') : Chg S' h h' := ⟨a.le, fun i hi hn => a.eq i hi fun z => hn (hs i z)⟩
theorem Chg.set {S : List Nat} {h : Hh} {i : Nat} {o : O} (hi : i ∈ S) : Chg S h (h.set i o) := ⟨by simp, fun j hj hn => by
    have ne : i ≠ j := fun z => hn (by rw [← z]; exact hi)
    rw [List.getElem?_set_ne ne]⟩
theorem Chg.app {S : List Nat} {h g : Hh} : Chg S h (h ++ g) := ⟨by simp, fun j hj hn => List.getElem?_append_left hj⟩
theorem Chg.get {S : List Nat} {h h' : Hh} {i : Nat} {o : O} (a : Chg S h h') (e : h[i]? = some o) (hn : i ∉ S) : h'[i]? = some o := by rw [a.eq i (get_lt e) hn, e]
/-! ### Level -/
def sp_LevelDD_initDD : SpD := fun ds h Q _ => ∃ n g, ds = [.ref n, .bl g] ∧ h[n]? = some (.ins "Level" []) ∧ Q .non ((h.set n (lvO g h.length (h.length + 1))) ++ [O.lst [], O.lst []])
theorem mono_lvInit : MonoSp sp_LevelDD_initDD := fun ds h Q Q' E E' hq he ⟨n, g, a, b, q⟩ => ⟨n, g, a, b, hq _ _ q⟩
def w_LevelDD_initDD : WS := wSeq (wSetF "Level" "is_group" (wVar 0) (wVar 1)) (wSeq (wSetF "Level" "choices" (wVar 0) (wLst (wNil))) (wSetF "Level" "last" (wVar 0) (wLst (wNil))))
theorem b_lvInit : ∀ ds h Q E, sp_LevelDD_initDD ds h Q E → w_LevelDD_initDD (endsOf Q E) (slots0 ["self", "is_group"] ds) h := by
  rintro ds h Q E ⟨n, g, rfl, hn, q⟩
  have hI := in_of hn
  simpa [w_LevelDD_initDD, slots0, hn, hI, putD, lvO] using q
structure LvOk (h : Hh) (k c e : Nat) (l : Lv) : Prop where
  k : h[k]? = some (lvO l.g c e)
  c : h[c]? = some (.lst l.cs)
  e : h[e]? = some (.lst l.ls)
def sp_Level_end_row : SpD := fun ds h Q _ => ∃ k c e l, ds = [.ref k] ∧ LvOk h k c e l ∧ [k, c, e].Nodup ∧ l.cs.length < 10000 ∧ l.ls.length < 10000 ∧ ∀ h' e', LvOk h' k c e' (endRow l) → Chg [k, c] h h' → h.length ≤ e' → Q .non h'
theorem mono_endRow : MonoSp sp_Level_end_row := fun ds h Q Q' E E' hq he ⟨k, c, e, l, a, b, d, f, f2, q⟩ => ⟨k, c, e, l, a, b, d, f, f2, fun h' e' x y z => hq _ _ (q h' e' x y z)⟩
def w_Level_end_row : WS := wSeq (wIf (wB (wOp gEq (wCa gLen (wCons (wUn (kFld "Level" "last") (wVar 0)) (wNil))) (wC (.int 1)))) (wExpr (wMt "list" gAppend (wUn (kFld "Level" "choices") (wVar 0)) (wCons (wOp gIx (wUn (kFld "Level" "last") (wVar 0)) (wC (.int 0))) (wNil)))) (wExpr (wMt "list" gAppend (wUn (kFld "Level" "choices") (wVar 0)) (wCons (wIfE (wB (wOp gNe (wUn (kFld "Level" "last") (wVar 0)) (wLst (wNil)))) (wTup (wCons (wC (.str "row")) (wCons (wCa gTuple (wCons (wUn (kFld "Level" "last") (wVar 0)) (wNil))) (wNil)))) (wTup (wCons (wC (.str "empty")) (wNil)))) (wNil))))) (wSetF "Level" "last" (wVar 0) (wLst (wNil)))
theorem b_endRow : ∀ ds h Q E, sp_Level_end_row ds h Q E → w_Level_end_row (endsOf Q E) (slots0 ["self"] ds) h := by
  rintro ds h Q E ⟨k, c, e, l, rfl, o, nd, hl, hl2, q⟩
  have hk : h[k]? = some (.ins "Level" [("is_group", .bl l.g), ("choices", .ref c), ("last", .ref e)]) := o.k
  have hc := o.c
  have he := o.e
  have Ik := in_of hk
  have Ic := in_of hc
  have Ie := in_of he
  have lsc := ls_of hc
  have lse := ls_of he
  simp at nd
  obtain ⟨⟨kc, ke⟩, ce⟩ := nd
  have ck : ¬ c = k := fun z => kc z.symm
  have fin : ∀ g : Hh, Q .non (((h ++ g).set c (O.lst (l.cs ++ [rowD l.ls])) ++ [O.lst []]).set k (lvO l.g c (h ++ g).length)) := fun g => by
    have Ik2 : In ((h ++ g).set c (O.lst (l.cs ++ [rowD l.ls]))) k := by rw [in_set]; exact in_app Ik
    refine q _ (h ++ g).length ⟨?_, ?_, ?_⟩ ?_ (by simp)
    · rw [get_set_self (in_app Ik2)]; rfl
    · rw [List.getElem?_set_ne kc, get_app_in (by rw [in_set]; exact in_app Ic), get_set_self (in_app Ic)]; rfl
    · rw [List.getElem?_set_ne (by have := Ik; unfold In at this; simp; omega)]
      have := ap_get0 ((h ++ g).set c (O.lst (l.cs ++ [rowD l.ls]))) [O.lst []]
      rw [List.length_set] at this
      rw [this]; rfl
    · exact (Chg.app.trans (Chg.set (by simp))).trans (Chg.app.trans (Chg.set (by simp)))
  match hls : l.ls with
  | [t] =>
    have f0 := fin []
    rw [hls] at lse
    simp [hls, rowD, lvO] at f0
    simp [w_Level_end_row, slots0, hk, List.lookup, gLen, lse, gIx, lsc, gAppend_ok hc (by simp; omega), Ic, Ik, ck, kc, putD, hls]
    simpa [set_app_in, Ik, Ic] using f0
  | [] =>
    have f0 := fin [O.lst []]
    rw [hls] at lse
    simp [hls, rowD, lvO] at f0
    have ne := gNe_empty (h := h ++ [O.lst []]) (m := e) (n := h.length) (ds := []) (lsOf_in lse _) (ls_of (by rw [ap_get0]; rfl))
    have ap := gAppend_ok (h := h ++ [O.lst []]) (n := c) (ds := l.cs) (x := .tup [.str "empty"]) (by rw [get_app_in Ic]; exact hc) (by simp; omega)
    simp [w_Level_end_row, slots0, hk, List.lookup, gLen, lse, lsc, Ic, Ik, ck, kc, putD, ne, lsOf_in lsc, ap]
    simpa [set_app_in, Ik, Ic] using f0
  | a :: b :: r =>
    have f0 := fin [O.lst []]
    rw [hls] at lse hl2
    simp [hls, rowD, lvO] at f0
    have ne := gNe_empty (h := h ++ [O.lst []]) (m := e) (n := h.length) (ds := a :: b :: r) (lsOf_in lse _) (ls_of (by rw [ap_get0]; rfl))
    have ap := gAppend_ok (h := h ++ [O.lst []]) (n := c) (ds := l.cs) (x := .tup [.str "row", .tup (a :: b :: r)]) (by rw [get_app_in Ic]; exact hc) (by simp; omega)
    have tu : gTuple [.ref e] (h ++ [O.lst []]) = some (.tup (a :: b :: r), h ++ [O.lst []]) := by simp only [gTuple, lsOf_in lse]
    have n1 : ¬ ((r.length : Int) + 1 + 1 = 1) := by omega
    simp [w_Level_end_row, slots0, hk, List.lookup, gLen, lse, lsc, Ic, Ik, ck, kc, putD, ne, lsOf_in lsc, ap, tu, n1]
    simpa [set_app_in, Ik, Ic] using f0
def sp_Level_finished : SpD := fun ds h Q _ => ∃ k c e l, ds = [.ref k] ∧ LvOk h k c e l ∧ [k, c, e].Nodup ∧ l.cs.length < 10000 ∧ l.ls.length < 10000 ∧ ∀ h' e', LvOk h' k c e' (endRow l) → Chg [k, c] h h' → h.length ≤ e' → Q (finD l) h'
theorem mono_lvFin : MonoSp sp_Level_finished := fun ds h Q Q' E E' hq he ⟨k, c, e, l, a, b, d, f, f2, q⟩ => ⟨k, c, e, l, a, b, d, f, f2, fun h' e' x y z => hq _ _ (q h' e' x y z)⟩
def w_Level_finished : WS := wSeq (wExpr (wMeth "Level" "end_row" sp_Level_end_row (wVar 0) wNil)) (wSeq (wAsg (.nm 1) (wIfE (wB (wOp gEq (wCa gLen (wCons (wUn (kFld "Level" "choices") (wVar 0)) (wNil))) (wC (.int 1)))) (wOp gIx (wUn (kFld "Level" "choices") (wVar 0)) (wC (.int 0))) (wTup (wCons (wC (.str "either")) (wCons (wCa gTuple (wCons (wUn (kFld "Level" "choices") (wVar 0)) (wNil))) (wNil)))))) (wRet (wIfE (wTru (wUn (kFld "Level" "is_group") (wVar 0))) (wTup (wCons (wC (.str "group")) (wCons (wVar 1) (wNil)))) (wVar 1))))
theorem altD_one {cs : List D} (h : cs.length = 1) : ∃ c, cs = [c] ∧ altD cs = c := by
  obtain ⟨c, rfl⟩ := one_of h
  exact ⟨c, rfl, rfl⟩
theorem altD_other {cs : List D} (h : ¬ cs.length = 1) : altD cs = .tup [.str "either", .tup cs] := by
  match cs, h with
  | [], _ => rfl
  | [_], h => exact absurd rfl h
  | _ :: _ :: _, _ => rfl
theorem b_lvFin : ∀ ds h Q E, sp_Level_finished ds h Q E → w_Level_finished (endsOf Q E) (slots0 ["self", "found"] ds) h := by
  rintro ds h Q E ⟨k, c, e, l, rfl, o, nd, hl, hl2, q⟩
  have hk : h[k]? = some (.ins "Level" [("is_group", .bl l.g), ("choices", .ref c), ("last", .ref e)]) := o.k
  simp [w_Level_finished, slots0, hk]
  refine ⟨k, c, e, l, rfl, o, nd, hl, hl2, fun h' e' o' ch he' => ?_⟩
  have hk' : h'[k]? = some (.ins "Level" [("is_group", .bl l.g), ("choices", .ref c), ("last", .ref e')]) := o'.k
  have lc := ls_of o'.c
  have lcl : (endRow l).cs.length < 10001 := by simp [endRow]; omega
  have qq := q h' e' o' ch he'
  by_cases h1 : (endRow l).cs.length = 1
  · obtain ⟨x, ex, ax⟩ := altD_one h1
    rw [ex] at lc
    simp [hk', List.lookup, gLen, lc, gIx]
    cases hg : l.g with
    | true => simp [finD, hg, ax] at qq; simpa using qq
    | false => simp [finD, hg, ax] at qq; simpa using qq
  · have ax := altD_other h1
    have h2 : ¬ (((endRow l).cs.length : Int) = 1) := by omega
    simp [hk', List.lookup, gLen, lc, gIx, h2, gTuple]
    cases hg : l.g with
    | true => simp [finD, hg, ax] at qq; simpa using qq
    | false => simp [finD, hg, ax] at qq; simpa using qq
/-! ### Reader -/
/-- the lower levels: their numbers, the top one first -/
def Low (h : Hh) : List (Nat × Nat × Nat) → List Lv → Prop
  | [], ls => ls = []
  | (k, c, e) :: ix, ls => ∃ l r, ls = l :: r ∧ LvOk h k c e l ∧ Low h ix r
def ixF : List (Nat × Nat × Nat) → List Nat
  | [] => []
  | (k, c, e) :: ix => k :: c :: e :: ixF ix
theorem Low.keep {h h' : Hh} : ∀ {ix : List (Nat × Nat × Nat)} {ls : List Lv}, Low h ix ls → (∀ i ∈ ixF ix, h'[i]? = h[i]?) → Low h' ix ls
  | [], _, q, _ => q
  | (k, c, e) :: ix, _, q, hk => by
    obtain ⟨l, r, rfl, o, q⟩ := q
    refine ⟨l, r, rfl, ⟨?_, ?_, ?_⟩, q.keep fun i hi => hk i (by simp [ixF, hi])⟩
    · rw [hk k (by simp [ixF])]; exact o.k
    · rw [hk c (by simp [ixF])]; exact o.c
    · rw [hk e (by simp [ixF])]; exact o.e
theorem Low.lt {h : Hh} : ∀ {ix : List (Nat × Nat × Nat)} {ls : List Lv}, Low h ix ls → ∀ i ∈ ixF ix, i < h.length
  | [], _, _, i, hi => by cases hi
  | (k, c, e) :: ix, _, q, i, hi => by
    obtain ⟨l, r, rfl, o, q⟩ := q
    simp [ixF] at hi
    rcases hi with rfl | rfl | rfl | hi
    · exact get_lt o.k
    · exact get_lt o.c
    · exact get_lt o.e
    · exact q.lt i hi
theorem Low.len {h : Hh} : ∀ {ix : List (Nat × Nat × Nat)} {ls : List Lv}, Low h ix ls → ls.length = ix.length
  | [], _, q => by rw [show _ = _ from q]; rfl
  | (k, c, e) :: ix, _, q => by
    obtain ⟨l, r, rfl, o, q⟩ := q
    simp [q.len]
def lvRefs (ix : List (Nat × Nat × Nat)) : List D := ix.reverse.map fun p => .ref p.1
structure RdX (h : Hh) (r v : Nat) (ix : List (Nat × Nat × Nat)) (L T : Str) (s : Rs) : Prop where
  rd : h[r]? = some (rdO L T v s.pos s.bh)
  lv : h[v]? = some (.lst (lvRefs ix))
  low : Low h ix s.lv
  nd : (r :: v :: ixF ix).Nodup
  ge : ∀ i ∈ v :: ixF ix, r ≤ i
/-- the reader at r in the state s -/
def RdOk (h : Hh) (r : Nat) (L T : Str) (s : Rs) : Prop := ∃ v ix, RdX h r v ix L T s
/-- h' has all of h below r -/
structure Fr (r : Nat) (h h' : Hh) : Prop where
  le : h.length ≤ h'.length
  eq : ∀ i, i < r → h'[i]? = h[i]?
theorem Fr.refl {r : Nat} {h : Hh} : Fr r h h := ⟨Nat.le_refl _, fun _ _ => rfl⟩
theorem Fr.trans {r : Nat} {h h1 h2 : Hh} (a : Fr r h h1) (b : Fr r h1 h2) : Fr r h h2 := ⟨Nat.le_trans a.le b.le, fun i hi => (b.eq i hi).trans (a.eq i hi)⟩
theorem Chg.fr {S : List Nat} {h h' : Hh} {r : Nat} (a : Chg S h h') (hr : r ≤ h.length) (hs : ∀ i ∈ S, r ≤ i) : Fr r h h' := ⟨a.le, fun i hi => a.eq i (by omega) fun z => by have := hs i z; omega⟩
/-- the reader's own fields are written -/
theorem RdX.own {h : Hh} {r v : Nat} {ix : List (Nat × Nat × Nat)} {L T : Str} {s : Rs} (o : RdX h r v ix L T s) (a b : Nat) : RdX (h.set r (rdO L T v a b)) r v ix L T ⟨a, s.lv, b⟩ := by
  have nd := o.nd
  rw [List.nodup_cons] at nd
  refine ⟨by rw [get_set_self (in_of o.rd)], ?_, o.low.keep fun i hi => ?_, o.nd, o.ge⟩
  · rw [List.getElem?_set_ne (fun z => nd.1 (by simp [z]))]; exact o.lv
  · rw [List.getElem?_set_ne (fun z => nd.1 (by simp [z, hi]))]
theorem RdX.ownFr {h : Hh} {r v : Nat} {ix : List (Nat × Nat × Nat)} {L T : Str} {s : Rs} (o : RdX h r v ix L T s) (x : O) : Fr r h (h.set r x) := (Chg.set (S := [r]) (by simp)).fr (Nat.le_of_lt (get_lt o.rd)) (by simp)
def sgn (T : Str) (a : Nat) : Str := ⟨((T.cps.toList.drop a).take 1).toArray⟩
theorem cut_sgn (T : Str) (a : Nat) : cutS T (some (a : Int)) (some ((a : Int) + 1)) = sgn T a := by
  unfold cutS sgn
  have h1 : HT.sIx T.length 0 (some (a : Int)) = min a T.length := HT.sIx_nat _ _ _
  have h2 : HT.sIx T.length T.length (some ((a : Int) + 1)) = min (a + 1) T.length := by
    have : ((a : Int) + 1) = ((a + 1 : Nat) : Int) := by simp
    rw [this]; exact HT.sIx_nat _ _ _
  rw [h1, h2, len_list]
  congr 2
  by_cases h : a < T.cps.toList.length
  · rw [Nat.min_eq_left (by omega), Nat.min_eq_left (by omega)]
    congr 1
    omega
  · rw [Nat.min_eq_right (by omega), Nat.min_eq_right (by omega), List.drop_eq_nil_of_le (Nat.le_refl _), List.drop_eq_nil_of_le (by omega)]
    simp
def sp_Reader_sign : SpD := fun ds h Q _ => ∃ r L T v a b, ds = [.ref r] ∧ h[r]? = some (rdO L T v a b) ∧ T.length ≤ 100000 ∧ Q (.str (sgn T a)) h
theorem mono_sign : MonoSp sp_Reader_sign := fun ds h Q Q' E E' hq he ⟨r, L, T, v, a, b, x, y, z, q⟩ => ⟨r, L, T, v, a, b, x, y, z, hq _ _ q⟩
def sp_Reader_refuse : SpD := fun ds h _ E => ∃ r L T v a b, ds = [.ref r] ∧ h[r]? = some (rdO L T v a b) ∧ E (xText a) h
theorem mono_refuse : MonoSp sp_Reader_refuse := fun ds h Q Q' E E' hq he ⟨r, L, T, v, a, b, x, y, q⟩ => ⟨r, L, T, v, a, b, x, y, he _ _ q⟩
def w_Reader_sign : WS := wRet (wSl (wUn (kFld "Reader" "text") (wVar 0)) (wPart (wUn (kFld "Reader" "at") (wVar 0))) (wPart (wOp gAdd (wUn (kFld "Reader" "at") (wVar 0)) (wC (.int 1)))))
def w_Reader_refuse : WS := wRaise "NoText" sp_NoTextDD_initDD (wCons (wUn (kFld "Reader" "at") (wVar 0)) (wNil))
theorem b_sign : ∀ ds h Q E, sp_Reader_sign ds h Q E → w_Reader_sign (endsOf Q E) (slots0 ["self"] ds) h := by
  rintro ds h Q E ⟨r, L, T, v, a, b, rfl, hr, hl, q⟩
  have hl2 : T.length ≤ 16777216 := by omega
  simp [w_Reader_sign, slots0, hr, rdO, List.lookup, gSl, hl2, cut_sgn]
  exact q
theorem b_refuse : ∀ ds h Q E, sp_Reader_refuse ds h Q E → w_Reader_refuse (endsOf Q E) (slots0 ["self"] ds) h := by
  rintro ds h Q E ⟨r, L, T, v, a, b, rfl, hr, q⟩
  simp [w_Reader_refuse, slots0, hr, rdO, List.lookup]
  exact q
/-- what a method of the reader leaves -/
def RdQ (h : Hh) (r : Nat) (L T : Str) (s' : Rs) (Q : Hh → Prop) : Prop := ∀ h', RdOk h' r L T s' → Fr r h h' → Q h'
def addS (s : Rs) (t : D) : Rs := match s.lv with
  | l :: low => ⟨s.pos, ⟨l.g, l.cs, l.ls ++ [t]⟩ :: low, 1⟩
  | [] => s
def sp_Reader_add : SpD := fun ds h Q _ => ∃ r L T s t l low, ds = [.ref r, t] ∧ RdOk h r L T s ∧ s.lv = l :: low ∧ l.ls.length < 10000 ∧ RdQ h r L T (addS s t) (Q .non)
theorem mono_add : MonoSp sp_Reader_add := fun ds h Q Q' E E' hq he ⟨r, L, T, s, t, l, low, a, b, c, d, q⟩ => ⟨r, L, T, s, t, l, low, a, b, c, d, fun h' x y => hq _ _ (q h' x y)⟩
def w_Reader_add : WS := wSeq (wExpr (wMt "list" gAppend (wUn (kFld "Level" "last") (wOp gIx (wUn (kFld "Reader" "levels") (wVar 0)) (wUn (k1 gNeg) (wC (.int 1))))) (wCons (wVar 1) (wNil)))) (wSetF "Reader" "behind" (wVar 0) (wC (.int 1)))
/-- the top level's last row is written -/
theorem RdX.last {h : Hh} {r v k c e : Nat} {ix : List (Nat × Nat × Nat)} {L T : Str} {s : Rs} {l : Lv} {low : List Lv} (o : RdX h r v ((k, c, e) :: ix) L T s) (hs : s.lv = l :: low) (ls' : List D) : RdX (h.set e (.lst ls')) r v ((k, c, e) :: ix) L T ⟨s.pos, ⟨l.g, l.cs, ls'⟩ :: low, s.bh⟩ := by
  obtain ⟨l', low', e1, ok, lw⟩ := hs ▸ o.low
  cases e1
  have nd := o.nd
  simp [ixF] at nd
  obtain ⟨⟨rv, rk, rc, re, rx⟩, ⟨vk, vc, ve, vx⟩, ⟨kc, ke, kx⟩, ⟨ce, cx⟩, ex, _⟩ := nd
  refine ⟨?_, ?_, ⟨_, _, rfl, ⟨?_, ?_, ?_⟩, lw.keep fun i hi => ?_⟩, o.nd, o.ge⟩
  · rw [List.getElem?_set_ne (fun z => re z.symm)]; exact o.rd
  · rw [List.getElem?_set_ne (fun z => ve z.symm)]; exact o.lv
  · rw [List.getElem?_set_ne (fun z => ke z.symm)]; exact ok.k
  · rw [List.getElem?_set_ne (fun z => ce z.symm)]; exact ok.c
  · rw [get_set_self (in_of ok.e)]
  · rw [List.getElem?_set_ne (fun z => ex (by rw [z]; exact hi))]
end EV

namespace EV
open PySem PySem.Spec PyProof.Rows L2
section
variable {h h' : Hh} {r v k c e : Nat} {ix : List (Nat × Nat × Nat)} {L T : Str} {s : Rs} {l : Lv} {low : List Lv}
theorem RdX.lt (o : RdX h r v ix L T s) : ∀ i ∈ r :: v :: ixF ix, i < h.length := fun i hi => by
  simp at hi
  rcases hi with rfl | rfl | hi
  · exact get_lt o.rd
  · exact get_lt o.lv
  · exact o.low.lt i hi
theorem RdX.chg {S : List Nat} (o : RdX h r v ix L T s) (ch : Chg S h h') (hS : ∀ i ∈ r :: v :: ixF ix, i ∉ S) : RdX h' r v ix L T s :=
  ⟨ch.get o.rd (hS r (by simp)), ch.get o.lv (hS v (by simp)), o.low.keep fun i hi => ch.eq i (o.low.lt i hi) (hS i (by simp [hi])), o.nd, o.ge⟩
theorem RdX.top (o : RdX h r v ix L T s) (hs : s.lv = l :: low) : ∃ k c e jx, ix = (k, c, e) :: jx ∧ LvOk h k c e l ∧ Low h jx low ∧ [k, c, e].Nodup := by
  have lo := o.low
  cases ix with
  | nil => rw [hs] at lo; cases (show l :: low = [] from lo)
  | cons p jx =>
    obtain ⟨k, c, e⟩ := p
    rw [hs] at lo
    obtain ⟨l', low', e1, ok, lw⟩ := lo
    cases e1
    have nd := o.nd
    simp [ixF] at nd
    exact ⟨k, c, e, jx, rfl, ok, lw, by simp; exact ⟨⟨nd.2.2.1.1, nd.2.2.1.2.1⟩, nd.2.2.2.1.1⟩⟩
theorem lvRefs_cons : lvRefs ((k, c, e) :: ix) = lvRefs ix ++ [.ref k] := by simp [lvRefs]
theorem lvRefs_len : (lvRefs ix).length = ix.length := by simp [lvRefs]
/-- the top level is taken off -/
theorem RdX.pop (o : RdX h r v ((k, c, e) :: ix) L T s) (hs : s.lv = l :: low) : RdX (h.set v (.lst (lvRefs ix))) r v ix L T ⟨s.pos, low, s.bh⟩ ∧ LvOk (h.set v (.lst (lvRefs ix))) k c e l ∧ ∀ i ∈ r :: v :: ixF ix, i ∉ [k, c] := by
  obtain ⟨l', low', e1, ok, lw⟩ := hs ▸ o.low
  cases e1
  have nd := o.nd
  have ge := o.ge
  simp [ixF] at nd ge
  obtain ⟨⟨rv, rk, rc, re, rx⟩, ⟨vk, vc, ve, vx⟩, ⟨kc, ke, kx⟩, ⟨ce, cx⟩, ex, nx⟩ := nd
  refine ⟨⟨?_, ?_, lw.keep fun i hi => ?_, ?_, ?_⟩, ⟨?_, ?_, ?_⟩, ?_⟩
  · rw [List.getElem?_set_ne (fun z => rv z.symm)]; exact o.rd
  · rw [get_set_self (in_of o.lv)]
  · rw [List.getElem?_set_ne (fun z => vx (by rw [z]; exact hi))]
  · simp; exact ⟨⟨rv, rx⟩, vx, nx⟩
  · intro i hi
    simp at hi
    rcases hi with rfl | hi
    · exact ge.1
    · exact ge.2.2.2.2 i hi
  · rw [List.getElem?_set_ne vk]; exact ok.k
  · rw [List.getElem?_set_ne vc]; exact ok.c
  · rw [List.getElem?_set_ne ve]; exact ok.e
  · intro i hi
    simp at hi ⊢
    rcases hi with rfl | rfl | hi
    · exact ⟨rk, rc⟩
    · exact ⟨vk, vc⟩
    · exact ⟨fun z => kx (by rw [← z]; exact hi), fun z => cx (by rw [← z]; exact hi)⟩
/-- a new level -/
theorem RdX.push (o : RdX h r v ix L T s) (g : Bool) : RdX ((h ++ [lvO g (h.length + 1) (h.length + 2), .lst [], .lst []]).set v (.lst (lvRefs ix ++ [.ref h.length]))) r v ((h.length, h.length + 1, h.length + 2) :: ix) L T ⟨s.pos, ⟨g, [], []⟩ :: s.lv, s.bh⟩ := by
  have lt := o.lt
  have nd := o.nd
  have ge := o.ge
  simp at nd lt ge
  obtain ⟨⟨rv, rx⟩, vx, nx⟩ := nd
  have hv : v < h.length := lt.2.1
  have hr : r < h.length := lt.1
  refine ⟨?_, ?_, ⟨_, _, rfl, ⟨?_, ?_, ?_⟩, o.low.keep fun i hi => ?_⟩, ?_, ?_⟩
  · rw [List.getElem?_set_ne (fun z => rv z.symm), get_app_in (in_of o.rd)]; exact o.rd
  · rw [get_set_self (in_app (in_of o.lv)), lvRefs_cons]
  · rw [List.getElem?_set_ne (by omega), ap_get0]; rfl
  · rw [List.getElem?_set_ne (by omega), ap_get]; rfl
  · rw [List.getElem?_set_ne (by omega), ap_get]; rfl
  · rw [List.getElem?_set_ne (fun z => vx (by rw [z]; exact hi)), List.getElem?_append_left (lt.2.2 i hi)]
  · simp [ixF]
    refine ⟨⟨rv, by omega, by omega, by omega, rx⟩, ⟨by omega, by omega, by omega, vx⟩, ?_, ?_, ?_, nx⟩
    · intro z; have := lt.2.2 _ z; omega
    · intro z; have := lt.2.2 _ z; omega
    · intro z; have := lt.2.2 _ z; omega
  · intro i hi
    simp [ixF] at hi
    rcases hi with rfl | rfl | rfl | rfl | hi
    · exact ge.1
    · omega
    · omega
    · omega
    · exact ge.2 i hi
/-- the top level's row is ended -/
theorem RdX.endTop {e' : Nat} (o : RdX h r v ((k, c, e) :: ix) L T s) (hs : s.lv = l :: low) (ok' : LvOk h' k c e' l') (ch : Chg [k, c] h h') (he : h.length ≤ e') : RdX h' r v ((k, c, e') :: ix) L T ⟨s.pos, l' :: low, s.bh⟩ := by
  obtain ⟨l1, low1, e1, ok, lw⟩ := hs ▸ o.low
  cases e1
  have lt := o.lt
  have nd := o.nd
  have ge := o.ge
  simp [ixF] at nd lt ge
  obtain ⟨⟨rv, rk, rc, re, rx⟩, ⟨vk, vc, ve, vx⟩, ⟨kc, ke, kx⟩, ⟨ce, cx⟩, ex, nx⟩ := nd
  obtain ⟨l1, l2, l3, l4, l5, l6⟩ := lt
  refine ⟨ch.get o.rd (by simp; exact ⟨rk, rc⟩), (by have z := ch.get o.lv (by simp; exact ⟨vk, vc⟩); rw [lvRefs_cons] at z ⊢; exact z), ⟨_, _, rfl, ok', lw.keep fun i hi => ch.eq i (l6 i hi) ?_⟩, ?_, ?_⟩
  · simp
    exact ⟨fun z => kx (by rw [← z]; exact hi), fun z => cx (by rw [← z]; exact hi)⟩
  · simp [ixF]
    refine ⟨⟨rv, rk, rc, by omega, rx⟩, ⟨vk, vc, by omega, vx⟩, ⟨kc, by omega, kx⟩, ⟨by omega, cx⟩, ?_, nx⟩
    intro z; have := l6 _ z; omega
  · intro i hi
    simp [ixF] at hi
    rcases hi with rfl | rfl | rfl | rfl | hi
    · exact ge.1
    · exact ge.2.1
    · exact ge.2.2.1
    · omega
    · exact ge.2.2.2.2 i hi
theorem RdX.ok (o : RdX h r v ix L T s) : RdOk h r L T s := ⟨v, ix, o⟩
end
theorem b_add : ∀ ds h Q E, sp_Reader_add ds h Q E → w_Reader_add (endsOf Q E) (slots0 ["self", "tree"] ds) h := by
  rintro ds h Q E ⟨r, L, T, s, t, l, low, rfl, ⟨v, ix, o⟩, hs, hl, q⟩
  obtain ⟨k, c, e, jx, rfl, ok, lw, nd3⟩ := o.top hs
  have hr : h[r]? = some (.ins "Reader" [("letters", .str L), ("text", .str T), ("at", .int s.pos), ("levels", .ref v), ("behind", .int s.bh)]) := o.rd
  have hk : h[k]? = some (.ins "Level" [("is_group", .bl l.g), ("choices", .ref c), ("last", .ref e)]) := ok.k
  have lv : lsOf h v = some (lvRefs jx ++ [.ref k]) := by rw [ls_of o.lv, lvRefs_cons]
  have o1 := o.last hs (l.ls ++ [t])
  have hr1 : (h.set e (.lst (l.ls ++ [t])))[r]? = some (.ins "Reader" [("letters", .str L), ("text", .str T), ("at", .int s.pos), ("levels", .ref v), ("behind", .int s.bh)]) := o1.rd
  simp [w_Reader_add, slots0, hr, hk, List.lookup, gIx, lv, L2.atI_last, ls_of ok.e, gAppend_ok ok.e (by simp; omega), hr1, putD]
  have o2 := o1.own s.pos 1
  refine q _ ?_ ?_
  · have : addS s t = ⟨s.pos, ⟨l.g, l.cs, l.ls ++ [t]⟩ :: low, 1⟩ := by simp [addS, hs]
    rw [this]
    exact o2.ok
  · have he : r ≤ e := o.ge e (by simp [ixF])
    exact ((Chg.set (S := [e]) (by simp)).fr (Nat.le_of_lt (get_lt o.rd)) (by simp; exact he)).trans (o1.ownFr _)
/-! ### the reader's steps, as functions -/
inductive PR where
  | ok (s : Rs)
  | bad (i : Nat)
  | stuck
def brkM (L : List Nat) : List Nat → List Nat → Nat → Sum Nat (List Nat × Nat)
  | [], _, a => .inl a
  | x :: rem, f, a => if f ≠ [] ∧ x = 93 then .inr (f, a + 1) else if x ∈ L ∧ (∀ y ∈ f.getLast?, y < x) then brkM L rem (f ++ [x]) (a + 1) else .inl a
def mkS (l : List Nat) : Str := ⟨l.toArray⟩
def wordS (x : Nat) : Str := if x = 42 then "many" else if x = 43 then "some" else "maybe"
def repM (s : Rs) (x : Nat) : PR := match s.lv with
  | [] => .stuck
  | l :: low => if s.bh = 1 then (match l.ls.getLast? with
      | some t => .ok ⟨s.pos, ⟨l.g, l.cs, l.ls.dropLast ++ [.tup [.str (wordS x), t, .str "greedy"]]⟩ :: low, 2⟩
      | none => .stuck)
    else if s.bh = 2 ∧ x = 63 then (match l.ls.getLast? with
      | some (.tup ts) => if ts.length ≤ 100 then .ok ⟨s.pos, ⟨l.g, l.cs, l.ls.dropLast ++ [.tup (ts.take 2 ++ [.str "lazy"])]⟩ :: low, 0⟩ else .stuck
      | _ => .stuck)
    else .bad s.pos
def entM (T : List Nat) (s : Rs) : PR := match T.drop s.pos with
  | 63 :: 58 :: _ => .ok ⟨s.pos + 2, ⟨false, [], []⟩ :: s.lv, 0⟩
  | 63 :: _ => .bad (s.pos + 1)
  | _ => .ok ⟨s.pos, ⟨true, [], []⟩ :: s.lv, 0⟩
def res {Q : Hh → Prop} (h : Hh) (r : Nat) (L T : Str) (E : PX) : PR → Prop
  | .ok s' => RdQ h r L T s' Q
  | .bad i => ∀ h', Fr r h h' → E (xText i) h'
  | .stuck => False
theorem res_mono {Q Q' : Hh → Prop} {h : Hh} {r : Nat} {L T : Str} {E E' : PX} (hq : ∀ h, Q h → Q' h) (he : ∀ x h, E x h → E' x h) : ∀ {p : PR}, res (Q := Q) h r L T E p → res (Q := Q') h r L T E' p
  | .ok s', q => fun h' a b => hq _ (q h' a b)
  | .bad i, q => fun h' a => he _ _ (q h' a)
  | .stuck, q => q
def sp_Reader_repeat : SpD := fun ds h Q E => ∃ r L T s x, ds = [.ref r, .str (chS x)] ∧ RdOk h r L T s ∧ (x = 42 ∨ x = 43 ∨ x = 63) ∧ res (Q := Q .non) h r L T E (repM s x)
theorem mono_repeat : MonoSp sp_Reader_repeat := fun ds h Q Q' E E' hq he ⟨r, L, T, s, x, a, b, c, q⟩ => ⟨r, L, T, s, x, a, b, c, res_mono (fun h => hq _ h) he q⟩
def w_Reader_repeat : WS := wSeq (wAsg (.nm 2) (wUn (kFld "Level" "last") (wOp gIx (wUn (kFld "Reader" "levels") (wVar 0)) (wUn (k1 gNeg) (wC (.int 1)))))) (wIf (wB (wOp gEq (wUn (kFld "Reader" "behind") (wVar 0)) (wC (.int 1)))) (wSeq (wSetIx (wVar 2) (wUn (k1 gNeg) (wC (.int 1))) (wTup (wCons (wUn (kWGet tblSigns) (wVar 1)) (wCons (wOp gIx (wVar 2) (wUn (k1 gNeg) (wC (.int 1)))) (wCons (wC (.str "greedy")) (wNil)))))) (wSetF "Reader" "behind" (wVar 0) (wC (.int 2)))) (wIf (wAnd (wB (wOp gEq (wUn (kFld "Reader" "behind") (wVar 0)) (wC (.int 2)))) (wB (wOp gEq (wVar 1) (wC (.str "?"))))) (wSeq (wSetIx (wVar 2) (wUn (k1 gNeg) (wC (.int 1))) (wOp gAdd (wSl (wOp gIx (wVar 2) (wUn (k1 gNeg) (wC (.int 1)))) (wNoPart) (wPart (wC (.int 2)))) (wTup (wCons (wC (.str "lazy")) (wNil))))) (wSetF "Reader" "behind" (wVar 0) (wC (.int 0)))) (wExpr (wMeth "Reader" "refuse" sp_Reader_refuse (wVar 0) wNil))))
theorem last_of {α : Type} {xs : List α} {x : α} (h : xs.getLast? = some x) : xs = xs.dropLast ++ [x] := by
  have : xs ≠ [] := fun z => by rw [z] at h; cases h
  rw [List.getLast?_eq_some_getLast this] at h
  cases h
  exact (List.dropLast_concat_getLast this).symm
@[simp] theorem st_star : (Str.ofString "*") = chS 42 := by decide +kernel
@[simp] theorem st_plus : (Str.ofString "+") = chS 43 := by decide +kernel
@[simp] theorem st_q : (Str.ofString "?") = chS 63 := by decide +kernel
@[simp] theorem st_close : (Str.ofString ")") = chS 41 := by decide +kernel
@[simp] theorem st_open : (Str.ofString "(") = chS 40 := by decide +kernel
@[simp] theorem st_dot : (Str.ofString ".") = chS 46 := by decide +kernel
@[simp] theorem st_br : (Str.ofString "[") = chS 91 := by decide +kernel
@[simp] theorem st_bar : (Str.ofString "|") = chS 124 := by decide +kernel
@[simp] theorem st_ket : (Str.ofString "]") = chS 93 := by decide +kernel
@[simp] theorem st_colon : (Str.ofString ":") = chS 58 := by decide +kernel
@[simp] theorem chS_beq (a b : Nat) : (chS a == chS b) = (a == b) := by rw [Bool.eq_iff_iff]; simp
theorem ixN_last (n : Nat) : ixN (n + 1) (-1) = some n := by
  unfold ixN
  rw [if_neg (by decide), if_pos (by omega)]
  congr 1
  omega
theorem b_repeat : ∀ ds h Q E, sp_Reader_repeat ds h Q E → w_Reader_repeat (endsOf Q E) (slots0 ["self", "sign", "last"] ds) h := by
  rintro ds h Q E ⟨r, L, T, s, x, rfl, ⟨v, ix, o⟩, hx, q⟩
  have hrr : h[r]? = some (.ins "Reader" [("letters", .str L), ("text", .str T), ("at", .int s.pos), ("levels", .ref v), ("behind", .int s.bh)]) := o.rd
  cases hs : s.lv with
  | nil => simp [repM, hs] at q; exact q.elim
  | cons l low =>
    obtain ⟨k, c, e, jx, rfl, ok, lw, nd3⟩ := o.top hs
    have hk : h[k]? = some (.ins "Level" [("is_group", .bl l.g), ("choices", .ref c), ("last", .ref e)]) := ok.k
    have lv : lsOf h v = some (lvRefs jx ++ [.ref k]) := by rw [ls_of o.lv, lvRefs_cons]
    have he : r ≤ e := o.ge e (by simp [ixF])
    by_cases h1 : s.bh = 1
    · cases hg : l.ls.getLast? with
      | none => simp [repM, hs, h1, hg] at q; exact q.elim
      | some t =>
        have el := last_of hg
        have le : lsOf h e = some (l.ls.dropLast ++ [t]) := by rw [ls_of ok.e, ← el]
        have he2 : h[e]? = some (.lst (l.ls.dropLast ++ [t])) := by rw [ok.e, ← el]
        simp [repM, hs, h1, hg] at q
        have o1 := fun t' => o.last hs (l.ls.dropLast ++ [t'])
        have hr1 : ∀ t', (h.set e (.lst (l.ls.dropLast ++ [t'])))[r]? = some (.ins "Reader" [("letters", .str L), ("text", .str T), ("at", .int s.pos), ("levels", .ref v), ("behind", .int s.bh)]) := fun t' => (o1 t').rd
        have fin : Q .non ((h.set e (.lst (l.ls.dropLast ++ [.tup [.str (wordS x), t, .str "greedy"]]))).set r (rdO L T v s.pos 2)) :=
          q _ ((o1 _).own s.pos 2).ok (((Chg.set (S := [e]) (by simp)).fr (Nat.le_of_lt (get_lt o.rd)) (by simp; exact he)).trans ((o1 _).ownFr _))
        have hset : ∀ y, (l.ls.dropLast ++ [t]).set (l.ls.length - 1) y = l.ls.dropLast ++ [y] := fun y => by rw [← List.length_dropLast, List.set_append_right _ _ (Nat.le_refl _)]; simp
        have hw : sgs.lookup (chS x) = some (.str (wordS x)) := by
          rcases hx with rfl | rfl | rfl <;> simp [sgs, List.lookup, wordS]
        simp [w_Reader_repeat, slots0, hrr, hk, List.lookup, gIx, lv, L2.atI_last, le, h1, tblSigns, hw, he2]
        refine ⟨_, ixN_last _, ?_⟩
        rw [hset, hr1]
        simpa [putD, rdO] using fin
    · by_cases h2 : s.bh = 2 ∧ x = 63
      · obtain ⟨h2, rfl⟩ := h2
        cases hg : l.ls.getLast? with
        | none => simp [repM, hs, h2, hg] at q; exact q.elim
        | some t =>
          cases t with
          | tup ts =>
            simp [repM, hs, h2, hg] at q
            split at q
            · rename_i hts
              have el := last_of hg
              have le : lsOf h e = some (l.ls.dropLast ++ [.tup ts]) := by rw [ls_of ok.e, ← el]
              have he2 : h[e]? = some (.lst (l.ls.dropLast ++ [.tup ts])) := by rw [ok.e, ← el]
              have o1 := fun t' => o.last hs (l.ls.dropLast ++ [t'])
              have hr1 : ∀ t', (h.set e (.lst (l.ls.dropLast ++ [t'])))[r]? = some (.ins "Reader" [("letters", .str L), ("text", .str T), ("at", .int s.pos), ("levels", .ref v), ("behind", .int s.bh)]) := fun t' => (o1 t').rd
              have fin : Q .non ((h.set e (.lst (l.ls.dropLast ++ [.tup (ts.take 2 ++ [.str "lazy"])]))).set r (rdO L T v s.pos 0)) :=
                q _ ((o1 _).own s.pos 0).ok (((Chg.set (S := [e]) (by simp)).fr (Nat.le_of_lt (get_lt o.rd)) (by simp; exact he)).trans ((o1 _).ownFr _))
              have hset : ∀ y, (l.ls.dropLast ++ [D.tup ts]).set (l.ls.length - 1) y = l.ls.dropLast ++ [y] := fun y => by rw [← List.length_dropLast, List.set_append_right _ _ (Nat.le_refl _)]; simp
              have hcut : cutD ts none (some 2) = ts.take 2 := by
                unfold cutD
                rw [HT.sIx_none, show HT.sIx ts.length ts.length (some 2) = min 2 ts.length from HT.sIx_nat _ _ 2]
                simp
              have hz : min 2 ts.length + 1 ≤ 16777216 := by omega
              simp [w_Reader_repeat, slots0, hrr, hk, List.lookup, gIx, lv, L2.atI_last, le, h2, he2, gSl, hcut, gAdd, hz]
              refine ⟨_, ixN_last _, ?_⟩
              rw [hset, hr1]
              simpa [putD, rdO] using fin
            · exact q.elim
          | _ => simp [repM, hs, h2, hg] at q; exact q.elim
      · simp [repM, hs, h1, h2] at q
        have h1' : ¬ ((s.bh : Int) = 1) := by omega
        simp [w_Reader_repeat, slots0, hrr, hk, List.lookup, gIx, lv, L2.atI_last, ls_of ok.e, h1']
        have q0 := q h Fr.refl
        by_cases h3 : s.bh = 2
        · have hx2 : ¬ x = 63 := fun z => h2 ⟨h3, z⟩
          simp [h3, hx2]
          exact ⟨r, L, T, v, s.pos, s.bh, rfl, o.rd, q0⟩
        · have h3' : ¬ ((s.bh : Int) = 2) := by omega
          simp [h3']
          exact ⟨r, L, T, v, s.pos, s.bh, rfl, o.rd, q0⟩
end EV

namespace EV
open PySem PySem.Spec PyProof.Rows L2
theorem wWh_step {wt : WT} {w : WS} {B : DEnds} {n : Nat} {s : Sl} {h : Hh} {K : Sl → Hh → Prop} (hK : K = wWh wt w B n) (q : wt s h (fun c h1 => if c = true then w { nx := K, rt := B.rt, bk := B.nx, ct := K, ex := B.ex } s h1 else B.nx s h1) (B.ex s)) : wWh wt w B (n + 1) s h := by
  subst hK; exact q
theorem sgn_cons {T : Str} {a x : Nat} {rem : List Nat} (e : T.cps.toList.drop a = x :: rem) : sgn T a = chS x := by simp [sgn, e]
theorem sgn_nil {T : Str} {a : Nat} (e : T.cps.toList.drop a = []) : sgn T a = ⟨#[]⟩ := by simp only [sgn, e]; rfl
theorem drop_next {α : Type} {l : List α} {a : Nat} {x : α} {rem : List α} (e : l.drop a = x :: rem) : l.drop (a + 1) = rem := by rw [← List.drop_drop, e]; rfl
theorem drop_lt {α : Type} {l : List α} {a : Nat} {x : α} {rem : List α} (e : l.drop a = x :: rem) : a < l.length := by
  have := congrArg List.length e
  rw [List.length_drop, List.length_cons] at this
  omega
@[simp] theorem mkS_list (f : List Nat) : (mkS f).cps.toList = f := by simp [mkS]
theorem mkS_nil_iff (f : List Nat) : (mkS f = ⟨#[]⟩) = (f = []) := by rw [str_nil_iff, mkS_list]
theorem chS_ne_nil (x : Nat) : ¬ (chS x = (⟨#[]⟩ : Str)) := fun z => by injection z with z; simp at z
theorem mkS_add (f : List Nat) (x : Nat) : mkS f ++ chS x = mkS (f ++ [x]) := by
  apply str_ext
  show (Str.append (mkS f) (chS x)).cps.toList = _
  simp [Str.append, mkS]
theorem mkS_len (f : List Nat) : (mkS f).length = f.length := by rw [len_list, mkS_list]
theorem cut_last (f : List Nat) : (cutS (mkS f) (some (-1)) none).cps.toList = f.getLast?.toList := by
  unfold cutS
  rw [mkS_len, HT.sIx_none]
  have h1 : HT.sIx f.length 0 (some (-1)) = f.length - 1 := by
    simp only [HT.sIx]
    rw [if_pos (by decide)]
    omega
  rw [h1, mkS_list]
  rcases List.eq_nil_or_concat f with rfl | ⟨g, y, rfl⟩
  · rfl
  · simp
theorem last_lt (f : List Nat) (x : Nat) : (f.getLast?.toList < [x]) ↔ ∀ y ∈ f.getLast?, y < x := by
  cases f.getLast? with
  | none =>
    simp only [Option.toList_none]
    exact ⟨fun _ y hy => (by cases hy), fun _ => List.Lex.nil⟩
  | some y =>
    simp only [Option.toList_some]
    refine ⟨fun z w hw => ?_, fun z => ?_⟩
    · cases hw
      exact of_decide_eq_true ((lt_single y x).symm.trans (decide_eq_true z))
    · exact List.Lex.rel (z y rfl)
theorem last_le (f : List Nat) (x : Nat) : ([x] ≤ f.getLast?.toList) ↔ ¬ ∀ y ∈ f.getLast?, y < x := by
  rw [← last_lt]; exact Iff.rfl
def resB (hh : Hh) (r v : Nat) (ix : List (Nat × Nat × Nat)) (L T : Str) (lv : List Lv) (b : Nat) (B : DEnds) : Sum Nat (List Nat × Nat) → Prop
  | .inl i => ∀ h' s1, Fr r hh h' → B.ex [some (.ref r), s1] (xText i) h'
  | .inr p => ∀ h' a, p.2 = a + 1 → RdX h' r v ix L T ⟨a, lv, b⟩ → Fr r hh h' → B.nx [some (.ref r), some (.str (mkS p.1))] h'
theorem resB_fr {hh h2 : Hh} {r v : Nat} {ix : List (Nat × Nat × Nat)} {L T : Str} {lv : List Lv} {b : Nat} {B : DEnds} (f : Fr r hh h2) : ∀ {p : Sum Nat (List Nat × Nat)}, resB hh r v ix L T lv b B p → resB h2 r v ix L T lv b B p
  | .inl i, q => fun h' s1 z => q h' s1 (f.trans z)
  | .inr p, q => fun h' a e o z => q h' a e o (f.trans z)
def sp_Reader_bracket : SpD := fun ds h Q E => ∃ r L T s, ds = [.ref r] ∧ RdOk h r L T s ∧ T.length ≤ 100000 ∧ match brkM L.cps.toList (T.cps.toList.drop s.pos) [] s.pos with
  | .inl i => ∀ h', Fr r h h' → E (xText i) h'
  | .inr p => RdQ h r L T ⟨p.2, s.lv, s.bh⟩ (Q (.tup [.str "one", .str (mkS p.1)]))
theorem mono_bracket : MonoSp sp_Reader_bracket := fun ds h Q Q' E E' hq he ⟨r, L, T, s, a, b, c, q⟩ => ⟨r, L, T, s, a, b, c, by
  split at q
  · exact fun h' z => he _ _ (q h' z)
  · exact fun h' x y => hq _ _ (q h' x y)⟩
def wt_Reader_bracket_0 : WT := wOr (wB (wOp gEq (wVar 1) (wC (.str "")))) (wB (wOp gNe (wMeth "Reader" "sign" sp_Reader_sign (wVar 0) wNil) (wC (.str "]"))))
def wb_Reader_bracket_0 : WS := wSeq (wIf (wOr (wB (wOp gEq (wMeth "Reader" "sign" sp_Reader_sign (wVar 0) wNil) (wC (.str "")))) (wOr (wB (wOp gNotIn (wMeth "Reader" "sign" sp_Reader_sign (wVar 0) wNil) (wUn (kFld "Reader" "letters") (wVar 0)))) (wB (wOp gLe (wMeth "Reader" "sign" sp_Reader_sign (wVar 0) wNil) (wSl (wVar 1) (wPart (wUn (k1 gNeg) (wC (.int 1)))) (wNoPart)))))) (wExpr (wMeth "Reader" "refuse" sp_Reader_refuse (wVar 0) wNil)) (wNext)) (wSeq (wAsg (.nm 1) (wOp gAdd (wVar 1) (wMeth "Reader" "sign" sp_Reader_sign (wVar 0) wNil))) (wSetF "Reader" "at" (wVar 0) (wOp gAdd (wUn (kFld "Reader" "at") (wVar 0)) (wC (.int 1)))))
def w_Reader_bracket : WS := wSeq (wAsg (.nm 1) (wC (.str ""))) (wSeq (wWhile wt_Reader_bracket_0 wb_Reader_bracket_0) (wSeq (wSetF "Reader" "at" (wVar 0) (wOp gAdd (wUn (kFld "Reader" "at") (wVar 0)) (wC (.int 1)))) (wRet (wTup (wCons (wC (.str "one")) (wCons (wVar 1) (wNil)))))))
theorem br_loop {r v : Nat} {ix : List (Nat × Nat × Nat)} {L T : Str} {lv : List Lv} {b : Nat} {B : DEnds} (hT : T.length ≤ 100000) : ∀ (rem f : List Nat) (a : Nat) (hh : Hh) (n : Nat), T.cps.toList.drop a = rem → f.length + rem.length ≤ 100000 → rem.length < n → RdX hh r v ix L T ⟨a, lv, b⟩ → resB hh r v ix L T lv b B (brkM L.cps.toList rem f a) →
    wWh wt_Reader_bracket_0 wb_Reader_bracket_0 B n [some (.ref r), some (.str (mkS f))] hh
  | rem, f, a, hh, 0, _, _, hn, _, _ => by omega
  | [], f, a, hh, n + 1, hd, hl, hn, o, q => by
    have hr : hh[r]? = some (.ins "Reader" [("letters", .str L), ("text", .str T), ("at", .int a), ("levels", .ref v), ("behind", .int b)]) := o.rd
    have sg : ∀ Q E, Q (.str ⟨#[]⟩) hh → sp_Reader_sign [.ref r] hh Q E := fun Q E q => ⟨r, L, T, v, a, b, rfl, o.rd, hT, by rw [sgn_nil hd]; exact q⟩
    have re : ∀ Q E, E (xText a) hh → sp_Reader_refuse [.ref r] hh Q E := fun Q E q => ⟨r, L, T, v, a, b, rfl, o.rd, q⟩
    have q0 := q hh (some (.str (mkS f))) Fr.refl
    have hne : ¬ ((⟨#[]⟩ : Str) = chS 93) := fun z => chS_ne_nil _ z.symm
    obtain ⟨K, hK⟩ : ∃ K, K = wWh wt_Reader_bracket_0 wb_Reader_bracket_0 B n := ⟨_, rfl⟩
    refine wWh_step hK ?_
    simp [wt_Reader_bracket_0, hr, mkS_nil_iff]
    split
    · simp [wb_Reader_bracket_0, hr]
      refine sg _ _ ?_
      simp [hr]
      exact re _ _ q0
    · refine sg _ _ ?_
      simp [hne, wb_Reader_bracket_0, hr]
      refine sg _ _ ?_
      simp [hr]
      exact re _ _ q0
  | x :: rem, f, a, hh, n + 1, hd, hl, hn, o, q => by
    have hr : hh[r]? = some (.ins "Reader" [("letters", .str L), ("text", .str T), ("at", .int a), ("levels", .ref v), ("behind", .int b)]) := o.rd
    have sg : ∀ Q E, Q (.str (chS x)) hh → sp_Reader_sign [.ref r] hh Q E := fun Q E q => ⟨r, L, T, v, a, b, rfl, o.rd, hT, by rw [sgn_cons hd]; exact q⟩
    have re : ∀ Q E, E (xText a) hh → sp_Reader_refuse [.ref r] hh Q E := fun Q E q => ⟨r, L, T, v, a, b, rfl, o.rd, q⟩
    have body : ¬ (f ≠ [] ∧ x = 93) → ∀ B', B'.nx = wWh wt_Reader_bracket_0 wb_Reader_bracket_0 B n → B'.ex = B.ex → wb_Reader_bracket_0 B' [some (.ref r), some (.str (mkS f))] hh := fun hno B' e1 e2 => by
      simp only [brkM] at q
      rw [if_neg hno] at q
      have hfl : (mkS f).length ≤ 16777216 := by rw [mkS_len]; omega
      have hadd : gAdd (.str (mkS f)) (.str (chS x)) hh = some (.str (mkS (f ++ [x])), hh) := by
        simp only [gAdd]
        rw [if_pos (by rw [mkS_len, sizeLine_is]; simp [Str.length]; simp at hl; omega), mkS_add]
      have rest : x ∈ L.cps.toList ∧ (∀ y ∈ f.getLast?, y < x) → B'.nx [some (.ref r), some (.str (mkS (f ++ [x])))] (hh.set r (rdO L T v (a + 1) b)) := fun hok => by
        rw [if_pos hok] at q
        rw [e1]
        refine br_loop hT rem (f ++ [x]) (a + 1) _ n (drop_next hd) (by simp at hl ⊢; omega) (by simp at hn; omega) (o.own (a + 1) b) (resB_fr (o.ownFr _) q)
      have ref : ¬ (x ∈ L.cps.toList ∧ (∀ y ∈ f.getLast?, y < x)) → (B'.ex [some (.ref r), some (.str (mkS f))] (xText a) hh) := fun hno2 => by
        rw [if_neg hno2] at q
        rw [e2]
        exact q hh _ Fr.refl
      simp [wb_Reader_bracket_0, hr]
      refine sg _ _ ?_
      simp [chS_ne_nil, hr, List.lookup]
      refine sg _ _ ?_
      have tail : (x ∈ L.cps.toList ∧ ∀ y ∈ f.getLast?, y < x) → sp_Reader_sign [.ref r] hh (fun e h2 => Get (gAdd (.str (mkS f)) e h2) fun d h1 => IsIns "Reader" h1[r]? fun fs => GetD (List.lookup ("at" : Str) fs) fun v => Get (gAdd v (.int 1) h1) fun d1 h1 => IsIns "Reader" h1[r]? fun fs => fs.length < 1000 ∧ B'.nx [some (.ref r), some d] (h1.set r (.ins "Reader" (putD "at" d1 fs)))) (B'.ex [some (.ref r), some (.str (mkS f))]) := fun hok => by
        refine sg _ _ ?_
        simp [hadd, hr, List.lookup, putD]
        exact rest hok
      simp [hr, List.lookup]
      by_cases hxL : x ∈ L.cps
      · rw [if_pos hxL]
        refine sg _ _ ?_
        simp [gSl, hfl, hr, cut_last]
        by_cases hlt : ∀ y ∈ f.getLast?, y < x
        · rw [if_neg (fun z => (last_le f x).mp z hlt)]
          exact tail ⟨by simpa using hxL, hlt⟩
        · rw [if_pos ((last_le f x).mpr hlt)]
          exact re _ _ (ref (fun z => hlt z.2))
      · rw [if_neg hxL]
        exact re _ _ (ref (fun z => hxL (by simpa using z.1)))
    obtain ⟨K, hK⟩ : ∃ K, K = wWh wt_Reader_bracket_0 wb_Reader_bracket_0 B n := ⟨_, rfl⟩
    refine wWh_step hK ?_
    simp [wt_Reader_bracket_0, hr, mkS_nil_iff]
    by_cases hf : f = []
    · rw [if_pos hf]
      exact body (fun z => z.1 hf) _ hK rfl
    · rw [if_neg hf]
      refine sg _ _ ?_
      simp
      by_cases hx : x = 93
      · rw [if_pos hx]
        simp only [brkM] at q
        rw [if_pos ⟨hf, hx⟩] at q
        exact q hh a rfl o Fr.refl
      · rw [if_neg hx]
        exact body (fun z => hx z.2) _ hK rfl
theorem b_bracket : ∀ ds h Q E, sp_Reader_bracket ds h Q E → w_Reader_bracket (endsOf Q E) (slots0 ["self", "found"] ds) h := by
  rintro ds h Q E ⟨r, L, T, s, rfl, ⟨v, ix, o⟩, hT, q⟩
  have hl : (T.cps.toList.drop s.pos).length ≤ 100000 := by rw [List.length_drop, ← len_list]; omega
  simp [w_Reader_bracket, slots0]
  refine ⟨100002, ?_⟩
  have := br_loop (B := { nx := wSeq (wSetF "Reader" "at" (wVar 0) (wOp gAdd (wUn (kFld "Reader" "at") (wVar 0)) (wC (.int 1)))) (wRet (wTup (wCons (wC (.str "one")) (wCons (wVar 1) wNil)))) (endsOf Q E), rt := Q, bk := (endsOf Q E).bk, ct := (endsOf Q E).ct, ex := (endsOf Q E).ex }) (lv := s.lv) (b := s.bh) hT (T.cps.toList.drop s.pos) [] s.pos h 100002 rfl (by simpa using hl) (by omega) o ?_
  · simpa [mkS] using this
  · split at q
    · rename_i i hi
      rw [hi]
      exact fun h' s1 z => q h' z
    · rename_i p hp
      rw [hp]
      intro h' a ea o' fr
      have hr' : h'[r]? = some (.ins "Reader" [("letters", .str L), ("text", .str T), ("at", .int a), ("levels", .ref v), ("behind", .int s.bh)]) := o'.rd
      have q2 := q _ (o'.own (a + 1) s.bh |>.ok |> fun z => by rw [ea]; exact z) (fr.trans (o'.ownFr _))
      simp [hr', List.lookup, putD]
      exact q2
/-! ### parentheses -/
def sp_Reader_enter : SpD := fun ds h Q E => ∃ r L T s, ds = [.ref r] ∧ RdOk h r L T s ∧ T.length ≤ 100000 ∧ s.lv.length ≤ 1000 ∧ res (Q := Q .non) h r L T E (entM T.cps.toList s)
theorem mono_enter : MonoSp sp_Reader_enter := fun ds h Q Q' E E' hq he ⟨r, L, T, s, a, b, c, d, q⟩ => ⟨r, L, T, s, a, b, c, d, res_mono (fun h => hq _ h) he q⟩
def w_Reader_enter : WS := wSeq (wAsg (.nm 1) (wOp gNe (wMeth "Reader" "sign" sp_Reader_sign (wVar 0) wNil) (wC (.str "?")))) (wSeq (wIf (wNot (wTru (wVar 1))) (wSeq (wSetF "Reader" "at" (wVar 0) (wOp gAdd (wUn (kFld "Reader" "at") (wVar 0)) (wC (.int 1)))) (wSeq (wIf (wB (wOp gNe (wMeth "Reader" "sign" sp_Reader_sign (wVar 0) wNil) (wC (.str ":")))) (wExpr (wMeth "Reader" "refuse" sp_Reader_refuse (wVar 0) wNil)) (wNext)) (wSetF "Reader" "at" (wVar 0) (wOp gAdd (wUn (kFld "Reader" "at") (wVar 0)) (wC (.int 1)))))) (wNext)) (wSeq (wExpr (wMt "list" gAppend (wUn (kFld "Reader" "levels") (wVar 0)) (wCons (wMake "Level" sp_LevelDD_initDD (wCons (wVar 1) (wNil))) (wNil)))) (wSetF "Reader" "behind" (wVar 0) (wC (.int 0)))))
theorem ent_tail {h : Hh} {r v : Nat} {ix : List (Nat × Nat × Nat)} {L T : Str} {s : Rs} {Q : PV} {E : PX} {g : Bool} (o : RdX h r v ix L T s) (hl : s.lv.length ≤ 1000) (q : RdQ h r L T ⟨s.pos, ⟨g, [], []⟩ :: s.lv, 0⟩ (Q .non)) :
    wSeq (wExpr (wMt "list" gAppend (wUn (kFld "Reader" "levels") (wVar 0)) (wCons (wMake "Level" sp_LevelDD_initDD (wCons (wVar 1) wNil)) wNil))) (wSetF "Reader" "behind" (wVar 0) (wC (.int 0))) (endsOf Q E) [some (.ref r), some (.bl g)] h := by
  have hr : h[r]? = some (.ins "Reader" [("letters", .str L), ("text", .str T), ("at", .int s.pos), ("levels", .ref v), ("behind", .int s.bh)]) := o.rd
  have hv := o.lv
  have hix : (lvRefs ix).length ≤ 1000 := by rw [lvRefs_len, ← o.low.len]; exact hl
  simp [hr, List.lookup, ls_of hv]
  refine ⟨h.length, g, rfl, by rw [ap_get0]; rfl, rfl, ?_⟩
  have e1 : List.set (h ++ [O.ins "Level" []]) h.length (lvO g (h ++ [O.ins "Level" []]).length ((h ++ [O.ins "Level" []]).length + 1)) ++ [O.lst [], O.lst []] = h ++ [lvO g (h.length + 1) (h.length + 2), O.lst [], O.lst []] := by simp [ap_set0]
  rw [e1]
  have Iv : (h ++ [lvO g (h.length + 1) (h.length + 2), O.lst [], O.lst []])[v]? = some (.lst (lvRefs ix)) := by rw [get_app_in (in_of hv)]; exact hv
  have o2 := o.push g
  have hr2 : ((h ++ [lvO g (h.length + 1) (h.length + 2), O.lst [], O.lst []]).set v (.lst (lvRefs ix ++ [.ref h.length])))[r]? = some (.ins "Reader" [("letters", .str L), ("text", .str T), ("at", .int s.pos), ("levels", .ref v), ("behind", .int s.bh)]) := o2.rd
  rw [gAppend_ok Iv (by simp; omega)]
  simp only [Get_some]
  rw [hr2]
  have hrv : r ≤ v := o.ge v (by simp)
  have q2 := q _ (o2.own s.pos 0).ok (((Chg.app.trans (Chg.set (S := [v]) (by simp))).fr (Nat.le_of_lt (get_lt o.rd)) (by simp; exact hrv)).trans (o2.ownFr _))
  simp [putD]
  exact q2
theorem b_enter : ∀ ds h Q E, sp_Reader_enter ds h Q E → w_Reader_enter (endsOf Q E) (slots0 ["self", "is_group"] ds) h := by
  rintro ds h Q E ⟨r, L, T, s, rfl, ⟨v, ix, o⟩, hT, hl, q⟩
  have hr : h[r]? = some (.ins "Reader" [("letters", .str L), ("text", .str T), ("at", .int s.pos), ("levels", .ref v), ("behind", .int s.bh)]) := o.rd
  have sg : ∀ Q E, Q (.str (sgn T s.pos)) h → sp_Reader_sign [.ref r] h Q E := fun Q E q => ⟨r, L, T, v, s.pos, s.bh, rfl, o.rd, hT, q⟩
  have o1 := o.own (s.pos + 1) s.bh
  have hr1 : (h.set r (rdO L T v (s.pos + 1) s.bh))[r]? = some (.ins "Reader" [("letters", .str L), ("text", .str T), ("at", .int ((s.pos + 1 : Nat) : Int)), ("levels", .ref v), ("behind", .int s.bh)]) := o1.rd
  have sg1 : ∀ Q E, Q (.str (sgn T (s.pos + 1))) (h.set r (rdO L T v (s.pos + 1) s.bh)) → sp_Reader_sign [.ref r] (h.set r (rdO L T v (s.pos + 1) s.bh)) Q E := fun Q E q => ⟨r, L, T, v, s.pos + 1, s.bh, rfl, o1.rd, hT, q⟩
  obtain ⟨K, hK⟩ : ∃ K : WS, K = wSeq (wExpr (wMt "list" gAppend (wUn (kFld "Reader" "levels") (wVar 0)) (wCons (wMake "Level" sp_LevelDD_initDD (wCons (wVar 1) wNil)) wNil))) (wSetF "Reader" "behind" (wVar 0) (wC (.int 0))) := ⟨_, rfl⟩
  have ew : w_Reader_enter = wSeq (wAsg (.nm 1) (wOp gNe (wMeth "Reader" "sign" sp_Reader_sign (wVar 0) wNil) (wC (.str "?")))) (wSeq (wIf (wNot (wTru (wVar 1))) (wSeq (wSetF "Reader" "at" (wVar 0) (wOp gAdd (wUn (kFld "Reader" "at") (wVar 0)) (wC (.int 1)))) (wSeq (wIf (wB (wOp gNe (wMeth "Reader" "sign" sp_Reader_sign (wVar 0) wNil) (wC (.str ":")))) (wExpr (wMeth "Reader" "refuse" sp_Reader_refuse (wVar 0) wNil)) (wNext)) (wSetF "Reader" "at" (wVar 0) (wOp gAdd (wUn (kFld "Reader" "at") (wVar 0)) (wC (.int 1)))))) (wNext)) K) := by rw [hK]; rfl
  rw [ew]
  cases hd : T.cps.toList.drop s.pos with
  | nil =>
    have e0 : ¬ (sgn T s.pos = chS 63) := by rw [sgn_nil hd]; exact fun z => chS_ne_nil _ z.symm
    simp only [entM, hd] at q
    simp [slots0, hr]
    refine sg _ _ ?_
    simp [e0]
    rw [hK]
    exact ent_tail o hl q
  | cons x rem =>
    by_cases hx : x = 63
    · subst hx
      have d1 := drop_next hd
      simp [slots0, hr]
      refine sg _ _ ?_
      simp [sgn_cons hd, hr, List.lookup, putD]
      have er : O.ins "Reader" [("letters", .str L), ("text", .str T), ("at", .int ((s.pos : Int) + 1)), ("levels", .ref v), ("behind", .int s.bh)] = rdO L T v (s.pos + 1) s.bh := by simp [rdO]
      rw [er, hr1]
      simp
      refine sg1 _ _ ?_
      cases rem with
      | nil =>
        have e0 : ¬ (sgn T (s.pos + 1) = chS 58) := by rw [sgn_nil d1]; exact fun z => chS_ne_nil _ z.symm
        simp only [entM, hd] at q
        simp [e0, hr1]
        exact ⟨r, L, T, v, s.pos + 1, s.bh, rfl, o1.rd, q _ (o.ownFr _)⟩
      | cons y rem2 =>
        by_cases hy : y = 58
        · subst hy
          simp only [entM, hd] at q
          simp [sgn_cons d1, hr1, List.lookup, putD]
          have o2 := o1.own (s.pos + 2) s.bh
          have er2 : O.ins "Reader" [("letters", .str L), ("text", .str T), ("at", .int ((s.pos : Int) + 1 + 1)), ("levels", .ref v), ("behind", .int s.bh)] = rdO L T v (s.pos + 2) s.bh := by simp [rdO]; omega
          rw [er2, hK]
          have o2' := o2
          simp at o2'
          refine ent_tail o2' hl ?_
          intro h' ok fr
          refine q h' ok ?_
          have f1 := o.ownFr (rdO L T v (s.pos + 2) s.bh)
          exact f1.trans fr
        · have q2 : ∀ h', Fr r h h' → E (xText (s.pos + 1 : Nat)) h' := by
            have : entM T.cps.toList s = .bad (s.pos + 1) := by
              simp only [entM, hd]
              split
              · rename_i a b z; cases z; exact absurd rfl hy
              · rfl
              · rename_i z1 z2; exact (z2 _ rfl).elim
            rw [this] at q
            exact q
          have e0 : ¬ (sgn T (s.pos + 1) = chS 58) := by rw [sgn_cons d1]; simpa using hy
          simp [e0, hr1]
          exact ⟨r, L, T, v, s.pos + 1, s.bh, rfl, o1.rd, q2 _ (o.ownFr _)⟩
    · have e0 : ¬ (sgn T s.pos = chS 63) := by rw [sgn_cons hd]; simpa using hx
      have q2 : RdQ h r L T ⟨s.pos, ⟨true, [], []⟩ :: s.lv, 0⟩ (Q .non) := by
        have : entM T.cps.toList s = .ok ⟨s.pos, ⟨true, [], []⟩ :: s.lv, 0⟩ := by
          simp only [entM, hd]
          split
          · rename_i z; cases z; exact absurd rfl hx
          · rename_i z; cases z; exact absurd rfl hx
          · rfl
        rw [this] at q
        exact q
      simp [slots0, hr]
      refine sg _ _ ?_
      simp [e0]
      rw [hK]
      exact ent_tail o hl q2
end EV

namespace EV
open PySem PySem.Spec PyProof.Rows L2
def oneD (z : Str) : D := .tup [.str "one", .str z]
def stepM (L : Str) (T : List Nat) (s : Rs) : PR := match T.drop s.pos with
  | [] => .stuck
  | x :: _ =>
    if x = 42 ∨ x = 43 ∨ x = 63 then (match repM s x with
      | .ok s' => .ok ⟨s'.pos + 1, s'.lv, s'.bh⟩
      | .bad i => .bad i
      | .stuck => .stuck)
    else if x = 41 ∧ 1 < s.lv.length then (match s.lv with
      | l :: l2 :: low => .ok ⟨s.pos + 1, ⟨l2.g, l2.cs, l2.ls ++ [finD l]⟩ :: low, 1⟩
      | _ => .stuck)
    else if x = 40 ∧ s.lv.length ≤ 60 then entM T ⟨s.pos + 1, s.lv, s.bh⟩
    else if x ∈ L.cps.toList ∨ x = 46 ∨ x = 91 ∨ x = 124 then
      (if x = 91 then (match brkM L.cps.toList (T.drop (s.pos + 1)) [] (s.pos + 1) with
        | .inl i => .bad i
        | .inr p => (match s.lv with
          | l :: low => .ok ⟨p.2, ⟨l.g, l.cs, l.ls ++ [oneD (mkS p.1)]⟩ :: low, 1⟩
          | [] => .stuck))
      else (match s.lv with
        | l :: low => if x = 124 then .ok ⟨s.pos + 1, endRow l :: low, 0⟩ else .ok ⟨s.pos + 1, ⟨l.g, l.cs, l.ls ++ [oneD (if x = 46 then L else chS x)]⟩ :: low, 1⟩
        | [] => .stuck))
    else .bad s.pos
def Bd (s : Rs) : Prop := ∀ l ∈ s.lv, l.cs.length < 10000 ∧ l.ls.length < 10000
def sp_Reader_step : SpD := fun ds h Q E => ∃ r L T s, ds = [.ref r] ∧ RdOk h r L T s ∧ T.length ≤ 100000 ∧ s.lv.length ≤ 1000 ∧ Bd s ∧ res (Q := Q .non) h r L T E (stepM L T.cps.toList s)
theorem mono_step : MonoSp sp_Reader_step := fun ds h Q Q' E E' hq he ⟨r, L, T, s, a, b, c, d, f, q⟩ => ⟨r, L, T, s, a, b, c, d, f, res_mono (fun h => hq _ h) he q⟩
def stepK2 : WS := wSeq (wSetF "Reader" "at" (wVar 0) (wOp gAdd (wUn (kFld "Reader" "at") (wVar 0)) (wC (.int 1)))) (wIf (wTru (wVar 2)) (wSeq (wAsg (.nm 4) (wMt "list" gPop (wUn (kFld "Reader" "levels") (wVar 0)) wNil)) (wExpr (wMeth "Reader" "add" sp_Reader_add (wVar 0) (wCons (wMeth "Level" "finished" sp_Level_finished (wVar 4) wNil) (wNil))))) (wIf (wTru (wVar 3)) (wExpr (wMeth "Reader" "enter" sp_Reader_enter (wVar 0) wNil)) (wIf (wB (wOp gEq (wVar 1) (wC (.str "[")))) (wExpr (wMeth "Reader" "add" sp_Reader_add (wVar 0) (wCons (wMeth "Reader" "bracket" sp_Reader_bracket (wVar 0) wNil) (wNil)))) (wIf (wB (wOp gEq (wVar 1) (wC (.str "|")))) (wSeq (wExpr (wMeth "Level" "end_row" sp_Level_end_row (wOp gIx (wUn (kFld "Reader" "levels") (wVar 0)) (wUn (k1 gNeg) (wC (.int 1)))) wNil)) (wSetF "Reader" "behind" (wVar 0) (wC (.int 0)))) (wExpr (wMeth "Reader" "add" sp_Reader_add (wVar 0) (wCons (wTup (wCons (wC (.str "one")) (wCons (wIfE (wB (wOp gEq (wVar 1) (wC (.str ".")))) (wUn (kFld "Reader" "letters") (wVar 0)) (wVar 1)) (wNil)))) (wNil))))))))
def stepK : WS := wSeq (wIf (wAnd (wNot (wTru (wVar 2))) (wAnd (wNot (wTru (wVar 3))) (wAnd (wB (wOp gNotIn (wVar 1) (wUn (kFld "Reader" "letters") (wVar 0)))) (wB (wOp gNotIn (wVar 1) (wTup (wCons (wC (.str ".")) (wCons (wC (.str "[")) (wCons (wC (.str "|")) (wNil)))))))))) (wExpr (wMeth "Reader" "refuse" sp_Reader_refuse (wVar 0) wNil)) (wNext)) (stepK2)
def w_Reader_step : WS := wSeq (wAsg (.nm 1) (wMeth "Reader" "sign" sp_Reader_sign (wVar 0) wNil)) (wSeq (wIf (wB (wUn (kWIn tblSigns false) (wVar 1))) (wSeq (wExpr (wMeth "Reader" "repeat" sp_Reader_repeat (wVar 0) (wCons (wVar 1) (wNil)))) (wSeq (wSetF "Reader" "at" (wVar 0) (wOp gAdd (wUn (kFld "Reader" "at") (wVar 0)) (wC (.int 1)))) (wRetN))) (wNext)) (wSeq (wAsg (.nm 2) (wAndV (wOp gEq (wVar 1) (wC (.str ")"))) (wOp gGt (wCa gLen (wCons (wUn (kFld "Reader" "levels") (wVar 0)) (wNil))) (wC (.int 1))))) (wSeq (wAsg (.nm 3) (wAndV (wOp gEq (wVar 1) (wC (.str "("))) (wOp gLe (wCa gLen (wCons (wUn (kFld "Reader" "levels") (wVar 0)) (wNil))) (wC (.int 60))))) (stepK))))
theorem sgs_none {x : Nat} (h : ¬ (x = 42 ∨ x = 43 ∨ x = 63)) : sgs.lookup (chS x) = none := by
  have h1 : (x == 42) = false := by simp; omega
  have h2 : (x == 43) = false := by simp; omega
  have h3 : (x == 63) = false := by simp; omega
  simp [sgs, List.lookup, h1, h2, h3]
theorem sgs_some {x : Nat} (hx : x = 42 ∨ x = 43 ∨ x = 63) : sgs.lookup (chS x) = some (.str (wordS x)) := by
  rcases hx with rfl | rfl | rfl <;> simp [sgs, List.lookup, wordS]
theorem step_tail {h : Hh} {r v x : Nat} {ix : List (Nat × Nat × Nat)} {L T : Str} {s : Rs} {Q : PV} {E : PX} {rem : List Nat} (o : RdX h r v ix L T s) (hT : T.length ≤ 100000) (bd : Bd s) (hd : T.cps.toList.drop s.pos = x :: rem)
    (q : res (Q := Q .non) h r L T E (if x ∈ L.cps.toList ∨ x = 46 ∨ x = 91 ∨ x = 124 then
      (if x = 91 then (match brkM L.cps.toList (T.cps.toList.drop (s.pos + 1)) [] (s.pos + 1) with
        | .inl i => .bad i
        | .inr p => (match s.lv with
          | l :: low => .ok ⟨p.2, ⟨l.g, l.cs, l.ls ++ [oneD (mkS p.1)]⟩ :: low, 1⟩
          | [] => .stuck))
      else (match s.lv with
        | l :: low => if x = 124 then .ok ⟨s.pos + 1, endRow l :: low, 0⟩ else .ok ⟨s.pos + 1, ⟨l.g, l.cs, l.ls ++ [oneD (if x = 46 then L else chS x)]⟩ :: low, 1⟩
        | [] => .stuck))
    else .bad s.pos)) : stepK (endsOf Q E) [some (.ref r), some (.str (chS x)), some (.bl false), some (.bl false), none] h := by
  have hr : h[r]? = some (.ins "Reader" [("letters", .str L), ("text", .str T), ("at", .int s.pos), ("levels", .ref v), ("behind", .int s.bh)]) := o.rd
  have o1 := o.own (s.pos + 1) s.bh
  have er : O.ins "Reader" [("letters", .str L), ("text", .str T), ("at", .int ((s.pos : Int) + 1)), ("levels", .ref v), ("behind", .int s.bh)] = rdO L T v (s.pos + 1) s.bh := by simp [rdO]
  have hr1 : (h.set r (rdO L T v (s.pos + 1) s.bh))[r]? = some (.ins "Reader" [("letters", .str L), ("text", .str T), ("at", .int ((s.pos + 1 : Nat) : Int)), ("levels", .ref v), ("behind", .int s.bh)]) := o1.rd
  have lv1 := ls_of o1.lv
  have flt : ∀ hh : Hh, gNotIn (.str (chS x)) (.tup [.str (chS 46), .str (chS 91), .str (chS 124)]) hh = some (.bl (!(decide (x = 46) || decide (x = 91) || decide (x = 124))), hh) := fun hh => by
    rw [gNotIn_strs rfl]
    have eb : ∀ a : Nat, (a == x) = decide (x = a) := fun a => by rw [Bool.eq_iff_iff]; simp; exact eq_comm
    simp [eqF, eb, Bool.and_assoc]
  by_cases hok : x ∈ L.cps.toList ∨ x = 46 ∨ x = 91 ∨ x = 124
  · rw [if_pos hok] at q
    have nb : ¬ x ∈ L.cps → (decide (x = 46) || decide (x = 91) || decide (x = 124)) = true := fun a => by
      rcases hok with z | z | z | z
      · exact absurd (by simpa using z) a
      · simp [z]
      · simp [z]
      · simp [z]
    have K2 : stepK2 (endsOf Q E) [some (.ref r), some (.str (chS x)), some (.bl false), some (.bl false), none] h := by
      by_cases h91 : x = 91
      · rw [if_pos h91] at q
        subst h91
        simp [stepK2, hr, List.lookup, putD]
        rw [er, hr1]
        simp
        refine ⟨r, L, T, ⟨s.pos + 1, s.lv, s.bh⟩, rfl, o1.ok, hT, ?_⟩
        cases hb : brkM L.cps.toList (T.cps.toList.drop (s.pos + 1)) [] (s.pos + 1) with
        | inl i =>
          rw [hb] at q
          exact fun h' fr => q h' ((o.ownFr _).trans fr)
        | inr p =>
          rw [hb] at q
          simp only at q
          cases hs : s.lv with
          | nil => rw [hs] at q; exact q.elim
          | cons l low =>
            rw [hs] at q
            intro h' ok fr
            have bl := bd l (by rw [hs]; simp)
            refine ⟨r, L, T, ⟨p.2, l :: low, s.bh⟩, .tup [.str "one", .str (mkS p.1)], l, low, rfl, by simpa [hs] using ok, rfl, bl.2, fun h2 ok2 fr2 => ?_⟩
            exact q h2 ok2 (((o.ownFr _).trans fr).trans fr2)
      · rw [if_neg h91] at q
        cases hs : s.lv with
        | nil => rw [hs] at q; exact q.elim
        | cons l low =>
          rw [hs] at q
          simp only at q
          have bl := bd l (by rw [hs]; simp)
          by_cases h124 : x = 124
          · rw [if_pos h124] at q
            subst h124
            obtain ⟨k, c, e, jx, rfl, ok, lw, nd3⟩ := o1.top (l := l) (low := low) hs
            have hk : (h.set r (rdO L T v (s.pos + 1) s.bh))[k]? = some (.ins "Level" [("is_group", .bl l.g), ("choices", .ref c), ("last", .ref e)]) := ok.k
            simp [stepK2, hr, List.lookup, putD]
            rw [er, hr1]
            simp [List.lookup, gIx, lv1, lvRefs_cons, L2.atI_last, hk]
            refine ⟨k, c, e, l, rfl, ok, nd3, bl.1, bl.2, fun h' e' ok' ch he' => ?_⟩
            have o2 := o1.endTop hs ok' ch he'
            have hr2 : h'[r]? = some (.ins "Reader" [("letters", .str L), ("text", .str T), ("at", .int ((s.pos + 1 : Nat) : Int)), ("levels", .ref v), ("behind", .int s.bh)]) := o2.rd
            have hrk : r ≤ k := o.ge k (by simp [ixF])
            have hrc : r ≤ c := o.ge c (by simp [ixF])
            have q2 := q _ (o2.own (s.pos + 1) 0).ok (((o.ownFr _).trans (ch.fr (Nat.le_of_lt (get_lt o1.rd)) (by simp; exact ⟨hrk, hrc⟩))).trans (o2.ownFr _))
            simp [hr2, putD]
            simpa [rdO] using q2
          · rw [if_neg h124] at q
            have add : ∀ z : Str, z = (if x = 46 then L else chS x) → sp_Reader_add [.ref r, .tup [.str "one", .str z]] (h.set r (rdO L T v (s.pos + 1) s.bh)) (fun x h1 => Q .non h1) E := fun z ez => by
              refine ⟨r, L, T, ⟨s.pos + 1, s.lv, s.bh⟩, _, l, low, rfl, o1.ok, hs, bl.2, fun h2 ok2 fr2 => ?_⟩
              refine q h2 ?_ ((o.ownFr _).trans fr2)
              have : addS ⟨s.pos + 1, s.lv, s.bh⟩ (.tup [.str "one", .str z]) = ⟨s.pos + 1, ⟨l.g, l.cs, l.ls ++ [oneD (if x = 46 then L else chS x)]⟩ :: low, 1⟩ := by simp [addS, hs, oneD, ez]
              rw [← this]; exact ok2
            by_cases h46 : x = 46
            · have := add L (by rw [if_pos h46])
              simp [stepK2, hr, List.lookup, putD, h91, h124, h46]
              rw [er, hr1]
              simpa [List.lookup] using this
            · have := add (chS x) (by rw [if_neg h46])
              simp [stepK2, hr, List.lookup, putD, h91, h124, h46]
              rw [er, hr1]
              simpa [List.lookup] using this
    simp [stepK, hr, List.lookup, flt]
    by_cases hxL : x ∈ L.cps
    · simp [hxL]
      exact K2
    · have := nb hxL
      simp [hxL]
      simp at this
      rw [if_neg (by intro ⟨⟨a, b⟩, c⟩; rcases this with (z | z) | z <;> contradiction)]
      exact K2
  · rw [if_neg hok] at q
    have a1 : ¬ x ∈ L.cps := fun z => hok (.inl (by simpa using z))
    have a2 : ¬ x = 46 := fun z => hok (.inr (.inl z))
    have a3 : ¬ x = 91 := fun z => hok (.inr (.inr (.inl z)))
    have a4 : ¬ x = 124 := fun z => hok (.inr (.inr (.inr z)))
    simp [stepK, hr, List.lookup, a1, flt, a2, a3, a4]
    exact ⟨r, L, T, v, s.pos, s.bh, rfl, o.rd, q h Fr.refl⟩
theorem b_step : ∀ ds h Q E, sp_Reader_step ds h Q E → w_Reader_step (endsOf Q E) (slots0 ["self", "sign", "is_close", "is_begin", "level"] ds) h := by
  rintro ds h Q E ⟨r, L, T, s, rfl, ⟨v, ix, o⟩, hT, hlv, bd, q⟩
  have hr : h[r]? = some (.ins "Reader" [("letters", .str L), ("text", .str T), ("at", .int s.pos), ("levels", .ref v), ("behind", .int s.bh)]) := o.rd
  have lv := ls_of o.lv
  have lvl : (lvRefs ix).length = s.lv.length := by rw [lvRefs_len, o.low.len]
  have gl : gLen [.ref v] h = some (.int s.lv.length, h) := by simp only [gLen, lv]; rw [lvl]
  cases hd : T.cps.toList.drop s.pos with
  | nil => simp [stepM, hd] at q; exact q.elim
  | cons x rem =>
    have sg : ∀ Q E, Q (.str (chS x)) h → sp_Reader_sign [.ref r] h Q E := fun Q E q => ⟨r, L, T, v, s.pos, s.bh, rfl, o.rd, hT, by rw [sgn_cons hd]; exact q⟩
    have o1 := o.own (s.pos + 1) s.bh
    have er : O.ins "Reader" [("letters", .str L), ("text", .str T), ("at", .int ((s.pos : Int) + 1)), ("levels", .ref v), ("behind", .int s.bh)] = rdO L T v (s.pos + 1) s.bh := by simp [rdO]
    have hr1 : (h.set r (rdO L T v (s.pos + 1) s.bh))[r]? = some (.ins "Reader" [("letters", .str L), ("text", .str T), ("at", .int ((s.pos + 1 : Nat) : Int)), ("levels", .ref v), ("behind", .int s.bh)]) := o1.rd
    have lv1 := ls_of o1.lv
    by_cases h1 : x = 42 ∨ x = 43 ∨ x = 63
    · simp only [stepM, hd] at q
      rw [if_pos h1] at q
      simp [w_Reader_step, slots0, hr]
      refine sg _ _ ?_
      simp [tblSigns, sgs_some h1, hr]
      refine ⟨r, L, T, s, x, rfl, ⟨v, ix, o⟩, h1, ?_⟩
      cases hp : repM s x with
      | stuck => rw [hp] at q; exact q.elim
      | bad i => rw [hp] at q; exact q
      | ok s' =>
        rw [hp] at q
        intro h' ok fr
        obtain ⟨v', ix', o'⟩ := ok
        have hr' : h'[r]? = some (.ins "Reader" [("letters", .str L), ("text", .str T), ("at", .int s'.pos), ("levels", .ref v'), ("behind", .int s'.bh)]) := o'.rd
        have q2 := q _ (o'.own (s'.pos + 1) s'.bh).ok (fr.trans (o'.ownFr _))
        simp [hr', List.lookup, putD]
        exact q2
    · have k1 := sgs_none h1
      simp only [stepM, hd] at q
      rw [if_neg h1] at q
      by_cases h2 : x = 41 ∧ 1 < s.lv.length
      · rw [if_pos h2] at q
        obtain ⟨rfl, h2⟩ := h2
        have h2' : (1 : Int) < s.lv.length := by omega
        match hs : s.lv with
        | [] => rw [hs] at h2; simp at h2
        | [_] => rw [hs] at h2; simp at h2
        | l :: l2 :: low =>
          rw [hs] at q
          simp only at q
          obtain ⟨k, c, e, jx, rfl, ok, lw, nd3⟩ := o1.top (l := l) (low := l2 :: low) hs
          obtain ⟨op, okp, dis⟩ := o1.pop hs
          simp [w_Reader_step, slots0, hr]
          refine sg _ _ ?_
          simp [tblSigns, k1, hr, List.lookup, gl, h2', putD, stepK, stepK2]
          rw [er, hr1]
          have hv1 : (h.set r (rdO L T v (s.pos + 1) s.bh))[v]? = some (.lst (lvRefs jx ++ [.ref k])) := by rw [o1.lv, lvRefs_cons]
          have hrp : ((h.set r (rdO L T v (s.pos + 1) s.bh)).set v (.lst (lvRefs jx)))[r]? = some (.ins "Reader" [("letters", .str L), ("text", .str T), ("at", .int ((s.pos + 1 : Nat) : Int)), ("levels", .ref v), ("behind", .int s.bh)]) := op.rd
          have hkp : ((h.set r (rdO L T v (s.pos + 1) s.bh)).set v (.lst (lvRefs jx)))[k]? = some (.ins "Level" [("is_group", .bl l.g), ("choices", .ref c), ("last", .ref e)]) := okp.k
          simp [List.lookup, lv1, gPop_snoc hv1, hrp, hkp]
          have bl := bd l (by rw [hs]; simp)
          have bl2 := bd l2 (by rw [hs]; simp)
          refine ⟨k, c, e, l, rfl, okp, nd3, bl.1, bl.2, fun h' e' ok' ch he' => ?_⟩
          refine ⟨r, L, T, ⟨s.pos + 1, l2 :: low, s.bh⟩, finD l, l2, low, rfl, (op.chg ch dis).ok, rfl, bl2.2, fun h2 ok2 fr2 => ?_⟩
          refine q h2 ok2 ?_
          have hrv : r ≤ v := o.ge v (by simp)
          have hrk : r ≤ k := o.ge k (by simp [ixF])
          have hrc : r ≤ c := o.ge c (by simp [ixF])
          have f1 : Fr r (h.set r (rdO L T v (s.pos + 1) s.bh)) ((h.set r (rdO L T v (s.pos + 1) s.bh)).set v (.lst (lvRefs jx))) := (Chg.set (S := [v]) (by simp)).fr (Nat.le_of_lt (get_lt o1.rd)) (by simp; exact hrv)
          exact (((o.ownFr _).trans f1).trans (ch.fr (Nat.le_of_lt (get_lt op.rd)) (by simp; exact ⟨hrk, hrc⟩))).trans fr2
      · rw [if_neg h2] at q
        by_cases h3 : x = 40 ∧ s.lv.length ≤ 60
        · rw [if_pos h3] at q
          obtain ⟨rfl, h3⟩ := h3
          have h3' : (s.lv.length : Int) ≤ 60 := by omega
          simp [w_Reader_step, slots0, hr]
          refine sg _ _ ?_
          simp [tblSigns, k1, hr, List.lookup, gl, h3', putD, stepK, stepK2]
          rw [er, hr1]
          simp
          refine ⟨r, L, T, ⟨s.pos + 1, s.lv, s.bh⟩, rfl, o1.ok, hT, hlv, ?_⟩
          cases hp : entM T.cps.toList ⟨s.pos + 1, s.lv, s.bh⟩ with
          | stuck => rw [hp] at q; exact q.elim
          | bad i => rw [hp] at q; exact fun h' fr => q h' ((o.ownFr _).trans fr)
          | ok s' => rw [hp] at q; exact fun h' ok fr => q h' ok ((o.ownFr _).trans fr)
        · rw [if_neg h3] at q
          have cb : (decide (x = 41) && decide ((1 : Int) < s.lv.length)) = false := by
            rw [Bool.eq_false_iff]; intro y; simp at y; exact h2 ⟨y.1, by omega⟩
          have ob : (decide (x = 40) && decide ((s.lv.length : Int) ≤ 60)) = false := by
            rw [Bool.eq_false_iff]; intro y; simp at y; exact h3 ⟨y.1, by omega⟩
          have KK := step_tail o hT bd hd q
          simp [w_Reader_step, slots0, hr]
          refine sg _ _ ?_
          simp [tblSigns, k1, hr, List.lookup, gl]
          by_cases h41 : x = 41
          · have : ¬ (1 : Int) < s.lv.length := fun z => by simp [h41, z] at cb
            simp [h41, this]
            rw [h41] at KK
            exact KK
          · simp [h41]
            by_cases h40 : x = 40
            · have : ¬ (s.lv.length : Int) ≤ 60 := fun z => by simp [h40, z] at ob
              simp [h40, this]
              rw [h40] at KK
              exact KK
            · simp [h40]
              exact KK
end EV

namespace EV
open PySem PySem.Spec PyProof.Rows L2
inductive RR where
  | tree (d : D)
  | bad (i : Nat)
  | stuck
def runM (L : Str) (T : List Nat) : Nat → Rs → RR
  | 0, _ => .stuck
  | n + 1, s => if s.pos < T.length then (match stepM L T s with
      | .ok s' => runM L T n s'
      | .bad i => .bad i
      | .stuck => .stuck)
    else if 1 < s.lv.length then .bad s.pos else (match s.lv with
      | [l] => .tree (finD l)
      | _ => .stuck)
/-! ### what holds of the levels at every step -/
structure LvI (p : Nat) (l : Lv) : Prop where
  sz : l.cs.length + l.ls.length ≤ p
  cs : ScDs 0 l.cs
  ls : ScDs 0 l.ls
structure RI (s : Rs) : Prop where
  len : s.lv.length ≤ 61
  lvs : ∀ l ∈ s.lv, LvI s.pos l
theorem ScDs.last {n : Nat} {ds : List D} {d : D} (s : ScDs n ds) (e : ds.getLast? = some d) : ScD n d := s.mem (List.mem_of_getLast? e)
theorem ScDs.init {n : Nat} {ds : List D} (s : ScDs n ds) : ScDs n ds.dropLast := ScDs.of fun d hd => s.mem (List.dropLast_subset _ hd)
theorem ScDs.snoc {n : Nat} {ds : List D} {d : D} (s : ScDs n ds) (sd : ScD n d) : ScDs n (ds ++ [d]) := s.append ⟨sd, trivial⟩
theorem rowD_sc {n : Nat} {ds : List D} (s : ScDs n ds) : ScD n (rowD ds) := by
  unfold rowD
  split
  · exact ⟨trivial, trivial⟩
  · exact s.1
  · exact ⟨trivial, s, trivial⟩
theorem altD_sc {n : Nat} {ds : List D} (s : ScDs n ds) : ScD n (altD ds) := by
  unfold altD
  split
  · exact s.1
  · exact ⟨trivial, s, trivial⟩
theorem endRow_sc {n : Nat} {l : Lv} (c : ScDs n l.cs) (s : ScDs n l.ls) : ScDs n (endRow l).cs := c.snoc (rowD_sc s)
theorem finD_sc {n : Nat} {l : Lv} (c : ScDs n l.cs) (s : ScDs n l.ls) : ScD n (finD l) := by
  unfold finD
  split
  · exact ⟨trivial, altD_sc (endRow_sc c s), trivial⟩
  · exact altD_sc (endRow_sc c s)
theorem LvI.mono {p p' : Nat} {l : Lv} (i : LvI p l) (h : p ≤ p') : LvI p' l := ⟨Nat.le_trans i.sz h, i.cs, i.ls⟩
theorem RI.put {s : Rs} {l l' : Lv} {low : List Lv} {p b : Nat} (i : RI s) (hs : s.lv = l :: low) (hp : s.pos ≤ p) (hl : LvI p l') : RI ⟨p, l' :: low, b⟩ := by
  refine ⟨by have := i.len; rw [hs] at this; exact this, fun m hm => ?_⟩
  rcases List.mem_cons.mp hm with rfl | hm
  · exact hl
  · exact (i.lvs m (by rw [hs]; simp [hm])).mono hp
theorem ScDs.take {n : Nat} (k : Nat) {ds : List D} (s : ScDs n ds) : ScDs n (ds.take k) := ScDs.of fun d hd => s.mem (List.mem_of_mem_take hd)
theorem rep_ri {s s' : Rs} {x : Nat} (i : RI s) (e : repM s x = .ok s') : RI s' ∧ s'.pos = s.pos := by
  unfold repM at e
  split at e
  · cases e
  · rename_i l low hs
    have li := i.lvs l (by rw [hs]; simp)
    split at e
    · split at e
      · rename_i t ht
        cases e
        refine ⟨i.put hs (Nat.le_refl _) ⟨?_, li.cs, li.ls.init.snoc ⟨trivial, li.ls.last ht, trivial, trivial⟩⟩, rfl⟩
        have := li.sz
        have h1 : l.ls ≠ [] := fun z => by rw [z] at ht; cases ht
        have h2 : 0 < l.ls.length := List.length_pos_iff.mpr h1
        simp; omega
      · cases e
    · split at e
      · split at e
        · rename_i ts ht
          split at e
          · cases e
            refine ⟨i.put hs (Nat.le_refl _) ⟨?_, li.cs, li.ls.init.snoc (ScDs.snoc ((show ScDs 0 ts from li.ls.last ht).take 2) trivial)⟩, rfl⟩
            have := li.sz
            have h1 : l.ls ≠ [] := fun z => by rw [z] at ht; cases ht
            have h2 : 0 < l.ls.length := List.length_pos_iff.mpr h1
            simp; omega
          · cases e
        · cases e
      · cases e
theorem brk_pos {L : List Nat} : ∀ {rem f : List Nat} {a : Nat} {p : List Nat × Nat}, brkM L rem f a = .inr p → a < p.2
  | [], f, a, p, e => by simp [brkM] at e
  | x :: rem, f, a, p, e => by
    simp only [brkM] at e
    split at e
    · cases e; simp
    · split at e
      · have := brk_pos e; omega
      · cases e
theorem ent_ri {T : List Nat} {s s' : Rs} (i : RI s) (h60 : s.lv.length ≤ 60) (e : entM T s = .ok s') : RI s' ∧ s.pos ≤ s'.pos := by
  have mk : ∀ p g b, s.pos ≤ p → RI ⟨p, ⟨g, [], []⟩ :: s.lv, b⟩ := fun p g b hp => ⟨by simp; omega, fun m hm => by
    rcases List.mem_cons.mp hm with rfl | hm
    · exact ⟨by simp, trivial, trivial⟩
    · exact (i.lvs m hm).mono hp⟩
  unfold entM at e
  split at e
  · cases e; exact ⟨mk _ _ _ (by omega), by simp⟩
  · cases e
  · cases e; exact ⟨mk _ _ _ (Nat.le_refl _), Nat.le_refl _⟩
theorem step_ri {L : Str} {T : List Nat} {s s' : Rs} (i : RI s) (e : stepM L T s = .ok s') : RI s' ∧ s.pos < s'.pos := by
  unfold stepM at e
  split at e
  · cases e
  · rename_i x rem hd
    split at e
    · split at e
      · rename_i s1 h1
        obtain ⟨i1, p1⟩ := rep_ri i h1
        cases e
        exact ⟨⟨i1.len, fun l hl => (i1.lvs l hl).mono (by simp)⟩, by simp; omega⟩
      · cases e
      · cases e
    · split at e
      · split at e
        · rename_i l l2 low hs
          cases e
          have li := i.lvs l (by rw [hs]; simp)
          have li2 := i.lvs l2 (by rw [hs]; simp)
          refine ⟨⟨by have := i.len; rw [hs] at this; simp at this ⊢; omega, fun m hm => ?_⟩, by simp⟩
          rcases List.mem_cons.mp hm with rfl | hm
          · exact ⟨by have := li2.sz; simp; omega, li2.cs, li2.ls.snoc (finD_sc li.cs li.ls)⟩
          · exact (i.lvs m (by rw [hs]; simp [hm])).mono (by simp)
        · cases e
      · split at e
        · rename_i h40
          have i1 : RI ⟨s.pos + 1, s.lv, s.bh⟩ := ⟨i.len, fun l hl => (i.lvs l hl).mono (by simp)⟩
          obtain ⟨i2, p2⟩ := ent_ri i1 h40.2 e
          exact ⟨i2, by simp at p2; omega⟩
        · split at e
          · split at e
            · split at e
              · cases e
              · rename_i p hb
                split at e
                · rename_i l low hs
                  cases e
                  have hp := brk_pos hb
                  have li := i.lvs l (by rw [hs]; simp)
                  exact ⟨i.put hs (by omega) ⟨by have := li.sz; simp; omega, li.cs, li.ls.snoc ⟨trivial, trivial, trivial⟩⟩, by simp; omega⟩
                · cases e
            · split at e
              · rename_i l low hs
                have li := i.lvs l (by rw [hs]; simp)
                split at e
                · cases e
                  exact ⟨i.put hs (by omega) ⟨by have := li.sz; simp [endRow]; omega, endRow_sc li.cs li.ls, trivial⟩, by simp⟩
                · cases e
                  exact ⟨i.put hs (by omega) ⟨by have := li.sz; simp; omega, li.cs, li.ls.snoc ⟨trivial, trivial, trivial⟩⟩, by simp⟩
              · cases e
          · cases e
theorem brk_le {L : List Nat} : ∀ {rem f : List Nat} {a : Nat} {p : List Nat × Nat}, brkM L rem f a = .inr p → p.2 ≤ a + rem.length
  | [], f, a, p, e => by simp [brkM] at e
  | x :: rem, f, a, p, e => by
    simp only [brkM] at e
    split at e
    · cases e; simp
    · split at e
      · have := brk_le e; simp; omega
      · cases e
theorem step_le {L : Str} {T : List Nat} {s s' : Rs} (i : RI s) (e : stepM L T s = .ok s') : s'.pos ≤ T.length := by
  unfold stepM at e
  split at e
  · cases e
  · rename_i x rem hd
    have hlt := drop_lt hd
    split at e
    · split at e
      · rename_i s1 h1
        have := (rep_ri i h1).2
        cases e
        simp; omega
      · cases e
      · cases e
    · split at e
      · split at e
        · cases e; exact hlt
        · cases e
      · split at e
        · unfold entM at e
          simp only at e
          split at e
          · rename_i q hq
            cases e
            have h1 := drop_lt hq
            have h2 := drop_lt (drop_next hq)
            simp; omega
          · cases e
          · cases e; exact hlt
        · split at e
          · split at e
            · split at e
              · cases e
              · rename_i p hb
                split at e
                · cases e
                  have := brk_le hb
                  rw [List.length_drop] at this
                  simp; omega
                · cases e
            · split at e
              · split at e
                · cases e; exact hlt
                · cases e; exact hlt
              · cases e
          · cases e
theorem RI.bd {s : Rs} (i : RI s) (hp : s.pos < 10000) : Bd s := fun l hl => by have := (i.lvs l hl).sz; omega
def resR (h : Hh) (r : Nat) (Q : PV) (E : PX) : RR → Prop
  | .tree d => ∀ h', Fr r h h' → Q d h'
  | .bad i => ∀ h', Fr r h h' → E (xText i) h'
  | .stuck => False
theorem resR_fr {h h2 : Hh} {r : Nat} {Q : PV} {E : PX} (f : Fr r h h2) : ∀ {p : RR}, resR h r Q E p → resR h2 r Q E p
  | .tree d, q => fun h' z => q h' (f.trans z)
  | .bad i, q => fun h' z => q h' (f.trans z)
  | .stuck, q => q
def sp_Reader_finished : SpD := fun ds h Q E => ∃ r L T s n, ds = [.ref r] ∧ RdOk h r L T s ∧ T.length ≤ 9000 ∧ RI s ∧ s.pos ≤ T.length ∧ resR h r Q E (runM L T.cps.toList n s)
theorem mono_rdFin : MonoSp sp_Reader_finished := fun ds h Q Q' E E' hq he ⟨r, L, T, s, n, a, b, c, d, f, q⟩ => ⟨r, L, T, s, n, a, b, c, d, f, by
  cases z : runM L T.cps.toList n s with
  | tree t => rw [z] at q; exact fun h' fr => hq _ _ (q h' fr)
  | bad i => rw [z] at q; exact fun h' fr => he _ _ (q h' fr)
  | stuck => rw [z] at q; exact q⟩
def rdfK : WS := wSeq (wIf (wB (wOp gGt (wCa gLen (wCons (wUn (kFld "Reader" "levels") (wVar 0)) (wNil))) (wC (.int 1)))) (wExpr (wMeth "Reader" "refuse" sp_Reader_refuse (wVar 0) wNil)) (wNext)) (wRet (wMeth "Level" "finished" sp_Level_finished (wOp gIx (wUn (kFld "Reader" "levels") (wVar 0)) (wC (.int 0))) wNil))
def wt_Reader_finished_0 : WT := wB (wOp gLt (wUn (kFld "Reader" "at") (wVar 0)) (wCa gLen (wCons (wUn (kFld "Reader" "text") (wVar 0)) (wNil))))
def wb_Reader_finished_0 : WS := wExpr (wMeth "Reader" "step" sp_Reader_step (wVar 0) wNil)
def w_Reader_finished : WS := wSeq (wWhile wt_Reader_finished_0 wb_Reader_finished_0) (rdfK)
theorem rf_tail {h : Hh} {r : Nat} {L T : Str} {s : Rs} {Q : PV} {E : PX} (ok : RdOk h r L T s) (i : RI s) (hT : T.length ≤ 9000) (hp : s.pos ≤ T.length) (q : resR h r Q E (if 1 < s.lv.length then .bad s.pos else (match s.lv with | [l] => .tree (finD l) | _ => .stuck))) :
    rdfK (endsOf Q E) [some (.ref r)] h := by
  obtain ⟨v, ix, o⟩ := ok
  have hr : h[r]? = some (.ins "Reader" [("letters", .str L), ("text", .str T), ("at", .int s.pos), ("levels", .ref v), ("behind", .int s.bh)]) := o.rd
  have lv := ls_of o.lv
  have lvl : (lvRefs ix).length = s.lv.length := by rw [lvRefs_len, o.low.len]
  have gl : gLen [.ref v] h = some (.int s.lv.length, h) := by simp only [gLen, lv]; rw [lvl]
  by_cases h1 : 1 < s.lv.length
  · rw [if_pos h1] at q
    have h1' : (1 : Int) < s.lv.length := by omega
    simp [rdfK, hr, List.lookup, gl, h1']
    exact ⟨r, L, T, v, s.pos, s.bh, rfl, o.rd, q h Fr.refl⟩
  · rw [if_neg h1] at q
    have h1' : ¬ (1 : Int) < s.lv.length := by omega
    match hs : s.lv with
    | [] => rw [hs] at q; exact q.elim
    | [l] =>
      rw [hs] at q
      obtain ⟨k, c, e, jx, rfl, lo, lw, nd3⟩ := o.top (l := l) (low := []) hs
      have hj : jx = [] := List.eq_nil_of_length_eq_zero (by have := lw.len; simpa using this.symm)
      subst hj
      have hk : h[k]? = some (.ins "Level" [("is_group", .bl l.g), ("choices", .ref c), ("last", .ref e)]) := lo.k
      have lv0 : lsOf h v = some [.ref k] := lv
      have bl := i.bd (by omega) l (by rw [hs]; simp)
      have h2 : ¬ ((1 : Int) < ((([l] : List Lv).length : Nat) : Int)) := by simp
      rw [hs] at gl
      simp [rdfK, hr, List.lookup, gl, gIx, lv0, hk]
      refine ⟨k, c, e, l, rfl, lo, nd3, bl.1, bl.2, fun h' e' ok' ch he' => ?_⟩
      have hrk : r ≤ k := o.ge k (by simp [ixF])
      have hrc : r ≤ c := o.ge c (by simp [ixF])
      exact q h' (ch.fr (Nat.le_of_lt (get_lt o.rd)) (by simp; exact ⟨hrk, hrc⟩))
    | _ :: _ :: _ => rw [hs] at h1; simp at h1
theorem rf_loop {r : Nat} {L T : Str} {Q : PV} {E : PX} (hT : T.length ≤ 9000) : ∀ (n : Nat) (s : Rs) (h : Hh), RdOk h r L T s → RI s → s.pos ≤ T.length → resR h r Q E (runM L T.cps.toList n s) →
    wWh wt_Reader_finished_0 wb_Reader_finished_0 { nx := rdfK (endsOf Q E), rt := Q, bk := (endsOf Q E).bk, ct := (endsOf Q E).ct, ex := (endsOf Q E).ex } n [some (.ref r)] h
  | 0, s, h, ok, i, hps, q => q.elim
  | n + 1, s, h, ok, i, hps, q => by
    obtain ⟨K, hK⟩ : ∃ K, K = wWh wt_Reader_finished_0 wb_Reader_finished_0 { nx := rdfK (endsOf Q E), rt := Q, bk := (endsOf Q E).bk, ct := (endsOf Q E).ct, ex := (endsOf Q E).ex } n := ⟨_, rfl⟩
    refine wWh_step hK ?_
    obtain ⟨v, ix, o⟩ := id ok
    have hr : h[r]? = some (.ins "Reader" [("letters", .str L), ("text", .str T), ("at", .int s.pos), ("levels", .ref v), ("behind", .int s.bh)]) := o.rd
    have gl : gLen [.str T] h = some (.int T.length, h) := by simp only [gLen]; rw [if_pos (by rw [sizeLine_is]; omega)]
    simp only [runM] at q
    have tl : T.cps.toList.length = T.length := (len_list T).symm
    rw [tl] at q
    by_cases hp : s.pos < T.length
    · rw [if_pos hp] at q
      have hp' : (s.pos : Int) < T.length := by omega
      simp [wt_Reader_finished_0, hr, List.lookup, gl, hp', wb_Reader_finished_0]
      refine ⟨r, L, T, s, rfl, ok, by omega, by have := i.len; omega, i.bd (by omega), ?_⟩
      cases hs : stepM L T.cps.toList s with
      | stuck => rw [hs] at q; exact q.elim
      | bad j => rw [hs] at q; exact q
      | ok s' =>
        rw [hs] at q
        intro h' ok' fr
        rw [hK]
        exact rf_loop hT n s' h' ok' (step_ri i hs).1 (by have := step_le i hs; rw [tl] at this; exact this) (resR_fr fr q)
    · rw [if_neg hp] at q
      have hp' : ¬ (s.pos : Int) < T.length := by omega
      simp [wt_Reader_finished_0, hr, List.lookup, gl, hp']
      exact rf_tail ok i hT hps q
theorem b_rdFin : ∀ ds h Q E, sp_Reader_finished ds h Q E → w_Reader_finished (endsOf Q E) (slots0 ["self"] ds) h := by
  rintro ds h Q E ⟨r, L, T, s, n, rfl, ok, hT, i, hp, q⟩
  simp [w_Reader_finished, slots0]
  exact ⟨n, rf_loop hT n s h ok i hp q⟩
def sp_ReaderDD_initDD : SpD := fun ds h Q _ => ∃ n L T, ds = [.ref n, .str L, .str T] ∧ h[n]? = some (.ins "Reader" []) ∧ n + 1 = h.length ∧ ∀ h', RdOk h' n L T ⟨0, [⟨false, [], []⟩], 0⟩ → Fr n h h' → Q .non h'
theorem mono_rdInit : MonoSp sp_ReaderDD_initDD := fun ds h Q Q' E E' hq he ⟨n, L, T, a, b, c, q⟩ => ⟨n, L, T, a, b, c, fun h' x y => hq _ _ (q h' x y)⟩
def w_ReaderDD_initDD : WS := wSeq (wSetF "Reader" "letters" (wVar 0) (wVar 1)) (wSeq (wSetF "Reader" "text" (wVar 0) (wVar 2)) (wSeq (wSetF "Reader" "at" (wVar 0) (wC (.int 0))) (wSeq (wSetF "Reader" "levels" (wVar 0) (wLst (wCons (wMake "Level" sp_LevelDD_initDD (wCons (wC (.bl false)) (wNil))) (wNil)))) (wSetF "Reader" "behind" (wVar 0) (wC (.int 0))))))
theorem b_rdInit : ∀ ds h Q E, sp_ReaderDD_initDD ds h Q E → w_ReaderDD_initDD (endsOf Q E) (slots0 ["self", "letters", "text"] ds) h := by
  rintro ds h Q E ⟨n, L, T, rfl, hn, hl, q⟩
  have hI := in_of hn
  simp [w_ReaderDD_initDD, slots0, hn, hI, putD]
  refine ⟨h.length, false, rfl, by rw [set_get0]; rfl, rfl, ?_⟩
  have e1 : ∀ X : O, List.set (h.set n X ++ [O.ins "Level" []]) h.length (lvO false (h.set n X ++ [O.ins "Level" []]).length ((h.set n X ++ [O.ins "Level" []]).length + 1)) ++ [O.lst [], O.lst []] = h.set n X ++ [lvO false (h.length + 1) (h.length + 2), O.lst [], O.lst []] := fun X => by
    have := ap_set0 (h.set n X) [O.ins "Level" []] (lvO false (h.length + 1) (h.length + 2))
    rw [List.length_set] at this
    simp
  rw [e1]
  simp [hI, putD]
  have hnl : n < h.length := by omega
  refine q _ ⟨h.length + 3, [(h.length, h.length + 1, h.length + 2)], ?_, ?_, ⟨_, _, rfl, ⟨?_, ?_, ?_⟩, rfl⟩, ?_, ?_⟩ ?_
  · simp [hI, rdO]
  · rw [set_get]; rfl
  · rw [set_get0]; rfl
  · rw [set_get]; rfl
  · rw [set_get]; rfl
  · simp [ixF]; omega
  · intro i hi; simp [ixF] at hi; omega
  · exact (Chg.trans (Chg.set (S := [n]) (by simp)) Chg.app).fr (by omega) (by simp)
end EV

namespace EV
open PySem PySem.Spec PyProof.Rows L2
/-! ### a longer heap tells the same of Pattern -/
theorem chkL_in {h : Hh} {L : Str} (g : Hh) : ∀ {n : Nat} {st : List (D × Nat)} {x : Ck} {r : Option (Int × Str)}, chkL h L n st x = some r → chkL (h ++ g) L n st x = some r
  | 0, _, _, _, e => by simp [chkL] at e
  | n + 1, [], _, _, e => e
  | n + 1, (d, k) :: st, x, r, e => by
    simp only [chkL] at e ⊢
    cases hp : probF h L d k x with
    | none => rw [hp] at e; cases e
    | some q =>
      rw [hp] at e
      rw [probF_in g hp]
      obtain ⟨w, x'⟩ := q
      cases w with
      | some w => exact e
      | none =>
        simp only at e ⊢
        cases hw : withinF h d with
        | none => rw [hw] at e; cases e
        | some ds =>
          rw [hw] at e
          rw [withinF_in g hw]
          simp only at e ⊢
          split at e
          · rename_i h8; rw [if_pos h8]; exact chkL_in g e
          · cases e
theorem repL_in {h : Hh} {n : Nat} (g : Hh) : ∀ {ds : List D} {i : Nat} {r : Option Nat}, repL h n i ds = some r → repL (h ++ g) n i ds = some r
  | [], _, _, e => e
  | d :: ds, i, r, e => by
    unfold repL at e ⊢
    split at e
    · rename_i w t
      split at e
      · rename_i hw
        rw [if_pos hw]
        split at e
        · rename_i y t
          split at e
          · rename_i hc; simp only [canF_in g hc]; exact e
          · rename_i hc; simp only [canF_in g hc]; exact repL_in g e
          · cases e
        · cases e
      · rename_i hw
        rw [if_neg hw]
        exact repL_in g e
    · cases e
def mvO (g : Hh) : Out → Out
  | .ok d h => .ok d (h ++ g)
  | .ex x h => .ex x (h ++ g)
theorem fcl_in {L : D} {h : Hh} {o : Out} (g : Hh) (e : f_check_letters [L] h = some o) : f_check_letters [L] (h ++ g) = some (mvO g o) := by
  simp only [f_check_letters] at e ⊢
  split at e
  · rename_i hb
    simp at hb
    obtain ⟨T, hT⟩ := Option.isSome_iff_exists.mp hb.1
    rw [if_pos (by simp [tyD_in hT, hb.2])]
    cases e
    split <;> rfl
  · cases e
theorem fct_in {L d : D} {h : Hh} {o : Out} (g : Hh) (e : f_check_tree [L, d] h = some o) : f_check_tree [L, d] (h ++ g) = some (mvO g o) := by
  cases L with
  | str z =>
    simp only [f_check_tree] at e ⊢
    cases hc : chkL h z 100 [(d, 0)] ⟨0, 0, 0⟩ with
    | none => rw [hc] at e; cases e
    | some r =>
      rw [hc] at e
      rw [chkL_in g hc]
      cases r with
      | none => cases e; rfl
      | some p => cases e; rfl
  | _ => simp [f_check_tree] at e
theorem fcr_in {d : D} {h : Hh} {o : Out} (g : Hh) (e : f_check_repeated [d] h = some o) : f_check_repeated [d] (h ++ g) = some (mvO g o) := by
  simp only [f_check_repeated] at e ⊢
  split at e
  · rename_i ls ho
    rw [ordF_in g ho]
    simp only
    split at e
    · rename_i hl
      rw [if_pos hl]
      cases hr : repL h 20 0 ls with
      | none => rw [hr] at e; cases e
      | some r =>
        rw [hr] at e
        rw [repL_in g hr]
        cases r with
        | none => cases e; rfl
        | some p => cases e; rfl
    · cases e
  · cases e
theorem patF_in {h : Hh} {L d : D} {r : Sum XD PatR} (g : Hh) (e : patF h L d = some r) : patF (h ++ g) L d = some r := by
  unfold patF at e ⊢
  cases h1 : f_check_letters [L] h with
  | none => rw [h1] at e; cases e
  | some o1 =>
    rw [h1] at e
    rw [fcl_in g h1]
    cases o1 with
    | ex x _ => exact e
    | ok _ _ =>
      simp only [mvO] at e ⊢
      cases h2 : f_check_tree [L, d] h with
      | none => rw [h2] at e; cases e
      | some o2 =>
        rw [h2] at e
        rw [fct_in g h2]
        cases o2 with
        | ex x _ => exact e
        | ok _ _ =>
          simp only [mvO] at e ⊢
          cases h3 : f_check_repeated [d] h with
          | none => rw [h3] at e; cases e
          | some o3 =>
            rw [h3] at e
            rw [fcr_in g h3]
            cases o3 with
            | ex x _ => exact e
            | ok _ _ =>
              simp only [mvO] at e ⊢
              cases h4 : setF h 20 d with
              | none => rw [h4] at e; cases e
              | some t =>
                rw [h4] at e
                rw [setF_sq (SameSq.app h g) h4]
                simp only at e ⊢
                cases h5 : ordF h 20 t with
                | none => rw [h5] at e; cases e
                | some ls =>
                  rw [h5] at e
                  rw [ordF_sq (SameSq.app h g) h5]
                  exact e
theorem patF_sc {h : Hh} {L d : D} {r : PatR} (sc : ScH h) (sL : ScD h.length L) (sd : ScD h.length d) (e : patF h L d = some (.inr r)) : ScO h.length (patO L r) := by
  unfold patF at e
  repeat' split at e
  all_goals first
    | cases e; done
    | skip
  rename_i t h4 _ ls h5 hb
  cases e
  refine ⟨sL, setF_sc sc sd h4, trivial, ScDs.of fun x hx => ?_, trivial⟩
  obtain ⟨y, hy, rfl⟩ := List.mem_map.mp hx
  exact sndD_sc ((ordF_sc sc (setF_sc sc sd h4) h5).mem (List.mem_filter.mp hy).1)
mutual
theorem ScD.up {n m : Nat} (hn : n ≤ m) : ∀ {d : D}, ScD n d → ScD m d
  | .tup ds, s => ScDs.up hn s
  | .ref _, s => Nat.lt_of_lt_of_le s hn
  | .non, _ => trivial
  | .bl _, _ => trivial
  | .int _, _ => trivial
  | .str _, _ => trivial
  | .opq _, _ => trivial
theorem ScDs.up {n m : Nat} (hn : n ≤ m) : ∀ {ds : List D}, ScDs n ds → ScDs m ds
  | [], _ => trivial
  | _ :: _, s => ⟨ScD.up hn s.1, ScDs.up hn s.2⟩
end
/-! ### read -/
def rs0 : Rs := ⟨0, [⟨false, [], []⟩], 0⟩
def f_read : List D → Hh → Option Out
  | [Ld, Td], h => match f_check_letters [Ld] h with
    | none => none
    | some (.ex x _) => some (.ex x h)
    | some (.ok _ _) => (match Td, Ld with
      | .str T, .str L => if T.length ≤ 9000 then (match runM L T.cps.toList (T.length + 1) rs0 with
          | .stuck => none
          | .bad i => some (.ex (xText i) h)
          | .tree d => (match patF h (.str L) d with
            | none => none
            | some (.inl x) => some (.ex x h)
            | some (.inr r) => some (.ok (.ref h.length) (h ++ [patO (.str L) r])))) else none
      | .str _, _ => none
      | Td, _ => (tyD h Td).map fun _ => .ex (xText (-1)) h)
  | _, _ => none
abbrev sp_read := spN 2 f_read
def w_read : WS := wSeq (wExpr (wCall sp_check_letters (wCons (wVar 0) (wNil)))) (wSeq (wIf (wNot (wTru (wCa gIsinst (wCons (wVar 1) (wCons (wC (.opq (.ty "str"))) (wNil)))))) (wRaise "NoText" sp_NoTextDD_initDD (wCons (wUn (k1 gNeg) (wC (.int 1))) (wNil))) (wNext)) (wRet (wMake "Pattern" sp_PatternDD_initDD (wCons (wVar 0) (wCons (wMeth "Reader" "finished" sp_Reader_finished (wMake "Reader" sp_ReaderDD_initDD (wCons (wVar 0) (wCons (wVar 1) (wNil)))) wNil) (wNil))))))
theorem run_sc {L : Str} {T : List Nat} : ∀ {n : Nat} {s : Rs} {d : D}, RI s → runM L T n s = .tree d → ScD 0 d
  | 0, s, d, i, e => by cases e
  | n + 1, s, d, i, e => by
    simp only [runM] at e
    split at e
    · cases hs : stepM L T s with
      | ok s' => rw [hs] at e; exact run_sc (step_ri i hs).1 e
      | bad j => rw [hs] at e; cases e
      | stuck => rw [hs] at e; cases e
    · split at e
      · cases e
      · split at e
        · rename_i l hl
          cases e
          have li := i.lvs l (by rw [hl]; simp)
          exact finD_sc li.cs li.ls
        · cases e
theorem ri0 : RI rs0 := ⟨by simp [rs0], fun l hl => by simp [rs0] at hl; subst hl; exact ⟨by simp, trivial, trivial⟩⟩
theorem fr_split {h h' : Hh} (f : Fr h.length h h') : ∃ g, h' = h ++ g := by
  refine ⟨h'.drop h.length, ?_⟩
  apply List.ext_getElem?
  intro i
  by_cases hi : i < h.length
  · rw [List.getElem?_append_left hi, f.eq i hi]
  · rw [List.getElem?_append_right (by omega), List.getElem?_drop]
    congr 1
    omega
theorem ok_str {h : Hh} {L : D} (e : f_check_letters [L] h = some (.ok .non h)) : ∃ z, L = .str z := by
  simp only [f_check_letters] at e
  split at e
  · cases L with
    | str z => exact ⟨z, rfl⟩
    | _ => simp [okLetters, areL] at e
  · cases e
theorem ScX.text {n : Nat} (i : Int) : ScX n (xText i) := by simp [ScX, xText, ScKs, ScD]
theorem ScX.pat {n : Nat} (i : Int) (w : Str) : ScX n (xPat i w) := by simp [ScX, xPat, ScKs, ScD]
theorem patF_scx {h : Hh} {L d : D} {x : XD} {n : Nat} (e : patF h L d = some (.inl x)) : ScX n x := by
  unfold patF at e
  cases h1 : f_check_letters [L] h with
  | none => rw [h1] at e; cases e
  | some o1 =>
    rw [h1] at e
    cases o1 with
    | ex y _ =>
      cases e
      simp only [f_check_letters] at h1
      split at h1
      · split at h1
        · cases h1
        · cases h1; exact ScX.pat _ _
      · cases h1
    | ok _ _ =>
      simp only at e
      cases h2 : f_check_tree [L, d] h with
      | none => rw [h2] at e; cases e
      | some o2 =>
        rw [h2] at e
        cases o2 with
        | ex y _ =>
          cases e
          cases L with
          | str z =>
            simp only [f_check_tree] at h2
            cases hc : chkL h z 100 [(d, 0)] ⟨0, 0, 0⟩ with
            | none => rw [hc] at h2; cases h2
            | some r =>
              rw [hc] at h2
              cases r with
              | none => cases h2
              | some p => cases h2; exact ScX.pat _ _
          | _ => simp [f_check_tree] at h2
        | ok _ _ =>
          simp only at e
          cases h3 : f_check_repeated [d] h with
          | none => rw [h3] at e; cases e
          | some o3 =>
            rw [h3] at e
            cases o3 with
            | ex y _ =>
              cases e
              simp only [f_check_repeated] at h3
              split at h3
              · split at h3
                · rename_i ls _ _
                  cases hr : repL h 20 0 ls with
                  | none => rw [hr] at h3; cases h3
                  | some r =>
                    rw [hr] at h3
                    cases r with
                    | none => cases h3
                    | some p => cases h3; exact ScX.pat _ _
                · cases h3
              · cases h3
            | ok _ _ =>
              simp only at e
              cases h4 : setF h 20 d with
              | none => rw [h4] at e; cases e
              | some t =>
                rw [h4] at e
                simp only at e
                cases h5 : ordF h 20 t with
                | none => rw [h5] at e; cases e
                | some ls =>
                  rw [h5] at e
                  simp only at e
                  split at e <;> cases e
theorem ty_nstr {h : Hh} {d : D} {t : String} (e : tyD h d = some t) (ne : ∀ z, d ≠ .str z) : (t == "str") = false := by
  cases d with
  | str z => exact absurd rfl (ne z)
  | ref n =>
    simp only [tyD] at e
    split at e <;> cases e <;> rfl
  | opq v => cases e
  | _ => cases e; rfl
theorem set_last {h : Hh} {a b : O} : (h ++ [a]).set h.length b = h ++ [b] := by simp
theorem b_read : ∀ ds h Q E, ScH h → ScDs h.length ds → Clo h.length Q → CloX h.length E → sp_read ds h Q E → w_read (endsOf Q E) (slots0 ["letters", "text"] ds) h := by
  rintro ds h Q E sc sds clo clx ⟨l, q⟩
  obtain ⟨Ld, Td, rfl⟩ := two_of l
  simp only [f_read] at q
  cases h1 : f_check_letters [Ld] h with
  | none => rw [h1] at q; exact q.elim
  | some o1 =>
    rw [h1] at q
    rcases fcl_out h1 with ⟨x, rfl⟩ | rfl
    · simp [w_read, slots0, h1]
      exact q
    · obtain ⟨L, rfl⟩ := ok_str h1
      simp only at q
      cases Td with
      | str T =>
        simp only at q
        split at q
        · rename_i hT
          simp [w_read, slots0, h1, isi_str (h := h) (d := .str T) (T := "str") rfl]
          refine ⟨h.length, L, T, rfl, by rw [ap_get0]; rfl, by simp, fun h1' ok fr => ⟨rfl, ?_⟩⟩
          obtain ⟨v, ix, o⟩ := id ok
          rw [o.rd]
          simp only [rdO, IsIns_ins]
          refine ⟨by simp [NoF, List.lookup], h.length, L, T, rs0, T.length + 1, rfl, ok, hT, ri0, by simp [rs0], ?_⟩
          have fr0 : Fr h.length h h1' := ⟨by have := fr.le; simp at this; omega, fun i hi => by rw [fr.eq i hi, List.getElem?_append_left hi]⟩
          cases hr : runM L T.cps.toList (T.length + 1) rs0 with
          | stuck => rw [hr] at q; exact q.elim
          | bad i =>
            rw [hr] at q
            intro h' f2
            obtain ⟨g, rfl⟩ := fr_split (fr0.trans f2)
            exact clx _ _ g rfl sc (ScX.text _) q
          | tree d =>
            rw [hr] at q
            intro h' f2
            obtain ⟨g, rfl⟩ := fr_split (fr0.trans f2)
            simp only at q
            cases hp : patF h (.str L) d with
            | none => rw [hp] at q; exact q.elim
            | some r =>
              rw [hp] at q
              refine ⟨(h ++ g).length, .str L, d, r, rfl, by rw [ap_get0]; rfl, by rw [List.append_assoc]; exact patF_in _ hp, ?_⟩
              cases r with
              | inl x =>
                simp only [patRes]
                rw [List.append_assoc]
                exact clx _ _ _ rfl sc (patF_scx hp) q
              | inr r =>
                simp only [patRes]
                rw [set_last, List.append_assoc]
                refine ⟨trivial, ?_⟩
                have := clo.pick g.length (patO (.str L) r) h (g ++ [patO (.str L) r]) rfl sc (by simp) (patF_sc sc trivial (ScD.up (Nat.zero_le _) (run_sc ri0 hr)) hp) q
                rw [List.length_append]
                exact this
        · exact q.elim
      | _ =>
        simp only at q
        cases ht : tyD h _ with
        | none => rw [ht] at q; exact q.elim
        | some t =>
          rw [ht] at q
          have hi := isi_str ht
          rw [ty_nstr ht (by intro z; simp)] at hi
          simp [w_read, slots0, h1, hi]
          exact q
end EV

namespace EV
open PySem PySem.Spec PyProof.Rows L2 LamX
theorem lsOf_ap0 {h g : Hh} : lsOf (h ++ g) h.length = lsOf g 0 := by unfold lsOf; rw [List.getElem?_append_right (Nat.le_refl _), Nat.sub_self]
theorem lsOf_ap {h g : Hh} {k : Nat} : lsOf (h ++ g) (h.length + k) = lsOf g k := by unfold lsOf; rw [List.getElem?_append_right (by omega), Nat.add_sub_cancel_left]
theorem gAdd_lst {h : Hh} {n m : Nat} {xs ys : List D} (e1 : h[n]? = some (.lst xs)) (e2 : h[m]? = some (.lst ys)) (hl : xs.length + ys.length ≤ sizeLine) : gAdd (.ref n) (.ref m) h = some (.ref h.length, h ++ [.lst (xs ++ ys)]) := by
  simp only [gAdd, e1, e2]
  rw [if_pos hl]
theorem gCount_of {h : Hh} {n : Nat} {b : Bool} {ds : List D} {bs : List Bool} (e : h[n]? = some (.lst ds)) (eb : blsOf ds = some bs) : gCount (.ref n) [.bl b] h = some (.int (bs.count b : Nat), h) := by
  simp only [gCount, lsOf, e, eb]
theorem eb (b1 b2 b3 b4 b5 b6 b7 b8 b9 b10 b11 b12 : Bool) : blsOf [.bl b1, .bl b2, .bl b3, .bl b4, .bl b5, .bl b6, .bl b7, .bl b8, .bl b9, .bl b10, .bl b11, .bl b12] = some [b1, b2, b3, b4, b5, b6, b7, b8, b9, b10, b11, b12] := rfl
theorem b_alone {a d : Addr} {t : Str → Bool} (one : [t "NoPattern", t "NoText", t "NoControl", t "NoNumber", t "TooMany", t "NoState", t "NoValue", t "NoWish", t "NoMachine", t "NoUpdates", t "NoSpare", t "NoWord"].count true = 1) (h : Hh) (Q : PV) (sc : ScH h) (clo : Clo h.length Q) (hx : HasX d h) (q : Q (.bl true) h) :
    w_alone a d t (endsOf Q fun _ _ => False) (slots0 ["_law_e", "_law_some"] [.opq (.ref a)]) h := by
  have hxa := fun g => hx.app g
  simp [w_alone, slots0, e_isP, hx, hxa, asgD]
  rw [gAdd_lst (ap_get0 _ _) (ap_get _ _ 1) (by show 8 ≤ sizeLine; decide)]
  simp [hxa]
  rw [gAdd_lst (ap_get _ _ 2) (ap_get _ _ 3) (by show 12 ≤ sizeLine; decide)]
  simp only [Get_some]
  simp only [List.append_assoc, List.cons_append, List.nil_append, List.length_append, List.length_cons, List.length_nil]
  refine ⟨by simp only [isT, lsOf_ap]; rfl, ?_⟩
  rw [gCount_of (ap_get _ _ 4) (eb _ _ _ _ _ _ _ _ _ _ _ _), one]
  simp [hxa]
  exact clo.cut (.bl true) _ _ rfl sc trivial q
end EV

namespace EV
open PySem PySem.Spec PyProof.Rows L2
/-! ### drawn numbers: any in range -/
abbrev src (a b c : Int) : O := .lst [.int a, .int b, .int c]
theorem gMul_small {h : Hh} {i j : Int} (e : (-(2 ^ 64) < i ∧ i < 2 ^ 64) ∨ (-(2 ^ 64) < j ∧ j < 2 ^ 64)) : gMul (.int i) (.int j) h = some (.int (i * j), h) := by
  have : mulC i j = true := by
    unfold mulC
    rcases e with e | e
    · rw [decide_eq_true e]; rfl
    · rw [decide_eq_true e]; simp
  simp [gMul, orG, gMulI, gI, this]
theorem gMod_pos {h : Hh} {i j : Int} (e : 0 < j) : gMod (.int i) (.int j) h = some (.int (i.fmod j), h) := by
  have : decide (j ≠ 0) = true := decide_eq_true (by omega)
  simp only [gMod, gI, this, if_true]
theorem gDiv_pos {h : Hh} {i j : Int} (e : 0 < j) (e2 : j.natAbs.log2 < 9000) : gDiv (.int i) (.int j) h = some (.int (i / j), h) := by
  have : decide (0 < j ∧ j.natAbs.log2 < 9000) = true := decide_eq_true ⟨e, e2⟩
  simp only [gDiv, gI, this, if_true]
def sp__law_cell_at : SpD := fun ds h Q _ => ∃ n k xs, ds = [.ref n, .int k] ∧ lsOf h n = some xs ∧ xs.length ≤ 100000 ∧ (∀ x ∈ xs, ∃ i, x = .int i) ∧ 0 ≤ k ∧ ∀ i, Q (.int i) h
def sp__law_source_of : SpD := fun ds h Q _ => ∃ i, ds = [.int i] ∧ ∀ a b c, Q (.ref h.length) (h ++ [src a b c])
def sp__law_next : SpD := fun ds h Q _ => ∃ n m a b c, ds = [.ref n, .int m] ∧ h[n]? = some (src a b c) ∧ 0 < m ∧ m < 2 ^ 31 ∧ ∀ r a b c, 0 ≤ r → r < m → Q (.int r) (h.set n (src a b c))
def sp__law_one : SpD := fun ds h Q _ => ∃ n l a b c xs, ds = [.ref n, .ref l] ∧ h[n]? = some (src a b c) ∧ h[l]? = some (.lst xs) ∧ n ≠ l ∧ 0 < xs.length ∧ xs.length < 2 ^ 31 ∧ ∀ (r : Nat) x a b c, xs[r]? = some x → Q x (h.set n (src a b c))
theorem mono_cellAt : MonoSp sp__law_cell_at := fun ds h Q Q' E E' hq he ⟨n, k, xs, a, b, c, d, e, q⟩ => ⟨n, k, xs, a, b, c, d, e, fun i => hq _ _ (q i)⟩
theorem mono_sourceOf : MonoSp sp__law_source_of := fun ds h Q Q' E E' hq he ⟨i, e, q⟩ => ⟨i, e, fun a b c => hq _ _ (q a b c)⟩
theorem mono_lnext : MonoSp sp__law_next := fun ds h Q Q' E E' hq he ⟨n, m, a, b, c, e, z, y, x, q⟩ => ⟨n, m, a, b, c, e, z, y, x, fun r a b c h1 h2 => hq _ _ (q r a b c h1 h2)⟩
theorem mono_one : MonoSp sp__law_one := fun ds h Q Q' E E' hq he ⟨n, l, a, b, c, xs, e, z, y, x, w, v, q⟩ => ⟨n, l, a, b, c, xs, e, z, y, x, w, v, fun r t a b c h1 => hq _ _ (q r t a b c h1)⟩
def w__law_cell_at : WS := wSeq (wIf (wB (wOp gLt (wVar 1) (wCa gLen (wCons (wVar 0) (wNil))))) (wRet (wOp gIx (wVar 0) (wVar 1))) (wNext)) (wRet (wC (.int 0)))
def w__law_source_of : WS := wSeq (wAsg (.nm 0) (wIfE (wB (wOp gGe (wVar 0) (wC (.int 0)))) (wVar 0) (wOp gSub (wOp gSub (wC (.int 0)) (wOp gMul (wC (.int 3)) (wVar 0))) (wC (.int 1))))) (wRet (wLst (wCons (wOp gMul (wVar 0) (wCa gInt (wCons (wOp gGe (wVar 0) (wOp gPow (wC (.int 10)) (wC (.int 18)))) (wNil)))) (wCons (wOp gMod (wCa gInt (wCons (wVar 0) (wNil))) (wC (.int 2147483647))) (wCons (wC (.int 0)) (wNil))))))
def w__law_next : WS := wSeq (wIf (wB (wOp gGt (wOp gIx (wVar 0) (wC (.int 0))) (wC (.int 0)))) (wSeq (wAsg (.nm 4) (wOp gMod (wCa gInt (wCons (wOp gIx (wVar 0) (wC (.int 0))) (wNil))) (wVar 1))) (wSeq (wSetIx (wVar 0) (wC (.int 0)) (wOp gDiv (wOp gIx (wVar 0) (wC (.int 0))) (wVar 1))) (wRet (wVar 4)))) (wNext)) (wSeq (wSetIx (wVar 0) (wC (.int 2)) (wOp gAdd (wOp gIx (wVar 0) (wC (.int 2))) (wC (.int 1)))) (wSeq (wAsg (.nm 2) (wC (.int 2147483647))) (wSeq (wAsg (.nm 3) (wOp gMod (wCa gInt (wCons (wOp gAdd (wOp gAdd (wOp gIx (wVar 0) (wC (.int 1))) (wOp gMul (wC (.int 104729)) (wOp gIx (wVar 0) (wC (.int 2))))) (wC (.int 7919))) (wNil))) (wVar 2))) (wSeq (wAsg (.nm 3) (wOp gMod (wCa gInt (wCons (wOp gMul (wVar 3) (wC (.int 48271))) (wNil))) (wVar 2))) (wSeq (wAsg (.nm 3) (wOp gMod (wCa gInt (wCons (wOp gMul (wVar 3) (wOp gAdd (wOp gDiv (wVar 3) (wC (.int 1009))) (wC (.int 69621)))) (wNil))) (wVar 2))) (wSeq (wAsg (.nm 3) (wOp gMod (wCa gInt (wCons (wOp gMul (wVar 3) (wOp gAdd (wOp gDiv (wVar 3) (wC (.int 2003))) (wC (.int 40692)))) (wNil))) (wC (.int 2147483399)))) (wRet (wOp gMod (wCa gInt (wCons (wOp gDiv (wVar 3) (wC (.int 7))) (wNil))) (wVar 1)))))))))
def w__law_one : WS := wRet (wOp gIx (wVar 1) (wCall sp__law_next (wCons (wVar 0) (wCons (wCa gLen (wCons (wVar 1) (wNil))) (wNil)))))
@[simp] theorem gInt_int {h : Hh} {i : Int} : gInt [.int i] h = some (.int i, h) := rfl
@[simp] theorem gInt_bl {h : Hh} {b : Bool} : gInt [.bl b] h = some (.int (if b = true then 1 else 0), h) := rfl
theorem gPow18 {h : Hh} : gPow (.int 10) (.int 18) h = some (.int 1000000000000000000, h) := by
  have : decide ((0 : Int) ≤ 18 ∧ (18 : Int) ≤ 1000000 ∧ (10 : Int).natAbs < 2 ^ 64) = true := by decide
  simp only [gPow, gI, this, if_true]
  rfl
theorem gIx_at {h : Hh} {n : Nat} {xs : List D} {i : Int} {d : D} (e : lsOf h n = some xs) (ea : atI xs i = some d) : gIx (.ref n) (.int i) h = some (d, h) := by
  simp only [gIx, e, ea]
theorem b_cellAt : ∀ ds h Q E, sp__law_cell_at ds h Q E → w__law_cell_at (endsOf Q E) (slots0 ["_law_script", "_law_k"] ds) h := by
  rintro ds h Q E ⟨n, k, xs, rfl, hl, hx, hi, hk, q⟩
  simp [w__law_cell_at, slots0, gLen, hl]
  split
  · rename_i hlt
    obtain ⟨j, rfl⟩ := Int.eq_ofNat_of_zero_le hk
    have hj : j < xs.length := by omega
    obtain ⟨i, e⟩ := hi _ (List.getElem_mem hj)
    rw [gIx_at hl (by rw [atI_ofNat, List.getElem?_eq_getElem hj])]
    rw [Get_some, e]
    exact q i
  · exact q 0
theorem b_sourceOf : ∀ ds h Q E, sp__law_source_of ds h Q E → w__law_source_of (endsOf Q E) (slots0 ["_law_cell"] ds) h := by
  rintro ds h Q E ⟨i, rfl, q⟩
  have small : ∀ b : Bool, -(2 ^ 64) < (if b = true then (1 : Int) else 0) ∧ (if b = true then (1 : Int) else 0) < 2 ^ 64 := fun b => by cases b <;> decide
  simp only [w__law_source_of, slots0]
  simp [asgD, gPow18, gMul_small (.inr (small _)), gMul_small (i := 3) (.inl (by decide)), gMod_pos]
  split
  · rw [gMul_small (.inr (by split <;> decide)), Get_some]; exact q _ _ _
  · rw [gMul_small (.inr (by split <;> decide)), Get_some]; exact q _ _ _
theorem b_next : ∀ ds h Q E, sp__law_next ds h Q E → w__law_next (endsOf Q E) (slots0 ["_law_source", "_law_many", "_law_prime", "_law_number", "_law_found"] ds) h := by
  rintro ds h Q E ⟨n, m, a, b, c, rfl, hn, h0, h1, q⟩
  have hl : ∀ {h' : Hh} {a b c : Int}, h'[n]? = some (src a b c) → lsOf h' n = some [.int a, .int b, .int c] := fun {h' a b c} e => by simp only [lsOf, e]
  have md : ∀ x : Int, 0 ≤ x.fmod m ∧ x.fmod m < m := fun x => ⟨Int.fmod_nonneg_of_pos x h0, Int.fmod_lt_of_pos x h0⟩
  have lg : m.natAbs.log2 < 9000 := by
    have : m.natAbs < 2 ^ 31 := by omega
    have := (Nat.log2_lt (n := m.natAbs) (k := 31) (by omega)).mpr this
    omega
  have I0 : ∀ {h' : Hh} {a b c : Int}, h'[n]? = some (src a b c) → gIx (.ref n) (.int 0) h' = some (.int a, h') := fun e => gIx_at (hl e) rfl
  have I1 : ∀ {h' : Hh} {a b c : Int}, h'[n]? = some (src a b c) → gIx (.ref n) (.int 1) h' = some (.int b, h') := fun e => gIx_at (hl e) rfl
  have I2 : ∀ {h' : Hh} {a b c : Int}, h'[n]? = some (src a b c) → gIx (.ref n) (.int 2) h' = some (.int c, h') := fun e => gIx_at (hl e) rfl
  simp [w__law_next, slots0, asgD, I0 hn, I2 hn, gMod_pos h0, gDiv_pos h0 lg, hn]
  split
  · exact ⟨0, rfl, q _ _ b c (md a).1 (md a).2⟩
  · refine ⟨2, rfl, ?_⟩
    have hn' : (h.set n (src a b (c + 1)))[n]? = some (src a b (c + 1)) := by rw [List.getElem?_set_self (get_lt hn)]
    have bb : ∀ x : Int, -(2 ^ 64) < x.fmod 2147483647 ∧ x.fmod 2147483647 < 2 ^ 64 := fun x => by
      have h1 := Int.fmod_nonneg_of_pos x (show (0 : Int) < 2147483647 by decide)
      have h2 := Int.fmod_lt_of_pos x (show (0 : Int) < 2147483647 by decide)
      omega
    have M0 : ∀ (j : Int) (h : Hh), gMul (.int 104729) (.int j) h = some (.int (104729 * j), h) := fun j h => gMul_small (.inl (by decide))
    have M1 : ∀ (x j : Int) (h : Hh), gMul (.int (x.fmod 2147483647)) (.int j) h = some (.int (x.fmod 2147483647 * j), h) := fun x j h => gMul_small (.inl (bb x))
    have D1 : ∀ (i : Int) (h : Hh), gDiv (.int i) (.int 1009) h = some (.int (i / 1009), h) := fun i h => gDiv_pos (by decide) (by decide)
    have D2 : ∀ (i : Int) (h : Hh), gDiv (.int i) (.int 2003) h = some (.int (i / 2003), h) := fun i h => gDiv_pos (by decide) (by decide)
    have D3 : ∀ (i : Int) (h : Hh), gDiv (.int i) (.int 7) h = some (.int (i / 7), h) := fun i h => gDiv_pos (by decide) (by decide)
    have N1 : ∀ (i : Int) (h : Hh), gMod (.int i) (.int 2147483647) h = some (.int (i.fmod 2147483647), h) := fun i h => gMod_pos (by decide)
    have N2 : ∀ (i : Int) (h : Hh), gMod (.int i) (.int 2147483399) h = some (.int (i.fmod 2147483399), h) := fun i h => gMod_pos (by decide)
    show Get (gIx (.ref n) (.int 1) (h.set n (src a b (c + 1)))) _
    simp only [I1 hn', I2 hn', Get_some, gInt_int, gAdd_int, M0, M1, D1, D2, D3, N1, N2, gMod_pos h0]
    exact q _ a b (c + 1) (md _).1 (md _).2
theorem b_one : ∀ ds h Q E, sp__law_one ds h Q E → w__law_one (endsOf Q E) (slots0 ["_law_source", "_law_some"] ds) h := by
  rintro ds h Q E ⟨n, l, a, b, c, xs, rfl, hn, hl, ne, h0, h1, q⟩
  have hls : lsOf h l = some xs := by simp only [lsOf, hl]
  simp [w__law_one, slots0, gLen, hls]
  refine ⟨n, _, a, b, c, rfl, hn, by omega, by omega, fun r a b c h2 h3 => ?_⟩
  obtain ⟨j, rfl⟩ := Int.eq_ofNat_of_zero_le h2
  have hj : j < xs.length := by omega
  have hl2 : lsOf (h.set n (src a b c)) l = some xs := by simp only [lsOf, List.getElem?_set_ne ne, hl]
  rw [gIx_at hl2 (by rw [atI_ofNat, List.getElem?_eq_getElem hj]), Get_some]
  exact q j _ a b c (List.getElem?_eq_getElem hj)
end EV

namespace EV
open PySem PySem.Spec PyProof.Rows L2
def addL (h g : Hh) : Option O → Option O → Option (D × Hh)
  | some (.lst a), some (.lst b) => if a.length + b.length ≤ sizeLine then some (.ref (h.length + g.length), h ++ (g ++ [.lst (a ++ b)])) else none
  | _, _ => none
theorem gAdd_ap {h g : Hh} {i j : Nat} : gAdd (.ref (h.length + i)) (.ref (h.length + j)) (h ++ g) = addL h g g[i]? g[j]? := by
  simp only [gAdd, ap_get, List.length_append, List.append_assoc]
  rfl
theorem gAdd_ap0 {h g : Hh} {j : Nat} : gAdd (.ref h.length) (.ref (h.length + j)) (h ++ g) = addL h g g[0]? g[j]? := gAdd_ap (i := 0)
theorem gAdd_str {h : Hh} {x y : Str} (e : x.length + y.length ≤ sizeLine) : gAdd (.str x) (.str y) h = some (.str (x ++ y), h) := by
  simp only [gAdd]; rw [if_pos e]
theorem len_app (x y : Str) : (x ++ y).length = x.length + y.length := by
  show (x.cps ++ y.cps).size = _
  rw [Array.size_append]; rfl
theorem set_app {h g : Hh} {n : Nat} {s s' : O} (hn : n < h.length) : (h.set n s ++ g).set n s' = h.set n s' ++ g := by
  rw [List.set_append_left _ _ (by rw [List.length_set]; exact hn), List.set_set]
theorem get_setapp {h g : Hh} {n : Nat} {s : O} (hn : n < h.length) : (h.set n s ++ g)[n]? = some s := by
  rw [List.getElem?_append_left (by rw [List.length_set]; exact hn), List.getElem?_set_self hn]
theorem asgD_tp3 {i j k : Nat} {a b c : D} {s : Sl} : asgD (.tp [.nm i, .nm j, .nm k]) (.tup [a, b, c]) s = some (((s.set i (some a)).set j (some b)).set k (some c)) := rfl
theorem sc_set {h : Hh} {n : Nat} {a b c : Int} (sc : ScH h) : ScH (h.set n (src a b c)) := fun o ho => by
  rw [List.length_set]
  rcases List.mem_or_eq_of_mem_set ho with m | rfl
  · exact sc o m
  · exact ⟨trivial, trivial, trivial, trivial⟩
theorem rg_len (m : Nat) : (rgD 0 m).length = m := by simp [rgD]
theorem read_ex {L z : Str} {x : XD} {h : Hh} (e : f_read [.str L, .str z] [] = some (.ex x [])) : f_read [.str L, .str z] h = some (.ex x h) := by
  simp only [f_read, f_check_letters, tyD, Option.isSome_some, Bool.true_and] at e ⊢
  by_cases hs : shortB (.str L) = true
  · rw [if_pos hs] at e ⊢
    by_cases ho : okLetters (.str L) = true
    · rw [if_pos ho] at e ⊢
      simp only at e ⊢
      by_cases hz : z.length ≤ 9000
      · rw [if_pos hz] at e ⊢
        cases hr : runM L z.cps.toList (z.length + 1) rs0 with
        | stuck => rw [hr] at e; cases e
        | bad i => rw [hr] at e; cases e; rfl
        | tree d =>
          rw [hr] at e
          simp only at e ⊢
          cases hp : patF [] (.str L) d with
          | none => rw [hp] at e; cases e
          | some r =>
            rw [hp] at e
            have := patF_in h hp
            rw [List.nil_append] at this
            rw [this]
            cases r with
            | inl y => cases e; rfl
            | inr r => cases e
      · rw [if_neg hz] at e; cases e
    · rw [if_neg ho] at e ⊢
      cases e; rfl
  · rw [if_neg hs] at e; cases e
def isP (o : Option Out) (i : Int) (w : Str) : Bool := match o with
  | some (.ex (c, [(k1, .str w'), (k2, .int i')]) []) => decide (c = "NoPattern") && (decide (k1 = "why") && (decide (k2 = "at") && (decide (w' = w) && decide (i' = i))))
  | _ => false
def isX (o : Option Out) (i : Int) : Bool := match o with
  | some (.ex (c, [(k2, .int i')]) []) => decide (c = "NoText") && (decide (k2 = "at") && decide (i' = i))
  | _ => false
theorem isP_ok {o : Option Out} {i : Int} {w : Str} (h : isP o i w = true) : o = some (.ex (xPat i w) []) := by
  unfold isP at h
  split at h
  · simp only [Bool.and_eq_true, decide_eq_true_eq] at h
    obtain ⟨rfl, rfl, rfl, rfl, rfl⟩ := h
    rfl
  · cases h
theorem isX_ok {o : Option Out} {i : Int} (h : isX o i = true) : o = some (.ex (xText i) []) := by
  unfold isX at h
  split at h
  · simp only [Bool.and_eq_true, decide_eq_true_eq] at h
    obtain ⟨rfl, rfl, rfl⟩ := h
    rfl
  · cases h
abbrev chkP (L z : Str) (i : Int) (w : Str) : Bool := isP (f_read [.str L, .str z] []) i w
abbrev chkT (L z : Str) (i : Int) : Bool := isX (f_read [.str L, .str z] []) i
theorem chkP_ok {L z : Str} {i : Int} {w : Str} {h : Hh} (e : chkP L z i w = true) : f_read [.str L, .str z] h = some (.ex (xPat i w) h) := read_ex (isP_ok e)
theorem chkT_ok {L z : Str} {i : Int} {h : Hh} (e : chkT L z i = true) : f_read [.str L, .str z] h = some (.ex (xText i) h) := read_ex (isX_ok e)
theorem loop_inv {chk : Hh → Prop} {t : Tg} {w : WS} {B : DEnds} (I : Sl → Hh → Prop) : ∀ ds : List D,
    (∀ d ∈ ds, ∀ s h, I s h → chk h ∧ ∃ s', asgD t d s = some s' ∧ ∀ K : Sl → Hh → Prop, (∀ s h, I s h → K s h) → w { nx := K, rt := B.rt, bk := B.nx, ct := K, ex := B.ex } s' h) →
    (∀ s h, I s h → chk h ∧ B.nx s h) → ∀ s h, I s h → wLoop chk t w B ds s h
  | [], _, e, s, h, i => e s h i
  | d :: ds, st, e, s, h, i => by
    obtain ⟨c, s', ea, k⟩ := st d (by simp) s h i
    exact ⟨c, s', ea, k _ fun s h i => loop_inv I ds (fun d hd => st d (by simp [hd])) e s h i⟩
theorem said_pat {T : List (Addr × Str)} {TP : Addr} {q : Str} {wr : WA} {s : Sl} {h : Hh} {Q : PV} {E : PX} {ds : List D} {i : Int} {w : Str} (sy : SysIs T h) (hT : (TP, q) ∈ T) (hw : ∀ QA E, wr s h QA E = QA ds h) (hl : ds.length = 2) (e : f_read ds h = some (.ex (xPat i w) h)) (hq : Q (.tup [.int i, .str w]) h) : wSaid T TP q (wCall sp_read wr) s h Q E := by
  refine ⟨sy, hT, ?_⟩
  show wr s h _ _
  rw [hw]
  refine ⟨hl, ?_⟩
  rw [e]
  exact ⟨sy, .inl ⟨rfl, .int i, .str w, rfl, rfl, hq⟩⟩
theorem said_text {T : List (Addr × Str)} {TP : Addr} {q : Str} {wr : WA} {s : Sl} {h : Hh} {Q : PV} {E : PX} {ds : List D} {i : Int} (sy : SysIs T h) (hT : (TP, q) ∈ T) (hw : ∀ QA E, wr s h QA E = QA ds h) (hl : ds.length = 2) (e : f_read ds h = some (.ex (xText i) h)) (hq : Q (.tup [.str "text", .int i]) h) : wSaid T TP q (wCall sp_read wr) s h Q E := by
  refine ⟨sy, hT, ?_⟩
  show wr s h _ _
  rw [hw]
  refine ⟨hl, ?_⟩
  rw [e]
  exact ⟨sy, .inr ⟨rfl, .int i, rfl, hq⟩⟩
theorem pyD_is {h : Hh} {i : Int} {w : Str} : pyD h 2000 (.tup [.int i, .str w]) = some (.tuple [.int i, .str w]) := by
  rw [show (2000 : Nat) = 1995 + 1 + 1 + 1 + 1 + 1 from rfl]
  simp only [pyD, pyDs]
  rfl
theorem pyD_si {h : Hh} {i : Int} {w : Str} : pyD h 2000 (.tup [.str w, .int i]) = some (.tuple [.str w, .int i]) := by
  rw [show (2000 : Nat) = 1995 + 1 + 1 + 1 + 1 + 1 from rfl]
  simp only [pyD, pyDs]
  rfl
theorem gNe_is {h : Hh} {i : Int} {w : Str} (ok : PyData.strOk w = true) : gNe (.tup [.int i, .str w]) (.tup [.int i, .str w]) h = some (.bl false, h) := by
  simp [gNe, orG, gS2, gEqE, gEqD, eqD, pyD_is, SeqAt.shaped, PyData.canLay0, PyData.depth, PyData.eqv, PyData.canLayAll0, PyData.depthAll, PyData.eqvAll, ok]
theorem gNe_si {h : Hh} {i : Int} {w : Str} (ok : PyData.strOk w = true) : gNe (.tup [.str w, .int i]) (.tup [.str w, .int i]) h = some (.bl false, h) := by
  simp [gNe, orG, gS2, gEqE, gEqD, eqD, pyD_si, SeqAt.shaped, PyData.canLay0, PyData.depth, PyData.eqv, PyData.canLayAll0, PyData.depthAll, PyData.eqvAll, ok]
theorem ask_pat {T : List (Addr × Str)} {TP : Addr} {q : Str} {wr : WA} {wt : WE} {s : Sl} {h : Hh} {B : DEnds} {ds : List D} {i : Int} {w : Str} (sy : SysIs T h) (hT : (TP, q) ∈ T) (hw : ∀ QA E, wr s h QA E = QA ds h) (hl : ds.length = 2) (e : f_read ds h = some (.ex (xPat i w) h)) (ok : PyData.strOk w = true)
    (ht : ∀ Q E, wt s h Q E = Q (.tup [.int i, .str w]) h) (hq : B.nx s h) : wIf (wB (wOp gNe (wSaid T TP q (wCall sp_read wr)) wt)) (wRet (wC (.bl false))) wNext B s h := by
  rw [e_if, e_b, e_op]
  refine said_pat sy hT hw hl e ?_
  rw [ht, gNe_is ok]
  simp only [Get_some, IsB_bl]
  exact hq
theorem ask_text {T : List (Addr × Str)} {TP : Addr} {q : Str} {wr : WA} {wt : WE} {s : Sl} {h : Hh} {B : DEnds} {ds : List D} {i : Int} (sy : SysIs T h) (hT : (TP, q) ∈ T) (hw : ∀ QA E, wr s h QA E = QA ds h) (hl : ds.length = 2) (e : f_read ds h = some (.ex (xText i) h))
    (ht : ∀ Q E, wt s h Q E = Q (.tup [.str "text", .int i]) h) (hq : B.nx s h) : wIf (wB (wOp gNe (wSaid T TP q (wCall sp_read wr)) wt)) (wRet (wC (.bl false))) wNext B s h := by
  rw [e_if, e_b, e_op]
  refine said_text sy hT hw hl e ?_
  rw [ht, gNe_si (by decide +kernel)]
  simp only [Get_some, IsB_bl]
  exact hq
theorem filter_set {α : Type} {p : α → Bool} {y : α} (py : p y = false) : ∀ {l : List α} {n : Nat} {x : α}, l[n]? = some x → p x = false → (l.set n y).filter p = l.filter p
  | [], _, _, e, _ => by cases e
  | a :: l, 0, x, e, px => by
    cases e
    rw [List.set_cons_zero, List.filter_cons_of_neg (by simp [py]), List.filter_cons_of_neg (by simp [px])]
  | a :: l, n + 1, x, e, px => by
    rw [List.set_cons_succ]
    have ih := filter_set (p := p) py (l := l) (n := n) (x := x) (by simpa using e) px
    cases ha : p a with
    | true => rw [List.filter_cons_of_pos ha, List.filter_cons_of_pos ha, ih]
    | false => rw [List.filter_cons_of_neg (by simp [ha]), List.filter_cons_of_neg (by simp [ha]), ih]
theorem SysIs.set {T : List (Addr × Str)} {h : Hh} {n : Nat} {a b c x y z : Int} (s : SysIs T h) (e : h[n]? = some (src a b c)) : SysIs T (h.set n (src x y z)) := by
  unfold SysIs
  rw [filter_set rfl e rfl]
  exact s
theorem SysIs.add {T : List (Addr × Str)} {h g : Hh} (s : SysIs T h) (e : g.filter O.sys = []) : SysIs T (h ++ g) := by
  unfold SysIs
  rw [List.filter_append, e, List.append_nil]
  exact s
theorem asgD_tp2 {i j : Nat} {a b : D} {s : Sl} : asgD (.tp [.nm i, .nm j]) (.tup [a, b]) s = some ((s.set i (some a)).set j (some b)) := rfl
theorem gIn_strs_f {h : Hh} {x : Str} {ds : List D} {b : Bool} (hd : ds.all flatD = true) (e : (ds.any fun e => eqF e (.str x)) = b) : gIn (.str x) (.tup ds) h = some (.bl b, h) := by rw [gIn_strs hd, e]
theorem gIn_chr_f {h : Hh} {c : Nat} {z : Str} {b : Bool} (e : decide (c ∈ z.cps.toList) = b) : gIn (.str (chS c)) (.str z) h = some (.bl b, h) := by rw [gIn_chr, e]
end EV

namespace EV
open PySem PySem.Spec PyProof.Rows L2
/-! ### the reader over the rest of the text, without fuel -/
inductive PG where
  | ok (rem : List Nat) (s : Rs)
  | bad (i : Nat)
  | stuck
def brkG (L : List Nat) : List Nat → List Nat → Nat → Sum Nat (List Nat × Nat × List Nat)
  | [], _, a => .inl a
  | x :: rem, f, a => if f ≠ [] ∧ x = 93 then .inr (f, a + 1, rem) else if x ∈ L ∧ (∀ y ∈ f.getLast?, y < x) then brkG L rem (f ++ [x]) (a + 1) else .inl a
theorem brk_g {L : List Nat} {T : List Nat} : ∀ {rem f : List Nat} {a : Nat}, T.drop a = rem → (match brkG L rem f a with
    | .inl i => brkM L rem f a = .inl i
    | .inr p => brkM L rem f a = .inr (p.1, p.2.1) ∧ T.drop p.2.1 = p.2.2 ∧ p.2.2.length < rem.length)
  | [], f, a, _ => rfl
  | x :: rem, f, a, e => by
    unfold brkG brkM
    by_cases h : f ≠ [] ∧ x = 93
    · rw [if_pos h, if_pos h]
      exact ⟨rfl, drop_next e, by simp⟩
    · rw [if_neg h, if_neg h]
      by_cases h2 : x ∈ L ∧ (∀ y ∈ f.getLast?, y < x)
      · rw [if_pos h2, if_pos h2]
        have := brk_g (L := L) (f := f ++ [x]) (drop_next e)
        revert this
        cases brkG L rem (f ++ [x]) (a + 1) with
        | inl i => exact id
        | inr p => rintro ⟨h1, h2, h3⟩; exact ⟨h1, h2, by simp; omega⟩
      · rw [if_neg h2, if_neg h2]
theorem ent_cases (a : Nat) (l : List Nat) : (∃ r, a = 63 ∧ l = 58 :: r) ∨ (a = 63 ∧ ∀ r, l ≠ 58 :: r) ∨ a ≠ 63 := by
  by_cases ha : a = 63
  · by_cases h : ∃ r, l = 58 :: r
    · obtain ⟨r, h⟩ := h; exact .inl ⟨r, ha, h⟩
    · exact .inr (.inl ⟨ha, fun r z => h ⟨r, z⟩⟩)
  · exact .inr (.inr ha)
def entG (rem : List Nat) (s : Rs) : PG := match rem with
  | 63 :: 58 :: r => .ok r ⟨s.pos + 3, ⟨false, [], []⟩ :: s.lv, 0⟩
  | 63 :: _ => .bad (s.pos + 2)
  | _ => .ok rem ⟨s.pos + 1, ⟨true, [], []⟩ :: s.lv, 0⟩
def stepG (L : Str) (x : Nat) (rem : List Nat) (s : Rs) : PG :=
  if x = 42 ∨ x = 43 ∨ x = 63 then (match repM s x with
    | .ok s' => .ok rem ⟨s'.pos + 1, s'.lv, s'.bh⟩
    | .bad i => .bad i
    | .stuck => .stuck)
  else if x = 41 ∧ 1 < s.lv.length then (match s.lv with
    | l :: l2 :: low => .ok rem ⟨s.pos + 1, ⟨l2.g, l2.cs, l2.ls ++ [finD l]⟩ :: low, 1⟩
    | _ => .stuck)
  else if x = 40 ∧ s.lv.length ≤ 60 then entG rem s
  else if x ∈ L.cps.toList ∨ x = 46 ∨ x = 91 ∨ x = 124 then
    (if x = 91 then (match brkG L.cps.toList rem [] (s.pos + 1) with
      | .inl i => .bad i
      | .inr p => (match s.lv with
        | l :: low => .ok p.2.2 ⟨p.2.1, ⟨l.g, l.cs, l.ls ++ [oneD (mkS p.1)]⟩ :: low, 1⟩
        | [] => .stuck))
    else (match s.lv with
      | l :: low => if x = 124 then .ok rem ⟨s.pos + 1, endRow l :: low, 0⟩ else .ok rem ⟨s.pos + 1, ⟨l.g, l.cs, l.ls ++ [oneD (if x = 46 then L else chS x)]⟩ :: low, 1⟩
      | [] => .stuck))
  else .bad s.pos
theorem rep_pos {s s' : Rs} {x : Nat} (e : repM s x = .ok s') : s'.pos = s.pos := by
  unfold repM at e
  split at e
  · cases e
  · split at e
    · split at e
      · cases e; rfl
      · cases e
    · split at e
      · split at e
        · split at e
          · cases e; rfl
          · cases e
        · cases e
      · cases e
theorem drop_add {α : Type} {l : List α} {a : Nat} {r : List α} (k : Nat) (e : l.drop a = r) : l.drop (a + k) = r.drop k := by rw [← List.drop_drop, e]
def StepRel (T rem : List Nat) : PG → PR → Prop
  | .ok r s', q => q = .ok s' ∧ T.drop s'.pos = r ∧ r.length ≤ rem.length
  | .bad i, q => q = .bad i
  | .stuck, q => q = .stuck
theorem entG_nil {s : Rs} : entG [] s = .ok [] ⟨s.pos + 1, ⟨true, [], []⟩ :: s.lv, 0⟩ := rfl
theorem entG_no {s : Rs} {a : Nat} {l : List Nat} (ha : a ≠ 63) : entG (a :: l) s = .ok (a :: l) ⟨s.pos + 1, ⟨true, [], []⟩ :: s.lv, 0⟩ := by
  unfold entG
  split
  · rename_i h; cases h; exact absurd rfl ha
  · rename_i h; cases h; exact absurd rfl ha
  · rfl
theorem entG_bad {s : Rs} {l : List Nat} (h : ∀ r, l ≠ 58 :: r) : entG (63 :: l) s = .bad (s.pos + 2) := by
  unfold entG
  split
  · rename_i z; cases z; exact absurd rfl (h _)
  · rfl
  · rename_i z1 z2; exact absurd rfl (z2 l)
theorem entM_no {s : Rs} {T : List Nat} {a : Nat} {l : List Nat} (e : T.drop s.pos = a :: l) (ha : a ≠ 63) : entM T s = .ok ⟨s.pos, ⟨true, [], []⟩ :: s.lv, 0⟩ := by
  unfold entM
  rw [e]
  split
  · rename_i h; cases h; exact absurd rfl ha
  · rename_i h; cases h; exact absurd rfl ha
  · rfl
theorem entM_bad {s : Rs} {T : List Nat} {l : List Nat} (e : T.drop s.pos = 63 :: l) (h : ∀ r, l ≠ 58 :: r) : entM T s = .bad (s.pos + 1) := by
  unfold entM
  rw [e]
  split
  · rename_i z; cases z; exact absurd rfl (h _)
  · rfl
  · rename_i z1 z2; exact absurd rfl (z2 l)
theorem ent_g {T rem : List Nat} {s : Rs} (e : T.drop (s.pos + 1) = rem) : StepRel T rem (entG rem s) (entM T ⟨s.pos + 1, s.lv, s.bh⟩) := by
  rcases rem with _ | ⟨a, l⟩
  · refine ⟨?_, e, Nat.le_refl _⟩
    unfold entM; simp only [e]
  · rcases ent_cases a l with ⟨r, rfl, rfl⟩ | ⟨rfl, h⟩ | h
    · have h4 := drop_add 2 e
      refine ⟨?_, h4, by simp; omega⟩
      unfold entM; simp only [e]
    · rw [entG_bad h, entM_bad e h]; rfl
    · rw [entG_no h, entM_no e h]; exact ⟨rfl, e, Nat.le_refl _⟩
theorem step_g {L : Str} {T : List Nat} {x : Nat} {rem : List Nat} {s : Rs} (e : T.drop s.pos = x :: rem) : StepRel T rem (stepG L x rem s) (stepM L T s) := by
  have e1 := drop_next e
  unfold stepG stepM
  rw [e]
  simp only
  by_cases h1 : x = 42 ∨ x = 43 ∨ x = 63
  · rw [if_pos h1, if_pos h1]
    cases hr : repM s x with
    | ok s' => exact ⟨rfl, by simp only [rep_pos hr]; exact e1, Nat.le_refl _⟩
    | bad i => rfl
    | stuck => rfl
  rw [if_neg h1, if_neg h1]
  by_cases h2 : x = 41 ∧ 1 < s.lv.length
  · rw [if_pos h2, if_pos h2]
    rcases hl : s.lv with _ | ⟨l, _ | ⟨l2, low⟩⟩
    · rfl
    · rfl
    · exact ⟨rfl, e1, Nat.le_refl _⟩
  rw [if_neg h2, if_neg h2]
  by_cases h3 : x = 40 ∧ s.lv.length ≤ 60
  · rw [if_pos h3, if_pos h3]
    exact ent_g e1
  rw [if_neg h3, if_neg h3]
  by_cases h4 : x ∈ L.cps.toList ∨ x = 46 ∨ x = 91 ∨ x = 124
  · rw [if_pos h4, if_pos h4]
    by_cases h5 : x = 91
    · rw [if_pos h5, if_pos h5, e1]
      have hb := brk_g (L := L.cps.toList) (f := []) e1
      revert hb
      cases brkG L.cps.toList rem [] (s.pos + 1) with
      | inl i => intro hb; simp only at hb ⊢; rw [hb]; rfl
      | inr p =>
        rintro ⟨b1, b2, b3⟩
        simp only at b1 ⊢
        rw [b1]
        cases hl : s.lv with
        | nil => rfl
        | cons l low => exact ⟨rfl, b2, Nat.le_of_lt b3⟩
    · rw [if_neg h5, if_neg h5]
      cases hl : s.lv with
      | nil => rfl
      | cons l low =>
        simp only
        by_cases h6 : x = 124
        · rw [if_pos h6, if_pos h6]; exact ⟨rfl, e1, Nat.le_refl _⟩
        · rw [if_neg h6, if_neg h6]; exact ⟨rfl, e1, Nat.le_refl _⟩
  · rw [if_neg h4, if_neg h4]; rfl
def endG (s : Rs) : RR := if 1 < s.lv.length then .bad s.pos else (match s.lv with
  | [l] => .tree (finD l)
  | _ => .stuck)
def runG (L : Str) : Nat → List Nat → Rs → RR
  | 0, _, _ => .stuck
  | _ + 1, [], s => endG s
  | n + 1, x :: rem, s => match stepG L x rem s with
    | .ok r s' => runG L n r s'
    | .bad i => .bad i
    | .stuck => .stuck
theorem step_len {L : Str} {x : Nat} {rem r : List Nat} {s s' : Rs} (e : stepG L x rem s = .ok r s') : r.length ≤ rem.length := by
  have h := step_g (L := L) (T := List.replicate s.pos 0 ++ x :: rem) (s := s) (x := x) (rem := rem) (by simp)
  rw [e] at h
  exact h.2.2
theorem run_g {L : Str} {T : List Nat} : ∀ {n : Nat} {rem : List Nat} {s : Rs}, T.drop s.pos = rem → runM L T n s = runG L n rem s
  | 0, _, _, _ => rfl
  | n + 1, [], s, e => by
    have : ¬ s.pos < T.length := by have := List.drop_eq_nil_iff.mp e; omega
    unfold runM
    rw [if_neg this]
    rfl
  | n + 1, x :: rem, s, e => by
    unfold runM runG
    rw [if_pos (drop_lt e)]
    have h := step_g (L := L) e
    revert h
    cases stepG L x rem s with
    | ok r s' => rintro ⟨h1, h2, _⟩; simp only [h1]; exact run_g h2
    | bad i => intro h; rw [show stepM L T s = .bad i from h]
    | stuck => intro h; rw [show stepM L T s = .stuck from h]
theorem run_fuel {L : Str} : ∀ {n m : Nat} {rem : List Nat} {s : Rs}, rem.length < n → rem.length < m → runG L n rem s = runG L m rem s
  | 0, _, _, _, h, _ => by omega
  | _ + 1, 0, _, _, _, h => by omega
  | n + 1, m + 1, [], s, _, _ => rfl
  | n + 1, m + 1, x :: rem, s, h1, h2 => by
    unfold runG
    cases hs : stepG L x rem s with
    | ok r s' =>
      have := step_len hs
      simp only [List.length_cons] at h1 h2
      exact run_fuel (by omega) (by omega)
    | bad i => rfl
    | stuck => rfl
def go (L : Str) (rem : List Nat) (s : Rs) : RR := runG L (rem.length + 1) rem s
theorem go_nil {L : Str} {s : Rs} : go L [] s = endG s := rfl
theorem go_cons {L : Str} {x : Nat} {rem : List Nat} {s : Rs} : go L (x :: rem) s = (match stepG L x rem s with
    | .ok r s' => go L r s'
    | .bad i => .bad i
    | .stuck => .stuck) := by
  unfold go
  rw [List.length_cons, runG]
  cases hs : stepG L x rem s with
  | ok r s' => have := step_len hs; exact run_fuel (by omega) (by omega)
  | bad i => rfl
  | stuck => rfl
theorem run_go {L : Str} {T : List Nat} {s : Rs} (h : s.pos = 0) : runM L T (T.length + 1) s = go L T s := run_g (by rw [h]; rfl)
/-! stable beginnings -/
def preG (L : Str) : Nat → List Nat → Rs → Option Rs
  | _, [], s => some s
  | 0, _ :: _, _ => none
  | n + 1, x :: rem, s => match stepG L x rem s with
    | .ok r s' => preG L n r s'
    | _ => none
theorem brk_app {L : List Nat} {R : List Nat} : ∀ {rem f : List Nat} {a : Nat} {p : List Nat × Nat × List Nat}, brkG L rem f a = .inr p → brkG L (rem ++ R) f a = .inr (p.1, p.2.1, p.2.2 ++ R)
  | [], f, a, p, e => by cases e
  | x :: rem, f, a, p, e => by
    rw [List.cons_append]
    unfold brkG at e ⊢
    split
    · rename_i h; rw [if_pos h] at e; cases e; rfl
    · rename_i h
      rw [if_neg h] at e
      split
      · rename_i h2; rw [if_pos h2] at e; exact brk_app e
      · rename_i h2; rw [if_neg h2] at e; cases e
theorem step_app {L : Str} {x : Nat} {rem r R : List Nat} {s s' : Rs} (e : stepG L x rem s = .ok r s') (hR : x = 40 → rem = [] → R.head? ≠ some 63) : stepG L x (rem ++ R) s = .ok (r ++ R) s' := by
  unfold stepG at e ⊢
  by_cases h1 : x = 42 ∨ x = 43 ∨ x = 63
  · rw [if_pos h1] at e ⊢
    cases hr : repM s x with
    | ok s2 => rw [hr] at e; cases e; rfl
    | bad i => rw [hr] at e; cases e
    | stuck => rw [hr] at e; cases e
  rw [if_neg h1] at e ⊢
  by_cases h2 : x = 41 ∧ 1 < s.lv.length
  · rw [if_pos h2] at e ⊢
    split at e
    · cases e; rfl
    · cases e
  rw [if_neg h2] at e ⊢
  by_cases h3 : x = 40 ∧ s.lv.length ≤ 60
  · rw [if_pos h3] at e ⊢
    rcases rem with _ | ⟨a, l⟩
    · cases e
      rw [List.nil_append]
      rcases R with _ | ⟨c, R⟩
      · rfl
      · exact entG_no (by simpa using hR h3.1 rfl)
    · rw [List.cons_append]
      rcases ent_cases a l with ⟨r', rfl, rfl⟩ | ⟨rfl, h⟩ | h
      · cases e; rfl
      · rw [entG_bad h] at e; cases e
      · rw [entG_no h] at e; cases e
        rw [entG_no h]; rfl
  rw [if_neg h3] at e ⊢
  by_cases h4 : x ∈ L.cps.toList ∨ x = 46 ∨ x = 91 ∨ x = 124
  · rw [if_pos h4] at e ⊢
    by_cases h5 : x = 91
    · rw [if_pos h5] at e ⊢
      cases hb : brkG L.cps.toList rem [] (s.pos + 1) with
      | inl i => rw [hb] at e; cases e
      | inr p =>
        rw [hb] at e
        rw [brk_app hb]
        cases hl : s.lv with
        | nil => rw [hl] at e; cases e
        | cons l low => rw [hl] at e; cases e; rfl
    · rw [if_neg h5] at e ⊢
      cases hl : s.lv with
      | nil => rw [hl] at e; cases e
      | cons l low =>
        rw [hl] at e
        simp only at e ⊢
        split
        · rename_i h; rw [if_pos h] at e; cases e; rfl
        · rename_i h; rw [if_neg h] at e; cases e; rfl
  · rw [if_neg h4] at e; cases e
theorem pre_go {L : Str} {R : List Nat} (hR : R.head? ≠ some 63) : ∀ {n : Nat} {P : List Nat} {s s' : Rs}, preG L n P s = some s' → go L (P ++ R) s = go L R s'
  | _, [], s, s', e => by
    unfold preG at e
    cases e; rfl
  | 0, x :: P, s, s', e => by cases e
  | n + 1, x :: P, s, s', e => by
    unfold preG at e
    rw [List.cons_append, go_cons]
    cases hs : stepG L x P s with
    | ok r s2 =>
      rw [hs] at e
      rw [step_app hs fun _ _ => hR]
      exact pre_go hR e
    | bad i => rw [hs] at e; cases e
    | stuck => rw [hs] at e; cases e
theorem brk_pos2 {L : List Nat} : ∀ {rem f : List Nat} {a : Nat} {p : List Nat × Nat × List Nat}, brkG L rem f a = .inr p → p.2.1 + p.2.2.length = a + rem.length
  | [], f, a, p, e => by cases e
  | x :: rem, f, a, p, e => by
    unfold brkG at e
    split at e
    · cases e; simp; omega
    · split at e
      · have := brk_pos2 e; simp; omega
      · cases e
theorem step_pos {L : Str} {x : Nat} {rem r : List Nat} {s s' : Rs} (e : stepG L x rem s = .ok r s') : s'.pos + r.length = s.pos + 1 + rem.length := by
  unfold stepG at e
  split at e
  · split at e
    · rename_i hr; cases e; simp only [rep_pos hr]
    · cases e
    · cases e
  · split at e
    · split at e
      · cases e; rfl
      · cases e
    · split at e
      · rcases rem with _ | ⟨a, l⟩
        · cases e; rfl
        · rcases ent_cases a l with ⟨r', rfl, rfl⟩ | ⟨rfl, h⟩ | h
          · cases e; simp; omega
          · rw [entG_bad h] at e; cases e
          · rw [entG_no h] at e; cases e; rfl
      · split at e
        · split at e
          · split at e
            · cases e
            · rename_i p hb
              split at e
              · cases e; exact brk_pos2 hb
              · cases e
          · split at e
            · split at e
              · cases e; rfl
              · cases e; rfl
            · cases e
        · cases e
theorem brk_bad {L R : List Nat} : ∀ {rem f : List Nat} {a i : Nat}, brkG L rem f a = .inl i → i < a + rem.length → brkG L (rem ++ R) f a = .inl i
  | [], f, a, i, e, h => by cases e; simp at h
  | x :: rem, f, a, i, e, h => by
    rw [List.cons_append]
    unfold brkG at e ⊢
    by_cases h1 : f ≠ [] ∧ x = 93
    · rw [if_pos h1] at e; cases e
    · rw [if_neg h1] at e ⊢
      by_cases h2 : x ∈ L ∧ (∀ y ∈ f.getLast?, y < x)
      · rw [if_pos h2] at e ⊢
        exact brk_bad e (by simp at h; omega)
      · rw [if_neg h2] at e ⊢; exact e
theorem step_bad {L : Str} {x : Nat} {rem R : List Nat} {s : Rs} {i : Nat} (e : stepG L x rem s = .bad i) (h : i < s.pos + 1 + rem.length) : stepG L x (rem ++ R) s = .bad i := by
  unfold stepG at e ⊢
  by_cases h1 : x = 42 ∨ x = 43 ∨ x = 63
  · rw [if_pos h1] at e ⊢
    cases hr : repM s x with
    | ok s2 => rw [hr] at e; cases e
    | bad i => rw [hr] at e; exact e
    | stuck => rw [hr] at e; cases e
  rw [if_neg h1] at e ⊢
  by_cases h2 : x = 41 ∧ 1 < s.lv.length
  · rw [if_pos h2] at e ⊢
    split at e
    · cases e
    · cases e
  rw [if_neg h2] at e ⊢
  by_cases h3 : x = 40 ∧ s.lv.length ≤ 60
  · rw [if_pos h3] at e ⊢
    rcases rem with _ | ⟨a, l⟩
    · cases e
    · rcases ent_cases a l with ⟨r', rfl, rfl⟩ | ⟨rfl, h5⟩ | h5
      · cases e
      · rw [entG_bad h5] at e
        cases e
        rcases l with _ | ⟨b, l⟩
        · simp at h
        · rw [List.cons_append, List.cons_append]
          refine entG_bad fun r z => ?_
          cases z
          exact h5 _ rfl
      · rw [entG_no h5] at e; cases e
  rw [if_neg h3] at e ⊢
  by_cases h4 : x ∈ L.cps.toList ∨ x = 46 ∨ x = 91 ∨ x = 124
  · rw [if_pos h4] at e ⊢
    by_cases h5 : x = 91
    · rw [if_pos h5] at e ⊢
      cases hb : brkG L.cps.toList rem [] (s.pos + 1) with
      | inl j =>
        rw [hb] at e
        cases e
        rw [brk_bad hb h]
      | inr p =>
        rw [hb] at e
        cases hl : s.lv with
        | nil => rw [hl] at e; cases e
        | cons l low => rw [hl] at e; cases e
    · rw [if_neg h5] at e ⊢
      cases hl : s.lv with
      | nil => rw [hl] at e; cases e
      | cons l low =>
        rw [hl] at e
        simp only at e ⊢
        split at e
        · cases e
        · cases e
  · rw [if_neg h4] at e ⊢; exact e
/-- an error inside a beginning is the error of the whole -/
theorem bad_app {L : Str} {R : List Nat} : ∀ (n : Nat) {P : List Nat} {s : Rs} {i : Nat}, P.length ≤ n → go L P s = .bad i → i < s.pos + P.length → go L (P ++ R) s = .bad i
  | n, [], s, i, _, e, h => by
    rw [go_nil] at e
    unfold endG at e
    split at e
    · cases e; simp at h
    · split at e <;> cases e
  | 0, x :: P, s, i, hn, e, h => by simp at hn
  | n + 1, x :: P, s, i, hn, e, h => by
    rw [List.length_cons] at h hn
    rw [go_cons] at e
    rw [List.cons_append, go_cons]
    cases hs : stepG L x P s with
    | stuck => rw [hs] at e; cases e
    | bad j =>
      rw [hs] at e
      cases e
      rw [step_bad hs (by omega)]
    | ok r s2 =>
      rw [hs] at e
      have h1 := step_pos hs
      have h2 := step_len hs
      simp only at e
      have hP : P = [] → R.head? ≠ some 63 := by
        rintro rfl
        exfalso
        obtain rfl : r = [] := List.eq_nil_of_length_eq_zero (by simpa using h2)
        rw [go_nil] at e
        unfold endG at e
        split at e
        · cases e; simp at h1 h; omega
        · split at e <;> cases e
      rw [step_app hs fun _ => hP]
      exact bad_app n (by omega) e (by omega)
end EV

namespace EV
open PySem PySem.Spec PyProof.Rows L2
/-! ### read by go -/
def okL (L : Str) : Bool := shortB (.str L) && okLetters (.str L)
theorem fcl_ok {L : Str} (ok : okL L = true) (h : Hh) : f_check_letters [.str L] h = some (.ok .non h) := by
  simp only [okL, Bool.and_eq_true] at ok
  simp only [f_check_letters, tyD, Option.isSome_some, Bool.true_and]
  rw [if_pos ok.1, if_pos ok.2]
theorem read_bad {L T : Str} {i : Nat} {h : Hh} (ok : okL L = true) (hl : T.length ≤ 9000) (e : go L T.cps.toList rs0 = .bad i) : f_read [.str L, .str T] h = some (.ex (xText i) h) := by
  simp only [f_read, fcl_ok ok]
  rw [if_pos hl, len_list, run_go rfl, e]
theorem read_tree {L T : Str} {d : D} {r : PatR} {h : Hh} (ok : okL L = true) (hl : T.length ≤ 9000) (e : go L T.cps.toList rs0 = .tree d) (p : patF [] (.str L) d = some (.inr r)) : f_read [.str L, .str T] h = some (.ok (.ref h.length) (h ++ [patO (.str L) r])) := by
  simp only [f_read, fcl_ok ok]
  rw [if_pos hl, len_list, run_go rfl, e]
  have := patF_in h p
  rw [List.nil_append] at this
  simp only [this]
theorem app_list (x y : Str) : (x ++ y).cps.toList = x.cps.toList ++ y.cps.toList := by
  show (x.cps ++ y.cps).toList = _
  rw [Array.toList_append]
/-! ### equal data -/
mutual
def eqDB : D → D → Bool
  | .non, .non => true
  | .bl a, .bl b => a == b
  | .int a, .int b => a == b
  | .str a, .str b => decide (a = b)
  | .tup a, .tup b => eqDsB a b
  | .ref a, .ref b => a == b
  | _, _ => false
def eqDsB : List D → List D → Bool
  | [], [] => true
  | a :: as, b :: bs => eqDB a b && eqDsB as bs
  | _, _ => false
end
mutual
theorem eqDB_ok : ∀ {a b : D}, eqDB a b = true → a = b
  | .non, b, h => by cases b <;> first | rfl | (simp only [eqDB] at h; cases h)
  | .bl a, b, h => by cases b <;> first | (simp only [eqDB, beq_iff_eq] at h; rw [h]) | (simp only [eqDB] at h; cases h)
  | .int a, b, h => by cases b <;> first | (simp only [eqDB, beq_iff_eq] at h; rw [h]) | (simp only [eqDB] at h; cases h)
  | .str a, b, h => by cases b <;> first | (simp only [eqDB, decide_eq_true_eq] at h; rw [h]) | (simp only [eqDB] at h; cases h)
  | .ref a, b, h => by cases b <;> first | (simp only [eqDB, beq_iff_eq] at h; rw [h]) | (simp only [eqDB] at h; cases h)
  | .opq a, b, h => by cases b <;> (simp only [eqDB] at h; cases h)
  | .tup a, b, h => by cases b <;> first | (simp only [eqDB] at h; rw [eqDsB_ok h]) | (simp only [eqDB] at h; cases h)
theorem eqDsB_ok : ∀ {a b : List D}, eqDsB a b = true → a = b
  | [], [], _ => rfl
  | [], _ :: _, h => by simp only [eqDsB] at h; cases h
  | _ :: _, [], h => by simp only [eqDsB] at h; cases h
  | a :: as, b :: bs, h => by
    simp only [eqDsB, Bool.and_eq_true] at h
    rw [eqDB_ok h.1, eqDsB_ok h.2]
end
mutual
theorem pyD_in {h : Hh} : ∀ {n : Nat} {d : D} {y : PyData}, pyD [] n d = some y → pyD h n d = some y
  | 0, _, _, e => by simp only [pyD] at e; cases e
  | n + 1, d, y, e => by
    cases d with
    | tup ds =>
      simp only [pyD] at e ⊢
      cases z : pyDs [] n ds with
      | none => rw [z] at e; cases e
      | some ys => rw [z] at e; rw [pyDs_in z]; exact e
    | ref m =>
      simp only [pyD] at e
      have : lsOf [] m = none := by simp [lsOf]
      rw [this] at e; cases e
    | _ => simp only [pyD] at e ⊢; exact e
theorem pyDs_in {h : Hh} : ∀ {n : Nat} {ds : List D} {ys : List PyData}, pyDs [] n ds = some ys → pyDs h n ds = some ys
  | 0, _, _, e => by simp only [pyDs] at e; cases e
  | n + 1, [], ys, e => by simp only [pyDs] at e ⊢; exact e
  | n + 1, d :: ds, ys, e => by
    simp only [pyDs] at e ⊢
    cases z1 : pyD [] n d with
    | none => rw [z1] at e; cases e
    | some a =>
      cases z2 : pyDs [] n ds with
      | none => rw [z1, z2] at e; cases e
      | some b => rw [z1, z2] at e; rw [pyD_in z1, pyDs_in z2]; exact e
end
theorem eqD_in {d e : D} {b : Bool} {h : Hh} (z : eqD d e [] = some b) : eqD d e h = some b := by
  unfold eqD at z ⊢
  cases z1 : pyD [] 2000 d with
  | none => rw [z1] at z; cases z
  | some a =>
    cases z2 : pyD [] 2000 e with
    | none => rw [z1, z2] at z; cases z
    | some c => rw [z1, z2] at z; rw [pyD_in z1, pyD_in z2]; exact z
/-- one, gone through by the kernel: two data compare so, in any heap -/
def cmpB (d e : D) (b : Bool) : Bool := match gEq d e [] with
  | some (.bl c, []) => c == b
  | _ => false
theorem gEq_of {d e : D} {b : Bool} {h : Hh} (hd : ∃ a as, d = .tup (a :: as)) (he : ∃ a as, e = .tup (a :: as)) (z : eqD d e [] = some b) : gEq d e h = some (.bl b, h) := by
  obtain ⟨a, as, rfl⟩ := hd
  obtain ⟨c, cs, rfl⟩ := he
  simp only [gEq, orG, gS2, gEqE, gEqD, eqD_in z, List.isEmpty_cons, Bool.or_self, Bool.false_eq_true, if_false, Bool.xor_false]
theorem gNe_of {d e : D} {b : Bool} {h : Hh} (hd : ∃ a as, d = .tup (a :: as)) (he : ∃ a as, e = .tup (a :: as)) (z : eqD d e [] = some b) : gNe d e h = some (.bl (!b), h) := by
  obtain ⟨a, as, rfl⟩ := hd
  obtain ⟨c, cs, rfl⟩ := he
  simp only [gNe, orG, gS2, gEqE, gEqD, eqD_in z, List.isEmpty_cons, Bool.or_self, Bool.false_eq_true, if_false, Bool.xor_true]
/-! ### heaps that differ at the source alone -/
def Al (n : Nat) (h0 h : Hh) : Prop := ∃ a b c g, h = h0.set n (src a b c) ++ g ∧ g.filter O.sys = []
theorem Al.refl {n : Nat} {h0 : Hh} {a b c : Int} (e : h0[n]? = some (src a b c)) : Al n h0 h0 := ⟨a, b, c, [], by
  rw [List.append_nil]
  apply List.ext_getElem?
  intro i
  by_cases hi : n = i
  · subst hi; rw [List.getElem?_set_self (get_lt e), e]
  · rw [List.getElem?_set_ne hi], rfl⟩
theorem Al.app {n : Nat} {h0 h g : Hh} (a : Al n h0 h) (e : g.filter O.sys = [] := by rfl) : Al n h0 (h ++ g) := by
  obtain ⟨x, y, z, g', rfl, e'⟩ := a
  exact ⟨x, y, z, g' ++ g, by rw [List.append_assoc], by rw [List.filter_append, e, e']; rfl⟩
theorem Al.set {n : Nat} {h0 h : Hh} {x y z : Int} (hn : n < h0.length) (a : Al n h0 h) : Al n h0 (h.set n (src x y z)) := by
  obtain ⟨p, q, r, g', rfl, e'⟩ := a
  exact ⟨x, y, z, g', set_app hn, e'⟩
theorem Al.get {n : Nat} {h0 h : Hh} (hn : n < h0.length) (a : Al n h0 h) : ∃ x y z, h[n]? = some (src x y z) := by
  obtain ⟨x, y, z, g', rfl, e'⟩ := a
  exact ⟨x, y, z, get_setapp hn⟩
theorem Al.le {n : Nat} {h0 h : Hh} (a : Al n h0 h) : h0.length ≤ h.length := by
  obtain ⟨x, y, z, g', rfl, e'⟩ := a
  rw [List.length_append, List.length_set]; omega
theorem Al.sys {n : Nat} {h0 h : Hh} {T : List (Addr × Str)} {a b c : Int} (e : h0[n]? = some (src a b c)) (sy : SysIs T h0) (al : Al n h0 h) : SysIs T h := by
  obtain ⟨x, y, z, g', rfl, e'⟩ := al
  exact (sy.set e).add e'
theorem Al.fin {n : Nat} {h0 h : Hh} {Q : PV} {d : D} (al : Al n h0 h) (sc : ScH h0) (clo : Clo h0.length Q) (sd : ScD h0.length d) (q : ∀ x y z, Q d (h0.set n (src x y z))) : Q d h := by
  obtain ⟨x, y, z, g', rfl, e'⟩ := al
  exact clo.cut d _ g' (by rw [List.length_set]) (sc_set sc) sd (q x y z)
/-- what is behind the first N objects stays -/
def Keep (N : Nat) (h h' : Hh) : Prop := ∀ (k : Nat) (o : O), N ≤ k → h[k]? = some o → h'[k]? = some o
theorem Keep.refl {N : Nat} {h : Hh} : Keep N h h := fun _ _ _ e => e
theorem Keep.trans {N : Nat} {h h1 h2 : Hh} (a : Keep N h h1) (b : Keep N h1 h2) : Keep N h h2 := fun k o hk e => b k o hk (a k o hk e)
theorem Keep.app {N : Nat} {h g : Hh} : Keep N h (h ++ g) := fun k o _ e => get_in e g
theorem Keep.set {N n : Nat} {h : Hh} {x : O} (hn : n < N) : Keep N h (h.set n x) := fun k o hk e => by rw [List.getElem?_set_ne (by omega)]; exact e
theorem next_al {n : Nat} {h0 h : Hh} {m : Int} {Q : PV} {E : PX} (hn : n < h0.length) (al : Al n h0 h) (h1 : 0 < m) (h2 : m < 2 ^ 31) (q : ∀ (r : Nat) h', (r : Int) < m → Al n h0 h' → Keep h0.length h h' → Q (.int r) h') : sp__law_next [.ref n, .int m] h Q E := by
  obtain ⟨x, y, z, e⟩ := al.get hn
  refine ⟨n, m, x, y, z, rfl, e, h1, h2, fun r a b c r0 r1 => ?_⟩
  obtain ⟨k, rfl⟩ := Int.eq_ofNat_of_zero_le r0
  exact q k _ r1 (al.set hn) (Keep.set hn)
theorem one_al {n l : Nat} {h0 h : Hh} {xs : List D} {Q : PV} {E : PX} (hn : n < h0.length) (al : Al n h0 h) (hl : h[l]? = some (.lst xs)) (ne : n ≠ l) (h1 : 0 < xs.length) (h2 : xs.length < 2 ^ 31) (q : ∀ x ∈ xs, ∀ h', Al n h0 h' → Keep h0.length h h' → Q x h') : sp__law_one [.ref n, .ref l] h Q E := by
  obtain ⟨x, y, z, e⟩ := al.get hn
  exact ⟨n, l, x, y, z, xs, rfl, e, hl, ne, h1, h2, fun r t a b c er => q t (List.mem_of_getElem? er) _ (al.set hn) (Keep.set hn)⟩
theorem one_new {n : Nat} {h0 h : Hh} {xs : List D} {Q : PV} {E : PX} (hn : n < h0.length) (al : Al n h0 h) (q : ∀ x ∈ xs, ∀ h', Al n h0 h' → Keep h0.length h h' → Q x h') (h1 : 0 < xs.length := by decide) (h2 : xs.length < 2 ^ 31 := by decide) : sp__law_one [.ref n, .ref h.length] (h ++ [.lst xs]) Q E :=
  one_al hn al.app (by rw [ap_get0]; rfl) (by have := al.le; omega) h1 h2 fun x hx h' a k => q x hx h' a (Keep.app.trans k)
theorem filter_none_set {α : Type} {p : α → Bool} {y : α} (py : p y = false) : ∀ {l : List α} {n : Nat}, l.filter p = [] → (l.set n y).filter p = []
  | [], _, _ => rfl
  | a :: l, 0, e => by
    rw [List.set_cons_zero, List.filter_cons_of_neg (by simp [py])]
    cases ha : p a with
    | true => rw [List.filter_cons_of_pos ha] at e; cases e
    | false => rw [List.filter_cons_of_neg (by simp [ha])] at e; exact e
  | a :: l, n + 1, e => by
    rw [List.set_cons_succ]
    cases ha : p a with
    | true => rw [List.filter_cons_of_pos ha] at e; cases e
    | false => rw [List.filter_cons_of_neg (by simp [ha])] at e ⊢; exact filter_none_set py e
theorem Al.put {n k : Nat} {h0 h : Hh} {o : O} (al : Al n h0 h) (hk : h0.length ≤ k) (ho : o.sys = false := by rfl) : Al n h0 (h.set k o) := by
  obtain ⟨x, y, z, g, rfl, e⟩ := al
  refine ⟨x, y, z, g.set (k - h0.length) o, ?_, filter_none_set ho e⟩
  rw [List.set_append_right _ _ (by rw [List.length_set]; exact hk), List.length_set]
/-- a comprehension whose elements are drawn -/
theorem lc_draw {n i L : Nat} {h0 : Hh} {s : Sl} {we : WE} {Q : PV} {P : D → Prop} {I : Hh → Prop} (hL : h0.length ≤ L) (hI : ∀ h h', I h → Keep h0.length h h' → I h') (hI2 : ∀ h o, I h → I (h.set L o))
    (he : ∀ d h Qy, Al n h0 h → I h → (∀ y h2, P y → Al n h0 h2 → Keep h0.length h h2 → Qy y h2) → we (s.set i (some d)) h Qy E0) :
    ∀ (ds acc : List D) (h : Hh), acc.length + ds.length < 10000 → Al n h0 h → I h → h[L]? = some (.lst acc) → (∀ ys h', ys.length = ds.length → (∀ y ∈ ys, P y) → Al n h0 h' → I h' → h'[L]? = some (.lst (acc ++ ys)) → Q (.ref L) h') →
    wLcGo L (fun _ => True) (.nm i) wYes we s Q ds h
  | [], acc, h, hl, al, hi, e, q => ⟨trivial, q [] h rfl (by simp) al hi (by rw [List.append_nil]; exact e)⟩
  | d :: ds, acc, h, hl, al, hi, e, q => by
    refine ⟨trivial, s.set i (some d), asgD_nm, ?_⟩
    rw [e_yes, if_pos rfl]
    refine he d h _ al hi fun y h2 py al2 kp => ⟨acc, kp L _ hL e, by simp at hl; unfold sizeLine; omega, ?_⟩
    have e2 := kp L _ hL e
    refine lc_draw hL hI hI2 he ds (acc ++ [y]) _ (by simp at hl ⊢; omega) (al2.put hL) (hI2 _ _ (hI _ _ hi kp)) (by rw [List.getElem?_set_self (get_lt e2)]) fun ys h' e1 e3 al3 hi3 e4 => ?_
    exact q (y :: ys) h' (by simp [e1]) (by
      intro z hz
      rcases List.mem_cons.mp hz with rfl | hz
      · exact py
      · exact e3 z hz) al3 hi3 (by rw [e4]; simp)
end EV

namespace EV
open PySem PySem.Spec PyProof.Rows L2
/-! ### "".join of signs -/
theorem fold_chars (sep : Str) (hs : sep.cps = #[]) : ∀ (l : List Nat) (acc : Array Nat), (l.map chS).foldl (fun acc p => acc ++ sep.cps ++ p.cps) acc = acc ++ l.toArray
  | [], acc => by simp
  | a :: l, acc => by
    rw [List.map_cons, List.foldl_cons, fold_chars sep hs l]
    apply Array.ext'
    simp [hs]
theorem join_chars (sep : Str) (hs : sep.cps = #[]) (l : List Nat) : Txt.join sep (l.map chS) = mkS l := by
  unfold Txt.join Builtin.Str.glued mkS
  cases l with
  | nil => rfl
  | cons a l =>
    congr 1
    rw [List.map_cons, List.drop_one, List.tail_cons, fold_chars sep hs]
    apply Array.ext'
    simp
theorem strs_chars : ∀ l : List Nat, strsOf (l.map fun c => .str (chS c)) = some (l.map chS)
  | [] => rfl
  | a :: l => by
    rw [List.map_cons, strsOf, strs_chars l]; rfl
theorem gJoin_chars {h : Hh} {L : Nat} {l : List Nat} (e : h[L]? = some (.lst (l.map fun c => .str (chS c)))) (hl : l.length ≤ 100000) : gJoin (.str "") [.ref L] h = some (.str (mkS l), h) := by
  have hs : (Str.ofString "").cps = #[] := by rw [str_nil]
  simp only [gJoin, sqOf, lsOf, e, strs_chars]
  rw [if_pos, join_chars _ hs]
  have h1 : ((l.map chS).map (fun y => y.length)).sum = l.length := by
    rw [List.map_map]
    have : ((fun y : Str => y.length) ∘ chS) = fun _ => 1 := by funext c; rfl
    rw [this, List.map_const', List.sum_replicate_nat]; omega
  have h2 : (Str.ofString "").length = 0 := by rw [str_nil]; rfl
  rw [h1, h2]; omega
/-- the elements of a list of drawn signs, as numbers -/
theorem as_chars {P : Nat → Prop} : ∀ {ys : List D}, (∀ y ∈ ys, ∃ c, P c ∧ y = .str (chS c)) → ∃ l : List Nat, ys = (l.map fun c => .str (chS c)) ∧ (∀ c ∈ l, P c) ∧ l.length = ys.length
  | [], _ => ⟨[], rfl, by simp, rfl⟩
  | y :: ys, h => by
    obtain ⟨c, pc, rfl⟩ := h y (by simp)
    obtain ⟨l, rfl, h2, h3⟩ := as_chars (P := P) (ys := ys) fun z hz => h z (by simp [hz])
    exact ⟨c :: l, rfl, by
      intro z hz
      rcases List.mem_cons.mp hz with rfl | hz
      · exact pc
      · exact h2 z hz, by simp⟩
/-! ### trees by the kernel -/
def treeB (L T : Str) (t : D) : Bool := match go L T.cps.toList rs0 with
  | .tree d => (match patF [] (.str L) d with
    | some (.inr r) => eqDB r.tree t
    | _ => false)
  | _ => false
theorem treeB_ok {L T : Str} {t : D} (h : treeB L T t = true) : ∃ d r, go L T.cps.toList rs0 = .tree d ∧ patF [] (.str L) d = some (.inr r) ∧ r.tree = t := by
  unfold treeB at h
  split at h
  · rename_i d e
    split at h
    · rename_i r e2
      exact ⟨d, r, e, e2, eqDB_ok h⟩
    · cases h
  · cases h
theorem treeB_read {L T : Str} {t : D} (h : treeB L T t = true) (ok : okL L = true) (hl : T.length ≤ 9000) : ∃ r : PatR, r.tree = t ∧ ∀ hh : Hh, f_read [.str L, .str T] hh = some (.ok (.ref hh.length) (hh ++ [patO (.str L) r])) := by
  obtain ⟨d, r, e1, e2, e3⟩ := treeB_ok h
  exact ⟨r, e3, fun hh => read_tree ok hl e1 e2⟩
theorem gEq_si {h : Hh} {i j : Int} {w : Str} (ok : PyData.strOk w = true) : gEq (.tup [.str w, .int i]) (.tup [.str w, .int j]) h = some (.bl (i == j), h) := by
  simp [gEq, orG, gS2, gEqE, gEqD, eqD, pyD_si, SeqAt.shaped, PyData.canLay0, PyData.depth, PyData.eqv, PyData.canLayAll0, PyData.depthAll, PyData.eqvAll, ok]
theorem gLen_str {h : Hh} {z : Str} (hz : z.length ≤ 16777216) : gLen [.str z] h = some (.int z.length, h) := by
  simp only [gLen]; rw [if_pos (by unfold sizeLine; exact hz)]
end EV

namespace EV
open PySem PySem.Spec PyProof.Rows L2
/-! ### for cell in [cell_at(script, 0)] + script[lo:hi] -/
theorem cells_loop {T : List (Addr × Str)} {wb : WS} {B : DEnds} {s : Sl} {h : Hh} {n : Nat} {xs : List D} {lo hi : Int} {S : Sl → Prop} (sy : SysIs T h) (hl : lsOf h n = some xs) (hx : xs.length ≤ 100000) (hint : ∀ x ∈ xs, ∃ i, x = .int i) (hs0 : s[0]? = some (some (.ref n))) (hs : S s)
    (step : ∀ (j : Int) s h', S s → SysIs T h' → ∀ K : Sl → Hh → Prop, (∀ s2 g, S s2 → SysIs T (h' ++ g) → K s2 (h' ++ g)) → wb { nx := K, rt := B.rt, bk := B.nx, ct := K, ex := B.ex } (s.set 1 (some (.int j))) h')
    (fin : ∀ s h', S s → SysIs T h' → B.nx s h') :
    wFor (wiList (wOp gAdd (wLst (wCons (wCall sp__law_cell_at (wCons (wVar 0) (wCons (wC (.int 0)) (wNil)))) (wNil))) (wSl (wVar 0) (wPart (wC (.int lo))) (wPart (wC (.int hi)))))) (.nm 1) wb B s h := by
  rw [e_for, e_iList, e_op, e_lst]
  simp only [e_call, e_cons, e_c, e_var, e_nil, hs0, GetV_some]
  refine ⟨n, 0, xs, rfl, hl, hx, hint, by decide, fun i => ⟨by show 1 ≤ sizeLine; decide, ?_⟩⟩
  simp only [e_sl, e_var, e_part, e_c, hs0, GetV_some, IsI_int]
  have hl1 : lsOf (h ++ [O.lst [D.int i]]) n = some xs := lsOf_in hl _
  have mem : ∀ x ∈ cutD xs (some lo) (some hi), ∃ i, x = .int i := fun x m => hint x (by
    unfold cutD at m
    exact List.mem_of_mem_drop (List.mem_of_mem_take m))
  have cl : (cutD xs (some lo) (some hi)).length ≤ xs.length := by
    unfold cutD
    rw [List.length_take, List.length_drop]
    omega
  simp only [gSl, hl1, Get_some]
  revert mem cl
  generalize cutD xs (some lo) (some hi) = ys
  intro mem cl
  rw [List.append_assoc, List.length_append, List.length_singleton]
  show Get (gAdd (.ref h.length) (.ref (h.length + 1)) (h ++ [O.lst [.int i], O.lst ys])) _
  rw [gAdd_lst (ap_get0 _ _) (ap_get _ _ 1) (by show 1 + _ ≤ _; unfold sizeLine; omega), Get_some]
  rw [List.append_assoc, List.length_append]
  have e2 : ∀ g, lsOf (h ++ ([O.lst [.int i], O.lst ys, O.lst ([.int i] ++ ys)] ++ g)) (h.length + 2) = some ([.int i] ++ ys) := fun g => lsOf_ap
  refine ⟨h.length + 2, rfl, ([D.int i] ++ ys), e2 [], ?_⟩
  refine loop_inv (fun s h' => ∃ g, h' = h ++ ([O.lst [.int i], O.lst ys, O.lst ([D.int i] ++ ys)] ++ g) ∧ SysIs T h' ∧ S s) ([D.int i] ++ ys) ?_ ?_ _ _ ⟨[], rfl, sy.add rfl, hs⟩
  · rintro d hd s h' ⟨g, rfl, sy', ss⟩
    obtain ⟨j, rfl⟩ : ∃ j, d = .int j := by
      rcases List.mem_append.mp hd with m | m
      · rw [List.mem_singleton] at m; exact ⟨i, m⟩
      · exact mem d m
    refine ⟨e2 g, s.set 1 (some (.int j)), asgD_nm, fun K hK => ?_⟩
    refine step j s _ ss sy' K fun s2 g2 ss2 sy2 => hK _ _ ⟨g ++ g2, ?_, sy2, ss2⟩
    rw [List.append_assoc, List.append_assoc]
  · rintro s h' ⟨g, rfl, sy', ss⟩
    exact ⟨e2 g, fin s _ ss sy'⟩
end EV

namespace EV
open PySem PySem.Spec PyProof.Rows L2
/-! ### Pattern.__eq__ -/
def tabI_Pattern : List (Str × Bool) := [("Pattern", true)]
/-- letters and tree of a pattern -/
def patLT (h : Hh) (n : Nat) : Option (D × D) := match h[n]? with
  | some (.ins C [(k1, l), (k2, t), _, _]) => if C = "Pattern" ∧ k1 = "letters" ∧ k2 = "tree" then some (l, t) else none
  | _ => none
def bOf : Option (D × Hh) → Option Bool
  | some (.bl b, _) => some b
  | _ => none
def f_patEq : List D → Hh → Option Out
  | [.ref n, .ref m], h => match patLT h n, patLT h m with
    | some (l, t), some (l', t') => (match bOf (gEq l l' h) with
      | some true => (match bOf (gEq t t' h) with
        | some b => some (.ok (.bl b) h)
        | none => none)
      | some false => some (.ok (.bl false) h)
      | none => none)
    | _, _ => none
  | _, _ => none
abbrev sp_PatternDD_eqDD := spN 2 f_patEq
abbrev sp_Pattern_DDeqDD := spN 2 f_patEq
def w_PatternDD_eqDD : WS := wRet (wAndV (wUn (kIsI tabI_Pattern) (wVar 1)) (wAndV (wOp gEq (wUn (kFld "Pattern" "letters") (wVar 0)) (wUn (kFld "Pattern" "letters") (wVar 1))) (wOp gEq (wUn (kFld "Pattern" "tree") (wVar 0)) (wUn (kFld "Pattern" "tree") (wVar 1)))))
theorem patLT_ok {h : Hh} {n : Nat} {l t : D} (e : patLT h n = some (l, t)) : ∃ p q, h[n]? = some (.ins "Pattern" [("letters", l), ("tree", t), p, q]) := by
  unfold patLT at e
  split at e
  · rename_i C k1 l' k2 t' p q z
    split at e
    · rename_i hc
      obtain ⟨rfl, rfl, rfl⟩ := hc
      cases e
      exact ⟨p, q, z⟩
    · cases e
  · cases e
theorem gEq_heap {d e r : D} {h h' : Hh} (z : gEq d e h = some (r, h')) : h' = h := by
  unfold gEq orG at z
  split at z
  · rename_i p q
    cases z
    unfold gS2 at q
    split at q
    · cases q; rfl
    · cases q
  · split at z
    · rename_i p q
      cases z
      unfold gEqE at q
      split at q
      · split at q
        · cases q; rfl
        · cases q
      · split at q
        · split at q
          · cases q; rfl
          · cases q
        · cases q
      · cases q
    · unfold gEqD at z
      split at z
      · cases z; rfl
      · cases z
theorem bOf_ok {d e : D} {h : Hh} {b : Bool} (z : bOf (gEq d e h) = some b) : gEq d e h = some (.bl b, h) := by
  cases q : gEq d e h with
  | none => rw [q] at z; cases z
  | some p =>
    obtain ⟨r, h'⟩ := p
    rw [q] at z
    have := gEq_heap q
    subst this
    cases r with
    | bl b' => cases z; rfl
    | _ => cases z
theorem b_patEq : ∀ ds h Q E, sp_PatternDD_eqDD ds h Q E → w_PatternDD_eqDD (endsOf Q E) (slots0 ["self", "other"] ds) h := by
  rintro ds h Q E ⟨l, q⟩
  obtain ⟨d, e, rfl⟩ := two_of l
  cases d with
  | ref n =>
    cases e with
    | ref m =>
      simp only [f_patEq] at q
      split at q
      · rename_i l1 t1 l2 t2 e1 e2
        obtain ⟨p1, q1, z1⟩ := patLT_ok e1
        obtain ⟨p2, q2, z2⟩ := patLT_ok e2
        have hI : isI tabI_Pattern (.ref m) h = some true := by
          have : tyD h (.ref m) = none := by simp only [tyD, z2]
          simp only [isI, this, z2]
          decide +kernel
        have hl1 : List.lookup (Str.ofString "letters") [(Str.ofString "letters", l1), (Str.ofString "tree", t1), p1, q1] = some l1 := by simp [List.lookup]
        have hl2 : List.lookup (Str.ofString "letters") [(Str.ofString "letters", l2), (Str.ofString "tree", t2), p2, q2] = some l2 := by simp [List.lookup]
        have ht1 : List.lookup (Str.ofString "tree") [(Str.ofString "letters", l1), (Str.ofString "tree", t1), p1, q1] = some t1 := by simp [List.lookup]
        have ht2 : List.lookup (Str.ofString "tree") [(Str.ofString "letters", l2), (Str.ofString "tree", t2), p2, q2] = some t2 := by simp [List.lookup]
        unfold w_PatternDD_eqDD
        show wRet _ _ [some (.ref n), some (.ref m)] h
        rw [e_ret, e_andV]
        show wUn (kIsI tabI_Pattern) (wVar 1) _ _ _ _
        refine ⟨.ref m, rfl, true, hI, true, rfl, ?_⟩
        simp only [if_true]
        rw [e_andV, e_op, e_fld, e_var]
        simp only [e_fld, e_var, List.getElem?_cons_succ, List.getElem?_cons_zero, GetV_some, IsRef_ref, z1, z2, IsIns_ins, hl1, hl2, GetD_some]
        split at q
        · rename_i b1
          rw [bOf_ok b1, Get_some, IsB_bl, if_pos rfl, e_op, e_fld, e_var]
          simp only [e_fld, e_var, List.getElem?_cons_succ, List.getElem?_cons_zero, GetV_some, IsRef_ref, z1, z2, IsIns_ins, ht1, ht2, GetD_some]
          split at q
          · rename_i b b2
            rw [bOf_ok b2, Get_some]
            exact q
          · exact q.elim
        · rename_i b1
          rw [bOf_ok b1, Get_some, IsB_bl, if_neg (by simp)]
          exact q
        · exact q.elim
      · exact q.elim
    | _ => exact q.elim
  | _ => exact q.elim
end EV

namespace EV
open PySem PySem.Spec PyProof.Rows L2
/-! ### trees, as plain data -/
inductive Tr where
  | emp
  | one (z : Str)
  | seq (b : Bool) (ts : List Tr)
  | grp (t : Tr)
  | rep (w : Nat) (t : Tr) (z : Bool)
def seqW (b : Bool) : Str := if b then "row" else "either"
def grW (z : Bool) : Str := if z then "lazy" else "greedy"
mutual
def toD : Tr → D
  | .emp => .tup [.str "empty"]
  | .one z => .tup [.str "one", .str z]
  | .seq b ts => .tup [.str (seqW b), .tup (toDs ts)]
  | .grp t => .tup [.str "group", toD t]
  | .rep w t z => .tup [.str (wordS w), toD t, .str (grW z)]
def toDs : List Tr → List D
  | [] => []
  | t :: ts => toD t :: toDs ts
end
mutual
/-- a datum that is a tree, lists or tuples in the place of rows -/
def Rep (h : Hh) : Tr → D → Prop
  | .emp, d => d = .tup [.str "empty"]
  | .one z, d => d = .tup [.str "one", .str z]
  | .seq b ts, d => ∃ y ds, d = .tup [.str (seqW b), y] ∧ sqOf h y = some ds ∧ Reps h ts ds
  | .grp t, d => ∃ e, d = .tup [.str "group", e] ∧ Rep h t e
  | .rep w t z, d => ∃ e, d = .tup [.str (wordS w), e, .str (grW z)] ∧ Rep h t e
def Reps (h : Hh) : List Tr → List D → Prop
  | [], ds => ds = []
  | t :: ts, ds => ∃ e es, ds = e :: es ∧ Rep h t e ∧ Reps h ts es
end
mutual
theorem rep_toD {h : Hh} : ∀ t, Rep h t (toD t)
  | .emp => by simp only [Rep, toD]
  | .one z => by simp only [Rep, toD]
  | .seq b ts => by simp only [Rep, toD]; exact ⟨_, _, rfl, rfl, reps_toD ts⟩
  | .grp t => by simp only [Rep, toD]; exact ⟨_, rfl, rep_toD t⟩
  | .rep w t z => by simp only [Rep, toD]; exact ⟨_, rfl, rep_toD t⟩
theorem reps_toD {h : Hh} : ∀ ts, Reps h ts (toDs ts)
  | [] => by simp only [Reps, toDs]
  | t :: ts => by simp only [Reps, toDs]; exact ⟨_, _, rfl, rep_toD t, reps_toD ts⟩
end
theorem reps_len {h : Hh} : ∀ {ts : List Tr} {ds : List D}, Reps h ts ds → ds.length = ts.length
  | [], ds, r => by simp only [Reps] at r; rw [r]; rfl
  | t :: ts, ds, r => by
    simp only [Reps] at r
    obtain ⟨e, es, rfl, _, r2⟩ := r
    rw [List.length_cons, List.length_cons, reps_len r2]
theorem toDs_map : ∀ ts : List Tr, toDs ts = ts.map toD
  | [] => rfl
  | t :: ts => by rw [toDs, toDs_map ts]; rfl
mutual
/-- trees, ones, groups, depth -/
def sz : Tr → Nat
  | .emp => 1
  | .one _ => 1
  | .seq _ ts => szL ts + 1
  | .grp t => sz t + 1
  | .rep _ t _ => sz t + 1
def szL : List Tr → Nat
  | [] => 0
  | t :: ts => sz t + szL ts
end
mutual
def onT : Tr → Nat
  | .emp => 0
  | .one _ => 1
  | .seq _ ts => onL ts
  | .grp t => onT t
  | .rep _ t _ => onT t
def onL : List Tr → Nat
  | [] => 0
  | t :: ts => onT t + onL ts
end
mutual
def grT : Tr → Nat
  | .emp => 0
  | .one _ => 0
  | .seq _ ts => grL ts
  | .grp t => grT t + 1
  | .rep _ t _ => grT t
def grL : List Tr → Nat
  | [] => 0
  | t :: ts => grT t + grL ts
end
mutual
def dpT : Tr → Nat
  | .emp => 0
  | .one _ => 0
  | .seq _ ts => dpL ts + 1
  | .grp t => dpT t + 1
  | .rep _ t _ => dpT t + 1
def dpL : List Tr → Nat
  | [] => 0
  | t :: ts => max (dpT t) (dpL ts)
end
mutual
/-- can match the empty text -/
def nlT : Tr → Bool
  | .emp => true
  | .one _ => false
  | .seq b ts => if b then nlA ts else nlE ts
  | .grp t => nlT t
  | .rep w t _ => if w = 43 then nlT t else true
def nlA : List Tr → Bool
  | [] => true
  | t :: ts => nlT t && nlA ts
def nlE : List Tr → Bool
  | [] => false
  | t :: ts => nlT t || nlE ts
end
mutual
/-- rows and letters are right -/
def okT (L : Str) : Tr → Bool
  | .emp => true
  | .one z => decide (z.length ≤ 100000) && areL (.str z) L
  | .seq _ ts => decide (1 ≤ ts.length) && (decide (ts.length ≤ 8) && okLs L ts)
  | .grp t => okT L t
  | .rep _ t _ => okT L t
def okLs (L : Str) : List Tr → Bool
  | [] => true
  | t :: ts => okT L t && okLs L ts
end
mutual
/-- no repetition of what can be empty -/
def reT : Tr → Bool
  | .emp => true
  | .one _ => true
  | .seq _ ts => reL ts
  | .grp t => reT t
  | .rep w t _ => (decide (w ≠ 42 ∧ w ≠ 43) || !nlT t) && reT t
def reL : List Tr → Bool
  | [] => true
  | t :: ts => reT t && reL ts
end
def o1 : Tr → Nat
  | .one _ => 1
  | _ => 0
def g1 : Tr → Nat
  | .grp _ => 1
  | _ => 0
def inT : Tr → List Tr
  | .seq _ ts => ts
  | .grp t => [t]
  | .rep _ t _ => [t]
  | _ => []
theorem ty_sq {h : Hh} {y : D} {ds : List D} (e : sqOf h y = some ds) : ∃ T, tyD h y = some T := by
  cases y with
  | tup es => exact ⟨_, rfl⟩
  | ref n =>
    simp only [sqOf, lsOf] at e
    simp only [tyD]
    split at e
    · rename_i z; rw [z]; exact ⟨_, rfl⟩
    · rename_i z; rw [z]; exact ⟨_, rfl⟩
    · cases e
  | _ => cases e
theorem tyT_tup {h : Hh} {ds : List D} : tyD h (.tup ds) = some "tuple" := rfl
theorem tyT_str {h : Hh} {z : Str} : tyD h (.str z) = some "str" := rfl
theorem word_cases (w : Nat) : (w = 42 ∧ wordS w = "many") ∨ (w = 43 ∧ wordS w = "some") ∨ (w ≠ 42 ∧ w ≠ 43 ∧ wordS w = "maybe") := by
  unfold wordS
  by_cases h1 : w = 42
  · subst h1; exact .inl ⟨rfl, rfl⟩
  · by_cases h2 : w = 43
    · subst h2; exact .inr (.inl ⟨rfl, rfl⟩)
    · exact .inr (.inr ⟨h1, h2, by rw [if_neg h1, if_neg h2]⟩)
theorem has_rep {h : Hh} {L : Str} : ∀ {t : Tr} {d : D}, Rep h t d → okT L t = true → hasF h d = some true
  | .emp, d, r, o => by simp only [Rep] at r; subst r; rfl
  | .one z, d, r, o => by simp only [Rep] at r; subst r; rfl
  | .seq b ts, d, r, o => by
    simp only [Rep] at r
    obtain ⟨y, ds, rfl, e, r⟩ := r
    obtain ⟨T, ty⟩ := ty_sq e
    simp only [okT, Bool.and_eq_true, decide_eq_true_eq] at o
    have hl := reps_len r
    cases b <;> simp [hasF, tyT_tup, tyT_str, seqW, szs, ty, e, List.lookup, hl, o.1, o.2.1]
  | .grp t, d, r, o => by
    simp only [Rep] at r
    obtain ⟨e, rfl, _⟩ := r
    rfl
  | .rep w t z, d, r, o => by
    simp only [Rep] at r
    obtain ⟨e, rfl, _⟩ := r
    rcases word_cases w with ⟨_, e⟩ | ⟨_, e⟩ | ⟨_, _, e⟩ <;> rw [e] <;> rfl
theorem within_rep {h : Hh} : ∀ {t : Tr} {d : D}, Rep h t d → ∃ ds, withinF h d = some ds ∧ Reps h (inT t) ds
  | .emp, d, r => by simp only [Rep] at r; subst r; exact ⟨[], rfl, by simp only [inT, Reps]⟩
  | .one z, d, r => by simp only [Rep] at r; subst r; exact ⟨[], rfl, by simp only [inT, Reps]⟩
  | .seq b ts, d, r => by
    simp only [Rep] at r
    obtain ⟨y, ds, rfl, e, r⟩ := r
    refine ⟨ds, ?_, r⟩
    cases b <;> simp [withinF, seqW, e]
  | .grp t, d, r => by
    simp only [Rep] at r
    obtain ⟨e, rfl, r⟩ := r
    exact ⟨[e], rfl, by simp only [inT, Reps]; exact ⟨_, _, rfl, r, rfl⟩⟩
  | .rep w t z, d, r => by
    simp only [Rep] at r
    obtain ⟨e, rfl, r⟩ := r
    refine ⟨[e], ?_, by simp only [inT, Reps]; exact ⟨_, _, rfl, r, rfl⟩⟩
    rcases word_cases w with ⟨_, e⟩ | ⟨_, e⟩ | ⟨_, _, e⟩ <;> rw [e] <;> rfl
theorem prob_rep {h : Hh} {L : Str} {t : Tr} {d : D} {k : Nat} {x : Ck} (r : Rep h t d) (o : okT L t = true) (hk : k ≤ 8) (h1 : x.n + 1 ≤ 60) (h2 : x.n1 + o1 t ≤ 10) (h3 : x.n2 + g1 t ≤ 5) : probF h L d k x = some (none, ⟨x.n + 1, x.n1 + o1 t, x.n2 + g1 t⟩) := by
  have hd : ¬ (8 : Int) < (k : Int) := by omega
  unfold probF
  rw [has_rep r o]
  cases t with
  | emp =>
    simp only [Rep] at r; subst r
    simp only [o1, g1] at h2 h3 ⊢
    simp [hd]; omega
  | one z =>
    simp only [Rep] at r; subst r
    simp only [o1, g1] at h2 h3 ⊢
    simp only [okT, Bool.and_eq_true, decide_eq_true_eq] at o
    simp [hd, tyD, shortB, o.1, o.2]; omega
  | seq b ts =>
    simp only [Rep] at r
    obtain ⟨y, ds, rfl, e, r⟩ := r
    simp only [o1, g1] at h2 h3 ⊢
    cases b <;> simp [seqW, hd] <;> omega
  | grp t =>
    simp only [Rep] at r
    obtain ⟨e, rfl, r⟩ := r
    simp only [o1, g1] at h2 h3 ⊢
    simp [hd]; omega
  | rep w t z =>
    simp only [Rep] at r
    obtain ⟨e, rfl, r⟩ := r
    simp only [o1, g1] at h2 h3 ⊢
    rcases word_cases w with ⟨_, e⟩ | ⟨_, e⟩ | ⟨_, _, e⟩ <;> rw [e] <;> cases z <;> simp [grW, tyD, hd] <;> omega
/-! ### going through a right tree -/
mutual
theorem chk_rep {h : Hh} {L : Str} : ∀ {t : Tr} {d : D} {k n : Nat} {st : List (D × Nat)} {x : Ck}, Rep h t d → okT L t = true → k + dpT t ≤ 8 → x.n + sz t ≤ 60 → x.n1 + onT t ≤ 10 → x.n2 + grT t ≤ 5 →
    chkL h L (n + sz t) ((d, k) :: st) x = chkL h L n st ⟨x.n + sz t, x.n1 + onT t, x.n2 + grT t⟩
  | .emp, d, k, n, st, x, r, o, h0, h1, h2, h3 => by
    obtain ⟨ds, e, r2⟩ := within_rep r
    simp only [inT, Reps] at r2
    subst r2
    simp only [sz, onT, grT] at h1 h2 h3 ⊢
    rw [chkL, prob_rep r o (by omega) h1 (by simp only [o1]; omega) (by simp only [g1]; omega), e]
    rfl
  | .one z, d, k, n, st, x, r, o, h0, h1, h2, h3 => by
    obtain ⟨ds, e, r2⟩ := within_rep r
    simp only [inT, Reps] at r2
    subst r2
    simp only [sz, onT, grT] at h1 h2 h3 ⊢
    rw [chkL, prob_rep r o (by omega) h1 (by simp only [o1]; omega) (by simp only [g1]; omega), e]
    rfl
  | .seq b ts, d, k, n, st, x, r, o, h0, h1, h2, h3 => by
    obtain ⟨ds, e, r2⟩ := within_rep r
    simp only [inT] at r2
    have o' := o
    simp only [okT, Bool.and_eq_true, decide_eq_true_eq] at o'
    simp only [sz, onT, grT, dpT] at h0 h1 h2 h3 ⊢
    rw [← Nat.add_assoc, chkL, prob_rep r o (by omega) (by omega) (by simp only [o1]; omega) (by simp only [g1]; omega), e]
    simp only [o1, g1]
    rw [if_pos (by rw [reps_len r2]; exact o'.2.1), chk_reps r2 o'.2.2 (by omega) (by simp only; omega) (by simp only; omega) (by simp only; omega)]
    congr 2 <;> simp only <;> omega
  | .grp t, d, k, n, st, x, r, o, h0, h1, h2, h3 => by
    obtain ⟨ds, e, r2⟩ := within_rep r
    simp only [inT, Reps] at r2
    obtain ⟨f, es, rfl, r2, rfl⟩ := r2
    have o' := o
    simp only [okT] at o'
    simp only [sz, onT, grT, dpT] at h0 h1 h2 h3 ⊢
    rw [← Nat.add_assoc, chkL, prob_rep r o (by omega) (by omega) (by simp only [o1]; omega) (by simp only [g1]; omega), e]
    simp only [o1, g1]
    rw [if_pos (by simp)]
    show chkL h L (n + sz t) ((f, k + 1) :: st) _ = _
    rw [chk_rep r2 o' (by omega) (by simp only; omega) (by simp only; omega) (by simp only; omega)]
    congr 2 <;> simp only <;> omega
  | .rep w t z, d, k, n, st, x, r, o, h0, h1, h2, h3 => by
    obtain ⟨ds, e, r2⟩ := within_rep r
    simp only [inT, Reps] at r2
    obtain ⟨f, es, rfl, r2, rfl⟩ := r2
    have o' := o
    simp only [okT] at o'
    simp only [sz, onT, grT, dpT] at h0 h1 h2 h3 ⊢
    rw [← Nat.add_assoc, chkL, prob_rep r o (by omega) (by omega) (by simp only [o1]; omega) (by simp only [g1]; omega), e]
    simp only [o1, g1]
    rw [if_pos (by simp)]
    show chkL h L (n + sz t) ((f, k + 1) :: st) _ = _
    rw [chk_rep r2 o' (by omega) (by simp only; omega) (by simp only; omega) (by simp only; omega)]
    congr 2 <;> simp only <;> omega
theorem chk_reps {h : Hh} {L : Str} : ∀ {ts : List Tr} {ds : List D} {k n : Nat} {st : List (D × Nat)} {x : Ck}, Reps h ts ds → okLs L ts = true → k + dpL ts ≤ 8 → x.n + szL ts ≤ 60 → x.n1 + onL ts ≤ 10 → x.n2 + grL ts ≤ 5 →
    chkL h L (n + szL ts) (ds.map (fun e => (e, k)) ++ st) x = chkL h L n st ⟨x.n + szL ts, x.n1 + onL ts, x.n2 + grL ts⟩
  | [], ds, k, n, st, x, r, o, h0, h1, h2, h3 => by
    simp only [Reps] at r
    subst r
    rfl
  | t :: ts, ds, k, n, st, x, r, o, h0, h1, h2, h3 => by
    simp only [Reps] at r
    obtain ⟨e, es, rfl, r1, r2⟩ := r
    simp only [okLs, Bool.and_eq_true] at o
    simp only [szL, onL, grL, dpL] at h0 h1 h2 h3 ⊢
    rw [show n + (sz t + szL ts) = (n + szL ts) + sz t by omega, List.map_cons, List.cons_append, chk_rep r1 o.1 (by omega) (by omega) (by omega) (by omega),
      chk_reps r2 o.2 (by omega) (by simp only; omega) (by simp only; omega) (by simp only; omega)]
    congr 2 <;> simp only <;> omega
end
/-! ### empty, order, repetitions, settled -/
mutual
theorem can_rep {h : Hh} {L : Str} : ∀ {t : Tr} {d : D} {n : Nat}, Rep h t d → okT L t = true → dpT t < n → canF h n d = some (nlT t)
  | _, _, 0, _, _, hn => by omega
  | .emp, d, n + 1, r, o, hn => by simp only [Rep] at r; subst r; rfl
  | .one z, d, n + 1, r, o, hn => by simp only [Rep] at r; subst r; rfl
  | .seq b ts, d, n + 1, r, o, hn => by
    simp only [Rep] at r
    obtain ⟨y, ds, rfl, e, r⟩ := r
    simp only [okT, Bool.and_eq_true, decide_eq_true_eq] at o
    simp only [dpT] at hn
    obtain ⟨bs, e2, e3, e4⟩ := can_reps r o.2.2 (show dpL ts < n by omega)
    have hl := reps_len r
    cases b
    · simp [canF, seqW, e, e2, nlT, hl, o.2.1, ← e4]
    · simp [canF, seqW, e, e2, nlT, hl, o.2.1, ← e3]
  | .grp t, d, n + 1, r, o, hn => by
    simp only [Rep] at r
    obtain ⟨e, rfl, r⟩ := r
    simp only [okT] at o
    simp only [dpT] at hn
    simp [canF, nlT, can_rep r o (show dpT t < n by omega)]
  | .rep w t z, d, n + 1, r, o, hn => by
    simp only [Rep] at r
    obtain ⟨e, rfl, r⟩ := r
    simp only [okT] at o
    simp only [dpT] at hn
    have := can_rep r o (show dpT t < n by omega)
    rcases word_cases w with ⟨hw, e⟩ | ⟨hw, e⟩ | ⟨hw, hw2, e⟩ <;> rw [e] <;> simp [canF, nlT, this, hw]
    exact .inl hw2
theorem can_reps {h : Hh} {L : Str} : ∀ {ts : List Tr} {ds : List D} {n : Nat}, Reps h ts ds → okLs L ts = true → dpL ts < n → ∃ bs, mapO (canF h n) ds = some bs ∧ bs.all id = nlA ts ∧ bs.any id = nlE ts
  | [], ds, n, r, o, hn => by simp only [Reps] at r; subst r; exact ⟨[], rfl, rfl, rfl⟩
  | t :: ts, ds, n, r, o, hn => by
    simp only [Reps] at r
    obtain ⟨e, es, rfl, r1, r2⟩ := r
    simp only [okLs, Bool.and_eq_true] at o
    simp only [dpL] at hn
    obtain ⟨bs, e2, e3, e4⟩ := can_reps r2 o.2 (show dpL ts < n by omega)
    refine ⟨nlT t :: bs, ?_, ?_, ?_⟩
    · simp only [mapO, can_rep r1 o.1 (show dpT t < n by omega), e2]
    · rw [List.all_cons, e3]; rfl
    · rw [List.any_cons, e4]; rfl
end
mutual
/-- all trees in order -/
def subT : Tr → List Tr
  | .emp => [.emp]
  | .one z => [.one z]
  | .seq b ts => .seq b ts :: subL ts
  | .grp t => .grp t :: subT t
  | .rep w t z => .rep w t z :: subT t
def subL : List Tr → List Tr
  | [] => []
  | t :: ts => subT t ++ subL ts
end
theorem reps_app {h : Hh} : ∀ {ts us : List Tr} {ds es : List D}, Reps h ts ds → Reps h us es → Reps h (ts ++ us) (ds ++ es)
  | [], us, ds, es, a, b => by simp only [Reps] at a; subst a; exact b
  | t :: ts, us, ds, es, a, b => by
    simp only [Reps] at a
    obtain ⟨e, fs, rfl, a1, a2⟩ := a
    rw [List.cons_append, List.cons_append]
    simp only [Reps]
    exact ⟨_, _, rfl, a1, reps_app a2 b⟩
theorem subT_cons (t : Tr) : subT t = t :: subL (inT t) := by
  cases t <;> simp only [subT, inT, subL, List.append_nil]
mutual
theorem ord_rep {h : Hh} {L : Str} : ∀ {t : Tr} {d : D} {n : Nat}, Rep h t d → okT L t = true → dpT t < n → ∃ ls, ordF h n d = some ls ∧ Reps h (subT t) ls
  | _, _, 0, _, _, hn => by omega
  | .emp, d, n + 1, r, o, hn => by
    obtain ⟨ds, e, r2⟩ := within_rep r
    simp only [inT, Reps] at r2; subst r2
    refine ⟨[d], ?_, by simp only [subT, Reps]; exact ⟨_, _, rfl, r, rfl⟩⟩
    rw [ordF, e]; rfl
  | .one z, d, n + 1, r, o, hn => by
    obtain ⟨ds, e, r2⟩ := within_rep r
    simp only [inT, Reps] at r2; subst r2
    refine ⟨[d], ?_, by simp only [subT, Reps]; exact ⟨_, _, rfl, r, rfl⟩⟩
    rw [ordF, e]; rfl
  | .seq b ts, d, n + 1, r, o, hn => by
    obtain ⟨ds, e, r2⟩ := within_rep r
    simp only [inT] at r2
    have o' := o
    simp only [okT, Bool.and_eq_true, decide_eq_true_eq] at o'
    simp only [dpT] at hn
    obtain ⟨ls, e2, r3⟩ := ord_reps r2 o'.2.2 (show dpL ts < n by omega)
    refine ⟨d :: ls.flatten, ?_, by simp only [subT, Reps]; exact ⟨_, _, rfl, r, r3⟩⟩
    rw [ordF, e]; simp only
    rw [if_pos (by rw [reps_len r2]; exact o'.2.1), e2]; rfl
  | .grp t, d, n + 1, r, o, hn => by
    obtain ⟨ds, e, r2⟩ := within_rep r
    simp only [inT, Reps] at r2
    obtain ⟨f, es, rfl, r2, rfl⟩ := r2
    have o' := o
    simp only [okT] at o'
    simp only [dpT] at hn
    obtain ⟨ls, e2, r3⟩ := ord_rep r2 o' (show dpT t < n by omega)
    refine ⟨d :: ls, ?_, by simp only [subT, Reps]; exact ⟨_, _, rfl, r, r3⟩⟩
    rw [ordF, e]; simp only
    rw [if_pos (by simp)]; simp only [mapO, e2, Option.map_some, List.flatten_cons, List.flatten_nil, List.append_nil]
  | .rep w t z, d, n + 1, r, o, hn => by
    obtain ⟨ds, e, r2⟩ := within_rep r
    simp only [inT, Reps] at r2
    obtain ⟨f, es, rfl, r2, rfl⟩ := r2
    have o' := o
    simp only [okT] at o'
    simp only [dpT] at hn
    obtain ⟨ls, e2, r3⟩ := ord_rep r2 o' (show dpT t < n by omega)
    refine ⟨d :: ls, ?_, by simp only [subT, Reps]; exact ⟨_, _, rfl, r, r3⟩⟩
    rw [ordF, e]; simp only
    rw [if_pos (by simp)]; simp only [mapO, e2, Option.map_some, List.flatten_cons, List.flatten_nil, List.append_nil]
theorem ord_reps {h : Hh} {L : Str} : ∀ {ts : List Tr} {ds : List D} {n : Nat}, Reps h ts ds → okLs L ts = true → dpL ts < n → ∃ ls, mapO (ordF h n) ds = some ls ∧ Reps h (subL ts) ls.flatten
  | [], ds, n, r, o, hn => by simp only [Reps] at r; subst r; exact ⟨[], rfl, by simp only [subL, List.flatten_nil, Reps]⟩
  | t :: ts, ds, n, r, o, hn => by
    simp only [Reps] at r
    obtain ⟨e, es, rfl, r1, r2⟩ := r
    simp only [okLs, Bool.and_eq_true] at o
    simp only [dpL] at hn
    obtain ⟨l, e1, r3⟩ := ord_rep r1 o.1 (show dpT t < n by omega)
    obtain ⟨ls, e2, r4⟩ := ord_reps r2 o.2 (show dpL ts < n by omega)
    refine ⟨l :: ls, ?_, ?_⟩
    · simp only [mapO, e1, e2]
    · rw [List.flatten_cons, subL]; exact reps_app r3 r4
end
mutual
theorem set_rep {h : Hh} {L : Str} : ∀ {t : Tr} {d : D} {n : Nat}, Rep h t d → okT L t = true → dpT t < n → setF h n d = some (toD t)
  | _, _, 0, _, _, hn => by omega
  | .emp, d, n + 1, r, o, hn => by simp only [Rep] at r; subst r; rfl
  | .one z, d, n + 1, r, o, hn => by simp only [Rep] at r; subst r; rfl
  | .seq b ts, d, n + 1, r, o, hn => by
    simp only [Rep] at r
    obtain ⟨y, ds, rfl, e, r⟩ := r
    simp only [okT, Bool.and_eq_true, decide_eq_true_eq] at o
    simp only [dpT] at hn
    have e2 := set_reps r o.2.2 (show dpL ts < n by omega)
    have hl := reps_len r
    cases b <;> simp [setF, seqW, e, e2, hl, o.2.1, toD]
  | .grp t, d, n + 1, r, o, hn => by
    simp only [Rep] at r
    obtain ⟨e, rfl, r⟩ := r
    simp only [okT] at o
    simp only [dpT] at hn
    simp [setF, toD, set_rep r o (show dpT t < n by omega)]
  | .rep w t z, d, n + 1, r, o, hn => by
    simp only [Rep] at r
    obtain ⟨e, rfl, r⟩ := r
    simp only [okT] at o
    simp only [dpT] at hn
    have := set_rep r o (show dpT t < n by omega)
    simp only [toD]
    rcases word_cases w with ⟨hw, e⟩ | ⟨hw, e⟩ | ⟨hw, hw2, e⟩ <;> rw [e] <;> simp [setF, this]
theorem set_reps {h : Hh} {L : Str} : ∀ {ts : List Tr} {ds : List D} {n : Nat}, Reps h ts ds → okLs L ts = true → dpL ts < n → mapO (setF h n) ds = some (toDs ts)
  | [], ds, n, r, o, hn => by simp only [Reps] at r; subst r; rfl
  | t :: ts, ds, n, r, o, hn => by
    simp only [Reps] at r
    obtain ⟨e, es, rfl, r1, r2⟩ := r
    simp only [okLs, Bool.and_eq_true] at o
    simp only [dpL] at hn
    simp only [mapO, set_rep r1 o.1 (show dpT t < n by omega), set_reps r2 o.2 (show dpL ts < n by omega), toDs]
end
theorem rL_all : ∀ {ts : List Tr}, reL ts = true → ∀ t ∈ ts, reT t = true
  | t :: ts, h, u, hu => by
    simp only [reL, Bool.and_eq_true] at h
    rcases List.mem_cons.mp hu with rfl | hu
    · exact h.1
    · exact rL_all h.2 u hu
theorem oL_all {L : Str} : ∀ {ts : List Tr}, okLs L ts = true → ∀ t ∈ ts, okT L t = true
  | t :: ts, h, u, hu => by
    simp only [okLs, Bool.and_eq_true] at h
    rcases List.mem_cons.mp hu with rfl | hu
    · exact h.1
    · exact oL_all h.2 u hu
mutual
theorem sub_ok {L : Str} : ∀ {t : Tr}, okT L t = true → reT t = true → ∀ u ∈ subT t, okT L u = true ∧ reT u = true ∧ dpT u ≤ dpT t
  | .emp, o, r, u, hu => by simp only [subT, List.mem_singleton] at hu; subst hu; exact ⟨o, r, Nat.le_refl _⟩
  | .one z, o, r, u, hu => by simp only [subT, List.mem_singleton] at hu; subst hu; exact ⟨o, r, Nat.le_refl _⟩
  | .seq b ts, o, r, u, hu => by
    simp only [subT] at hu
    rcases List.mem_cons.mp hu with rfl | hu
    · exact ⟨o, r, Nat.le_refl _⟩
    · simp only [okT, Bool.and_eq_true] at o
      simp only [reT] at r
      have := sub_oks o.2.2 r u hu
      exact ⟨this.1, this.2.1, by simp only [dpT]; omega⟩
  | .grp t, o, r, u, hu => by
    simp only [subT] at hu
    rcases List.mem_cons.mp hu with rfl | hu
    · exact ⟨o, r, Nat.le_refl _⟩
    · simp only [okT] at o
      simp only [reT] at r
      have := sub_ok o r u hu
      exact ⟨this.1, this.2.1, by simp only [dpT]; omega⟩
  | .rep w t z, o, r, u, hu => by
    simp only [subT] at hu
    rcases List.mem_cons.mp hu with rfl | hu
    · exact ⟨o, r, Nat.le_refl _⟩
    · simp only [okT] at o
      simp only [reT, Bool.and_eq_true] at r
      have := sub_ok o r.2 u hu
      exact ⟨this.1, this.2.1, by simp only [dpT]; omega⟩
theorem sub_oks {L : Str} : ∀ {ts : List Tr}, okLs L ts = true → reL ts = true → ∀ u ∈ subL ts, okT L u = true ∧ reT u = true ∧ dpT u ≤ dpL ts
  | [], o, r, u, hu => by simp only [subL, List.not_mem_nil] at hu
  | t :: ts, o, r, u, hu => by
    simp only [subL, List.mem_append] at hu
    simp only [okLs, Bool.and_eq_true] at o
    simp only [reL, Bool.and_eq_true] at r
    simp only [dpL]
    rcases hu with hu | hu
    · have := sub_ok o.1 r.1 u hu
      exact ⟨this.1, this.2.1, by omega⟩
    · have := sub_oks o.2 r.2 u hu
      exact ⟨this.1, this.2.1, by omega⟩
end
theorem rep_none {h : Hh} {L : Str} {n : Nat} : ∀ {us : List Tr} {ls : List D} {i : Nat}, Reps h us ls → (∀ u ∈ us, okT L u = true ∧ reT u = true ∧ dpT u < n) → repL h n i ls = some none
  | [], ls, i, r, o => by simp only [Reps] at r; subst r; rfl
  | u :: us, ls, i, r, o => by
    simp only [Reps] at r
    obtain ⟨e, es, rfl, r1, r2⟩ := r
    have ih : repL h n (i + 1) es = some none := rep_none r2 fun v hv => o v (List.mem_cons_of_mem _ hv)
    obtain ⟨o1, o2, o3⟩ := o u (by simp)
    cases u with
    | emp => simp only [Rep] at r1; subst r1; simp [repL, ih]
    | one z => simp only [Rep] at r1; subst r1; simp [repL, ih]
    | seq b ts =>
      simp only [Rep] at r1
      obtain ⟨y, ds, rfl, e, r⟩ := r1
      cases b <;> simp [repL, seqW, ih]
    | grp t =>
      simp only [Rep] at r1
      obtain ⟨e, rfl, r⟩ := r1
      simp [repL, ih]
    | rep w t z =>
      simp only [Rep] at r1
      obtain ⟨e, rfl, r⟩ := r1
      simp only [okT] at o1
      simp only [dpT] at o3
      have c := can_rep r o1 (show dpT t < n by omega)
      simp only [reT, Bool.and_eq_true, Bool.or_eq_true, decide_eq_true_eq] at o2
      rcases word_cases w with ⟨hw, e⟩ | ⟨hw, e⟩ | ⟨hw, hw2, e⟩ <;> rw [e]
      · have nl : nlT t = false := by
          rcases o2.1 with z | z
          · exact absurd hw z.1
          · cases hh : nlT t <;> simp [hh] at z ⊢
        simp [repL, c, nl, ih]
      · have nl : nlT t = false := by
          rcases o2.1 with z | z
          · exact absurd hw z.2
          · cases hh : nlT t <;> simp [hh] at z ⊢
        simp [repL, c, nl, ih]
      · simp [repL, ih]
mutual
theorem sub_len : ∀ t : Tr, (subT t).length = sz t
  | .emp => rfl
  | .one z => rfl
  | .seq b ts => by simp only [subT, sz, List.length_cons, subL_len ts]
  | .grp t => by simp only [subT, sz, List.length_cons, sub_len t]
  | .rep w t z => by simp only [subT, sz, List.length_cons, sub_len t]
theorem subL_len : ∀ ts : List Tr, (subL ts).length = szL ts
  | [] => rfl
  | t :: ts => by simp only [subL, szL, List.length_append, sub_len t, subL_len ts]
end
mutual
def oneT : Tr → List Str
  | .emp => []
  | .one z => [z]
  | .seq _ ts => oneL ts
  | .grp t => oneT t
  | .rep _ t _ => oneT t
def oneL : List Tr → List Str
  | [] => []
  | t :: ts => oneT t ++ oneL ts
end
theorem tag_g (u : Tr) : tagB "group" (toD u) = decide (g1 u = 1) := by
  cases u with
  | emp => rfl
  | one z => rfl
  | seq b ts => cases b <;> rfl
  | grp t => rfl
  | rep w t z => simp only [toD]; rcases word_cases w with ⟨hw, e⟩ | ⟨hw, e⟩ | ⟨hw, hw2, e⟩ <;> rw [e] <;> rfl
theorem tag_o (u : Tr) : tagB "one" (toD u) = decide (o1 u = 1) := by
  cases u with
  | emp => rfl
  | one z => rfl
  | seq b ts => cases b <;> rfl
  | grp t => rfl
  | rep w t z => simp only [toD]; rcases word_cases w with ⟨hw, e⟩ | ⟨hw, e⟩ | ⟨hw, hw2, e⟩ <;> rw [e] <;> rfl
theorem tag_i (u : Tr) : isTag (toD u) = true := by
  cases u with
  | emp => rfl
  | one z => rfl
  | seq b ts => cases b <;> rfl
  | grp t => rfl
  | rep w t z => simp only [toD]; rcases word_cases w with ⟨hw, e⟩ | ⟨hw, e⟩ | ⟨hw, hw2, e⟩ <;> rw [e] <;> rfl
mutual
theorem cnt_g : ∀ t : Tr, (((subT t).map toD).filter (tagB "group")).length = grT t
  | .emp => rfl
  | .one z => rfl
  | .seq b ts => by simp only [subT, List.map_cons, grT]; rw [List.filter_cons_of_neg (by rw [tag_g]; simp [g1])]; exact cnt_gs ts
  | .grp t => by simp only [subT, List.map_cons, grT]; rw [List.filter_cons_of_pos (by rw [tag_g]; rfl), List.length_cons, cnt_g t]
  | .rep w t z => by simp only [subT, List.map_cons, grT]; rw [List.filter_cons_of_neg (by rw [tag_g]; simp [g1])]; exact cnt_g t
theorem cnt_gs : ∀ ts : List Tr, (((subL ts).map toD).filter (tagB "group")).length = grL ts
  | [] => rfl
  | t :: ts => by simp only [subL, List.map_append, List.filter_append, List.length_append, cnt_g t, cnt_gs ts, grL]
end
mutual
theorem cnt_o : ∀ t : Tr, (((subT t).map toD).filter (tagB "one")).map sndD = (oneT t).map .str
  | .emp => rfl
  | .one z => rfl
  | .seq b ts => by simp only [subT, List.map_cons, oneT]; rw [List.filter_cons_of_neg (by rw [tag_o]; simp [o1])]; exact cnt_os ts
  | .grp t => by simp only [subT, List.map_cons, oneT]; rw [List.filter_cons_of_neg (by rw [tag_o]; simp [o1])]; exact cnt_o t
  | .rep w t z => by simp only [subT, List.map_cons, oneT]; rw [List.filter_cons_of_neg (by rw [tag_o]; simp [o1])]; exact cnt_o t
theorem cnt_os : ∀ ts : List Tr, (((subL ts).map toD).filter (tagB "one")).map sndD = (oneL ts).map .str
  | [] => rfl
  | t :: ts => by simp only [subL, List.map_append, List.filter_append, cnt_o t, cnt_os ts, oneL]
end
theorem reps_data {h : Hh} : ∀ {ts : List Tr} {ds : List D}, (∀ t ∈ ts, ∀ d, Rep h t d → d = toD t) → Reps h ts ds → ds = ts.map toD
  | [], ds, _, r => by simp only [Reps] at r; exact r
  | t :: ts, ds, hh, r => by
    simp only [Reps] at r
    obtain ⟨e, es, rfl, r1, r2⟩ := r
    rw [hh t (by simp) e r1, reps_data (fun u hu => hh u (by simp [hu])) r2]; rfl
mutual
theorem ord_data {h : Hh} {L : Str} : ∀ {t : Tr} {n : Nat}, okT L t = true → dpT t < n → ordF h n (toD t) = some ((subT t).map toD)
  | _, 0, _, hn => by omega
  | .emp, n + 1, o, hn => rfl
  | .one z, n + 1, o, hn => rfl
  | .seq b ts, n + 1, o, hn => by
    have o' := o
    simp only [okT, Bool.and_eq_true, decide_eq_true_eq] at o'
    simp only [dpT] at hn
    have e2 := ord_datas (h := h) o'.2.2 (show dpL ts < n by omega)
    have hl : (toDs ts).length ≤ 8 := by rw [toDs_map, List.length_map]; exact o'.2.1
    simp only [subT, List.map_cons, toD]
    cases b <;> simp [ordF, withinF, seqW, hl, sqOf] <;> exact e2
  | .grp t, n + 1, o, hn => by
    simp only [okT] at o
    simp only [dpT] at hn
    have e2 := ord_data (h := h) o (show dpT t < n by omega)
    simp only [subT, List.map_cons, toD]
    simp [ordF, withinF, mapO, e2]
  | .rep w t z, n + 1, o, hn => by
    simp only [okT] at o
    simp only [dpT] at hn
    have e2 := ord_data (h := h) o (show dpT t < n by omega)
    simp only [subT, List.map_cons, toD]
    rcases word_cases w with ⟨hw, e⟩ | ⟨hw, e⟩ | ⟨hw, hw2, e⟩ <;> rw [e] <;> simp [ordF, withinF, mapO, e2]
theorem ord_datas {h : Hh} {L : Str} : ∀ {ts : List Tr} {n : Nat}, okLs L ts = true → dpL ts < n → ∃ ls, mapO (ordF h n) (toDs ts) = some ls ∧ ls.flatten = (subL ts).map toD
  | [], n, o, hn => ⟨[], rfl, rfl⟩
  | t :: ts, n, o, hn => by
    simp only [okLs, Bool.and_eq_true] at o
    simp only [dpL] at hn
    obtain ⟨ls, e2, e3⟩ := ord_datas (h := h) o.2 (show dpL ts < n by omega)
    refine ⟨(subT t).map toD :: ls, ?_, ?_⟩
    · simp only [toDs, mapO, ord_data o.1 (show dpT t < n by omega), e2]
    · rw [List.flatten_cons, e3, subL, List.map_append]
end
/-- within all bounds -/
structure Good (L : Str) (t : Tr) : Prop where
  ok : okT L t = true
  re : reT t = true
  dp : dpT t ≤ 8
  sz : sz t ≤ 60
  on : onT t ≤ 10
  gr : grT t ≤ 5
/-- a right tree has a pattern -/
theorem pat_good {h : Hh} {L : Str} {t : Tr} {d : D} (okl : okL L = true) (r : Rep h t d) (g : Good L t) : patF h (.str L) d = some (.inr ⟨toD t, grT t, (oneT t).map .str⟩) := by
  obtain ⟨o, re, hd, hs, ho, hg⟩ := g
  obtain ⟨ls, e1, r1⟩ := ord_rep (n := 20) r o (by omega)
  have hl : ls.length ≤ 1000 := by rw [reps_len r1, sub_len]; omega
  have c : f_check_tree [.str L, d] h = some (.ok .non h) := by
    have := chk_rep (h := h) (L := L) (k := 0) (n := 100 - EV.sz t) (st := []) (x := ⟨0, 0, 0⟩) r o (by omega) (by simp only; omega) (by simp only; omega) (by simp only; omega)
    rw [show 100 - EV.sz t + EV.sz t = 100 by omega, show 100 - EV.sz t = (99 - EV.sz t) + 1 by omega] at this
    have t2 : chkL h L 100 [(d, 0)] ⟨0, 0, 0⟩ = some none := this
    simp only [f_check_tree, t2, Option.map_some]
  have c2 : f_check_repeated [d] h = some (.ok .non h) := by
    simp only [f_check_repeated, e1]
    rw [if_pos hl, rep_none r1 fun u hu => ⟨(sub_ok o re u hu).1, (sub_ok o re u hu).2.1, by have := (sub_ok o re u hu).2.2; omega⟩]
    rfl
  unfold patF
  rw [fcl_ok okl]
  simp only [c, c2, set_rep r o (show dpT t < 20 by omega), ord_data o (show dpT t < 20 by omega)]
  rw [if_pos (by
    rw [Bool.and_eq_true]
    refine ⟨by rw [List.length_map, sub_len, decide_eq_true_eq]; omega, ?_⟩
    rw [List.all_eq_true]
    intro x hx
    obtain ⟨u, _, rfl⟩ := List.mem_map.mp hx
    exact tag_i u), cnt_g, cnt_o]
end EV

namespace EV
open PySem PySem.Spec PyProof.Rows L2
/-! ### equality of plain data -/
mutual
/-- texts and tuples alone -/
def simD : D → Bool
  | .str z => PyData.strOk z
  | .tup ds => simDs ds
  | _ => false
def simDs : List D → Bool
  | [] => true
  | d :: ds => simD d && simDs ds
end
mutual
def plD : D → PyData
  | .str z => .str z
  | .tup ds => .tuple (plDs ds)
  | _ => .none
def plDs : List D → List PyData
  | [] => []
  | d :: ds => plD d :: plDs ds
end
mutual
def fuD : D → Nat
  | .tup ds => fuDs ds + 1
  | _ => 1
def fuDs : List D → Nat
  | [] => 1
  | d :: ds => max (fuD d) (fuDs ds) + 1
end
mutual
theorem py_pl {h : Hh} : ∀ {d : D} {n : Nat}, simD d = true → fuD d ≤ n → pyD h n d = some (plD d)
  | .str z, 0, s, hn => by simp only [fuD] at hn; omega
  | .str z, n + 1, s, hn => by simp only [pyD, plD]
  | .tup ds, 0, s, hn => by simp only [fuD] at hn; omega
  | .tup ds, n + 1, s, hn => by
    simp only [simD] at s
    simp only [fuD] at hn
    simp only [pyD, plD, pys_pl (n := n) s (by omega), Option.map_some]
  | .non, _, s, _ => by simp only [simD] at s; cases s
  | .bl _, _, s, _ => by simp only [simD] at s; cases s
  | .int _, _, s, _ => by simp only [simD] at s; cases s
  | .ref _, _, s, _ => by simp only [simD] at s; cases s
  | .opq _, _, s, _ => by simp only [simD] at s; cases s
theorem pys_pl {h : Hh} : ∀ {ds : List D} {n : Nat}, simDs ds = true → fuDs ds ≤ n → pyDs h n ds = some (plDs ds)
  | [], 0, s, hn => by simp only [fuDs] at hn; omega
  | [], n + 1, s, hn => by simp only [pyDs, plDs]
  | d :: ds, 0, s, hn => by simp only [fuDs] at hn; omega
  | d :: ds, n + 1, s, hn => by
    simp only [simDs, Bool.and_eq_true] at s
    simp only [fuDs] at hn
    simp only [pyDs, plDs, py_pl (n := n) s.1 (by omega), pys_pl (n := n) s.2 (by omega)]
end
mutual
theorem can_pl : ∀ {d : D}, simD d = true → (plD d).canLay0 = true
  | .str z, s => by simp only [simD] at s; simp only [plD, PyData.canLay0, s]
  | .tup ds, s => by simp only [simD] at s; simp only [plD, PyData.canLay0, cans_pl s]
  | .non, s => by simp only [simD] at s; cases s
  | .bl _, s => by simp only [simD] at s; cases s
  | .int _, s => by simp only [simD] at s; cases s
  | .ref _, s => by simp only [simD] at s; cases s
  | .opq _, s => by simp only [simD] at s; cases s
theorem cans_pl : ∀ {ds : List D}, simDs ds = true → PyData.canLayAll0 (plDs ds) = true
  | [], s => by simp only [plDs, PyData.canLayAll0]
  | d :: ds, s => by
    simp only [simDs, Bool.and_eq_true] at s
    simp only [plDs, PyData.canLayAll0, can_pl s.1, cans_pl s.2, Bool.and_self]
end
mutual
theorem eqv_pl : ∀ {d e : D}, simD d = true → simD e = true → (plD d).eqv (plD e) = eqDB d e
  | .str z, e, s, s2 => by
    cases e with
    | str y =>
      simp only [plD, PyData.eqv, eqDB]
      by_cases hh : z = y
      · subst hh; simp
      · rw [decide_eq_false hh, beq_eq_false_iff_ne]; exact hh
    | tup ds => simp only [plD, PyData.eqv, eqDB]
    | _ => simp only [simD] at s2; cases s2
  | .tup ds, e, s, s2 => by
    cases e with
    | str y => simp only [plD, PyData.eqv, eqDB]
    | tup es => simp only [simD] at s s2; simp only [plD, PyData.eqv, eqDB]; exact eqvs_pl s s2
    | _ => simp only [simD] at s2; cases s2
  | .non, _, s, _ => by simp only [simD] at s; cases s
  | .bl _, _, s, _ => by simp only [simD] at s; cases s
  | .int _, _, s, _ => by simp only [simD] at s; cases s
  | .ref _, _, s, _ => by simp only [simD] at s; cases s
  | .opq _, _, s, _ => by simp only [simD] at s; cases s
theorem eqvs_pl : ∀ {ds es : List D}, simDs ds = true → simDs es = true → PyData.eqvAll (plDs ds) (plDs es) = eqDsB ds es
  | [], [], _, _ => by simp only [plDs, PyData.eqvAll, eqDsB]
  | [], _ :: _, _, _ => by simp only [plDs, PyData.eqvAll, eqDsB]
  | _ :: _, [], _, _ => by simp only [plDs, PyData.eqvAll, eqDsB]
  | d :: ds, e :: es, s, s2 => by
    simp only [simDs, Bool.and_eq_true] at s s2
    simp only [plDs, PyData.eqvAll, eqDsB, eqv_pl s.1 s2.1, eqvs_pl s.2 s2.2]
end
mutual
theorem eqDB_refl : ∀ {d : D}, simD d = true → eqDB d d = true
  | .str z, s => by simp only [eqDB, decide_true]
  | .tup ds, s => by simp only [simD] at s; simp only [eqDB, eqDsB_refl s]
  | .non, s => by simp only [simD] at s; cases s
  | .bl _, s => by simp only [simD] at s; cases s
  | .int _, s => by simp only [simD] at s; cases s
  | .ref _, s => by simp only [simD] at s; cases s
  | .opq _, s => by simp only [simD] at s; cases s
theorem eqDsB_refl : ∀ {ds : List D}, simDs ds = true → eqDsB ds ds = true
  | [], _ => by simp only [eqDsB]
  | d :: ds, s => by
    simp only [simDs, Bool.and_eq_true] at s
    simp only [eqDsB, eqDB_refl s.1, eqDsB_refl s.2, Bool.and_self]
end
theorem eqD_sim {d e : D} {h : Hh} (s : simD d = true) (s2 : simD e = true) (f : fuD d ≤ 2000) (f2 : fuD e ≤ 2000) (p : (plD d).depth ≤ 64) (p2 : (plD e).depth ≤ 64) : eqD d e h = some (eqDB d e) := by
  unfold eqD
  rw [py_pl s f, py_pl s2 f2]
  simp only
  rw [if_pos (by simp only [SeqAt.shaped, can_pl s, can_pl s2, Bool.true_and, Bool.and_eq_true, decide_eq_true_eq]; exact ⟨p, p2⟩), eqv_pl s s2]
/-! of trees -/
theorem strOk_in {z A : Str} (a : areL (.str z) A = true) (ok : PyData.strOk A = true) : PyData.strOk z = true := by
  simp only [areL, lettersOk, Bool.and_eq_true, List.all_eq_true, decide_eq_true_eq] at a
  simp only [PyData.strOk, Array.all_eq_true_iff_forall_mem, decide_eq_true_eq] at ok ⊢
  intro c hc
  exact ok c (Array.mem_toList_iff.mp (a.1.2 c (Array.mem_toList_iff.mpr hc)))
theorem okL_str {L : Str} (ok : okL L = true) : PyData.strOk L = true := by
  simp only [okL, okLetters, Bool.and_eq_true] at ok
  exact strOk_in ok.2.1 (by decide +kernel)
theorem wok (b : Bool) : PyData.strOk (seqW b) = true := by cases b <;> decide +kernel
theorem gok (b : Bool) : PyData.strOk (grW b) = true := by cases b <;> decide +kernel
theorem rok (w : Nat) : PyData.strOk (wordS w) = true := by
  rcases word_cases w with ⟨_, e⟩ | ⟨_, e⟩ | ⟨_, _, e⟩ <;> rw [e] <;> decide +kernel
mutual
theorem sim_toD {L : Str} (ok : PyData.strOk L = true) : ∀ {t : Tr}, okT L t = true → simD (toD t) = true
  | .emp, o => by decide +kernel
  | .one z, o => by
    simp only [okT, Bool.and_eq_true] at o
    simp only [toD, simD, simDs, strOk_in o.2 ok, Bool.and_true]
    decide +kernel
  | .seq b ts, o => by
    simp only [okT, Bool.and_eq_true] at o
    simp only [toD, simD, simDs, wok, sims_toD ok o.2.2, Bool.and_true]
  | .grp t, o => by
    simp only [okT] at o
    simp only [toD, simD, simDs, sim_toD ok o, Bool.and_true]
    decide +kernel
  | .rep w t z, o => by
    simp only [okT] at o
    simp only [toD, simD, simDs, sim_toD ok o, rok, gok, Bool.and_true]
theorem sims_toD {L : Str} (ok : PyData.strOk L = true) : ∀ {ts : List Tr}, okLs L ts = true → simDs (toDs ts) = true
  | [], o => by simp only [toDs, simDs]
  | t :: ts, o => by
    simp only [okLs, Bool.and_eq_true] at o
    simp only [toDs, simDs, sim_toD ok o.1, sims_toD ok o.2, Bool.and_self]
end
mutual
theorem fu_toD {L : Str} : ∀ {t : Tr}, okT L t = true → fuD (toD t) ≤ 13 * dpT t + 5
  | .emp, o => by simp [toD, fuD, fuDs]
  | .one z, o => by simp [toD, fuD, fuDs]
  | .seq b ts, o => by
    simp only [okT, Bool.and_eq_true, decide_eq_true_eq] at o
    have := fus_toD o.2.2
    simp only [toD, fuD, fuDs, dpT]
    omega
  | .grp t, o => by
    simp only [okT] at o
    have := fu_toD o
    simp only [toD, fuD, fuDs, dpT]
    omega
  | .rep w t z, o => by
    simp only [okT] at o
    have := fu_toD o
    simp only [toD, fuD, fuDs, dpT]
    omega
theorem fus_toD {L : Str} : ∀ {ts : List Tr}, okLs L ts = true → fuDs (toDs ts) ≤ 13 * dpL ts + 5 + ts.length
  | [], o => by simp [toDs, fuDs]
  | t :: ts, o => by
    simp only [okLs, Bool.and_eq_true] at o
    have h1 := fu_toD o.1
    have h2 := fus_toD o.2
    simp only [toDs, fuDs, dpL, List.length_cons]
    omega
end
mutual
theorem de_toD : ∀ {t : Tr}, (plD (toD t)).depth ≤ 2 * dpT t + 1
  | .emp => by simp [toD, plD, plDs, PyData.depth, PyData.depthAll]
  | .one z => by simp [toD, plD, plDs, PyData.depth, PyData.depthAll]
  | .seq b ts => by
    have := des_toD (ts := ts)
    simp only [toD, plD, plDs, PyData.depth, PyData.depthAll, dpT]
    omega
  | .grp t => by
    have := de_toD (t := t)
    simp only [toD, plD, plDs, PyData.depth, PyData.depthAll, dpT]
    omega
  | .rep w t z => by
    have := de_toD (t := t)
    simp only [toD, plD, plDs, PyData.depth, PyData.depthAll, dpT]
    omega
theorem des_toD : ∀ {ts : List Tr}, PyData.depthAll (plDs (toDs ts)) ≤ 2 * dpL ts + 1
  | [] => by simp [toDs, plDs, PyData.depthAll]
  | t :: ts => by
    have h1 := de_toD (t := t)
    have h2 := des_toD (ts := ts)
    simp only [toDs, plDs, PyData.depthAll, dpL]
    omega
end
theorem eqD_good {L L' : Str} {t u : Tr} {h : Hh} (okl : okL L = true) (okl' : okL L' = true) (g : Good L t) (g2 : Good L' u) : eqD (toD t) (toD u) h = some (eqDB (toD t) (toD u)) := by
  have a1 := fu_toD g.ok
  have a2 := fu_toD g2.ok
  have a3 := de_toD (t := t)
  have a4 := de_toD (t := u)
  have b1 := g.dp
  have b2 := g2.dp
  exact eqD_sim (sim_toD (okL_str okl) g.ok) (sim_toD (okL_str okl') g2.ok) (by omega) (by omega) (by omega) (by omega)
theorem toD_tup (t : Tr) : ∃ a as, toD t = .tup (a :: as) := by
  cases t <;> exact ⟨_, _, rfl⟩
theorem gEq_good {L L' : Str} {t u : Tr} {h : Hh} (okl : okL L = true) (okl' : okL L' = true) (g : Good L t) (g2 : Good L' u) : gEq (toD t) (toD u) h = some (.bl (eqDB (toD t) (toD u)), h) := gEq_of (toD_tup t) (toD_tup u) (eqD_good okl okl' g g2)
theorem gNe_good {L L' : Str} {t u : Tr} {h : Hh} (okl : okL L = true) (okl' : okL L' = true) (g : Good L t) (g2 : Good L' u) : gNe (toD t) (toD u) h = some (.bl (!eqDB (toD t) (toD u)), h) := gNe_of (toD_tup t) (toD_tup u) (eqD_good okl okl' g g2)
theorem read_good {L T : Str} {t : Tr} {h : Hh} (okl : okL L = true) (hl : T.length ≤ 9000) (e : go L T.cps.toList rs0 = .tree (toD t)) (g : Good L t) : f_read [.str L, .str T] h = some (.ok (.ref h.length) (h ++ [patO (.str L) ⟨toD t, grT t, (oneT t).map .str⟩])) :=
  read_tree okl hl e (pat_good okl (rep_toD t) g)
end EV

namespace EV
open PySem PySem.Spec PyProof.Rows L2
/-! ### a text within parentheses -/
/-- the lowest level with another flag, and further levels below -/
def upL (g : Bool) (low : List Lv) : List Lv → List Lv
  | [] => low
  | [l] => ⟨g, l.cs, l.ls⟩ :: low
  | l :: l2 :: r => l :: upL g low (l2 :: r)
def upS (g : Bool) (low : List Lv) (k : Nat) (s : Rs) : Rs := ⟨s.pos + k, upL g low s.lv, s.bh⟩
theorem upL_cons {g : Bool} {low : List Lv} {l : Lv} {r : List Lv} : ∃ b q, (∀ cs ls, upL g low (⟨l.g, cs, ls⟩ :: r) = ⟨b, cs, ls⟩ :: q) ∧ upL g low (l :: r) = ⟨b, l.cs, l.ls⟩ :: q := by
  cases r with
  | nil => exact ⟨g, low, fun _ _ => rfl, rfl⟩
  | cons a r => exact ⟨l.g, upL g low (a :: r), fun _ _ => rfl, rfl⟩
/-- the flag of the lowest level -/
def botF (r : List Lv) : Option Bool := r.getLast?.map Lv.g
theorem bot_same {l : Lv} {r : List Lv} {cs ls : List D} : botF (⟨l.g, cs, ls⟩ :: r) = botF (l :: r) := by
  cases r with
  | nil => rfl
  | cons a r => rfl
theorem bot_new {l : Lv} {r : List Lv} (h : r ≠ []) : botF (l :: r) = botF r := by
  cases r with
  | nil => exact absurd rfl h
  | cons a r => rfl
theorem upL_len {g : Bool} {low : List Lv} : ∀ {r : List Lv}, (upL g low r).length = r.length + low.length
  | [] => by simp [upL]
  | [l] => by simp [upL]; omega
  | l :: l2 :: r => by simp only [upL, List.length_cons, upL_len (r := l2 :: r)]; omega
theorem upL_new {g : Bool} {low : List Lv} {l : Lv} {r : List Lv} (h : r ≠ []) : upL g low (l :: r) = l :: upL g low r := by
  cases r with
  | nil => exact absurd rfl h
  | cons a r => rfl
theorem rep_up {g : Bool} {low : List Lv} {k : Nat} {s s' : Rs} {x : Nat} (e : repM s x = .ok s') : repM (upS g low k s) x = .ok (upS g low k s') := by
  unfold repM at e
  cases hl : s.lv with
  | nil => rw [hl] at e; cases e
  | cons l r =>
    rw [hl] at e
    obtain ⟨b, q, u1, u2⟩ := upL_cons (g := g) (low := low) (l := l) (r := r)
    unfold repM
    simp only [upS, hl, u2]
    simp only at e
    by_cases h1 : s.bh = 1
    · rw [if_pos h1] at e ⊢
      cases h2 : l.ls.getLast? with
      | none => rw [h2] at e; cases e
      | some t => rw [h2] at e; cases e; simp only [u1]
    · rw [if_neg h1] at e ⊢
      by_cases h3 : s.bh = 2 ∧ x = 63
      · rw [if_pos h3] at e ⊢
        cases h2 : l.ls.getLast? with
        | none => rw [h2] at e; cases e
        | some t =>
          rw [h2] at e
          cases t with
          | tup ts =>
            simp only at e ⊢
            by_cases h4 : ts.length ≤ 100
            · rw [if_pos h4] at e ⊢; cases e; simp only [u1]
            · rw [if_neg h4] at e; cases e
          | _ => cases e
      · rw [if_neg h3] at e; cases e
theorem brk_up {L : List Nat} {k : Nat} : ∀ {rem f : List Nat} {a : Nat} {p : List Nat × Nat × List Nat}, brkG L rem f a = .inr p → brkG L rem f (a + k) = .inr (p.1, p.2.1 + k, p.2.2)
  | [], f, a, p, e => by cases e
  | x :: rem, f, a, p, e => by
    unfold brkG at e ⊢
    split
    · rename_i h; rw [if_pos h] at e; cases e; simp only; congr 3; omega
    · rename_i h
      rw [if_neg h] at e
      split
      · rename_i h2; rw [if_pos h2] at e; rw [show a + k + 1 = a + 1 + k by omega]; exact brk_up e
      · rename_i h2; rw [if_neg h2] at e; cases e
theorem step_up {L : Str} {g : Bool} {low : List Lv} {k x : Nat} {rem r : List Nat} {s s' : Rs} (e : stepG L x rem s = .ok r s') (h41 : 41 ∉ L.cps.toList) (hd : x = 40 → s.lv.length + low.length ≤ 60) (ne : s.lv ≠ []) :
    stepG L x rem (upS g low k s) = .ok r (upS g low k s') ∧ s'.lv ≠ [] ∧ s'.lv.length ≤ s.lv.length + (if x = 40 then 1 else 0) ∧ botF s'.lv = botF s.lv := by
  unfold stepG at e ⊢
  by_cases h1 : x = 42 ∨ x = 43 ∨ x = 63
  · rw [if_pos h1] at e ⊢
    cases hr : repM s x with
    | ok s2 =>
      rw [hr] at e
      cases e
      rw [rep_up hr]
      refine ⟨?_, ?_⟩
      · simp only [upS]; congr 2; omega
      · have : s2.lv.length = s.lv.length ∧ botF s2.lv = botF s.lv := by
          unfold repM at hr
          cases hl : s.lv with
          | nil => exact absurd hl ne
          | cons l low2 =>
            rw [hl] at hr
            simp only at hr
            split at hr
            · split at hr
              · cases hr; exact ⟨rfl, bot_same⟩
              · cases hr
            · split at hr
              · split at hr
                · split at hr
                  · cases hr; exact ⟨rfl, bot_same⟩
                  · cases hr
                · cases hr
              · cases hr
        refine ⟨fun z => ?_, ?_, this.2⟩
        · simp only at z; rw [z] at this; exact ne (List.eq_nil_of_length_eq_zero this.1.symm)
        · simp only; omega
    | bad i => rw [hr] at e; cases e
    | stuck => rw [hr] at e; cases e
  rw [if_neg h1] at e ⊢
  have hup : (upS g low k s).lv.length = s.lv.length + low.length := upL_len
  by_cases h2 : x = 41 ∧ 1 < s.lv.length
  · rw [if_pos h2] at e
    rw [if_pos ⟨h2.1, by rw [hup]; omega⟩]
    rcases hl : s.lv with _ | ⟨l, _ | ⟨l2, r2⟩⟩
    · rw [hl] at h2; simp at h2
    · rw [hl] at h2; simp at h2
    · rw [hl] at e
      cases e
      obtain ⟨b, q, u1, u2⟩ := upL_cons (g := g) (low := low) (l := l2) (r := r2)
      simp only [upS, hl, upL_new (show l2 :: r2 ≠ [] by simp), u2, u1]
      refine ⟨?_, by simp, by simp; omega, by rw [bot_same, bot_new (l := l) (by simp)]⟩
      congr 2; omega
  · rw [if_neg h2] at e
    by_cases h41' : x = 41
    · have hlen : ¬ 1 < s.lv.length := fun z => h2 ⟨h41', z⟩
      subst h41'
      rw [if_neg (by simp), if_neg (by simp [h41])] at e
      cases e
    rw [if_neg (fun z => h41' z.1)]
    by_cases h3 : x = 40 ∧ s.lv.length ≤ 60
    · rw [if_pos h3] at e
      rw [if_pos ⟨h3.1, by rw [hup]; exact hd h3.1⟩, if_pos h3.1]
      unfold entG at e ⊢
      split at e
      · cases e; refine ⟨?_, by simp, by simp, bot_new ne⟩; simp only [upS, upL_new ne]; congr 2; omega
      · cases e
      · cases e; refine ⟨?_, by simp, by simp, bot_new ne⟩; simp only [upS, upL_new ne]; congr 2; omega
    · rw [if_neg h3] at e
      rw [if_neg (by rw [hup]; rintro ⟨z1, z2⟩; exact h3 ⟨z1, by omega⟩)]
      by_cases h4 : x ∈ L.cps.toList ∨ x = 46 ∨ x = 91 ∨ x = 124
      · rw [if_pos h4] at e ⊢
        cases hl : s.lv with
        | nil => exact absurd hl ne
        | cons l r2 =>
          rw [hl] at e
          obtain ⟨b, q, u1, u2⟩ := upL_cons (g := g) (low := low) (l := l) (r := r2)
          by_cases h5 : x = 91
          · rw [if_pos h5] at e ⊢
            cases hb : brkG L.cps.toList rem [] (s.pos + 1) with
            | inl i => rw [hb] at e; cases e
            | inr p =>
              rw [hb] at e
              cases e
              have := brk_up (k := k) hb
              rw [show (upS g low k s).pos + 1 = s.pos + 1 + k by simp only [upS]; omega, this]
              simp only [upS, hl, u2, u1]
              exact ⟨by first | trivial | rfl, by simp, by simp, bot_same⟩
          · rw [if_neg h5] at e ⊢
            simp only at e ⊢
            by_cases h6 : x = 124
            · rw [if_pos h6] at e
              cases e
              simp only [upS, hl, u2, endRow, u1]
              rw [if_pos h6]
              refine ⟨?_, by simp, by simp, bot_same⟩
              congr 2; omega
            · rw [if_neg h6] at e
              cases e
              simp only [upS, hl, u2, u1]
              rw [if_neg h6]
              refine ⟨?_, by simp, by simp, bot_same⟩
              congr 2; omega
      · rw [if_neg h4] at e; cases e
/-- what closes the lowest level -/
def shut (g : Bool) (d : D) : D := if g then .tup [.str "group", d] else d
theorem run_up {L : Str} {g : Bool} {l2 : Lv} {low : List Lv} {k : Nat} {R : List Nat} {d : D} (h41 : 41 ∉ L.cps.toList) : ∀ {n : Nat} {rem : List Nat} {s : Rs}, runG L n rem s = .tree d → s.lv ≠ [] → s.lv.length + rem.length + (low.length + 1) ≤ 60 → botF s.lv = some false →
    ∃ p, go L (rem ++ 41 :: R) (upS g (l2 :: low) k s) = go L R ⟨p, ⟨l2.g, l2.cs, l2.ls ++ [shut g d]⟩ :: low, 1⟩
  | 0, rem, s, e, _, _, _ => by simp only [runG] at e; cases e
  | n + 1, [], s, e, ne, hd, hf => by
    simp only [runG, endG] at e
    split at e
    · cases e
    · rename_i h1
      split at e
      · rename_i l hl
        cases e
        refine ⟨s.pos + k + 1, ?_⟩
        rw [List.nil_append, go_cons]
        have hst : stepG L 41 R (upS g (l2 :: low) k s) = .ok R ⟨s.pos + k + 1, ⟨l2.g, l2.cs, l2.ls ++ [finD ⟨g, l.cs, l.ls⟩]⟩ :: low, 1⟩ := by
          unfold stepG
          rw [if_neg (by simp), if_pos (by simp [upS, hl, upL])]
          simp only [upS, hl, upL]
        rw [hst]
        simp only
        have hlf : l.g = false := by rw [hl] at hf; exact Option.some.inj hf
        congr 4
        simp only [finD, shut, endRow, hlf]
        cases g <;> simp
      · cases e
  | n + 1, x :: rem, s, e, ne, hd, hf => by
    simp only [runG] at e
    cases hs : stepG L x rem s with
    | ok r s' =>
      rw [hs] at e
      simp only at e
      simp only [List.length_cons] at hd
      obtain ⟨a1, a2, a3, a4⟩ := step_up (g := g) (low := l2 :: low) (k := k) hs h41 (fun _ => by simp only [List.length_cons]; omega) ne
      have hr := step_len hs
      obtain ⟨p, ih⟩ := run_up (g := g) (l2 := l2) (low := low) (k := k) (R := R) h41 e a2 (by split at a3 <;> omega) (by rw [a4]; exact hf)
      refine ⟨p, ?_⟩
      rw [List.cons_append, go_cons, step_app (R := 41 :: R) a1 (by simp)]
      exact ih
    | bad i => rw [hs] at e; cases e
    | stuck => rw [hs] at e; cases e
theorem head_ok {L : Str} {T : List Nat} {d : D} (e : go L T rs0 = .tree d) : T.head? ≠ some 63 := by
  intro h
  cases T with
  | nil => cases h
  | cons a T =>
    simp only [List.head?_cons, Option.some.injEq] at h
    subst h
    rw [go_cons] at e
    have : stepG L 63 T rs0 = .bad 0 := rfl
    rw [this] at e
    cases e
def opn (g : Bool) : List Nat := if g then [40] else [40, 63, 58]
/-- a text that is read alone is read within parentheses -/
theorem in_par {L : Str} {T R : List Nat} {d : D} {s : Rs} {l : Lv} {low : List Lv} (g : Bool) (h41 : 41 ∉ L.cps.toList) (e : go L T rs0 = .tree d) (hs : s.lv = l :: low) (hd : T.length + low.length + 2 ≤ 60) :
    ∃ p, go L (opn g ++ (T ++ 41 :: R)) s = go L R ⟨p, ⟨l.g, l.cs, l.ls ++ [shut g d]⟩ :: low, 1⟩ := by
  have hl : s.lv.length ≤ 60 := by rw [hs, List.length_cons]; omega
  obtain ⟨p, hp⟩ := run_up (g := g) (l2 := l) (low := low) (k := s.pos + (if g then 1 else 3)) (R := R) h41 e (by simp [rs0]) (by simp only [rs0, List.length_singleton]; omega) rfl
  refine ⟨p, hp ▸ ?_⟩
  cases g with
  | true =>
    show go L (40 :: (T ++ 41 :: R)) s = _
    rw [go_cons]
    have : stepG L 40 (T ++ 41 :: R) s = .ok (T ++ 41 :: R) (upS true (l :: low) (s.pos + (if true then 1 else 3)) rs0) := by
      unfold stepG
      rw [if_neg (by simp), if_neg (by simp), if_pos ⟨rfl, hl⟩]
      have h63 := head_ok e
      have hh : ∀ a r, T ++ 41 :: R = a :: r → a ≠ 63 := by
        intro a r z
        cases T with
        | nil => cases z; simp
        | cons b T => cases z; intro z; subst z; exact h63 rfl
      cases hz : T ++ 41 :: R with
      | nil => simp at hz
      | cons a r =>
        rw [entG_no (hh a r hz)]
        simp [upS, upL, rs0, hs]
    rw [this]
  | false =>
    show go L (40 :: 63 :: 58 :: (T ++ 41 :: R)) s = _
    rw [go_cons]
    have : stepG L 40 (63 :: 58 :: (T ++ 41 :: R)) s = .ok (T ++ 41 :: R) (upS false (l :: low) (s.pos + (if false then 1 else 3)) rs0) := by
      unfold stepG
      rw [if_neg (by simp), if_neg (by simp), if_pos ⟨rfl, hl⟩]
      simp [entG, upS, upL, rs0, hs]
    rw [this]
end EV

namespace EV
open PySem PySem.Spec PyProof.Rows L2 LamX
/-! ### dicts of the module's top, by their entries -/
def EntOk (K : PySem.W.Frag) : List DictEntry → List (Str × D) → Prop
  | [], [] => True
  | e :: es, (k, dd) :: r => (∃ t, e.key = .str k t) ∧ (∃ v0, RelV v0 e.val ∧ ∀ H ι, RelD K H ι dd v0) ∧ EntOk K es r
  | _, _ => False
theorem ent_find {K : PySem.W.Frag} {z : Str} : ∀ {es : List DictEntry} {l : List (Str × D)}, EntOk K es l → es.any (·.refKey) = false ∧ match l.lookup z with
    | none => es.find? (·.key.isStr z) = none
    | some dd => ∃ e, es.find? (·.key.isStr z) = some e ∧ ∃ v0, RelV v0 e.val ∧ ∀ H ι, RelD K H ι dd v0
  | [], [], _ => ⟨rfl, rfl⟩
  | [], _ :: _, h => h.elim
  | _ :: _, [], h => h.elim
  | e :: es, (k, dd) :: r, ⟨⟨t, ek⟩, v, h⟩ => by
    obtain ⟨i1, i2⟩ := ent_find (z := z) h
    have hr : e.refKey = false := by unfold DictEntry.refKey; rw [ek]
    refine ⟨by rw [List.any_cons, hr, i1]; rfl, ?_⟩
    rw [List.lookup_cons]
    by_cases hz : z = k
    · subst hz
      simp only [beq_self_eq_true]
      refine ⟨e, ?_, v⟩
      rw [List.find?_cons_of_pos]
      rw [ek]; simp [Value.isStr]
    · have h1 : (z == k) = false := by simpa using hz
      rw [h1]
      simp only
      rw [List.find?_cons_of_neg (by rw [ek]; simp [Value.isStr]; exact fun q => hz q.symm)]
      exact i2
theorem wd_of {K : PySem.W.Frag} {mg : Str → Option Value} {w : World} {x : Str} {d n : Nat} {es : Array DictEntry} {l : List (Str × D)} (hm : mg x = some (.ref d)) (kd : KDict K w d es n) (en : EntOk K es.toList l) : WD K mg w x (fun z => some (l.lookup z)) := by
  refine ⟨⟨d, es, n, hm, kd, fun z o e => ?_⟩⟩
  cases e
  obtain ⟨h1, h2⟩ := ent_find (z := z) en
  unfold PySem.W.nsIn
  rw [kd.at_]
  simp only
  cases hl : l.lookup z with
  | none =>
    rw [hl] at h2
    refine ⟨none, ?_, rfl⟩
    rw [h2]; simp only; rw [h1]; rfl
  | some dd =>
    rw [hl] at h2
    obtain ⟨e, he, v0, rv, rd⟩ := h2
    exact ⟨some e.val, by rw [he], e.val, v0, rfl, rv, rd⟩
theorem szs_look (z : Str) : ∀ l : List (Str × Int), (l.lookup z).map D.int = (l.map fun p => (p.1, D.int p.2)).lookup z
  | [] => rfl
  | (k, i) :: l => by
    simp only [List.map_cons, List.lookup_cons]
    cases z == k with
    | true => rfl
    | false => exact szs_look z l
theorem wd_sizes {K : PySem.W.Frag} {mg : Str → Option Value} {w : World} {d n : Nat} {es : Array DictEntry} (hm : mg "SIZES" = some (.ref d)) (kd : KDict K w d es n) (en : EntOk K es.toList (szs.map fun p => (p.1, D.int p.2))) : WD K mg w "SIZES" tblSizes := by
  have h := wd_of hm kd en
  have e : tblSizes = fun z => some ((szs.map fun p => (p.1, D.int p.2)).lookup z) := by
    funext z
    unfold tblSizes
    rw [szs_look]
  rw [e]
  exact h
theorem wd_signs {K : PySem.W.Frag} {mg : Str → Option Value} {w : World} {d n : Nat} {es : Array DictEntry} (hm : mg "SIGNS" = some (.ref d)) (kd : KDict K w d es n) (en : EntOk K es.toList sgs) : WD K mg w "SIGNS" tblSigns := wd_of hm kd en
/-! ### constants of the module's top -/
theorem gc_int {K : PySem.W.Frag} {mg : Str → Option Value} {x : Str} {i : Int} {t : Tok} (hm : mg x = some (.int i t)) : GC K mg x (.int i) := ⟨_, .int i, hm, ⟨t, rfl⟩, fun _ _ => rfl⟩
theorem gc_str {K : PySem.W.Frag} {mg : Str → Option Value} {x z : Str} {t : Tok} (hm : mg x = some (.str z t)) : GC K mg x (.str z) := ⟨_, .str z, hm, ⟨t, rfl⟩, fun _ _ => rfl⟩
/-! what the written part is asked, all at once -/
def excB (K : PySem.W.Frag) (c : Addr) : Bool :=
  decide (PySem.W.findIn K (.ref c) "__getattribute__" = some (some (.builtin "BaseException.__getattribute__"))) && (decide (PySem.W.findIn K (.ref c) "__getattr__" = some none) && (decide (PySem.W.subIn K (.ref c) (.type "BaseException") = some true) &&
  (PySem.W.hasDictIn K c && (decide (PySem.W.findIn K (.ref c) "__class__" = some (some (.builtin "object.__class__"))) && (decide (PySem.W.specialIn K (.builtin "object.__class__") "__get__" = some (some (.builtin "getset_descriptor.__get__"))) &&
  (decide (PySem.W.takesIn K (.builtin "object.__class__") = some true) && (decide (PySem.W.mroIn K c (.type "object") = some true) && (decide (PySem.W.findIn K (.ref c) "__setattr__" = some (some (.builtin "object.__setattr__"))) && (decide (PySem.W.typeIn K (.ref c) = some (.type "type")) && PySem.W.keepIn K (.ref c))))))))))
structure XB (K : PySem.W.Frag) (c : Addr) : Prop where
  ec : ExcC K c
  sa : PySem.W.findIn K (.ref c) "__setattr__" = some (some (.builtin "object.__setattr__"))
  ty : PySem.W.typeIn K (.ref c) = some (.type "type")
  kc : PySem.W.keepIn K (.ref c) = true
theorem xb_of {K : PySem.W.Frag} {c : Addr} (h : excB K c = true) : XB K c := by
  simp only [excB, Bool.and_eq_true, decide_eq_true_eq] at h
  obtain ⟨h1, h2, h3, h4, h5, h6, h7, h8, h9, h10, h11⟩ := h
  exact ⟨⟨h1, h2, h3, h4, h5, h6, h7, h8⟩, h9, h10, h11⟩
def tbB (K : PySem.W.Frag) (us : List Value) : List (Str × Addr) → List (Str × Bool) → Bool
  | (n, c) :: cs, (m, b) :: tab => decide (n = m) && (decide (PySem.W.kitAny K (.ref c) us = some b) && tbB K us cs tab)
  | [], [] => true
  | _, _ => false
theorem tb_of {K : PySem.W.Frag} {mg : Str → Option Value} {us : List Value} : ∀ {cs : List (Str × Addr)} {tab : List (Str × Bool)}, tbB K us cs tab = true → (∀ p ∈ cs, mg p.1 = some (.ref p.2) ∧ ExcC K p.2) → ∀ C b, tab.lookup C = some b → ∃ c, mg C = some (.ref c) ∧ ExcC K c ∧ PySem.W.kitAny K (.ref c) us = some b
  | [], [], _, _, C, b, e => by cases e
  | [], _ :: _, h, _, _, _, _ => by cases h
  | _ :: _, [], h, _, _, _, _ => by cases h
  | (n, c) :: cs, (m, b') :: tab, h, hc, C, b, e => by
    simp only [tbB, Bool.and_eq_true, decide_eq_true_eq] at h
    obtain ⟨rfl, hk, hr⟩ := h
    by_cases hC : C = n
    · subst hC
      simp [List.lookup] at e
      subst e
      obtain ⟨m1, m2⟩ := hc (C, c) (by simp)
      exact ⟨c, m1, m2, hk⟩
    · have hb : (C == n) = false := by simpa using hC
      simp only [List.lookup, hb] at e
      exact tb_of hr (fun p hp => hc p (by simp [hp])) C b e
def OexL (K : PySem.W.Frag) (c r : Addr) : Prop := ∃ nm q N bs sn sub ab col dd k0 k1 k2 k3 k5, K.lookup c = some (excClassObj nm q c N bs [.ref r, .type "ValueError", .type "Exception", .type "BaseException", .type "object"] true sn sub ab col dd k0 k1 k2 k3 k5 "ValueError.__new__")
theorem oex_of {K : PySem.W.Frag} {c r : Addr} (h : OexL K c r) (x : XB K c) : OexC K c := by
  obtain ⟨nm, q, N, bs, sn, sub, ab, col, dd, k0, k1, k2, k3, k5, e⟩ := h
  exact ⟨⟨nm, q, N, bs, _, sn, sub, ab, col, dd, k0, k1, k2, k3, k5, e, rfl⟩, x.sa, x.ec.hs, x.ty, x.kc⟩
theorem oexL_mk {K : PySem.W.Frag} {c r : Addr} {nm q N bs sn sub ab col dd k0 k1 k2 k3 k5} (e : K.lookup c = some (excClassObj nm q c N bs [.ref r, .type "ValueError", .type "Exception", .type "BaseException", .type "object"] true sn sub ab col dd k0 k1 k2 k3 k5 "ValueError.__new__")) : OexL K c r := ⟨_, _, _, _, _, _, _, _, _, _, _, _, _, _, e⟩
theorem fun_ex {K : PySem.W.Frag} {x qual : Str} {st : Stmt} {f : Addr} {oc : Value} {od an : Option Addr} {osl : Array (Option Value)} {kV doc pm cdv ct : Value} (l : K.lookup f = some ⟨oc, od, .func (PySem.W.fnOf x qual (defArgs st) (defBody st) (defScope st) .none kV doc pm an cdv ct), osl⟩)
    (c : PySem.W.codeIn K cdv qual = true) (k : PySem.W.keepIn K (.ref f) = true) : ∃ fd, Fun K x qual st f fd := ⟨_, fun_mk l c k⟩
abbrev veM : List Value := [.type "ValueError", .type "Exception", .type "BaseException", .type "object"]

def kitsB (K : PySem.W.Frag) (c : Addr) : List Addr → List Bool → Bool
  | a :: as, b :: bs => decide (PySem.W.kitOne K (.ref c) (.ref a) = some b) && kitsB K c as bs
  | _, _ => true
def clsB (K : PySem.W.Frag) (C : Addr) : Bool := PySem.W.plainGet K C Str.empty && (PySem.W.hasDictIn K C && (PySem.W.plainOver K C && decide (PySem.W.findIn K (.ref C) "__setattr__" = some (some (.builtin "object.__setattr__")))))
theorem cls_of {K : PySem.W.Frag} {C : Addr} (h : clsB K C = true) : Cls K C := by
  simp only [clsB, Bool.and_eq_true, decide_eq_true_eq] at h
  exact ⟨h.1, h.2.1, h.2.2.1, h.2.2.2⟩
def noB (K : PySem.W.Frag) (C : Addr) : List Str → Bool
  | [] => true
  | f :: fs => decide (PySem.W.findIn K (.ref C) f = some none) && noB K C fs
theorem gc_tup2 {K : PySem.W.Frag} {mg : Str → Option Value} {x y z : Str} {a : Addr} {t1 t2 : Tok} {n : Nat} {sl : Array (Option Value)} (hm : mg x = some (.ref a)) (hl : K.lookup a = some ⟨.type "tuple", none, .seq #[.str y t1, .str z t2] n, sl⟩) : GC K mg x (.tup [.str y, .str z]) :=
  ⟨_, .ref a, hm, rfl, fun H ι => ⟨a, [.str y, .str z], rfl, .inr ⟨_, _, _, hl, rfl, rfl, by show 2 ≤ sizeLine; decide, .cons ⟨t1, rfl⟩ (.cons ⟨t2, rfl⟩ .nil)⟩, ⟨_, _, rfl, rfl, _, _, rfl, rfl, rfl⟩⟩⟩
theorem gc_tup3 {K : PySem.W.Frag} {mg : Str → Option Value} {x y z u : Str} {a : Addr} {t1 t2 t3 : Tok} {n : Nat} {sl : Array (Option Value)} (hm : mg x = some (.ref a)) (hl : K.lookup a = some ⟨.type "tuple", none, .seq #[.str y t1, .str z t2, .str u t3] n, sl⟩) : GC K mg x (.tup [.str y, .str z, .str u]) :=
  ⟨_, .ref a, hm, rfl, fun H ι => ⟨a, [.str y, .str z, .str u], rfl, .inr ⟨_, _, _, hl, rfl, rfl, by show 3 ≤ sizeLine; decide, .cons ⟨t1, rfl⟩ (.cons ⟨t2, rfl⟩ (.cons ⟨t3, rfl⟩ .nil))⟩, ⟨_, _, rfl, rfl, _, _, rfl, rfl, _, _, rfl, rfl, rfl⟩⟩⟩

theorem ent_i {K : PySem.W.Frag} {e : DictEntry} {es : List DictEntry} {k : Str} {i : Int} {t u : Tok} {r : List (Str × D)} (h1 : e.key = .str k t) (h2 : e.val = .int i u) (h : EntOk K es r) : EntOk K (e :: es) ((k, .int i) :: r) := ⟨⟨t, h1⟩, ⟨.int i, ⟨u, h2⟩, fun _ _ => rfl⟩, h⟩
theorem ent_s {K : PySem.W.Frag} {e : DictEntry} {es : List DictEntry} {k z : Str} {t u : Tok} {r : List (Str × D)} (h1 : e.key = .str k t) (h2 : e.val = .str z u) (h : EntOk K es r) : EntOk K (e :: es) ((k, .str z) :: r) := ⟨⟨t, h1⟩, ⟨.str z, ⟨u, h2⟩, fun _ _ => rfl⟩, h⟩
theorem fun_exC {K : PySem.W.Frag} {x qual : Str} {st : Stmt} {f c : Addr} {oc : Value} {od an : Option Addr} {osl : Array (Option Value)} {kV doc pm ct : Value} (l : K.lookup f = some ⟨oc, od, .func (PySem.W.fnOf x qual (defArgs st) (defBody st) (defScope st) .none kV doc pm an (.ref c) ct), osl⟩)
    (c1 : PySem.W.codeIn K (.ref c) qual = true) (k : PySem.W.keepIn K (.ref f) = true) : ∃ fd, Fun K x qual st f fd ∧ fd.code = .ref c ∧ ∃ oc od osl, K.lookup f = some ⟨oc, od, .func fd, osl⟩ := ⟨_, fun_mk l c1 k, rfl, _, _, _, l⟩
theorem kits12 {K : PySem.W.Frag} {c : Addr} : ∀ {as : List Addr} {bs : List Bool}, kitsB K c as bs = true → ∀ (i : Nat) (a : Addr) (b : Bool), as[i]? = some a → bs[i]? = some b → PySem.W.kitOne K (.ref c) (.ref a) = some b
  | [], _, _, _, _, _, e, _ => by simp at e
  | _ :: _, [], _, _, _, _, _, e => by simp at e
  | a :: as, b :: bs, h, 0, a', b', e1, e2 => by
    simp only [kitsB, Bool.and_eq_true, decide_eq_true_eq] at h
    cases e1; cases e2; exact h.1
  | a :: as, b :: bs, h, i + 1, a', b', e1, e2 => by
    simp only [kitsB, Bool.and_eq_true, decide_eq_true_eq] at h
    exact kits12 h.2 i a' b' (by simpa using e1) (by simpa using e2)
theorem no_of {K : PySem.W.Frag} {C : Addr} : ∀ {fs : List Str} {f : Str}, noB K C fs = true → f ∈ fs → NoAttr K C f
  | g :: fs, f, h, m => by
    simp only [noB, Bool.and_eq_true, decide_eq_true_eq] at h
    rcases List.mem_cons.mp m with rfl | m
    · exact h.1
    · exact no_of h.2 m
theorem fn_never {k : Nat} {P : Program} {w : World} {K : PySem.W.Frag} {mg : Str → Option Value} {base : Heap} {f : Addr} {fd : FuncData} {ps : List Str} {sp : SpD} (h : ∀ ds h Q E, ¬ sp ds h Q E) : FnOk P w K mg base (L2.CX P w) k f fd ps (LSp K mg sp) :=
  ⟨fun vs H Q E ⟨ι, hh, ds, _, _, z⟩ => (h _ _ _ _ z).elim, fun A outer s H args us vs Q E _ _ _ _ ⟨ι, hh, ds, _, _, z⟩ => (h _ _ _ _ z).elim⟩
theorem cx_no {P : Program} {w : World} (H : Hp) (s : Shared) (e : Value) (s' : Shared) (h : L2.CX P w [] H s (fun _ _ _ => False) e s') : False := by
  obtain ⟨_, _, _, _, _, _, _, _, _, _, _, _, z⟩ := h
  exact z
/-! ### the law, called with the script; tables of several defs -/
def spLawTs (K : PySem.W.Frag) (T : List (Addr × Str)) : Sp := fun vs H Q _ => ∃ (a : Addr) (ns : List Int), vs = [.ref a] ∧ SqL K H a (ns.map V.int) ∧ ns.length ≤ 63 ∧ (∀ p ∈ T, TabS H p.1 p.2) ∧ ∀ H', Q (.bl true) H'
def sp_lawT (T : List (Addr × Str)) : SpD := fun ds h Q _ => ∃ ns : List Int, ds = [.ref 0] ∧ lsOf h 0 = some (ns.map .int) ∧ ns.length ≤ 63 ∧ SysIs T h ∧ ∀ h', Q (.bl true) h'
theorem rel_ints {K : PySem.W.Frag} {H : Hp} {ι : List Addr} : ∀ ns : List Int, RelDs K H ι (ns.map .int) (ns.map V.int)
  | [] => rfl
  | n :: ns => ⟨_, _, rfl, rfl, rel_ints ns⟩
theorem hrel_tabs {K : PySem.W.Frag} {mg : Str → Option Value} {H : Hp} {a : Addr} {o : O} {T : List (Addr × Str)} (r : RelO K H (a :: T.map (·.1)) mg o a) (t : ∀ p ∈ T, TabS H p.1 p.2) (nd : (T.map (·.1)).Nodup) (no : (∀ p ∈ T, a ≠ p.1) ∨ ∃ ds, o = .rol ds) : HRel K H (a :: T.map (·.1)) mg (o :: T.map fun p => .tab p.1 p.2) := by
  refine ⟨by simp, fun i j b e1 e2 => ?_, fun n x b e1 e2 => ?_⟩
  · match i, j, e1, e2 with
    | 0, 0, _, _ => exact .inl rfl
    | i + 1, j + 1, e1, e2 =>
      rw [List.getElem?_cons_succ] at e1 e2
      refine .inl (congrArg (· + 1) ?_)
      have h1 := (List.getElem?_eq_some_iff.mp e1)
      have h2 := (List.getElem?_eq_some_iff.mp e2)
      obtain ⟨l1, q1⟩ := h1
      obtain ⟨l2, q2⟩ := h2
      exact (List.getElem_inj nd).mp (q1.trans q2.symm)
    | 0, j + 1, e1, e2 =>
      rw [List.getElem?_cons_succ] at e2
      cases e1
      rcases no with n | ⟨ds, rfl⟩
      · obtain ⟨p, hp, e⟩ := List.mem_map.mp (List.mem_of_getElem? e2)
        exact absurd e.symm (n p hp)
      · exact .inr (.inl ⟨ds, rfl⟩)
    | i + 1, 0, e1, e2 =>
      rw [List.getElem?_cons_succ] at e1
      cases e2
      rcases no with n | ⟨ds, rfl⟩
      · obtain ⟨p, hp, e⟩ := List.mem_map.mp (List.mem_of_getElem? e1)
        exact absurd e.symm (n p hp)
      · exact .inr (.inr ⟨ds, rfl⟩)
  · match n, e1, e2 with
    | 0, e1, e2 => cases e1; cases e2; exact r
    | n + 1, e1, e2 =>
      rw [List.getElem?_cons_succ, List.getElem?_map] at e1 e2
      cases z : T[n]? with
      | none => rw [z] at e1; cases e1
      | some p =>
        rw [z] at e1 e2
        cases e1; cases e2
        exact ⟨rfl, t p (List.mem_of_getElem? z)⟩
theorem lawTs_imp {K : PySem.W.Frag} {mg : Str → Option Value} {T : List (Addr × Str)} (nd : (T.map (·.1)).Nodup) : ∀ vs H Q E, spLawTs K T vs H Q E → LSp K mg (sp_lawT T) vs H Q E := by
  rintro vs H Q E ⟨a, ns, rfl, hS, hl, t, k⟩
  have fin : ∀ o : O, (∀ r, lsOf (o :: r) 0 = some (ns.map .int)) → o.sys = false → RelO K H (a :: T.map (·.1)) mg o a → ((∀ p ∈ T, a ≠ p.1) ∨ ∃ ds, o = .rol ds) → LSp K mg (sp_lawT T) [.ref a] H Q E := fun o e1 e2 r no => by
    refine ⟨a :: T.map (·.1), o :: T.map (fun p => .tab p.1 p.2), [.ref 0], hrel_tabs r t nd no, ⟨.ref a, [], rfl, ⟨a, rfl, rfl⟩, rfl⟩, ns, rfl, e1 _, hl, ?_, fun h' v H' ι' g hr' rd => ?_⟩
    · unfold SysIs
      rw [List.filter_cons_of_neg (by simp [e2]), List.filter_eq_self]
      intro x hx
      obtain ⟨p, _, rfl⟩ := List.mem_map.mp hx
      rfl
    · cases rd
      exact k H'
  rcases hS with (z | ⟨o, z⟩) | z
  · refine fin (.lst (ns.map .int)) (fun _ => rfl) rfl ⟨_, z, rel_ints ns⟩ (.inl fun p hp e => ?_)
    obtain ⟨ps, hp, _⟩ := t p hp
    rw [← e, z] at hp
    cases hp
  · exact fin (.rol (ns.map .int)) (fun _ => rfl) rfl ⟨_, .inl ⟨o, z⟩, rel_ints ns⟩ (.inr ⟨_, rfl⟩)
  · exact fin (.rol (ns.map .int)) (fun _ => rfl) rfl ⟨_, .inr z, rel_ints ns⟩ (.inr ⟨_, rfl⟩)
theorem len_lawT {T : List (Addr × Str)} : ∀ ds h Q E, sp_lawT T ds h Q E → ds.length = (["_law_script"] : List Str).length := by
  rintro ds h Q E ⟨ns, rfl, _⟩; rfl
/-- the end of a law row: the tables of all defs of the top are empty at the head -/
theorem walk_tabs {row : PySem.W.OpenLaw} {mo lv : Nat} {pr : Program} {ls : List Str} {XQ : (Str → Option Value) → Heap → Prop} {YQ : World → Heap → Prop} {dr : DefRec} {KK : Params → PySem.W.Frag} {CC : World → CXT} {nm : Str}
    (h1 : row.most = some mo) (h2 : mo ≤ sizeLine) (h3 : dr.params.defaults = []) (h4 : Room lv callerA) (h5 : ∀ (w : World) (hp : Heap), YQ w hp → (KK w.params).In hp)
    (FF : ∀ (w : World) (m : Str → Option Value) (ad : Addr) (hp : Heap), YQ w hp → (KK w.params).In hp → hp.Ns mainGlobals m → m dr.name = some (.ref ad) → (∀ (y : Str) (ay : Addr), ((recsOf pr).any fun r => r.name == y) = true → m y = some (.ref ay) → OwnTab (KK w.params) ay hp) → LawAtS row w (KK w.params) (CC w) lv mo nm m ad hp)
    (h6 : ∀ (w : World) (H : Hp) (st : Shared) (er : Value) (st' : Shared), CC w [] H st (fun _ _ _ => False) er st' → False) : PySem.W.WalkO pr ls XQ YQ row.row.toRowW dr [] (fun f vs => PySem.call f vs) := by
  refine Att.attach_callB h1 h3 fun w sa sb m mb ad ob pm cd doc la lvs lns gr yy g1 g2 g3 g4 g5 g6 g7 g8 g9 => ?_
  have kin := h5 w _ yy
  have tabs : ∀ (y : Str) (ay : Addr), ((recsOf pr).any fun r => r.name == y) = true → m y = some (.ref ay) → OwnTab (KK w.params) ay sb.heap := by
    intro y ay hy hm c P o fd e dd us sl k1 k2 k3 k4 k5
    obtain ⟨r, hr, en⟩ := List.any_eq_true.mp hy
    obtain ⟨a', o', fd', c', P', t1, t2, t3, t4, t5, t6⟩ := gr.T.tab r hr
    rw [beq_iff_eq.mp en, hm] at t1
    cases t1
    have i1 := kin _ _ k1
    rw [t2] at i1
    cases i1
    rw [t3] at k2
    cases k2
    rw [t4] at k3
    cases k3
    obtain ⟨⟨oc, vc, u1, _, u3, u4⟩, hP⟩ := t6
    have i2 := kin _ _ k4
    rw [u1] at i2
    cases i2
    cases u3
    rw [u4] at k5
    cases k5
    exact hP
  obtain ⟨fd, cs, sp, r1, r2, r3, r4, r5, r6⟩ := FF w m ad _ yy kin gr.T.g g4 tabs
  exact law_callTs kin gr.T.g gr.T.b gr.T.builtins gr.T.nolimit g9 r1 r2 r3 gr.T.bmain g5 g6 (Nat.le_trans g7 h2) h4 r6 r4 (fun H z1 z2 => r5 H la lns g7 g8 z1 z2) fun H er st' => h6 w H sb er st'
theorem tab_uniq {T : List (Addr × Str)} (nd : (T.map (·.1)).Nodup) {p : Addr × Str} {a : Addr} {q : Str} (hp : p ∈ T) (hq : (a, q) ∈ T) (e : p.1 = a) : p.2 = q := by
  obtain ⟨i, hi, rfl⟩ := List.getElem_of_mem hp
  obtain ⟨j, hj, ej⟩ := List.getElem_of_mem hq
  have h1 : (T.map (·.1))[i]'(by simpa using hi) = (T.map (·.1))[j]'(by simpa using hj) := by
    rw [List.getElem_map, List.getElem_map, ej]; exact e
  have : i = j := (List.getElem_inj nd).mp h1
  subst this
  rw [ej]
end EV

namespace EV
open PySem PySem.Spec PyProof.Rows L2 LamX
/-! what is asked of a class with an own __eq__, by the kernel -/
def kit7B (K : PySem.W.Frag) (c : Addr) : Bool := kinds7.all fun t => decide (PySem.W.kitOne K (.type t) (.ref c) = some false)
def insB (K : PySem.W.Frag) (C : Addr) : Bool := decide (PySem.W.findIn K (.ref C) "__class__" = some (some (.builtin "object.__class__"))) && (decide (PySem.W.specialIn K (.builtin "object.__class__") "__get__" = some (some (.builtin "getset_descriptor.__get__"))) && (decide (PySem.W.takesIn K (.builtin "object.__class__") = some true) && decide (PySem.W.mroIn K C (.type "object") = some true)))
theorem insC_of {K : PySem.W.Frag} {C : Addr} (cl : Cls K C) (h : insB K C = true) : InsC K C := by
  simp only [insB, Bool.and_eq_true, decide_eq_true_eq] at h
  exact ⟨cl, h.1, h.2.1, h.2.2.1, h.2.2.2⟩
theorem gIsI_one {K : PySem.W.Frag} {mg : Str → Option Value} {C : Str} {c : Addr} (hm : mg C = some (.ref c)) (cl : Cls K c) (k7 : kit7B K c = true) (hi : insB K c = true) (k1 : PySem.W.kitOne K (.ref c) (.ref c) = some true) : GIsI K mg C [(C, true)] := by
  refine ⟨⟨c, hm, fun t ht => of_decide_eq_true (List.all_eq_true.mp k7 t ht), fun D b e => ?_⟩⟩
  by_cases hD : D = C
  · subst hD
    simp [List.lookup] at e
    subst e
    exact ⟨c, hm, insC_of cl hi, k1⟩
  · have hb : (D == C) = false := by simpa using hD
    simp [List.lookup, hb] at e
def eqcB (K : PySem.W.Frag) (C : Addr) : Bool := decide (PySem.W.findIn K (.ref C) "__ne__" = some (some (.builtin "object.__ne__"))) && decide (PySem.W.subIn K (.ref C) (.type "object") = some true)
theorem eqCls_of {K : PySem.W.Frag} {C f : Addr} (e : PySem.W.findIn K (.ref C) "__eq__" = some (some (.ref f))) (fn : PySem.W.isFn K (.ref f) = true) (h : eqcB K C = true) : EqCls K C f := by
  simp only [eqcB, Bool.and_eq_true, decide_eq_true_eq] at h
  exact ⟨e, fn, h.1, h.2⟩
end EV

namespace EV.K15
open PySem PySem.Spec PyProof.Rows L2 EV
def alikeT : List (Str × Str) := [("a", "(?:a)"), ("b", "[b]"), (".", "[abc]"), ("a|b", "(?:a)|(?:b)"), ("ab", "(?:a)(?:b)"), ("", "(?:)"),
  ("a*?", "(?:a)*?"), ("[ab]+", "(?:[ab])+"), ("(a)", "((?:a))"), ("()", "((?:))"), ("|a", "(?:)|a"), ("(?:a|b)?", "(?:(?:a|b))?"),
  ("ab|c", "(?:ab)|[c]"), ("(?:ab)c", "(?:(?:ab))c"), ("a", "a"), ("(|b)", "((?:)|b)"), ("a(b)??", "(?:a)(b)??"), ("a+|", "(?:a)+|(?:)"),
  ("[ac]", "(?:[ac])")]
def unlikeT : List (Str × Str) := [("a", "b"), ("a", "(a)"), ("", "()"), ("ab", "ba"), ("a|b", "b|a"), ("[ab]", "a|b"),
  ("a*", "a*?"), ("a+", "aa*"), ("a?", "a??"), ("a?", "a|"), ("a??", "|a"), ("(?:ab)c", "abc"),
  ("a(?:bc)", "abc"), ("a|b|c", "a|(?:b|c)"), ("a|b|c", "(?:a|b)|c"), ("(?:ab)c", "a(?:bc)"), (".", "[ab]"), ("a", ""),
  ("(a)b", "(ab)"), ("(a)|b", "(a|b)"), ("(a*)", "(?:a)*"), ("(a+)?", "(?:a+)?"), ("a(?:)", "a"), ("a|", "a"),
  ("|", ""), ("(?:a?)?", "a?"), ("(?:a+)?", "a*"), ("((a))", "(a)"), ("aa", "a")]
def prD (p : Str × Str) : D := .tup [.str p.1, .str p.2]
def f_alike : List D → Hh → Option Out
  | [], h => some (.ok (.ref h.length) (h ++ [.lst (alikeT.map prD)]))
  | _, _ => none
abbrev sp__law_alike := spN 0 f_alike
def f_unlike : List D → Hh → Option Out
  | [], h => some (.ok (.ref h.length) (h ++ [.lst (unlikeT.map prD)]))
  | _, _ => none
abbrev sp__law_unlike := spN 0 f_unlike
theorem pr_sc {n : Nat} : ∀ l : List (Str × Str), ScDs n (l.map prD)
  | [] => trivial
  | p :: l => ⟨⟨trivial, trivial, trivial⟩, pr_sc l⟩
def w__law_alike : WS := wSeq (wAsg (.nm 0) (wLst (wCons (wTup (wCons (wC (.str "a")) (wCons (wC (.str "(?:a)")) (wNil)))) (wCons (wTup (wCons (wC (.str "b")) (wCons (wC (.str "[b]")) (wNil)))) (wCons (wTup (wCons (wC (.str ".")) (wCons (wC (.str "[abc]")) (wNil)))) (wCons (wTup (wCons (wC (.str "a|b")) (wCons (wC (.str "(?:a)|(?:b)")) (wNil)))) (wCons (wTup (wCons (wC (.str "ab")) (wCons (wC (.str "(?:a)(?:b)")) (wNil)))) (wCons (wTup (wCons (wC (.str "")) (wCons (wC (.str "(?:)")) (wNil)))) (wNil))))))))) (wSeq (wAsg (.nm 0) (wOp gAdd (wVar 0) (wLst (wCons (wTup (wCons (wC (.str "a*?")) (wCons (wC (.str "(?:a)*?")) (wNil)))) (wCons (wTup (wCons (wC (.str "[ab]+")) (wCons (wC (.str "(?:[ab])+")) (wNil)))) (wCons (wTup (wCons (wC (.str "(a)")) (wCons (wC (.str "((?:a))")) (wNil)))) (wCons (wTup (wCons (wC (.str "()")) (wCons (wC (.str "((?:))")) (wNil)))) (wNil)))))))) (wSeq (wExpr (wMt "list" gAppend (wVar 0) (wCons (wTup (wCons (wC (.str "|a")) (wCons (wC (.str "(?:)|a")) (wNil)))) (wNil)))) (wSeq (wAsg (.nm 0) (wOp gAdd (wVar 0) (wLst (wCons (wTup (wCons (wC (.str "(?:a|b)?")) (wCons (wC (.str "(?:(?:a|b))?")) (wNil)))) (wCons (wTup (wCons (wC (.str "ab|c")) (wCons (wC (.str "(?:ab)|[c]")) (wNil)))) (wCons (wTup (wCons (wC (.str "(?:ab)c")) (wCons (wC (.str "(?:(?:ab))c")) (wNil)))) (wCons (wTup (wCons (wC (.str "a")) (wCons (wC (.str "a")) (wNil)))) (wNil)))))))) (wRet (wOp gAdd (wVar 0) (wLst (wCons (wTup (wCons (wC (.str "(|b)")) (wCons (wC (.str "((?:)|b)")) (wNil)))) (wCons (wTup (wCons (wC (.str "a(b)??")) (wCons (wC (.str "(?:a)(b)??")) (wNil)))) (wCons (wTup (wCons (wC (.str "a+|")) (wCons (wC (.str "(?:a)+|(?:)")) (wNil)))) (wCons (wTup (wCons (wC (.str "[ac]")) (wCons (wC (.str "(?:[ac])")) (wNil)))) (wNil)))))))))))
def w__law_unlike : WS := wSeq (wAsg (.nm 0) (wLst (wCons (wTup (wCons (wC (.str "a")) (wCons (wC (.str "b")) (wNil)))) (wCons (wTup (wCons (wC (.str "a")) (wCons (wC (.str "(a)")) (wNil)))) (wCons (wTup (wCons (wC (.str "")) (wCons (wC (.str "()")) (wNil)))) (wCons (wTup (wCons (wC (.str "ab")) (wCons (wC (.str "ba")) (wNil)))) (wCons (wTup (wCons (wC (.str "a|b")) (wCons (wC (.str "b|a")) (wNil)))) (wCons (wTup (wCons (wC (.str "[ab]")) (wCons (wC (.str "a|b")) (wNil)))) (wCons (wTup (wCons (wC (.str "a*")) (wCons (wC (.str "a*?")) (wNil)))) (wNil)))))))))) (wSeq (wAsg (.nm 0) (wOp gAdd (wVar 0) (wLst (wCons (wTup (wCons (wC (.str "a+")) (wCons (wC (.str "aa*")) (wNil)))) (wCons (wTup (wCons (wC (.str "a?")) (wCons (wC (.str "a??")) (wNil)))) (wCons (wTup (wCons (wC (.str "a?")) (wCons (wC (.str "a|")) (wNil)))) (wCons (wTup (wCons (wC (.str "a??")) (wCons (wC (.str "|a")) (wNil)))) (wCons (wTup (wCons (wC (.str "(?:ab)c")) (wCons (wC (.str "abc")) (wNil)))) (wNil))))))))) (wSeq (wExpr (wMt "list" gAppend (wVar 0) (wCons (wTup (wCons (wC (.str "a(?:bc)")) (wCons (wC (.str "abc")) (wNil)))) (wNil)))) (wSeq (wAsg (.nm 0) (wOp gAdd (wVar 0) (wLst (wCons (wTup (wCons (wC (.str "a|b|c")) (wCons (wC (.str "a|(?:b|c)")) (wNil)))) (wCons (wTup (wCons (wC (.str "a|b|c")) (wCons (wC (.str "(?:a|b)|c")) (wNil)))) (wCons (wTup (wCons (wC (.str "(?:ab)c")) (wCons (wC (.str "a(?:bc)")) (wNil)))) (wCons (wTup (wCons (wC (.str ".")) (wCons (wC (.str "[ab]")) (wNil)))) (wCons (wTup (wCons (wC (.str "a")) (wCons (wC (.str "")) (wNil)))) (wNil))))))))) (wSeq (wAsg (.nm 0) (wOp gAdd (wVar 0) (wLst (wCons (wTup (wCons (wC (.str "(a)b")) (wCons (wC (.str "(ab)")) (wNil)))) (wCons (wTup (wCons (wC (.str "(a)|b")) (wCons (wC (.str "(a|b)")) (wNil)))) (wCons (wTup (wCons (wC (.str "(a*)")) (wCons (wC (.str "(?:a)*")) (wNil)))) (wCons (wTup (wCons (wC (.str "(a+)?")) (wCons (wC (.str "(?:a+)?")) (wNil)))) (wCons (wTup (wCons (wC (.str "a(?:)")) (wCons (wC (.str "a")) (wNil)))) (wNil))))))))) (wRet (wOp gAdd (wVar 0) (wLst (wCons (wTup (wCons (wC (.str "a|")) (wCons (wC (.str "a")) (wNil)))) (wCons (wTup (wCons (wC (.str "|")) (wCons (wC (.str "")) (wNil)))) (wCons (wTup (wCons (wC (.str "(?:a?)?")) (wCons (wC (.str "a?")) (wNil)))) (wCons (wTup (wCons (wC (.str "(?:a+)?")) (wCons (wC (.str "a*")) (wNil)))) (wCons (wTup (wCons (wC (.str "((a))")) (wCons (wC (.str "(a)")) (wNil)))) (wCons (wTup (wCons (wC (.str "aa")) (wCons (wC (.str "a")) (wNil)))) (wNil))))))))))))))
theorem b_alike : ∀ ds h Q E, ScH h → ScDs h.length ds → Clo h.length Q → CloX h.length E → sp__law_alike ds h Q E → w__law_alike (endsOf Q E) (slots0 ["_law_found"] ds) h := by
  rintro ds h Q E sc sds clo clx ⟨l, q⟩
  obtain rfl : ds = [] := List.eq_nil_of_length_eq_zero l
  simp only [f_alike] at q
  simp (maxSteps := 2000000) [w__law_alike, slots0, asgD_nm, gAdd_ap, gAdd_ap0, addL, gAppend, -st_dot, -st_bar, -str_nil]
  exact ⟨by unfold lsOf; rw [ap_get]; rfl, clo.pick 6 (.lst (alikeT.map prD)) h _ rfl sc rfl (pr_sc _) q⟩
theorem b_unlike : ∀ ds h Q E, ScH h → ScDs h.length ds → Clo h.length Q → CloX h.length E → sp__law_unlike ds h Q E → w__law_unlike (endsOf Q E) (slots0 ["_law_found"] ds) h := by
  rintro ds h Q E sc sds clo clx ⟨l, q⟩
  obtain rfl : ds = [] := List.eq_nil_of_length_eq_zero l
  simp only [f_unlike] at q
  simp (maxSteps := 2000000) [w__law_unlike, slots0, asgD_nm, gAdd_ap, gAdd_ap0, addL, gAppend, -st_dot, -st_bar, -str_nil]
  exact ⟨by unfold lsOf; rw [ap_get]; rfl, clo.pick 8 (.lst (unlikeT.map prD)) h _ rfl sc rfl (pr_sc _) q⟩
/-! ### _law_put -/
def wr (z : Str) : Str := ("(?:" ++ z) ++ ")"
/-- what a pair may be put to -/
inductive PutOk (p1 p2 : Str) (al : Bool) : Str → Str → Bool → Prop
  | grp : PutOk p1 p2 al (("(" ++ p1) ++ ")") (("(" ++ p2) ++ ")") al
  | may (g : Str) (hg : g ∈ (["?", "??"] : List Str)) : PutOk p1 p2 al (wr p1 ++ g) (wr p2 ++ g) al
  | ahead (o : Str × Str) (ho : o ∈ alikeT) (g : Str) (hg : g ∈ (["", "|"] : List Str)) : PutOk p1 p2 al ((wr o.1 ++ g) ++ wr p1) ((wr o.2 ++ g) ++ wr p2) al
  | behind (o : Str × Str) (ho : o ∈ alikeT) (g : Str) (hg : g ∈ (["", "|"] : List Str)) : PutOk p1 p2 al ((wr p1 ++ g) ++ wr o.1) ((wr p2 ++ g) ++ wr o.2) al
  | other (o : Str × Str) (ho : o ∈ unlikeT) (g : Str) (hg : g ∈ (["", "|"] : List Str)) : PutOk p1 p2 al ((wr p1 ++ g) ++ wr o.1) ((wr p2 ++ g) ++ wr o.2) false
  | turn : PutOk p1 p2 al p2 (wr p1) al
def sp__law_put : SpD := fun ds h Q _ => ∃ (n : Nat) (a b c : Int) (p1 p2 : Str) (al : Bool), ds = [.ref n, .tup [.str p1, .str p2], .bl al] ∧ h[n]? = some (src a b c) ∧ p1.length ≤ 20 ∧ p2.length ≤ 20 ∧ ∀ w0 w1 m, PutOk p1 p2 al w0 w1 m → ∀ x y z, Q (.tup [.tup [.str w0, .str w1], .bl m]) (h.set n (src x y z))
theorem mono_put : MonoSp sp__law_put := fun ds h Q Q' E E' hq he ⟨n, a, b, c, p1, p2, al, e1, e2, e3, e4, q⟩ => ⟨n, a, b, c, p1, p2, al, e1, e2, e3, e4, fun w0 w1 m h1 x y z => hq _ _ (q w0 w1 m h1 x y z)⟩
def w__law_put : WS := wSeq (wAsg (.nm 3) (wCall sp__law_next (wCons (wVar 0) (wCons (wC (.int 7)) (wNil))))) (wSeq (wAsg (.nm 4) (wLc (wiTup (wVar 1)) [8] (.nm 8) (wYes) (wOp gAdd (wOp gAdd (wC (.str "(?:")) (wVar 8)) (wC (.str ")"))))) (wSeq (wIf (wB (wOp gEq (wVar 3) (wC (.int 0)))) (wRet (wTup (wCons (wTup (wCons (wOp gAdd (wOp gAdd (wC (.str "(")) (wOp gIx (wVar 1) (wC (.int 0)))) (wC (.str ")"))) (wCons (wOp gAdd (wOp gAdd (wC (.str "(")) (wOp gIx (wVar 1) (wC (.int 1)))) (wC (.str ")"))) (wNil)))) (wCons (wVar 2) (wNil))))) (wNext)) (wSeq (wIf (wB (wOp gEq (wVar 3) (wC (.int 1)))) (wSeq (wAsg (.nm 5) (wCall sp__law_one (wCons (wVar 0) (wCons (wLst (wCons (wC (.str "?")) (wCons (wC (.str "??")) (wNil)))) (wNil))))) (wRet (wTup (wCons (wTup (wCons (wOp gAdd (wOp gIx (wVar 4) (wC (.int 0))) (wVar 5)) (wCons (wOp gAdd (wOp gIx (wVar 4) (wC (.int 1))) (wVar 5)) (wNil)))) (wCons (wVar 2) (wNil)))))) (wNext)) (wSeq (wIf (wB (wOp gLt (wVar 3) (wC (.int 4)))) (wSeq (wAsg (.nm 6) (wCall sp__law_one (wCons (wVar 0) (wCons (wCall sp__law_alike wNil) (wNil))))) (wSeq (wAsg (.nm 7) (wLc (wiTup (wVar 6)) [8] (.nm 8) (wYes) (wOp gAdd (wOp gAdd (wC (.str "(?:")) (wVar 8)) (wC (.str ")"))))) (wSeq (wAsg (.nm 5) (wOp gIx (wLst (wCons (wC (.str "")) (wCons (wC (.str "|")) (wNil)))) (wOp gSub (wVar 3) (wC (.int 2))))) (wSeq (wIf (wB (wOp gEq (wCall sp__law_next (wCons (wVar 0) (wCons (wC (.int 2)) (wNil)))) (wC (.int 0)))) (wRet (wTup (wCons (wTup (wCons (wOp gAdd (wOp gAdd (wOp gIx (wVar 7) (wC (.int 0))) (wVar 5)) (wOp gIx (wVar 4) (wC (.int 0)))) (wCons (wOp gAdd (wOp gAdd (wOp gIx (wVar 7) (wC (.int 1))) (wVar 5)) (wOp gIx (wVar 4) (wC (.int 1)))) (wNil)))) (wCons (wVar 2) (wNil))))) (wNext)) (wRet (wTup (wCons (wTup (wCons (wOp gAdd (wOp gAdd (wOp gIx (wVar 4) (wC (.int 0))) (wVar 5)) (wOp gIx (wVar 7) (wC (.int 0)))) (wCons (wOp gAdd (wOp gAdd (wOp gIx (wVar 4) (wC (.int 1))) (wVar 5)) (wOp gIx (wVar 7) (wC (.int 1)))) (wNil)))) (wCons (wVar 2) (wNil))))))))) (wNext)) (wSeq (wIf (wB (wOp gLt (wVar 3) (wC (.int 6)))) (wSeq (wAsg (.nm 6) (wCall sp__law_one (wCons (wVar 0) (wCons (wCall sp__law_unlike wNil) (wNil))))) (wSeq (wAsg (.nm 7) (wLc (wiTup (wVar 6)) [8] (.nm 8) (wYes) (wOp gAdd (wOp gAdd (wC (.str "(?:")) (wVar 8)) (wC (.str ")"))))) (wRet (wTup (wCons (wTup (wCons (wOp gAdd (wOp gAdd (wOp gIx (wVar 4) (wC (.int 0))) (wOp gMulS (wC (.str "|")) (wOp gSub (wVar 3) (wC (.int 4))))) (wOp gIx (wVar 7) (wC (.int 0)))) (wCons (wOp gAdd (wOp gAdd (wOp gIx (wVar 4) (wC (.int 1))) (wOp gMulS (wC (.str "|")) (wOp gSub (wVar 3) (wC (.int 4))))) (wOp gIx (wVar 7) (wC (.int 1)))) (wNil)))) (wCons (wC (.bl false)) (wNil))))))) (wNext)) (wRet (wTup (wCons (wTup (wCons (wOp gIx (wVar 1) (wC (.int 1))) (wCons (wOp gIx (wVar 4) (wC (.int 0))) (wNil)))) (wCons (wVar 2) (wNil))))))))))
theorem wr_len (z : Str) : (wr z).length = z.length + 4 := by
  unfold wr; rw [len_app, len_app]; show 3 + _ + 1 = _; omega
theorem gA {h : Hh} {x y : Str} (hx : x.length ≤ 1000) (hy : y.length ≤ 1000) : gAdd (.str x) (.str y) h = some (.str (x ++ y), h) := gAdd_str (by unfold sizeLine; omega)
theorem ix0 {h : Hh} {A : Nat} {x y : D} (e : h[A]? = some (.lst [x, y])) : gIx (.ref A) (.int 0) h = some (x, h) := by
  simp only [gIx, ls_of e]; rfl
theorem ix1 {h : Hh} {A : Nat} {x y : D} (e : h[A]? = some (.lst [x, y])) : gIx (.ref A) (.int 1) h = some (y, h) := by
  simp only [gIx, ls_of e]; rfl
theorem it0 {h : Hh} {x y : D} : gIx (.tup [x, y]) (.int 0) h = some (x, h) := rfl
theorem it1 {h : Hh} {x y : D} : gIx (.tup [x, y]) (.int 1) h = some (y, h) := rfl
/-- the comprehension of both texts in parentheses -/
theorem wrap2 {i : Nat} {s : Sl} {h : Hh} {a b : Str} {Q : PV} {E : PX} (hs : s[i]? = some (some (.tup [.str a, .str b]))) (ha : a.length ≤ 20) (hb : b.length ≤ 20) (h8 : 8 < s.length) (q : Q (.ref h.length) (h ++ [.lst [.str (wr a), .str (wr b)]])) :
    wLc (wiTup (wVar i)) [8] (.nm 8) (wYes) (wOp gAdd (wOp gAdd (wC (.str "(?:")) (wVar 8)) (wC (.str ")"))) s h Q E := by
  rw [e_lc, e_iTup, e_var, hs, GetV_some]
  refine ⟨_, rfl, ?_⟩
  refine lc_map (fun d => match d with | .str z => .str (wr z) | _ => .non) (fun _ => trivial) [.str a, .str b] ?_ (by show 2 ≤ sizeLine; decide) q
  have el : ∀ z : Str, z.length ≤ 20 → ∃ s', asgD (.nm 8) (.str z) (wipeD s [8]) = some s' ∧ ∀ (acc : List D) (Q' : PV) (E' : PX), Q' (.str (wr z)) (h ++ [.lst acc]) → wOp gAdd (wOp gAdd (wC (.str "(?:")) (wVar 8)) (wC (.str ")")) s' (h ++ [.lst acc]) Q' E' := by
    intro z hz
    refine ⟨_, asgD_nm, fun acc Q' E' q' => ?_⟩
    have e8 : ((wipeD s [8]).set 8 (some (D.str z)))[8]? = some (some (.str z)) := by
      simp only [wipeD]
      rw [List.getElem?_set_self (by rw [List.length_set]; exact h8)]
    rw [e_op, e_op, e_c, e_var, e8, GetV_some, gA (by show 3 ≤ _; decide) (by omega), Get_some, e_c, gA (by rw [len_app]; show 3 + _ ≤ _; omega) (by show 1 ≤ _; decide), Get_some]
    exact q'
  intro d hd
  rcases List.mem_cons.mp hd with rfl | hd
  · exact el a ha
  · rw [List.mem_singleton] at hd
    subst hd
    exact el b hb
abbrev S9 (o0 o1 o2 o3 o4 o5 o6 o7 o8 : Option D) : Sl := [o0, o1, o2, o3, o4, o5, o6, o7, o8]
theorem pair_at {l : List (Str × Str)} {d : D} (h : d ∈ l.map prD) : ∃ p ∈ l, d = .tup [.str p.1, .str p.2] := by
  obtain ⟨z, hz, rfl⟩ := List.mem_map.mp h
  exact ⟨z, hz, rfl⟩
theorem len_al : ∀ p ∈ alikeT, p.1.length ≤ 20 ∧ p.2.length ≤ 20 := by decide +kernel
theorem len_un : ∀ p ∈ unlikeT, p.1.length ≤ 20 ∧ p.2.length ≤ 20 := by decide +kernel
theorem strs_at {l : List Str} {d : D} (h : d ∈ l.map D.str) : ∃ z ∈ l, d = .str z := by
  obtain ⟨z, hz, rfl⟩ := List.mem_map.mp h
  exact ⟨z, hz, rfl⟩
theorem len_sg : ∀ g ∈ (["?", "??"] : List Str), g.length ≤ 2 := by decide +kernel
theorem mul0 {h : Hh} : gMulS (.str "|") (.int 0) h = some (.str "", h) := by
  have e : repS (Str.ofString "|") 0 = Str.ofString "" := by decide +kernel
  rw [← e]; rfl
theorem mul1 {h : Hh} : gMulS (.str "|") (.int 1) h = some (.str "|", h) := by
  have e : repS (Str.ofString "|") 1 = Str.ofString "|" := by decide +kernel
  exact (congrArg (fun z => some (D.str z, h)) e)
theorem b_put : ∀ ds h Q E, ScH h → ScDs h.length ds → Clo h.length Q → CloX h.length E → sp__law_put ds h Q E → w__law_put (endsOf Q E) (slots0 ["_law_source", "_law_pair", "_law_is_alike", "_law_way", "_law_some", "_law_sign", "_law_other", "_law_more", "_law_text"] ds) h := by
  rintro ds h0 Q E sc sds clo clx ⟨n, a, b, c, p1, p2, alk, rfl, e0, l1, l2, q⟩
  have hn := get_lt e0
  have fin : ∀ w0 w1 m hh, PutOk p1 p2 alk w0 w1 m → Al n h0 hh → Q (.tup [.tup [.str w0, .str w1], .bl m]) hh := fun w0 w1 m hh pk al => al.fin sc clo ⟨⟨trivial, trivial, trivial⟩, trivial, trivial⟩ (q w0 w1 m pk)
  unfold w__law_put
  show wSeq (wAsg _ _) _ _ (S9 (some (.ref n)) (some (.tup [.str p1, .str p2])) (some (.bl alk)) none none none none none none) h0
  rw [e_seq, e_asg, e_call]
  simp only [e_cons, e_c, e_var, e_nil, List.getElem?_cons_succ, List.getElem?_cons_zero, GetV_some]
  refine next_al hn (Al.refl e0) (by decide) (by decide) fun r h1 hr al1 _ => ⟨_, asgD_nm, ?_⟩
  simp only [nx_of]
  show wSeq (wAsg _ _) _ _ (S9 (some (.ref n)) (some (.tup [.str p1, .str p2])) (some (.bl alk)) (some (.int r)) none none none none none) h1
  rw [e_seq, e_asg]
  refine wrap2 (i := 1) rfl l1 l2 (by simp) ⟨_, asgD_nm, ?_⟩
  simp only [nx_of]
  show wSeq (wIf _ _ _) _ _ (S9 (some (.ref n)) (some (.tup [.str p1, .str p2])) (some (.bl alk)) (some (.int r)) (some (.ref h1.length)) none none none none) (h1 ++ [.lst [.str (wr p1), .str (wr p2)]])
  have eS : (h1 ++ [O.lst [.str (wr p1), .str (wr p2)]])[h1.length]? = some (.lst [.str (wr p1), .str (wr p2)]) := by rw [ap_get0]; rfl
  have al2 : Al n h0 (h1 ++ [O.lst [.str (wr p1), .str (wr p2)]]) := al1.app
  have hA := al1.le
  revert eS al2
  generalize h1 ++ [O.lst [.str (wr p1), .str (wr p2)]] = h2
  revert hA
  generalize h1.length = A
  intro hA eS al2
  have w1 := wr_len p1
  have w2 := wr_len p2
  have hr7 : r = 0 ∨ r = 1 ∨ r = 2 ∨ r = 3 ∨ r = 4 ∨ r = 5 ∨ r = 6 := by omega
  have s2 : (2 : Nat) ≤ sizeLine := by decide
  have so : (Str.ofString "(").length = 1 := by decide +kernel
  have sc' : (Str.ofString ")").length = 1 := by decide +kernel
  have a1 : ∀ (hh : Hh) (z : Str), z.length ≤ 20 → gAdd (.str "(") (.str z) hh = some (.str ("(" ++ z), hh) := fun hh z hz => gA (by show 1 ≤ _; decide) (by omega)
  have a2 : ∀ (hh : Hh) (z : Str), z.length ≤ 20 → gAdd (.str (Str.ofString "(" ++ z)) (.str ")") hh = some (.str (("(" ++ z) ++ ")"), hh) := fun hh z hz => gA (by rw [len_app]; show 1 + _ ≤ _; omega) (by show 1 ≤ _; decide)
  rcases hr7 with rfl | rfl | rfl | rfl | rfl | rfl | rfl
  · rw [e_seq, e_if, e_b, e_op]
    simp only [e_var, e_c, List.getElem?_cons_succ, List.getElem?_cons_zero, GetV_some, gEq_int, Get_some, IsB_bl]
    rw [if_pos (by decide)]
    simp only [e_ret, e_tup, e_cons, e_nil, e_op, e_c, e_var, List.getElem?_cons_succ, List.getElem?_cons_zero, GetV_some, it0, it1, Get_some, a1 _ _ l1, a1 _ _ l2, a2 _ _ l1, a2 _ _ l2]
    exact ⟨s2, s2, fin _ _ _ _ .grp al2⟩
  · rw [e_seq, e_if, e_b, e_op]
    simp only [e_var, e_c, List.getElem?_cons_succ, List.getElem?_cons_zero, GetV_some, gEq_int, gLt_int, Get_some, IsB_bl]
    rw [if_neg (by decide), e_next]
    try simp only [nx_of]
    rw [e_seq, e_if, e_b, e_op]
    simp only [e_var, e_c, List.getElem?_cons_succ, List.getElem?_cons_zero, GetV_some, gEq_int, gLt_int, Get_some, IsB_bl]
    rw [if_pos (by decide)]
    rw [e_seq, e_asg, e_call]
    simp only [e_cons, e_c, e_var, e_nil, e_lst, List.getElem?_cons_succ, List.getElem?_cons_zero, GetV_some]
    refine ⟨s2, ?_⟩
    refine one_new (xs := [.str "?", .str "??"]) hn al2 fun x hx h3 al3 kp => ⟨_, asgD_nm, ?_⟩
    obtain ⟨g, hg, rfl⟩ := strs_at (l := ["?", "??"]) hx
    have lg := len_sg g hg
    have eS3 := kp A _ hA eS
    have b1 : ∀ hh, gAdd (.str (wr p1)) (.str g) hh = some (.str (wr p1 ++ g), hh) := fun _ => gA (by omega) (by omega)
    have b2 : ∀ hh, gAdd (.str (wr p2)) (.str g) hh = some (.str (wr p2 ++ g), hh) := fun _ => gA (by omega) (by omega)
    simp only [nx_of, e_ret, e_tup, e_cons, e_nil, e_op, e_c, e_var, List.set_cons_succ, List.set_cons_zero, List.getElem?_cons_succ, List.getElem?_cons_zero, GetV_some, ix0 eS3, ix1 eS3, Get_some, b1, b2]
    exact ⟨s2, s2, fin _ _ _ _ (.may g hg) al3⟩
  · rw [e_seq, e_if, e_b, e_op]
    simp only [e_var, e_c, List.getElem?_cons_succ, List.getElem?_cons_zero, GetV_some, gEq_int, gLt_int, Get_some, IsB_bl]
    rw [if_neg (by decide), e_next]
    try simp only [nx_of]
    rw [e_seq, e_if, e_b, e_op]
    simp only [e_var, e_c, List.getElem?_cons_succ, List.getElem?_cons_zero, GetV_some, gEq_int, gLt_int, Get_some, IsB_bl]
    rw [if_neg (by decide), e_next]
    try simp only [nx_of]
    rw [e_seq, e_if, e_b, e_op]
    simp only [e_var, e_c, List.getElem?_cons_succ, List.getElem?_cons_zero, GetV_some, gEq_int, gLt_int, Get_some, IsB_bl]
    rw [if_pos (by decide)]
    rw [e_seq, e_asg, e_call]
    simp only [e_cons, e_var, List.getElem?_cons_succ, List.getElem?_cons_zero, GetV_some]
    rw [e_call, e_nil]
    refine ⟨rfl, ?_⟩
    simp only [f_alike, GetO_ok, e_nil]
    refine one_new (xs := alikeT.map prD) hn al2 (fun x hx h3 al3 kp => ⟨_, asgD_nm, ?_⟩)
    obtain ⟨o, ho, rfl⟩ := pair_at hx
    obtain ⟨m1, m2⟩ := len_al o ho
    have v1 := wr_len o.1
    have v2 := wr_len o.2
    have eS3 := kp A _ hA eS
    try simp only [nx_of]
    rw [e_seq, e_asg]
    refine wrap2 (i := 6) rfl m1 m2 (by simp) ⟨_, asgD_nm, ?_⟩
    have eB : (h3 ++ [O.lst [.str (wr o.1), .str (wr o.2)]])[h3.length]? = some (.lst [.str (wr o.1), .str (wr o.2)]) := by rw [ap_get0]; rfl
    have eS4 := get_in eS3 [O.lst [.str (wr o.1), .str (wr o.2)]]
    have al4 : Al n h0 (h3 ++ [O.lst [.str (wr o.1), .str (wr o.2)]]) := al3.app
    have hB := al3.le
    revert hB eB eS4 al4
    generalize h3 ++ [O.lst [.str (wr o.1), .str (wr o.2)]] = h4
    generalize h3.length = B
    intro eB eS4 al4 hB
    try simp only [nx_of]
    rw [e_seq, e_asg, e_op, e_lst]
    simp only [e_cons, e_nil, e_op, e_c, e_var, List.set_cons_succ, List.set_cons_zero, List.getElem?_cons_succ, List.getElem?_cons_zero, GetV_some]
    refine ⟨s2, ?_⟩
    rw [gSub_int, Get_some, show ((2 : Nat) : Int) - 2 = 0 by decide, ix0 (x := .str "") (y := .str "|") (by rw [ap_get0]; rfl), Get_some]
    refine ⟨_, asgD_nm, ?_⟩
    have al5 : Al n h0 (h4 ++ [O.lst [.str "", .str "|"]]) := al4.app
    have eB5 := get_in eB [O.lst [.str "", .str "|"]]
    have eS5 := get_in eS4 [O.lst [.str "", .str "|"]]
    revert al5 eB5 eS5
    generalize h4 ++ [O.lst [.str "", .str "|"]] = h5
    intro al5 eB5 eS5
    try simp only [nx_of]
    rw [e_seq, e_if, e_b, e_op, e_call]
    simp only [e_cons, e_c, e_var, e_nil, List.set_cons_succ, List.set_cons_zero, List.getElem?_cons_succ, List.getElem?_cons_zero, GetV_some]
    refine next_al hn al5 (by decide) (by decide) fun r2 h6 hr2 al6 kp6 => ?_
    have eB6 := kp6 B _ hB eB5
    have eS6 := kp6 A _ hA eS5
    have lg : (Str.ofString "").length ≤ 2 := by decide +kernel
    have hg : Str.ofString "" ∈ (["", "|"] : List Str) := by simp
    have b1 : ∀ hh, gAdd (.str (wr p1)) (.str (Str.ofString "")) hh = some (.str (wr p1 ++ (Str.ofString "")), hh) := fun _ => gA (by omega) (by omega)
    have b2 : ∀ hh, gAdd (.str (wr p2)) (.str (Str.ofString "")) hh = some (.str (wr p2 ++ (Str.ofString "")), hh) := fun _ => gA (by omega) (by omega)
    have b3 : ∀ hh, gAdd (.str (wr o.1)) (.str (Str.ofString "")) hh = some (.str (wr o.1 ++ (Str.ofString "")), hh) := fun _ => gA (by omega) (by omega)
    have b4 : ∀ hh, gAdd (.str (wr o.2)) (.str (Str.ofString "")) hh = some (.str (wr o.2 ++ (Str.ofString "")), hh) := fun _ => gA (by omega) (by omega)
    have c1 : ∀ hh, gAdd (.str (wr p1 ++ (Str.ofString ""))) (.str (wr o.1)) hh = some (.str ((wr p1 ++ (Str.ofString "")) ++ wr o.1), hh) := fun _ => gA (by rw [len_app]; omega) (by omega)
    have c2 : ∀ hh, gAdd (.str (wr p2 ++ (Str.ofString ""))) (.str (wr o.2)) hh = some (.str ((wr p2 ++ (Str.ofString "")) ++ wr o.2), hh) := fun _ => gA (by rw [len_app]; omega) (by omega)
    have c3 : ∀ hh, gAdd (.str (wr o.1 ++ (Str.ofString ""))) (.str (wr p1)) hh = some (.str ((wr o.1 ++ (Str.ofString "")) ++ wr p1), hh) := fun _ => gA (by rw [len_app]; omega) (by omega)
    have c4 : ∀ hh, gAdd (.str (wr o.2 ++ (Str.ofString ""))) (.str (wr p2)) hh = some (.str ((wr o.2 ++ (Str.ofString "")) ++ wr p2), hh) := fun _ => gA (by rw [len_app]; omega) (by omega)
    rw [gEq_int, Get_some, IsB_bl]
    split
    · simp only [e_ret, e_tup, e_cons, e_nil, e_op, e_c, e_var, List.set_cons_succ, List.set_cons_zero, List.getElem?_cons_succ, List.getElem?_cons_zero, GetV_some, ix0 eS6, ix1 eS6, ix0 eB6, ix1 eB6, Get_some, b1, b2, b3, b4, c1, c2, c3, c4]
      exact ⟨s2, s2, fin _ _ _ _ (.ahead o ho _ hg) al6⟩
    · rw [e_next]
      simp only [nx_of, e_ret, e_tup, e_cons, e_nil, e_op, e_c, e_var, List.set_cons_succ, List.set_cons_zero, List.getElem?_cons_succ, List.getElem?_cons_zero, GetV_some, ix0 eS6, ix1 eS6, ix0 eB6, ix1 eB6, Get_some, b1, b2, b3, b4, c1, c2, c3, c4]
      exact ⟨s2, s2, fin _ _ _ _ (.behind o ho _ hg) al6⟩
  · rw [e_seq, e_if, e_b, e_op]
    simp only [e_var, e_c, List.getElem?_cons_succ, List.getElem?_cons_zero, GetV_some, gEq_int, gLt_int, Get_some, IsB_bl]
    rw [if_neg (by decide), e_next]
    try simp only [nx_of]
    rw [e_seq, e_if, e_b, e_op]
    simp only [e_var, e_c, List.getElem?_cons_succ, List.getElem?_cons_zero, GetV_some, gEq_int, gLt_int, Get_some, IsB_bl]
    rw [if_neg (by decide), e_next]
    try simp only [nx_of]
    rw [e_seq, e_if, e_b, e_op]
    simp only [e_var, e_c, List.getElem?_cons_succ, List.getElem?_cons_zero, GetV_some, gEq_int, gLt_int, Get_some, IsB_bl]
    rw [if_pos (by decide)]
    rw [e_seq, e_asg, e_call]
    simp only [e_cons, e_var, List.getElem?_cons_succ, List.getElem?_cons_zero, GetV_some]
    rw [e_call, e_nil]
    refine ⟨rfl, ?_⟩
    simp only [f_alike, GetO_ok, e_nil]
    refine one_new (xs := alikeT.map prD) hn al2 (fun x hx h3 al3 kp => ⟨_, asgD_nm, ?_⟩)
    obtain ⟨o, ho, rfl⟩ := pair_at hx
    obtain ⟨m1, m2⟩ := len_al o ho
    have v1 := wr_len o.1
    have v2 := wr_len o.2
    have eS3 := kp A _ hA eS
    try simp only [nx_of]
    rw [e_seq, e_asg]
    refine wrap2 (i := 6) rfl m1 m2 (by simp) ⟨_, asgD_nm, ?_⟩
    have eB : (h3 ++ [O.lst [.str (wr o.1), .str (wr o.2)]])[h3.length]? = some (.lst [.str (wr o.1), .str (wr o.2)]) := by rw [ap_get0]; rfl
    have eS4 := get_in eS3 [O.lst [.str (wr o.1), .str (wr o.2)]]
    have al4 : Al n h0 (h3 ++ [O.lst [.str (wr o.1), .str (wr o.2)]]) := al3.app
    have hB := al3.le
    revert hB eB eS4 al4
    generalize h3 ++ [O.lst [.str (wr o.1), .str (wr o.2)]] = h4
    generalize h3.length = B
    intro eB eS4 al4 hB
    try simp only [nx_of]
    rw [e_seq, e_asg, e_op, e_lst]
    simp only [e_cons, e_nil, e_op, e_c, e_var, List.set_cons_succ, List.set_cons_zero, List.getElem?_cons_succ, List.getElem?_cons_zero, GetV_some]
    refine ⟨s2, ?_⟩
    rw [gSub_int, Get_some, show ((3 : Nat) : Int) - 2 = 1 by decide, ix1 (x := .str "") (y := .str "|") (by rw [ap_get0]; rfl), Get_some]
    refine ⟨_, asgD_nm, ?_⟩
    have al5 : Al n h0 (h4 ++ [O.lst [.str "", .str "|"]]) := al4.app
    have eB5 := get_in eB [O.lst [.str "", .str "|"]]
    have eS5 := get_in eS4 [O.lst [.str "", .str "|"]]
    revert al5 eB5 eS5
    generalize h4 ++ [O.lst [.str "", .str "|"]] = h5
    intro al5 eB5 eS5
    try simp only [nx_of]
    rw [e_seq, e_if, e_b, e_op, e_call]
    simp only [e_cons, e_c, e_var, e_nil, List.set_cons_succ, List.set_cons_zero, List.getElem?_cons_succ, List.getElem?_cons_zero, GetV_some]
    refine next_al hn al5 (by decide) (by decide) fun r2 h6 hr2 al6 kp6 => ?_
    have eB6 := kp6 B _ hB eB5
    have eS6 := kp6 A _ hA eS5
    have lg : (Str.ofString "|").length ≤ 2 := by decide +kernel
    have hg : Str.ofString "|" ∈ (["", "|"] : List Str) := by simp
    have b1 : ∀ hh, gAdd (.str (wr p1)) (.str (Str.ofString "|")) hh = some (.str (wr p1 ++ (Str.ofString "|")), hh) := fun _ => gA (by omega) (by omega)
    have b2 : ∀ hh, gAdd (.str (wr p2)) (.str (Str.ofString "|")) hh = some (.str (wr p2 ++ (Str.ofString "|")), hh) := fun _ => gA (by omega) (by omega)
    have b3 : ∀ hh, gAdd (.str (wr o.1)) (.str (Str.ofString "|")) hh = some (.str (wr o.1 ++ (Str.ofString "|")), hh) := fun _ => gA (by omega) (by omega)
    have b4 : ∀ hh, gAdd (.str (wr o.2)) (.str (Str.ofString "|")) hh = some (.str (wr o.2 ++ (Str.ofString "|")), hh) := fun _ => gA (by omega) (by omega)
    have c1 : ∀ hh, gAdd (.str (wr p1 ++ (Str.ofString "|"))) (.str (wr o.1)) hh = some (.str ((wr p1 ++ (Str.ofString "|")) ++ wr o.1), hh) := fun _ => gA (by rw [len_app]; omega) (by omega)
    have c2 : ∀ hh, gAdd (.str (wr p2 ++ (Str.ofString "|"))) (.str (wr o.2)) hh = some (.str ((wr p2 ++ (Str.ofString "|")) ++ wr o.2), hh) := fun _ => gA (by rw [len_app]; omega) (by omega)
    have c3 : ∀ hh, gAdd (.str (wr o.1 ++ (Str.ofString "|"))) (.str (wr p1)) hh = some (.str ((wr o.1 ++ (Str.ofString "|")) ++ wr p1), hh) := fun _ => gA (by rw [len_app]; omega) (by omega)
    have c4 : ∀ hh, gAdd (.str (wr o.2 ++ (Str.ofString "|"))) (.str (wr p2)) hh = some (.str ((wr o.2 ++ (Str.ofString "|")) ++ wr p2), hh) := fun _ => gA (by rw [len_app]; omega) (by omega)
    rw [gEq_int, Get_some, IsB_bl]
    split
    · simp only [e_ret, e_tup, e_cons, e_nil, e_op, e_c, e_var, List.set_cons_succ, List.set_cons_zero, List.getElem?_cons_succ, List.getElem?_cons_zero, GetV_some, ix0 eS6, ix1 eS6, ix0 eB6, ix1 eB6, Get_some, b1, b2, b3, b4, c1, c2, c3, c4]
      exact ⟨s2, s2, fin _ _ _ _ (.ahead o ho _ hg) al6⟩
    · rw [e_next]
      simp only [nx_of, e_ret, e_tup, e_cons, e_nil, e_op, e_c, e_var, List.set_cons_succ, List.set_cons_zero, List.getElem?_cons_succ, List.getElem?_cons_zero, GetV_some, ix0 eS6, ix1 eS6, ix0 eB6, ix1 eB6, Get_some, b1, b2, b3, b4, c1, c2, c3, c4]
      exact ⟨s2, s2, fin _ _ _ _ (.behind o ho _ hg) al6⟩
  · rw [e_seq, e_if, e_b, e_op]
    simp only [e_var, e_c, List.getElem?_cons_succ, List.getElem?_cons_zero, GetV_some, gEq_int, gLt_int, Get_some, IsB_bl]
    rw [if_neg (by decide), e_next]
    try simp only [nx_of]
    rw [e_seq, e_if, e_b, e_op]
    simp only [e_var, e_c, List.getElem?_cons_succ, List.getElem?_cons_zero, GetV_some, gEq_int, gLt_int, Get_some, IsB_bl]
    rw [if_neg (by decide), e_next]
    try simp only [nx_of]
    rw [e_seq, e_if, e_b, e_op]
    simp only [e_var, e_c, List.getElem?_cons_succ, List.getElem?_cons_zero, GetV_some, gEq_int, gLt_int, Get_some, IsB_bl]
    rw [if_neg (by decide), e_next]
    try simp only [nx_of]
    rw [e_seq, e_if, e_b, e_op]
    simp only [e_var, e_c, List.getElem?_cons_succ, List.getElem?_cons_zero, GetV_some, gEq_int, gLt_int, Get_some, IsB_bl]
    rw [if_pos (by decide)]
    rw [e_seq, e_asg, e_call]
    simp only [e_cons, e_var, List.getElem?_cons_succ, List.getElem?_cons_zero, GetV_some]
    rw [e_call, e_nil]
    refine ⟨rfl, ?_⟩
    simp only [f_unlike, GetO_ok, e_nil]
    refine one_new (xs := unlikeT.map prD) hn al2 (fun x hx h3 al3 kp => ⟨_, asgD_nm, ?_⟩)
    obtain ⟨o, ho, rfl⟩ := pair_at hx
    obtain ⟨m1, m2⟩ := len_un o ho
    have v1 := wr_len o.1
    have v2 := wr_len o.2
    have eS3 := kp A _ hA eS
    try simp only [nx_of]
    rw [e_seq, e_asg]
    refine wrap2 (i := 6) rfl m1 m2 (by simp) ⟨_, asgD_nm, ?_⟩
    have eB : (h3 ++ [O.lst [.str (wr o.1), .str (wr o.2)]])[h3.length]? = some (.lst [.str (wr o.1), .str (wr o.2)]) := by rw [ap_get0]; rfl
    have eS4 := get_in eS3 [O.lst [.str (wr o.1), .str (wr o.2)]]
    have al4 : Al n h0 (h3 ++ [O.lst [.str (wr o.1), .str (wr o.2)]]) := al3.app
    revert eB eS4 al4
    generalize h3 ++ [O.lst [.str (wr o.1), .str (wr o.2)]] = h4
    generalize h3.length = B
    intro eB eS4 al4
    have lg : (Str.ofString "").length ≤ 2 := by decide +kernel
    have hg : Str.ofString "" ∈ (["", "|"] : List Str) := by simp
    have b1 : ∀ hh, gAdd (.str (wr p1)) (.str (Str.ofString "")) hh = some (.str (wr p1 ++ (Str.ofString "")), hh) := fun _ => gA (by omega) (by omega)
    have b2 : ∀ hh, gAdd (.str (wr p2)) (.str (Str.ofString "")) hh = some (.str (wr p2 ++ (Str.ofString "")), hh) := fun _ => gA (by omega) (by omega)
    have b3 : ∀ hh, gAdd (.str (wr o.1)) (.str (Str.ofString "")) hh = some (.str (wr o.1 ++ (Str.ofString "")), hh) := fun _ => gA (by omega) (by omega)
    have b4 : ∀ hh, gAdd (.str (wr o.2)) (.str (Str.ofString "")) hh = some (.str (wr o.2 ++ (Str.ofString "")), hh) := fun _ => gA (by omega) (by omega)
    have c1 : ∀ hh, gAdd (.str (wr p1 ++ (Str.ofString ""))) (.str (wr o.1)) hh = some (.str ((wr p1 ++ (Str.ofString "")) ++ wr o.1), hh) := fun _ => gA (by rw [len_app]; omega) (by omega)
    have c2 : ∀ hh, gAdd (.str (wr p2 ++ (Str.ofString ""))) (.str (wr o.2)) hh = some (.str ((wr p2 ++ (Str.ofString "")) ++ wr o.2), hh) := fun _ => gA (by rw [len_app]; omega) (by omega)
    have c3 : ∀ hh, gAdd (.str (wr o.1 ++ (Str.ofString ""))) (.str (wr p1)) hh = some (.str ((wr o.1 ++ (Str.ofString "")) ++ wr p1), hh) := fun _ => gA (by rw [len_app]; omega) (by omega)
    have c4 : ∀ hh, gAdd (.str (wr o.2 ++ (Str.ofString ""))) (.str (wr p2)) hh = some (.str ((wr o.2 ++ (Str.ofString "")) ++ wr p2), hh) := fun _ => gA (by rw [len_app]; omega) (by omega)
    simp only [nx_of, e_ret, e_tup, e_cons, e_nil, e_op, e_c, e_var, List.set_cons_succ, List.set_cons_zero, List.getElem?_cons_succ, List.getElem?_cons_zero, GetV_some, ix0 eS4, ix1 eS4, ix0 eB, ix1 eB, Get_some, gSub_int, show ((4 : Nat) : Int) - 4 = 0 by decide, mul0, b1, b2, b3, b4, c1, c2, c3, c4]
    exact ⟨s2, s2, fin _ _ _ _ (.other o ho _ hg) al4⟩
  · rw [e_seq, e_if, e_b, e_op]
    simp only [e_var, e_c, List.getElem?_cons_succ, List.getElem?_cons_zero, GetV_some, gEq_int, gLt_int, Get_some, IsB_bl]
    rw [if_neg (by decide), e_next]
    try simp only [nx_of]
    rw [e_seq, e_if, e_b, e_op]
    simp only [e_var, e_c, List.getElem?_cons_succ, List.getElem?_cons_zero, GetV_some, gEq_int, gLt_int, Get_some, IsB_bl]
    rw [if_neg (by decide), e_next]
    try simp only [nx_of]
    rw [e_seq, e_if, e_b, e_op]
    simp only [e_var, e_c, List.getElem?_cons_succ, List.getElem?_cons_zero, GetV_some, gEq_int, gLt_int, Get_some, IsB_bl]
    rw [if_neg (by decide), e_next]
    try simp only [nx_of]
    rw [e_seq, e_if, e_b, e_op]
    simp only [e_var, e_c, List.getElem?_cons_succ, List.getElem?_cons_zero, GetV_some, gEq_int, gLt_int, Get_some, IsB_bl]
    rw [if_pos (by decide)]
    rw [e_seq, e_asg, e_call]
    simp only [e_cons, e_var, List.getElem?_cons_succ, List.getElem?_cons_zero, GetV_some]
    rw [e_call, e_nil]
    refine ⟨rfl, ?_⟩
    simp only [f_unlike, GetO_ok, e_nil]
    refine one_new (xs := unlikeT.map prD) hn al2 (fun x hx h3 al3 kp => ⟨_, asgD_nm, ?_⟩)
    obtain ⟨o, ho, rfl⟩ := pair_at hx
    obtain ⟨m1, m2⟩ := len_un o ho
    have v1 := wr_len o.1
    have v2 := wr_len o.2
    have eS3 := kp A _ hA eS
    try simp only [nx_of]
    rw [e_seq, e_asg]
    refine wrap2 (i := 6) rfl m1 m2 (by simp) ⟨_, asgD_nm, ?_⟩
    have eB : (h3 ++ [O.lst [.str (wr o.1), .str (wr o.2)]])[h3.length]? = some (.lst [.str (wr o.1), .str (wr o.2)]) := by rw [ap_get0]; rfl
    have eS4 := get_in eS3 [O.lst [.str (wr o.1), .str (wr o.2)]]
    have al4 : Al n h0 (h3 ++ [O.lst [.str (wr o.1), .str (wr o.2)]]) := al3.app
    revert eB eS4 al4
    generalize h3 ++ [O.lst [.str (wr o.1), .str (wr o.2)]] = h4
    generalize h3.length = B
    intro eB eS4 al4
    have lg : (Str.ofString "|").length ≤ 2 := by decide +kernel
    have hg : Str.ofString "|" ∈ (["", "|"] : List Str) := by simp
    have b1 : ∀ hh, gAdd (.str (wr p1)) (.str (Str.ofString "|")) hh = some (.str (wr p1 ++ (Str.ofString "|")), hh) := fun _ => gA (by omega) (by omega)
    have b2 : ∀ hh, gAdd (.str (wr p2)) (.str (Str.ofString "|")) hh = some (.str (wr p2 ++ (Str.ofString "|")), hh) := fun _ => gA (by omega) (by omega)
    have b3 : ∀ hh, gAdd (.str (wr o.1)) (.str (Str.ofString "|")) hh = some (.str (wr o.1 ++ (Str.ofString "|")), hh) := fun _ => gA (by omega) (by omega)
    have b4 : ∀ hh, gAdd (.str (wr o.2)) (.str (Str.ofString "|")) hh = some (.str (wr o.2 ++ (Str.ofString "|")), hh) := fun _ => gA (by omega) (by omega)
    have c1 : ∀ hh, gAdd (.str (wr p1 ++ (Str.ofString "|"))) (.str (wr o.1)) hh = some (.str ((wr p1 ++ (Str.ofString "|")) ++ wr o.1), hh) := fun _ => gA (by rw [len_app]; omega) (by omega)
    have c2 : ∀ hh, gAdd (.str (wr p2 ++ (Str.ofString "|"))) (.str (wr o.2)) hh = some (.str ((wr p2 ++ (Str.ofString "|")) ++ wr o.2), hh) := fun _ => gA (by rw [len_app]; omega) (by omega)
    have c3 : ∀ hh, gAdd (.str (wr o.1 ++ (Str.ofString "|"))) (.str (wr p1)) hh = some (.str ((wr o.1 ++ (Str.ofString "|")) ++ wr p1), hh) := fun _ => gA (by rw [len_app]; omega) (by omega)
    have c4 : ∀ hh, gAdd (.str (wr o.2 ++ (Str.ofString "|"))) (.str (wr p2)) hh = some (.str ((wr o.2 ++ (Str.ofString "|")) ++ wr p2), hh) := fun _ => gA (by rw [len_app]; omega) (by omega)
    simp only [nx_of, e_ret, e_tup, e_cons, e_nil, e_op, e_c, e_var, List.set_cons_succ, List.set_cons_zero, List.getElem?_cons_succ, List.getElem?_cons_zero, GetV_some, ix0 eS4, ix1 eS4, ix0 eB, ix1 eB, Get_some, gSub_int, show ((5 : Nat) : Int) - 4 = 1 by decide, mul1, b1, b2, b3, b4, c1, c2, c3, c4]
    exact ⟨s2, s2, fin _ _ _ _ (.other o ho _ hg) al4⟩
  · rw [e_seq, e_if, e_b, e_op]
    simp only [e_var, e_c, List.getElem?_cons_succ, List.getElem?_cons_zero, GetV_some, gEq_int, gLt_int, Get_some, IsB_bl]
    rw [if_neg (by decide), e_next]
    try simp only [nx_of]
    rw [e_seq, e_if, e_b, e_op]
    simp only [e_var, e_c, List.getElem?_cons_succ, List.getElem?_cons_zero, GetV_some, gEq_int, gLt_int, Get_some, IsB_bl]
    rw [if_neg (by decide), e_next]
    try simp only [nx_of]
    rw [e_seq, e_if, e_b, e_op]
    simp only [e_var, e_c, List.getElem?_cons_succ, List.getElem?_cons_zero, GetV_some, gEq_int, gLt_int, Get_some, IsB_bl]
    rw [if_neg (by decide), e_next]
    try simp only [nx_of]
    rw [e_seq, e_if, e_b, e_op]
    simp only [e_var, e_c, List.getElem?_cons_succ, List.getElem?_cons_zero, GetV_some, gEq_int, gLt_int, Get_some, IsB_bl]
    rw [if_neg (by decide), e_next]
    try simp only [nx_of]
    simp only [e_ret, e_tup, e_cons, e_nil, e_op, e_c, e_var, List.getElem?_cons_succ, List.getElem?_cons_zero, GetV_some, it0, it1, ix0 eS, ix1 eS, Get_some]
    exact ⟨s2, s2, fin _ _ _ _ .turn al2⟩
end EV.K15

namespace EV.K15
open PySem PySem.Spec PyProof.Rows L2 EV
/-! ### the plain law of texts put together -/
def Rd (L T : Str) (t : Tr) : Prop := go L T.cps.toList rs0 = .tree (toD t)
theorem s_opn : (Str.ofString "(").cps.toList = [40] := by decide +kernel
theorem s_opn3 : (Str.ofString "(?:").cps.toList = [40, 63, 58] := by decide +kernel
theorem s_cls : (Str.ofString ")").cps.toList = [41] := by decide +kernel
theorem s_bar : (Str.ofString "|").cps.toList = [124] := by decide +kernel
theorem s_emp : (Str.ofString "").cps.toList = [] := by decide +kernel
theorem s_q : (Str.ofString "?").cps.toList = [63] := by decide +kernel
theorem s_qq : (Str.ofString "??").cps.toList = [63, 63] := by decide +kernel
theorem wr_list (p : Str) : (wr p).cps.toList = [40, 63, 58] ++ (p.cps.toList ++ [41]) := by
  unfold wr
  rw [app_list, app_list, s_opn3, s_cls]
  simp
theorem wr_go {L p : Str} {t : Tr} {R : List Nat} {s : Rs} {l : Lv} {low : List Lv} (h41 : 41 ∉ L.cps.toList) (r : Rd L p t) (hp : p.length ≤ 20) (hs : s.lv = l :: low) (hd : low.length ≤ 10) : ∃ q, go L ((wr p).cps.toList ++ R) s = go L R ⟨q, ⟨l.g, l.cs, l.ls ++ [toD t]⟩ :: low, 1⟩ := by
  rw [len_list] at hp
  obtain ⟨q, hq⟩ := in_par (R := R) false h41 r hs (by omega)
  refine ⟨q, ?_⟩
  rw [← show shut false (toD t) = toD t from rfl, ← hq, wr_list]
  simp [opn]
theorem c_grp {L p : Str} {t : Tr} (h41 : 41 ∉ L.cps.toList) (r : Rd L p t) (hp : p.length ≤ 20) : Rd L (("(" ++ p) ++ ")") (.grp t) := by
  rw [len_list] at hp
  obtain ⟨q, hq⟩ := in_par (R := []) true h41 r (s := rs0) (l := ⟨false, [], []⟩) (low := []) rfl (by simp only [List.length_nil]; omega)
  unfold Rd
  rw [app_list, app_list, s_opn, s_cls]
  have e : [40] ++ p.cps.toList ++ [41] = opn true ++ (p.cps.toList ++ [41]) := by simp [opn]
  rw [e, hq]
  rfl
theorem c_wr {L p : Str} {t : Tr} (h41 : 41 ∉ L.cps.toList) (r : Rd L p t) (hp : p.length ≤ 20) : Rd L (wr p) t := by
  obtain ⟨q, hq⟩ := wr_go (R := []) h41 r hp (s := rs0) (l := ⟨false, [], []⟩) (low := []) rfl (by simp)
  unfold Rd
  rw [List.append_nil] at hq
  rw [hq]
  rfl
theorem c_may {L p : Str} {t : Tr} (h41 : 41 ∉ L.cps.toList) (r : Rd L p t) (hp : p.length ≤ 20) : Rd L (wr p ++ "?") (.rep 63 t false) ∧ Rd L (wr p ++ "??") (.rep 63 t true) := by
  unfold Rd
  rw [app_list, app_list, s_q, s_qq]
  refine ⟨?_, ?_⟩
  · obtain ⟨q, hq⟩ := wr_go (R := [63]) h41 r hp (s := rs0) (l := ⟨false, [], []⟩) (low := []) rfl (by simp)
    rw [hq]
    rfl
  · obtain ⟨q, hq⟩ := wr_go (R := [63, 63]) h41 r hp (s := rs0) (l := ⟨false, [], []⟩) (low := []) rfl (by simp)
    rw [hq]
    rfl
theorem c_row {L p o : Str} {t u : Tr} (h41 : 41 ∉ L.cps.toList) (r : Rd L p t) (hp : p.length ≤ 20) (r2 : Rd L o u) (ho : o.length ≤ 20) : Rd L ((wr p ++ "") ++ wr o) (.seq true [t, u]) := by
  unfold Rd
  rw [app_list, app_list, s_emp, List.append_nil]
  obtain ⟨q, hq⟩ := wr_go (R := (wr o).cps.toList) h41 r hp (s := rs0) (l := ⟨false, [], []⟩) (low := []) rfl (by simp)
  obtain ⟨q2, hq2⟩ := wr_go (R := []) h41 r2 ho (s := ⟨q, ⟨false, [], [] ++ [toD t]⟩ :: [], 1⟩) (l := ⟨false, [], [toD t]⟩) (low := []) rfl (by simp)
  rw [List.append_nil] at hq2
  rw [hq, hq2]
  rfl
theorem c_alt {L p o : Str} {t u : Tr} (h41 : 41 ∉ L.cps.toList) (r : Rd L p t) (hp : p.length ≤ 20) (r2 : Rd L o u) (ho : o.length ≤ 20) : Rd L ((wr p ++ "|") ++ wr o) (.seq false [t, u]) := by
  unfold Rd
  rw [app_list, app_list, s_bar, List.append_assoc]
  obtain ⟨q, hq⟩ := wr_go (R := [124] ++ (wr o).cps.toList) h41 r hp (s := rs0) (l := ⟨false, [], []⟩) (low := []) rfl (by simp)
  obtain ⟨q2, hq2⟩ := wr_go (R := []) h41 r2 ho (s := ⟨q + 1, ⟨false, [toD t], []⟩ :: [], 0⟩) (l := ⟨false, [toD t], []⟩) (low := []) rfl (by simp)
  rw [List.append_nil] at hq2
  have st : stepG L 124 (wr o).cps.toList ⟨q, ⟨false, [], [] ++ [toD t]⟩ :: [], 1⟩ = .ok (wr o).cps.toList ⟨q + 1, ⟨false, [toD t], []⟩ :: [], 0⟩ := by
    unfold stepG
    rw [if_neg (by simp), if_neg (by simp), if_neg (by simp), if_pos (by simp), if_neg (by simp)]
    rfl
  rw [hq, List.singleton_append, go_cons]
  simp only at st ⊢
  rw [st]
  simp only
  rw [hq2]
  rfl
/-! small trees -/
structure Sm (L : Str) (t : Tr) : Prop where
  ok : okT L t = true
  re : reT t = true
  dp : dpT t ≤ 4
  sz : sz t ≤ 12
  on : onT t ≤ 4
  gr : grT t ≤ 2
def smB (L : Str) (t : Tr) : Bool := okT L t && (reT t && (decide (dpT t ≤ 4) && (decide (sz t ≤ 12) && (decide (onT t ≤ 4) && decide (grT t ≤ 2)))))
theorem smB_ok {L : Str} {t : Tr} (h : smB L t = true) : Sm L t := by
  simp only [smB, Bool.and_eq_true, decide_eq_true_eq] at h
  exact ⟨h.1, h.2.1, h.2.2.1, h.2.2.2.1, h.2.2.2.2.1, h.2.2.2.2.2⟩
theorem Sm.good {L : Str} {t : Tr} (s : Sm L t) : Good L t := ⟨s.ok, s.re, by have := s.dp; omega, by have := s.sz; omega, by have := s.on; omega, by have := s.gr; omega⟩
theorem Sm.grp {L : Str} {t : Tr} (s : Sm L t) : Good L (.grp t) := ⟨by simp only [okT, s.ok], by simp only [reT, s.re], by simp only [dpT]; have := s.dp; omega, by simp only [EV.sz]; have := s.sz; omega, by simp only [onT]; have := s.on; omega, by simp only [grT]; have := s.gr; omega⟩
theorem Sm.may {L : Str} {t : Tr} (z : Bool) (s : Sm L t) : Good L (.rep 63 t z) := ⟨by simp only [okT, s.ok], by simp [reT, s.re], by simp only [dpT]; have := s.dp; omega, by simp only [EV.sz]; have := s.sz; omega, by simp only [onT]; have := s.on; omega, by simp only [grT]; have := s.gr; omega⟩
theorem Sm.two {L : Str} {t u : Tr} (b : Bool) (s : Sm L t) (v : Sm L u) : Good L (.seq b [t, u]) := ⟨by simp [okT, okLs, s.ok, v.ok], by simp [reT, reL, s.re, v.re], by simp only [dpT, dpL]; have := s.dp; have := v.dp; omega, by simp only [EV.sz, szL]; have := s.sz; have := v.sz; omega, by simp only [onT, onL]; have := s.on; have := v.on; omega, by simp only [grT, grL]; have := s.gr; have := v.gr; omega⟩
theorem eq_comm2 {d e : D} (s : simD d = true) (s2 : simD e = true) : eqDB d e = eqDB e d := by
  cases h : eqDB d e with
  | true => have := eqDB_ok h; subst this; exact h.symm
  | false =>
    cases h2 : eqDB e d with
    | true => have := eqDB_ok h2; subst this; rw [h] at h2; cases h2
    | false => rfl
/-- a text that is read as a small tree -/
def Bs (L p : Str) (t : Tr) : Prop := Rd L p t ∧ Sm L t
/-- what the law asks of two texts -/
structure PairOk (w0 w1 : Str) (m : Bool) : Prop where
  l0 : w0.length ≤ 1000
  l1 : w1.length ≤ 1000
  tr : ∃ t u, Rd "abc" w0 t ∧ Rd "abc" w1 u ∧ Good "abc" t ∧ Good "abc" u ∧ eqDB (toD t) (toD u) = m
  wd : ∃ v, Rd "abcd" w1 v ∧ Good "abcd" v
structure BaseOk (p : Str × Str) (m : Bool) : Prop where
  l0 : p.1.length ≤ 20
  l1 : p.2.length ≤ 20
  tr : ∃ t u, Bs "abc" p.1 t ∧ Bs "abc" p.2 u ∧ eqDB (toD t) (toD u) = m
  w0 : ∃ v, Bs "abcd" p.1 v
  w1 : ∃ v, Bs "abcd" p.2 v
theorem n3 : 41 ∉ (Str.ofString "abc").cps.toList := by decide +kernel
theorem n4 : 41 ∉ (Str.ofString "abcd").cps.toList := by decide +kernel
theorem ok3 : okL "abc" = true := by decide +kernel
theorem ok4 : okL "abcd" = true := by decide +kernel
theorem eq_two {b : Bool} {t u v w : Tr} : eqDB (toD (.seq b [t, u])) (toD (.seq b [v, w])) = (eqDB (toD t) (toD v) && eqDB (toD u) (toD w)) := by
  simp only [toD, toDs, eqDB, eqDsB, decide_true, Bool.true_and, Bool.and_true]
theorem eq_may {z : Bool} {t u : Tr} : eqDB (toD (.rep 63 t z)) (toD (.rep 63 u z)) = eqDB (toD t) (toD u) := by
  simp only [toD, toDs, eqDB, eqDsB, decide_true, Bool.true_and, Bool.and_true]
theorem eq_grp {t u : Tr} : eqDB (toD (.grp t)) (toD (.grp u)) = eqDB (toD t) (toD u) := by
  simp only [toD, toDs, eqDB, eqDsB, decide_true, Bool.true_and, Bool.and_true]
theorem base_pair {p : Str × Str} {m : Bool} (b : BaseOk p m) : PairOk p.1 p.2 m := by
  obtain ⟨l0, l1, ⟨t, u, ⟨a1, a2⟩, ⟨b1, b2⟩, e⟩, ⟨v, c1, c2⟩, w, d1, d2⟩ := b
  exact ⟨by omega, by omega, ⟨t, u, a1, b1, a2.good, b2.good, e⟩, w, d1, d2.good⟩
theorem two_ok {p o : Str × Str} {m k : Bool} (b : BaseOk p m) (c : BaseOk o k) {g : Str} (hg : g ∈ (["", "|"] : List Str)) : PairOk ((wr p.1 ++ g) ++ wr o.1) ((wr p.2 ++ g) ++ wr o.2) (m && k) := by
  obtain ⟨l0, l1, ⟨t, u, ⟨a1, a2⟩, ⟨b1, b2⟩, e⟩, _, w, d1, d2⟩ := b
  obtain ⟨l2, l3, ⟨t', u', ⟨a1', a2'⟩, ⟨b1', b2'⟩, e'⟩, _, w', d1', d2'⟩ := c
  have hl : g.length ≤ 1 := by
    simp only [List.mem_cons, List.not_mem_nil, or_false] at hg
    rcases hg with rfl | rfl <;> decide +kernel
  refine ⟨by rw [len_app, len_app, wr_len, wr_len]; omega, by rw [len_app, len_app, wr_len, wr_len]; omega, ?_, ?_⟩
  · simp only [List.mem_cons, List.not_mem_nil, or_false] at hg
    rcases hg with rfl | rfl
    · exact ⟨_, _, c_row n3 a1 l0 a1' l2, c_row n3 b1 l1 b1' l3, a2.two _ a2', b2.two _ b2', by rw [eq_two, e, e']⟩
    · exact ⟨_, _, c_alt n3 a1 l0 a1' l2, c_alt n3 b1 l1 b1' l3, a2.two _ a2', b2.two _ b2', by rw [eq_two, e, e']⟩
  · simp only [List.mem_cons, List.not_mem_nil, or_false] at hg
    rcases hg with rfl | rfl
    · exact ⟨_, c_row n4 d1 l1 d1' l3, d2.two _ d2'⟩
    · exact ⟨_, c_alt n4 d1 l1 d1' l3, d2.two _ d2'⟩
structure Chk15 : Prop where
  al : ∀ p ∈ alikeT, BaseOk p true
  un : ∀ p ∈ unlikeT, BaseOk p false
theorem put_ok (C : Chk15) {p1 p2 : Str} {al : Bool} (b : BaseOk (p1, p2) al) {w0 w1 : Str} {m : Bool} (k : PutOk p1 p2 al w0 w1 m) : PairOk w0 w1 m := by
  have b' := b
  obtain ⟨l0, l1, ⟨t, u, ⟨a1, a2⟩, ⟨b1, b2⟩, e⟩, ⟨v, c1, c2⟩, w, d1, d2⟩ := b'
  cases k with
  | grp =>
    refine ⟨?_, ?_, ⟨_, _, c_grp n3 a1 l0, c_grp n3 b1 l1, a2.grp, b2.grp, by rw [eq_grp, e]⟩, _, c_grp n4 d1 l1, d2.grp⟩
    · rw [len_app, len_app]; show 1 + _ + 1 ≤ _; simp only at l0; omega
    · rw [len_app, len_app]; show 1 + _ + 1 ≤ _; simp only at l1; omega
  | may g hg =>
    have hl := len_sg g hg
    refine ⟨by rw [len_app, wr_len]; simp only at l0; omega, by rw [len_app, wr_len]; simp only at l1; omega, ?_, ?_⟩
    · simp only [List.mem_cons, List.not_mem_nil, or_false] at hg
      rcases hg with rfl | rfl
      · exact ⟨_, _, (c_may n3 a1 l0).1, (c_may n3 b1 l1).1, a2.may _, b2.may _, by rw [eq_may, e]⟩
      · exact ⟨_, _, (c_may n3 a1 l0).2, (c_may n3 b1 l1).2, a2.may _, b2.may _, by rw [eq_may, e]⟩
    · simp only [List.mem_cons, List.not_mem_nil, or_false] at hg
      rcases hg with rfl | rfl
      · exact ⟨_, (c_may n4 d1 l1).1, d2.may _⟩
      · exact ⟨_, (c_may n4 d1 l1).2, d2.may _⟩
  | ahead o ho g hg =>
    have := two_ok (C.al o ho) b hg
    rwa [Bool.true_and] at this
  | behind o ho g hg =>
    have := two_ok b (C.al o ho) hg
    rwa [Bool.and_true] at this
  | other o ho g hg =>
    have := two_ok b (C.un o ho) hg
    rwa [Bool.and_false] at this
  | turn =>
    refine ⟨by simp only at l1; omega, by rw [wr_len]; simp only at l0; omega, ⟨u, t, b1, c_wr n3 a1 l0, b2.good, a2.good, ?_⟩, v, c_wr n4 c1 l0, c2.good⟩
    rw [← e]
    exact eq_comm2 (sim_toD (okL_str ok3) b2.ok) (sim_toD (okL_str ok3) a2.ok)
/-! ### the kernel -/
def trOf : Nat → D → Tr
  | 0, _ => .emp
  | n + 1, .tup [.str w, y] => if w = "one" then (match y with | .str z => .one z | _ => .emp) else if w = "group" then .grp (trOf n y) else (match y with | .tup ds => .seq (decide (w = "row")) (ds.map (trOf n)) | _ => .emp)
  | n + 1, .tup [.str w, y, .str g] => .rep (if w = "many" then 42 else if w = "some" then 43 else 63) (trOf n y) (decide (g = "lazy"))
  | _ + 1, _ => .emp
def trT (L T : Str) : Tr := match go L T.cps.toList rs0 with
  | .tree d => trOf 12 d
  | _ => .emp
def bsB (L T : Str) : Bool := match go L T.cps.toList rs0 with
  | .tree d => eqDB (toD (trOf 12 d)) d && smB L (trOf 12 d)
  | _ => false
theorem bsB_ok {L T : Str} (h : bsB L T = true) : Bs L T (trT L T) := by
  unfold bsB at h
  unfold trT Bs Rd
  split at h
  · rename_i d e
    simp only [Bool.and_eq_true] at h
    rw [e]
    refine ⟨?_, smB_ok h.2⟩
    show RR.tree d = RR.tree (toD (trOf 12 d))
    rw [eqDB_ok h.1]
  · cases h
def baseB (p : Str × Str) (m : Bool) : Bool := decide (p.1.length ≤ 20) && (decide (p.2.length ≤ 20) && (bsB "abc" p.1 && (bsB "abc" p.2 && (bsB "abcd" p.1 && (bsB "abcd" p.2 && (eqDB (toD (trT "abc" p.1)) (toD (trT "abc" p.2)) == m))))))
theorem baseB_ok {p : Str × Str} {m : Bool} (h : baseB p m = true) : BaseOk p m := by
  simp only [baseB, Bool.and_eq_true, decide_eq_true_eq, beq_iff_eq] at h
  obtain ⟨h1, h2, h3, h4, h5, h6, h7⟩ := h
  exact ⟨h1, h2, ⟨_, _, bsB_ok h3, bsB_ok h4, h7⟩, ⟨_, bsB_ok h5⟩, _, bsB_ok h6⟩
theorem c_al : (alikeT.all fun p => baseB p true) = true := by decide +kernel
theorem c_un : (unlikeT.all fun p => baseB p false) = true := by decide +kernel
theorem chk15 : Chk15 := ⟨fun p hp => baseB_ok (List.all_eq_true.mp c_al p hp), fun p hp => baseB_ok (List.all_eq_true.mp c_un p hp)⟩
end EV.K15

namespace EV.K15
open PySem PySem.Spec PyProof.Rows L2 EV
def wb_law_0 : WS := wSeq (wPar [10, 11] (wCons (wCall sp_read (wCons (wC (.str "abc")) (wCons (wOp gIx (wVar 8) (wC (.int 0))) (wNil)))) (wCons (wCall sp_read (wCons (wC (.str "abc")) (wCons (wOp gIx (wVar 8) (wC (.int 1))) (wNil)))) (wNil)))) (wSeq (wIf (wOr (wB (wOp gNe (wBin (kOwn "Pattern" sp_PatternDD_eqDD false) (wVar 10) (wVar 11)) (wVar 9))) (wOr (wB (wOp gEq (wBin (kOwn "Pattern" sp_PatternDD_eqDD true) (wVar 10) (wVar 11)) (wVar 9))) (wB (wOp gNe (wOp gEq (wUn (kFld "Pattern" "tree") (wVar 10)) (wUn (kFld "Pattern" "tree") (wVar 11))) (wVar 9))))) (wRet (wC (.bl false))) (wNext)) (wIf (wOr (wB (wOp gNe (wUn (kFld "Pattern" "letters") (wVar 10)) (wC (.str "abc")))) (wOr (wB (wBin (kOwn "Pattern" sp_PatternDD_eqDD true) (wCall sp_read (wCons (wC (.str "abc")) (wCons (wOp gIx (wVar 8) (wC (.int 0))) (wNil)))) (wVar 10))) (wB (wBin (kOwn "Pattern" sp_PatternDD_eqDD false) (wCall sp_read (wCons (wC (.str "abcd")) (wCons (wOp gIx (wVar 8) (wC (.int 1))) (wNil)))) (wVar 11))))) (wRet (wC (.bl false))) (wNext)))
def wb_law_1 : WS := wSeq (wAsg (.tp [.nm 6, .nm 7]) (wCall sp__law_put (wCons (wVar 2) (wCons (wVar 4) (wCons (wVar 5) (wNil)))))) (wFor (wiTup (wTup (wCons (wTup (wCons (wVar 4) (wCons (wVar 5) (wNil)))) (wCons (wTup (wCons (wVar 6) (wCons (wVar 7) (wNil)))) (wNil))))) (.tp [.nm 8, .nm 9]) wb_law_0)
def wb_law_2 : WS := wSeq (wAsg (.nm 2) (wCall sp__law_source_of (wCons (wVar 1) (wNil)))) (wSeq (wAsg (.nm 3) (wOp gAdd (wLc (wiList (wCall sp__law_alike wNil)) [4] (.nm 4) (wYes) (wTup (wCons (wVar 4) (wCons (wC (.bl true)) (wNil))))) (wLc (wiList (wCall sp__law_unlike wNil)) [4] (.nm 4) (wYes) (wTup (wCons (wVar 4) (wCons (wC (.bl false)) (wNil))))))) (wFor (wiList (wVar 3)) (.tp [.nm 4, .nm 5]) wb_law_1))
def w_law : WS := wSeq (wFor (wiList (wOp gAdd (wLst (wCons (wCall sp__law_cell_at (wCons (wVar 0) (wCons (wC (.int 0)) (wNil)))) (wNil))) (wSl (wVar 0) (wPart (wC (.int 1))) (wPart (wC (.int 3)))))) (.nm 1) wb_law_2) (wRet (wC (.bl true)))
abbrev S12 (o0 o1 o2 o3 o4 o5 o6 o7 o8 o9 o10 o11 : Option D) : Sl := [o0, o1, o2, o3, o4, o5, o6, o7, o8, o9, o10, o11]
def prT (t : Tr) : PatR := ⟨toD t, grT t, (oneT t).map .str⟩
theorem read_new {L z : Str} {t : Tr} {wr : WA} {s : Sl} {h : Hh} {Q : PV} {E : PX} (ok : okL L = true) (hl : z.length ≤ 1000) (r : Rd L z t) (g : Good L t) (hw : ∀ QA E, wr s h QA E = QA [.str L, .str z] h) (q : Q (.ref h.length) (h ++ [patO (.str L) (prT t)])) : wCall sp_read wr s h Q E := by
  rw [e_call, hw]
  refine ⟨rfl, ?_⟩
  rw [read_good ok (by omega) r g]
  exact q
theorem e_bin {k : K2} {wa wb : WE} {s : Sl} {h : Hh} {Q : PV} {E : PX} : wBin k wa wb s h Q E = wa s h (fun d h1 => wb s h1 (fun e h2 => k s d e h2 Q E) E) E := rfl
theorem patLT_pat {h : Hh} {n : Nat} {L : D} {r : PatR} (e : h[n]? = some (patO L r)) : patLT h n = some (L, r.tree) := by
  unfold patLT
  rw [e]
  unfold patO
  simp only [and_self, if_true]
theorem own_eq {h : Hh} {n m : Nat} {L : Str} {t u : Tr} {neg : Bool} {s : Sl} {Q : PV} {E : PX} (ok : okL L = true) (hn : h[n]? = some (patO (.str L) (prT t))) (hm : h[m]? = some (patO (.str L) (prT u))) (g1 : Good L t) (g2 : Good L u) (q : Q (.bl (eqDB (toD t) (toD u) ^^ neg)) h) : kOwn "Pattern" sp_PatternDD_eqDD neg s (.ref n) (.ref m) h Q E := by
  refine ⟨n, m, _, _, rfl, rfl, hn, hm, rfl, ?_⟩
  have fe : f_patEq [.ref n, .ref m] h = some (.ok (.bl (eqDB (toD t) (toD u))) h) := by
    simp only [f_patEq, patLT_pat hn, patLT_pat hm, gEq_str, decide_true, bOf]
    rw [show (prT t).tree = toD t from rfl, show (prT u).tree = toD u from rfl, gEq_good ok ok g1 g2]
  rw [fe, GetO_ok]
  exact ⟨_, rfl, q⟩
theorem own_un {h : Hh} {n m : Nat} {L L' : Str} {t u : Tr} {neg : Bool} {s : Sl} {Q : PV} {E : PX} (hL : L ≠ L') (hn : h[n]? = some (patO (.str L) (prT t))) (hm : h[m]? = some (patO (.str L') (prT u))) (q : Q (.bl (false ^^ neg)) h) : kOwn "Pattern" sp_PatternDD_eqDD neg s (.ref n) (.ref m) h Q E := by
  refine ⟨n, m, _, _, rfl, rfl, hn, hm, rfl, ?_⟩
  have fe : f_patEq [.ref n, .ref m] h = some (.ok (.bl false) h) := by
    simp only [f_patEq, patLT_pat hn, patLT_pat hm, gEq_str, decide_eq_false hL, bOf]
  rw [fe, GetO_ok]
  exact ⟨_, rfl, q⟩
theorem gNe_b {a b : Bool} {h : Hh} : gNe (.bl a) (.bl b) h = some (.bl (a ^^ b), h) := by cases a <;> cases b <;> rfl
theorem gEq_b {a b : Bool} {h : Hh} : gEq (.bl a) (.bl b) h = some (.bl (!(a ^^ b)), h) := by cases a <;> cases b <;> rfl
theorem fld_pat {f : Str} {n : Nat} {h : Hh} {L v : D} {r : PatR} {s : Sl} {i : Nat} {Q : PV} {E : PX} (hs : s[i]? = some (some (.ref n))) (e : h[n]? = some (patO L r)) (hf : List.lookup f [(Str.ofString "letters", L), ("tree", r.tree), ("groups", .int r.groups), ("ones", .tup r.ones)] = some v) (q : Q v h) :
    wUn (kFld "Pattern" f) (wVar i) s h Q E := by
  rw [e_fld, e_var, hs, GetV_some, IsRef_ref, e]
  exact ⟨_, rfl, v, hf, q⟩
theorem law_0 {w0 w1 : Str} {m : Bool} (P : PairOk w0 w1 m) {B : DEnds} {h : Hh} {o0 o1 o2 o3 o4 o5 o6 o7 o10 o11 : Option D} (q : ∀ p10 p11 g, g.filter O.sys = [] → B.nx (S12 o0 o1 o2 o3 o4 o5 o6 o7 (some (.tup [.str w0, .str w1])) (some (.bl m)) p10 p11) (h ++ g)) :
    wb_law_0 B (S12 o0 o1 o2 o3 o4 o5 o6 o7 (some (.tup [.str w0, .str w1])) (some (.bl m)) o10 o11) h := by
  obtain ⟨l0, l1, ⟨t, u, r1, r2, g1, g2, e⟩, v, r3, g3⟩ := P
  unfold wb_law_0
  rw [e_seq, e_par, e_cons]
  refine read_new ok3 l0 r1 g1 (fun _ _ => ?_) ?_
  · simp only [e_cons, e_c, e_op, e_var, e_nil, List.getElem?_cons_succ, List.getElem?_cons_zero, GetV_some, it0, Get_some]
  rw [e_cons]
  refine read_new ok3 l1 r2 g2 (fun _ _ => ?_) ?_
  · simp only [e_cons, e_c, e_op, e_var, e_nil, List.getElem?_cons_succ, List.getElem?_cons_zero, GetV_some, it1, Get_some]
  rw [e_nil]
  refine ⟨rfl, ?_⟩
  have hg1 : ∀ g, (h ++ [patO (.str "abc") (prT t)] ++ [patO (.str "abc") (prT u)] ++ g)[h.length]? = some (patO (.str "abc") (prT t)) := fun g => by rw [List.append_assoc, List.append_assoc, ap_get0]; rfl
  have hg2 : ∀ g, (h ++ [patO (.str "abc") (prT t)] ++ [patO (.str "abc") (prT u)] ++ g)[(h ++ [patO (.str "abc") (prT t)]).length]? = some (patO (.str "abc") (prT u)) := fun g => by rw [List.append_assoc, ap_get0]; rfl
  revert hg1 hg2
  generalize hN : (h ++ [patO (.str "abc") (prT t)]).length = N
  generalize hH : h ++ [patO (.str "abc") (prT t)] ++ [patO (.str "abc") (prT u)] = h1
  intro hg1 hg2
  have ha1 := hg1 []
  have ha2 := hg2 []
  rw [List.append_nil] at ha1 ha2
  try simp only [nx_of]
  show wSeq (wIf _ _ _) _ _ (S12 o0 o1 o2 o3 o4 o5 o6 o7 (some (.tup [.str w0, .str w1])) (some (.bl m)) (some (.ref h.length)) (some (.ref N))) h1
  rw [e_seq, e_if, e_or, e_b, e_op]
  rw [e_bin]
  rw [e_var]
  simp only [List.getElem?_cons_succ, List.getElem?_cons_zero, GetV_some]
  rw [e_var]
  simp only [List.getElem?_cons_succ, List.getElem?_cons_zero, GetV_some]
  refine own_eq ok3 ha1 ha2 g1 g2 ?_
  rw [e_var, e]
  simp only [List.getElem?_cons_succ, List.getElem?_cons_zero, GetV_some, gNe_b, Get_some, IsB_bl, Bool.xor_false, Bool.xor_self, Bool.false_eq_true, if_false]
  rw [e_or, e_b, e_op]
  rw [e_bin]
  rw [e_var]
  simp only [List.getElem?_cons_succ, List.getElem?_cons_zero, GetV_some]
  rw [e_var]
  simp only [List.getElem?_cons_succ, List.getElem?_cons_zero, GetV_some]
  refine own_eq ok3 ha1 ha2 g1 g2 ?_
  rw [e_var, e]
  simp only [List.getElem?_cons_succ, List.getElem?_cons_zero, GetV_some, gEq_b, Get_some, IsB_bl]
  rw [show (!((m ^^ true) ^^ m)) = false by cases m <;> rfl]
  simp only [Bool.false_eq_true, if_false]
  rw [e_b, e_op, e_op]
  refine fld_pat rfl ha1 (v := toD t) (by simp [List.lookup, prT]) ?_
  refine fld_pat rfl ha2 (v := toD u) (by simp [List.lookup, prT]) ?_
  rw [gEq_good ok3 ok3 g1 g2, Get_some, e_var, e]
  simp only [List.getElem?_cons_succ, List.getElem?_cons_zero, GetV_some, gNe_b, Get_some, IsB_bl, Bool.xor_self, Bool.false_eq_true, if_false, e_next, nx_of]
  -- the second if
  rw [e_if, e_or, e_b, e_op]
  refine fld_pat rfl ha1 (v := .str "abc") (by simp [List.lookup]) ?_
  rw [e_c]
  simp only [gNe_str, decide_true, Bool.not_true, Get_some, IsB_bl, Bool.false_eq_true, if_false]
  rw [e_or, e_b]
  rw [e_bin]
  refine read_new ok3 l0 r1 g1 (fun _ _ => ?_) ?_
  · simp only [e_cons, e_c, e_op, e_var, e_nil, List.getElem?_cons_succ, List.getElem?_cons_zero, GetV_some, it0, Get_some]
  rw [e_var]
  simp only [List.getElem?_cons_succ, List.getElem?_cons_zero, GetV_some]
  refine own_eq ok3 (by rw [ap_get0]; rfl) (hg1 _) g1 g1 ?_
  rw [eqDB_refl (sim_toD (okL_str ok3) g1.ok)]
  simp only [Bool.xor_self, IsB_bl, Bool.false_eq_true, if_false]
  rw [e_b]
  rw [e_bin]
  refine read_new ok4 l1 r3 g3 (fun _ _ => ?_) ?_
  · simp only [e_cons, e_c, e_op, e_var, e_nil, List.getElem?_cons_succ, List.getElem?_cons_zero, GetV_some, it1, Get_some]
  rw [e_var]
  simp only [List.getElem?_cons_succ, List.getElem?_cons_zero, GetV_some]
  refine own_un (L := "abcd") (L' := "abc") (t := v) (u := u) (by decide +kernel) (by rw [ap_get0]; rfl) (by rw [List.append_assoc]; exact hg2 _) ?_
  simp only [Bool.xor_false, IsB_bl, Bool.false_eq_true, if_false, e_next]
  rw [← hH, List.append_assoc, List.append_assoc, List.append_assoc]
  exact q _ _ _ rfl
theorem law_1 (C : Chk15) {p : Str × Str} {al : Bool} (b : BaseOk p al) {n : Nat} {h0 hA : Hh} (hn : n < h0.length) (aA : Al n h0 hA) {B : DEnds} {o0 o1 o3 o6 o7 o8 o9 o10 o11 : Option D}
    (q : ∀ p6 p7 p8 p9 p10 p11 hh, Al n h0 hh → Keep h0.length hA hh → B.nx (S12 o0 o1 (some (.ref n)) o3 (some (prD p)) (some (.bl al)) p6 p7 p8 p9 p10 p11) hh) :
    wb_law_1 B (S12 o0 o1 (some (.ref n)) o3 (some (prD p)) (some (.bl al)) o6 o7 o8 o9 o10 o11) hA := by
  unfold wb_law_1
  rw [e_seq, e_asg, e_call]
  simp only [e_cons, e_c, e_var, e_nil, List.getElem?_cons_succ, List.getElem?_cons_zero, GetV_some]
  obtain ⟨x, y, z, ex⟩ := aA.get hn
  refine ⟨n, x, y, z, p.1, p.2, al, rfl, ex, b.l0, b.l1, fun w0 w1 m k x y z => ⟨_, asgD_tp2, ?_⟩⟩
  have P := put_ok C (p1 := p.1) (p2 := p.2) b k
  have aB : Al n h0 (hA.set n (src x y z)) := aA.set hn
  have kB : Keep h0.length hA (hA.set n (src x y z)) := Keep.set hn
  revert aB kB
  generalize hA.set n (src x y z) = hB
  intro aB kB
  try simp only [nx_of]
  show wFor _ _ _ _ (S12 o0 o1 (some (.ref n)) o3 (some (prD p)) (some (.bl al)) (some (.tup [.str w0, .str w1])) (some (.bl m)) o8 o9 o10 o11) hB
  rw [e_for, e_iTup]
  simp only [e_tup, e_cons, e_var, e_nil, List.getElem?_cons_succ, List.getElem?_cons_zero, GetV_some]
  refine ⟨by show 2 ≤ sizeLine; decide, by show 2 ≤ sizeLine; decide, by show 2 ≤ sizeLine; decide, _, rfl, ?_⟩
  refine loop_inv (fun s h' => Al n h0 h' ∧ Keep h0.length hA h' ∧ ∃ p8 p9 p10 p11, s = S12 o0 o1 (some (.ref n)) o3 (some (prD p)) (some (.bl al)) (some (.tup [.str w0, .str w1])) (some (.bl m)) p8 p9 p10 p11) _ ?_ ?_ _ _ ⟨aB, kB, _, _, _, _, rfl⟩
  · rintro d hd s h' ⟨a1, k1, p8, p9, p10, p11, rfl⟩
    obtain ⟨v0, v1, mm, rfl, PP⟩ : ∃ v0 v1 mm, d = .tup [.tup [.str v0, .str v1], .bl mm] ∧ PairOk v0 v1 mm := by
      simp only [List.mem_cons, List.not_mem_nil, or_false] at hd
      rcases hd with rfl | rfl
      · exact ⟨_, _, _, rfl, base_pair b⟩
      · exact ⟨_, _, _, rfl, P⟩
    refine ⟨trivial, _, asgD_tp2, fun K hK => ?_⟩
    show wb_law_0 _ (S12 o0 o1 (some (.ref n)) o3 (some (prD p)) (some (.bl al)) (some (.tup [.str w0, .str w1])) (some (.bl m)) (some (.tup [.str v0, .str v1])) (some (.bl mm)) p10 p11) h'
    exact law_0 PP fun p10 p11 g eg => hK _ _ ⟨a1.app eg, k1.trans Keep.app, _, _, _, _, rfl⟩
  · rintro s h' ⟨a1, k1, p8, p9, p10, p11, rfl⟩
    exact ⟨trivial, q _ _ _ _ _ _ _ a1 k1⟩
/-- [(pair, b) for pair in table()] -/
theorem lc_tab {f : List D → Hh → Option Out} {tbl : List (Str × Str)} {b : Bool} {s : Sl} {h : Hh} {Q : PV} {E : PX} (hf : f [] h = some (.ok (.ref h.length) (h ++ [.lst (tbl.map prD)]))) (hl : tbl.length ≤ 100) (h4 : 4 < s.length) (q : Q (.ref (h.length + 1)) (h ++ [.lst (tbl.map prD), .lst ((tbl.map prD).map fun d => .tup [d, .bl b])])) :
    wLc (wiList (wCall (spN 0 f) wNil)) [4] (.nm 4) (wYes) (wTup (wCons (wVar 4) (wCons (wC (.bl b)) (wNil)))) s h Q E := by
  rw [e_lc, e_iList, e_call, e_nil]
  refine ⟨rfl, ?_⟩
  rw [hf, GetO_ok]
  refine ⟨h.length, rfl, tbl.map prD, ls_of (by rw [ap_get0]; rfl), ?_⟩
  refine lc_map (h := h ++ [.lst (tbl.map prD)]) (fun d => .tup [d, .bl b]) ?_ (tbl.map prD) ?_ (by rw [List.length_map]; unfold sizeLine; omega) ?_
  · intro acc
    show lsOf (h ++ [.lst (tbl.map prD)] ++ [.lst acc]) h.length = some (tbl.map prD)
    exact ls_of (by rw [List.append_assoc, ap_get0]; rfl)
  · intro d hd
    refine ⟨_, asgD_nm, fun acc Q' E' q' => ?_⟩
    have e4 : ((wipeD s [4]).set 4 (some d))[4]? = some (some d) := by
      simp only [wipeD]
      rw [List.getElem?_set_self (by rw [List.length_set]; exact h4)]
    simp only [e_tup, e_cons, e_var, e_c, e_nil, e4, GetV_some]
    exact ⟨by show 2 ≤ sizeLine; decide, q'⟩
  · rw [List.length_append, List.length_singleton, List.append_assoc]
    exact q
def rowsD : List D := ((alikeT.map prD).map fun d => .tup [d, .bl true]) ++ ((unlikeT.map prD).map fun d => .tup [d, .bl false])
theorem rows_at (C : Chk15) {d : D} (h : d ∈ rowsD) : ∃ p b, d = .tup [prD p, .bl b] ∧ BaseOk p b := by
  unfold rowsD at h
  rcases List.mem_append.mp h with h | h
  · obtain ⟨e, he, rfl⟩ := List.mem_map.mp h
    obtain ⟨p, hp, rfl⟩ := List.mem_map.mp he
    exact ⟨p, true, rfl, C.al p hp⟩
  · obtain ⟨e, he, rfl⟩ := List.mem_map.mp h
    obtain ⟨p, hp, rfl⟩ := List.mem_map.mp he
    exact ⟨p, false, rfl, C.un p hp⟩
theorem b_law (C : Chk15) {T : List (Addr × Str)} {h : Hh} {n : Nat} {xs : List D} (sy : SysIs T h) (hl : lsOf h n = some xs) (hx : xs.length ≤ 100000) (hi : ∀ x ∈ xs, ∃ i, x = .int i) {Q : PV} (E : PX) (q : ∀ h', Q (.bl true) h') :
    w_law (endsOf Q E) (slots0 ["_law_script", "_law_cell", "_law_source", "_law_rows", "_law_pair", "_law_is_alike", "_law_wide", "_law_is_same", "_law_some", "_law_must", "_law_one_here", "_law_other"] [.ref n]) h := by
  unfold w_law
  show wSeq (wFor _ _ _) _ _ (S12 (some (.ref n)) none none none none none none none none none none none) h
  rw [e_seq]
  refine cells_loop (S := fun s => ∃ o1 o2 o3 o4 o5 o6 o7 o8 o9 o10 o11, s = S12 (some (.ref n)) o1 o2 o3 o4 o5 o6 o7 o8 o9 o10 o11) sy hl hx hi rfl ⟨_, _, _, _, _, _, _, _, _, _, _, rfl⟩ ?_ (fun s h' _ _ => q h')
  rintro j s h' ⟨o1, o2, o3, o4, o5, o6, o7, o8, o9, o10, o11, rfl⟩ sy' K hK
  unfold wb_law_2
  show wSeq (wAsg _ _) _ _ (S12 (some (.ref n)) (some (.int j)) o2 o3 o4 o5 o6 o7 o8 o9 o10 o11) h'
  rw [e_seq, e_asg, e_call]
  simp only [e_cons, e_var, e_nil, List.getElem?_cons_succ, List.getElem?_cons_zero, GetV_some]
  refine ⟨j, rfl, fun a b c => ⟨_, asgD_nm, ?_⟩⟩
  have e0 : (h' ++ [src a b c])[h'.length]? = some (src a b c) := by rw [ap_get0]; rfl
  have hn : h'.length < (h' ++ [src a b c]).length := by simp
  have sy0 : SysIs T (h' ++ [src a b c]) := sy'.add rfl
  have fin : ∀ hh, Al h'.length (h' ++ [src a b c]) hh → ∀ o1 o2 o3 o4 o5 o6 o7 o8 o9 o10 o11, K (S12 (some (.ref n)) o1 o2 o3 o4 o5 o6 o7 o8 o9 o10 o11) hh := fun hh al o1 o2 o3 o4 o5 o6 o7 o8 o9 o10 o11 => by
    have sy2 := al.sys e0 sy0
    obtain ⟨x, y, z, g, rfl, eg⟩ := al
    rw [ap_set0] at sy2 ⊢
    rw [List.append_assoc] at sy2 ⊢
    exact hK _ _ ⟨_, _, _, _, _, _, _, _, _, _, _, rfl⟩ sy2
  try simp only [nx_of]
  show wSeq (wAsg _ _) _ _ (S12 (some (.ref n)) (some (.int j)) (some (.ref h'.length)) o3 o4 o5 o6 o7 o8 o9 o10 o11) (h' ++ [src a b c])
  have alr : Al h'.length (h' ++ [src a b c]) (h' ++ [src a b c]) := Al.refl e0
  revert e0 hn sy0 fin alr
  generalize h' ++ [src a b c] = h0
  intro e0 hn sy0 fin alr
  rw [e_seq, e_asg, e_op]
  refine lc_tab (f := f_alike) rfl (by decide) (by simp) ?_
  refine lc_tab (f := f_unlike) rfl (by decide) (by simp) ?_
  rw [List.append_assoc, List.length_append]
  show Get (gAdd (.ref (h0.length + 1)) (.ref (h0.length + 3)) (h0 ++ [O.lst (alikeT.map prD), O.lst ((alikeT.map prD).map fun d => .tup [d, .bl true]), O.lst (unlikeT.map prD), O.lst ((unlikeT.map prD).map fun d => .tup [d, .bl false])])) _
  rw [gAdd_lst (ap_get _ _ 1) (ap_get _ _ 3) (by decide), Get_some]
  refine ⟨_, asgD_nm, ?_⟩
  rw [List.append_assoc, List.length_append]
  have al1 : Al h'.length h0 (h0 ++ ([O.lst (alikeT.map prD), O.lst ((alikeT.map prD).map fun d => .tup [d, .bl true]), O.lst (unlikeT.map prD), O.lst ((unlikeT.map prD).map fun d => .tup [d, .bl false])] ++ [O.lst rowsD])) := alr.app
  have eR : (h0 ++ ([O.lst (alikeT.map prD), O.lst ((alikeT.map prD).map fun d => .tup [d, .bl true]), O.lst (unlikeT.map prD), O.lst ((unlikeT.map prD).map fun d => .tup [d, .bl false])] ++ [O.lst rowsD]))[h0.length + 4]? = some (.lst rowsD) := by rw [ap_get]; rfl
  try simp only [nx_of]
  show wFor _ _ _ _ (S12 (some (.ref n)) (some (.int j)) (some (.ref h'.length)) (some (.ref (h0.length + 4))) o4 o5 o6 o7 o8 o9 o10 o11) (h0 ++ ([O.lst (alikeT.map prD), O.lst ((alikeT.map prD).map fun d => .tup [d, .bl true]), O.lst (unlikeT.map prD), O.lst ((unlikeT.map prD).map fun d => .tup [d, .bl false])] ++ [O.lst rowsD]))
  revert al1 eR
  generalize h0 ++ ([O.lst (alikeT.map prD), O.lst ((alikeT.map prD).map fun d => .tup [d, .bl true]), O.lst (unlikeT.map prD), O.lst ((unlikeT.map prD).map fun d => .tup [d, .bl false])] ++ [O.lst rowsD]) = h1
  intro al1 eR
  rw [e_for, e_iList, e_var]
  simp only [List.getElem?_cons_succ, List.getElem?_cons_zero, GetV_some]
  refine ⟨h0.length + 4, rfl, rowsD, ls_of eR, ?_⟩
  refine loop_inv (fun s hh => Al h'.length h0 hh ∧ hh[h0.length + 4]? = some (.lst rowsD) ∧ ∃ o4 o5 o6 o7 o8 o9 o10 o11, s = S12 (some (.ref n)) (some (.int j)) (some (.ref h'.length)) (some (.ref (h0.length + 4))) o4 o5 o6 o7 o8 o9 o10 o11) rowsD ?_ ?_ _ _ ⟨al1, eR, _, _, _, _, _, _, _, _, rfl⟩
  · rintro d hd s hh ⟨a1, e1, o4, o5, o6, o7, o8, o9, o10, o11, rfl⟩
    obtain ⟨p, bb, rfl, bo⟩ := rows_at C hd
    refine ⟨ls_of e1, _, asgD_tp2, fun K2 hK2 => ?_⟩
    show wb_law_1 _ (S12 (some (.ref n)) (some (.int j)) (some (.ref h'.length)) (some (.ref (h0.length + 4))) (some (prD p)) (some (.bl bb)) o6 o7 o8 o9 o10 o11) hh
    exact law_1 C bo hn a1 fun p6 p7 p8 p9 p10 p11 h2 a2 k2 => hK2 _ _ ⟨a2, k2 _ _ (by omega) e1, _, _, _, _, _, _, _, _, rfl⟩
  · rintro s hh ⟨a1, e1, o4, o5, o6, o7, o8, o9, o10, o11, rfl⟩
    exact ⟨ls_of e1, fin hh a1 _ _ _ _ _ _ _ _ _ _ _⟩
theorem b_lawT {T : List (Addr × Str)} : ∀ ds h Q E, ScH h → ScDs h.length ds → Clo h.length Q → CloX h.length E → sp_lawT T ds h Q E → w_law (endsOf Q E) (slots0 ["_law_script", "_law_cell", "_law_source", "_law_rows", "_law_pair", "_law_is_alike", "_law_wide", "_law_is_same", "_law_some", "_law_must", "_law_one_here", "_law_other"] ds) h := by
  rintro ds h Q E _ _ _ _ ⟨ns, rfl, hl, hn, sy, q⟩
  exact b_law chk15 sy hl (by rw [List.length_map]; omega) (fun x hx => by obtain ⟨i, _, e⟩ := List.mem_map.mp hx; exact ⟨i, e.symm⟩) E q
end EV.K15

namespace EV.K15
open PySem PySem.Spec PyProof.Rows L2 EV
def topS (i : Nat) : Stmt := PySem.Challenge.pw_leastregs_k15_whole_texts_alike_and_unli.main.body.getD i (.Pass ⟨0, 0, 0, 0⟩)
def w_NoPatternDD_initDD : WS := wSeq (wExpr (wXIni "NoPattern" (wCons (wVar 0) (wCons (wC (.str "an object that is no tree")) (wNil))))) (wSeq (wSetX "NoPattern" "at" (wVar 0) (wVar 1)) (wSetX "NoPattern" "why" (wVar 0) (wVar 2)))
def w_NoTextDD_initDD : WS := wSeq (wExpr (wXIni "NoText" (wCons (wVar 0) (wCons (wC (.str "an object that is no text of these letters or of this form")) (wNil))))) (wSetX "NoText" "at" (wVar 0) (wVar 1))
abbrev st_NoPatternDD_initDD : Stmt := inClass (topS 2) 0
theorem sc_NoPatternDD_initDD : FnScope ["self", "at", "why"] ["self", "at", "why"] (defScope st_NoPatternDD_initDD) := ⟨rfl, rfl, rfl, by decide +kernel, rfl, by decide +kernel, by decide +kernel⟩
theorem d_NoPatternDD_initDD {P : Program} {w : World} {K : PySem.W.Frag} {mg : Str → Option Value} {base : Heap} {f : Addr} (xc_NoPattern : GXC K mg "NoPattern") (xf_NoPattern_at : GXF K mg "NoPattern" "at") (xf_NoPattern_why : GXF K mg "NoPattern" "why") (xi_RegsError : GXI K mg "RegsError") (cdv : Value) (A : Around) (outer : List Env) (s : Shared) (H : Hp) (E : XK) (hr : Room 0 (cxOf (L2.CX P w) P w K mg base ["self", "at", "why"] "NoPattern.__init__" (defScope st_NoPatternDD_initDD) f cdv A outer s H E).A) (tk : Takes (cxOf (L2.CX P w) P w K mg base ["self", "at", "why"] "NoPattern.__init__" (defScope st_NoPatternDD_initDD) f cdv A outer s H E) (nS E)) (hp : PassesOwn (model P w) (cxOf (L2.CX P w) P w K mg base ["self", "at", "why"] "NoPattern.__init__" (defScope st_NoPatternDD_initDD) f cdv A outer s H E).A (cxOf (L2.CX P w) P w K mg base ["self", "at", "why"] "NoPattern.__init__" (defScope st_NoPatternDD_initDD) f cdv A outer s H E).env (cxOf (L2.CX P w) P w K mg base ["self", "at", "why"] "NoPattern.__init__" (defScope st_NoPatternDD_initDD) f cdv A outer s H E).xe) :
    DSs (cxOf (L2.CX P w) P w K mg base ["self", "at", "why"] "NoPattern.__init__" (defScope st_NoPatternDD_initDD) f cdv A outer s H E) (nS E) (defBody st_NoPatternDD_initDD) (w_NoPatternDD_initDD) := by
  have nd := sc_NoPatternDD_initDD.nd
  exact dss_cons (ds_expr (de_xini xi_RegsError xc_NoPattern (da_cons (de_var 0) (da_cons (de_str) (da_nil))))) (dss_cons (ds_xfld xf_NoPattern_at (de_var 0) (de_var 1)) (dss_one (ds_xfld xf_NoPattern_why (de_var 0) (de_var 2))))
abbrev st_NoTextDD_initDD : Stmt := inClass (topS 3) 0
theorem sc_NoTextDD_initDD : FnScope ["self", "at"] ["self", "at"] (defScope st_NoTextDD_initDD) := ⟨rfl, rfl, rfl, by decide +kernel, rfl, by decide +kernel, by decide +kernel⟩
theorem d_NoTextDD_initDD {P : Program} {w : World} {K : PySem.W.Frag} {mg : Str → Option Value} {base : Heap} {f : Addr} (xc_NoText : GXC K mg "NoText") (xf_NoText_at : GXF K mg "NoText" "at") (xi_RegsError : GXI K mg "RegsError") (cdv : Value) (A : Around) (outer : List Env) (s : Shared) (H : Hp) (E : XK) (hr : Room 0 (cxOf (L2.CX P w) P w K mg base ["self", "at"] "NoText.__init__" (defScope st_NoTextDD_initDD) f cdv A outer s H E).A) (tk : Takes (cxOf (L2.CX P w) P w K mg base ["self", "at"] "NoText.__init__" (defScope st_NoTextDD_initDD) f cdv A outer s H E) (nS E)) (hp : PassesOwn (model P w) (cxOf (L2.CX P w) P w K mg base ["self", "at"] "NoText.__init__" (defScope st_NoTextDD_initDD) f cdv A outer s H E).A (cxOf (L2.CX P w) P w K mg base ["self", "at"] "NoText.__init__" (defScope st_NoTextDD_initDD) f cdv A outer s H E).env (cxOf (L2.CX P w) P w K mg base ["self", "at"] "NoText.__init__" (defScope st_NoTextDD_initDD) f cdv A outer s H E).xe) :
    DSs (cxOf (L2.CX P w) P w K mg base ["self", "at"] "NoText.__init__" (defScope st_NoTextDD_initDD) f cdv A outer s H E) (nS E) (defBody st_NoTextDD_initDD) (w_NoTextDD_initDD) := by
  have nd := sc_NoTextDD_initDD.nd
  exact dss_cons (ds_expr (de_xini xi_RegsError xc_NoText (da_cons (de_var 0) (da_cons (de_str) (da_nil))))) (dss_one (ds_xfld xf_NoText_at (de_var 0) (de_var 1)))
abbrev st_is_row : Stmt := topS 5
theorem sc_is_row : FnScope ["thing"] ["thing"] (defScope st_is_row) := ⟨rfl, rfl, rfl, by decide +kernel, rfl, by decide +kernel, by decide +kernel⟩
theorem d_is_row {P : Program} {w : World} {K : PySem.W.Frag} {mg : Str → Option Value} {base : Heap} {f : Addr} (b_isinstance : mg "isinstance" = none) (b_list : mg "list" = none) (b_tuple : mg "tuple" = none) (cdv : Value) (A : Around) (outer : List Env) (s : Shared) (H : Hp) (E : XK) (hr : Room 0 (cxOf (L2.CX P w) P w K mg base ["thing"] "is_row" (defScope st_is_row) f cdv A outer s H E).A) (tk : Takes (cxOf (L2.CX P w) P w K mg base ["thing"] "is_row" (defScope st_is_row) f cdv A outer s H E) (nS E)) (hp : PassesOwn (model P w) (cxOf (L2.CX P w) P w K mg base ["thing"] "is_row" (defScope st_is_row) f cdv A outer s H E).A (cxOf (L2.CX P w) P w K mg base ["thing"] "is_row" (defScope st_is_row) f cdv A outer s H E).env (cxOf (L2.CX P w) P w K mg base ["thing"] "is_row" (defScope st_is_row) f cdv A outer s H E).xe) :
    DSs (cxOf (L2.CX P w) P w K mg base ["thing"] "is_row" (defScope st_is_row) f cdv A outer s H E) (nS E) (defBody st_is_row) (w_is_row) := by
  have nd := sc_is_row.nd
  exact dss_one (ds_ret (de_callB (ok_isinst) b_isinstance (by decide +kernel) (da_cons (de_var 0) (da_cons (de_tup (da_cons (de_ty b_list (by decide +kernel)) (da_cons (de_ty b_tuple (by decide +kernel)) (da_nil)))) (da_nil)))))
abbrev st_are_letters : Stmt := topS 17
theorem sc_are_letters : FnScope ["thing", "allowed", "sign", "one", "other"] ["thing", "allowed"] (defScope st_are_letters) := ⟨rfl, rfl, rfl, by decide +kernel, rfl, by decide +kernel, by decide +kernel⟩
theorem d_are_letters {P : Program} {w : World} {K : PySem.W.Frag} {mg : Str → Option Value} {base : Heap} {f : Addr} (b_all : mg "all" = none) (b_isinstance : mg "isinstance" = none) (b_str : mg "str" = none) (b_zip : mg "zip" = none) (cdv : Value) (A : Around) (outer : List Env) (s : Shared) (H : Hp) (E : XK) (hr : Room 0 (cxOf (L2.CX P w) P w K mg base ["thing", "allowed", "sign", "one", "other"] "are_letters" (defScope st_are_letters) f cdv A outer s H E).A) (tk : Takes (cxOf (L2.CX P w) P w K mg base ["thing", "allowed", "sign", "one", "other"] "are_letters" (defScope st_are_letters) f cdv A outer s H E) (nS E)) (hp : PassesOwn (model P w) (cxOf (L2.CX P w) P w K mg base ["thing", "allowed", "sign", "one", "other"] "are_letters" (defScope st_are_letters) f cdv A outer s H E).A (cxOf (L2.CX P w) P w K mg base ["thing", "allowed", "sign", "one", "other"] "are_letters" (defScope st_are_letters) f cdv A outer s H E).env (cxOf (L2.CX P w) P w K mg base ["thing", "allowed", "sign", "one", "other"] "are_letters" (defScope st_are_letters) f cdv A outer s H E).xe) :
    DSs (cxOf (L2.CX P w) P w K mg base ["thing", "allowed", "sign", "one", "other"] "are_letters" (defScope st_are_letters) f cdv A outer s H E) (nS E) (defBody st_are_letters) (w_are_letters) := by
  have nd := sc_are_letters.nd
  exact dss_cons (ds_if (DW.dt (dw_or (dt_not (dt_tru (de_callB (ok_isinst) b_isinstance (by decide +kernel) (da_cons (de_var 0) (da_cons (de_ty b_str (by decide +kernel)) (da_nil)))))) (dw_or1 (dt_cmp (ok_eq (hu64 hr)) (de_var 0) (de_str))))) (dss_one (ds_ret (de_bl))) (dss_nil)) (dss_one (ds_ret (de_and (de_callB (ok_all rfl) b_all (by decide +kernel) (da_cons (de_lc (own := [("sign", 2)]) rfl nd (di_str (de_var 0)) (blkOk_by (N := ["thing", "allowed", "sign", "one", "other"]) (sc := defScope st_are_letters) (own := [("sign", 2)]) (by decide +kernel)) (fun _ _ _ _ _ => dg_name 2 nd) (fun _ _ _ _ _ => dts_nil) (fun _ _ _ _ _ => de_cmp ok_in (de_var 2) (de_var 1))) (da_nil))) (de_one (de_callB (ok_all rfl) b_all (by decide +kernel) (da_cons (de_lc (own := [("one", 3), ("other", 4)]) rfl nd (di_zipS b_zip rfl (da_cons (de_var 0) (da_cons (de_sl (de_var 0) (do_some (de_int)) (do_none)) (da_nil)))) (blkOk_by (N := ["thing", "allowed", "sign", "one", "other"]) (sc := defScope st_are_letters) (own := [("one", 3), ("other", 4)]) (by decide +kernel)) (fun _ _ _ _ _ => dg_tup rfl (dgs_cons (dg_name 3 nd) (dgs_cons (dg_name 4 nd) (dgs_nil)))) (fun _ _ _ _ _ => dts_nil) (fun _ _ _ _ _ => de_cmp ok_lt (de_var 3) (de_var 4))) (da_nil)))))))
abbrev st_check_letters : Stmt := topS 18
theorem sc_check_letters : FnScope ["letters"] ["letters"] (defScope st_check_letters) := ⟨rfl, rfl, rfl, by decide +kernel, rfl, by decide +kernel, by decide +kernel⟩
theorem d_check_letters {P : Program} {w : World} {K : PySem.W.Frag} {mg : Str → Option Value} {base : Heap} {f : Addr} (b_len : mg "len" = none) (c_ALPHABET : GC K mg "ALPHABET" (.str "abcdefghijklmnopqrstuvwxyz")) (c_MOST_LETTERS : GC K mg "MOST_LETTERS" (.int 4)) (g_are_letters : GF P w K mg base "are_letters" 1 sp_are_letters) (x_NoPattern : GX P w K mg base "NoPattern" 1 sp_NoPatternDD_initDD) (cdv : Value) (A : Around) (outer : List Env) (s : Shared) (H : Hp) (E : XK) (hr : Room 2 (cxOf (L2.CX P w) P w K mg base ["letters"] "check_letters" (defScope st_check_letters) f cdv A outer s H E).A) (tk : Takes (cxOf (L2.CX P w) P w K mg base ["letters"] "check_letters" (defScope st_check_letters) f cdv A outer s H E) (nS E)) (hp : PassesOwn (model P w) (cxOf (L2.CX P w) P w K mg base ["letters"] "check_letters" (defScope st_check_letters) f cdv A outer s H E).A (cxOf (L2.CX P w) P w K mg base ["letters"] "check_letters" (defScope st_check_letters) f cdv A outer s H E).env (cxOf (L2.CX P w) P w K mg base ["letters"] "check_letters" (defScope st_check_letters) f cdv A outer s H E).xe) :
    DSs (cxOf (L2.CX P w) P w K mg base ["letters"] "check_letters" (defScope st_check_letters) f cdv A outer s H E) (nS E) (defBody st_check_letters) (w_check_letters) := by
  have nd := sc_check_letters.nd
  exact dss_one (ds_if (DW.dt (dw_or (dt_not (dt_tru (de_call g_are_letters tk hr (da_cons (de_var 0) (da_cons (de_glob c_ALPHABET) (da_nil))) (hj := by omega)))) (dw_or1 (dt_cmp ok_gt (de_callB (ok_len) b_len (by decide +kernel) (da_cons (de_var 0) (da_nil))) (de_glob c_MOST_LETTERS))))) (dss_one (ds_raise rfl x_NoPattern tk hr (da_cons (de_neg (de_int)) (da_cons (de_str) (da_nil))) (hj := by omega))) (dss_nil))
abbrev st_has_form : Stmt := topS 19
theorem sc_has_form : FnScope ["thing"] ["thing"] (defScope st_has_form) := ⟨rfl, rfl, rfl, by decide +kernel, rfl, by decide +kernel, by decide +kernel⟩
theorem d_has_form {P : Program} {w : World} {K : PySem.W.Frag} {mg : Str → Option Value} {base : Heap} {f : Addr} (b_isinstance : mg "isinstance" = none) (b_len : mg "len" = none) (b_str : mg "str" = none) (b_tuple : mg "tuple" = none) (c_MOST_PARTS : GC K mg "MOST_PARTS" (.int 8)) (g_is_row : GF P w K mg base "is_row" 1 sp_is_row) (wd_SIZES : WD K mg w "SIZES" tblSizes) (cdv : Value) (A : Around) (outer : List Env) (s : Shared) (H : Hp) (E : XK) (hr : Room 1 (cxOf (L2.CX P w) P w K mg base ["thing"] "has_form" (defScope st_has_form) f cdv A outer s H E).A) (tk : Takes (cxOf (L2.CX P w) P w K mg base ["thing"] "has_form" (defScope st_has_form) f cdv A outer s H E) (nS E)) (hp : PassesOwn (model P w) (cxOf (L2.CX P w) P w K mg base ["thing"] "has_form" (defScope st_has_form) f cdv A outer s H E).A (cxOf (L2.CX P w) P w K mg base ["thing"] "has_form" (defScope st_has_form) f cdv A outer s H E).env (cxOf (L2.CX P w) P w K mg base ["thing"] "has_form" (defScope st_has_form) f cdv A outer s H E).xe) :
    DSs (cxOf (L2.CX P w) P w K mg base ["thing"] "has_form" (defScope st_has_form) f cdv A outer s H E) (nS E) (defBody st_has_form) (w_has_form) := by
  have nd := sc_has_form.nd
  exact dss_cons (ds_if (DW.dt (dw_or (dt_not (dt_tru (de_callB (ok_isinst) b_isinstance (by decide +kernel) (da_cons (de_var 0) (da_cons (de_ty b_tuple (by decide +kernel)) (da_nil)))))) (dw_or (dt_cmp (ok_eq (hu64 hr)) (de_var 0) (de_tup (da_nil))) (dw_or1 (dt_not (dt_tru (de_callB (ok_isinst) b_isinstance (by decide +kernel) (da_cons (de_ix (de_var 0) (de_int)) (da_cons (de_ty b_str (by decide +kernel)) (da_nil)))))))))) (dss_one (ds_ret (de_bl))) (dss_nil)) (dss_cons (ds_if (DW.dt (dw_or (dt_wnotin wd_SIZES (de_ix (de_var 0) (de_int))) (dw_or1 (dt_cmp (ok_ne (hu64 hr)) (de_callB (ok_len) b_len (by decide +kernel) (da_cons (de_var 0) (da_nil))) (de_wget wd_SIZES (de_ix (de_var 0) (de_int))))))) (dss_one (ds_ret (de_bl))) (dss_nil)) (dss_cons (ds_if (dt_cmp ok_notIn (de_ix (de_var 0) (de_int)) (de_tup (da_cons (de_str) (da_cons (de_str) (da_nil))))) (dss_one (ds_ret (de_bl))) (dss_nil)) (dss_one (ds_ret (de_and (de_call g_is_row tk hr (da_cons (de_ix (de_var 0) (de_int)) (da_nil)) (hj := by omega)) (de_one (de_chain ok_le ok_le (de_int) (de_callB (ok_len) b_len (by decide +kernel) (da_cons (de_ix (de_var 0) (de_int)) (da_nil))) (de_glob c_MOST_PARTS))))))))
abbrev st_within : Stmt := topS 20
theorem sc_within : FnScope ["tree"] ["tree"] (defScope st_within) := ⟨rfl, rfl, rfl, by decide +kernel, rfl, by decide +kernel, by decide +kernel⟩
theorem d_within {P : Program} {w : World} {K : PySem.W.Frag} {mg : Str → Option Value} {base : Heap} {f : Addr} (b_list : mg "list" = none) (cdv : Value) (A : Around) (outer : List Env) (s : Shared) (H : Hp) (E : XK) (hr : Room 0 (cxOf (L2.CX P w) P w K mg base ["tree"] "within" (defScope st_within) f cdv A outer s H E).A) (tk : Takes (cxOf (L2.CX P w) P w K mg base ["tree"] "within" (defScope st_within) f cdv A outer s H E) (nS E)) (hp : PassesOwn (model P w) (cxOf (L2.CX P w) P w K mg base ["tree"] "within" (defScope st_within) f cdv A outer s H E).A (cxOf (L2.CX P w) P w K mg base ["tree"] "within" (defScope st_within) f cdv A outer s H E).env (cxOf (L2.CX P w) P w K mg base ["tree"] "within" (defScope st_within) f cdv A outer s H E).xe) :
    DSs (cxOf (L2.CX P w) P w K mg base ["tree"] "within" (defScope st_within) f cdv A outer s H E) (nS E) (defBody st_within) (w_within) := by
  have nd := sc_within.nd
  exact dss_cons (ds_if (dt_cmp ok_in (de_ix (de_var 0) (de_int)) (de_tup (da_cons (de_str) (da_cons (de_str) (da_nil))))) (dss_one (ds_ret (de_callTy (ok_list) b_list (by decide +kernel) (da_cons (de_ix (de_var 0) (de_int)) (da_nil))))) (dss_nil)) (dss_one (ds_ret (de_ifE (dt_cmp ok_in (de_ix (de_var 0) (de_int)) (de_tup (da_cons (de_str) (da_cons (de_str) (da_nil))))) (de_lst (da_nil)) (de_lst (da_cons (de_ix (de_var 0) (de_int)) (da_nil))))))
abbrev st_CheckDD_initDD : Stmt := inClass (topS 21) 0
theorem sc_CheckDD_initDD : FnScope ["self", "letters"] ["self", "letters"] (defScope st_CheckDD_initDD) := ⟨rfl, rfl, rfl, by decide +kernel, rfl, by decide +kernel, by decide +kernel⟩
theorem d_CheckDD_initDD {P : Program} {w : World} {K : PySem.W.Frag} {mg : Str → Option Value} {base : Heap} {f : Addr} (cf_Check_counts : CF K mg "Check" "counts") (cf_Check_letters : CF K mg "Check" "letters") (cf_Check_trees : CF K mg "Check" "trees") (cdv : Value) (A : Around) (outer : List Env) (s : Shared) (H : Hp) (E : XK) (hr : Room 0 (cxOf (L2.CX P w) P w K mg base ["self", "letters"] "Check.__init__" (defScope st_CheckDD_initDD) f cdv A outer s H E).A) (tk : Takes (cxOf (L2.CX P w) P w K mg base ["self", "letters"] "Check.__init__" (defScope st_CheckDD_initDD) f cdv A outer s H E) (nS E)) (hp : PassesOwn (model P w) (cxOf (L2.CX P w) P w K mg base ["self", "letters"] "Check.__init__" (defScope st_CheckDD_initDD) f cdv A outer s H E).A (cxOf (L2.CX P w) P w K mg base ["self", "letters"] "Check.__init__" (defScope st_CheckDD_initDD) f cdv A outer s H E).env (cxOf (L2.CX P w) P w K mg base ["self", "letters"] "Check.__init__" (defScope st_CheckDD_initDD) f cdv A outer s H E).xe) :
    DSs (cxOf (L2.CX P w) P w K mg base ["self", "letters"] "Check.__init__" (defScope st_CheckDD_initDD) f cdv A outer s H E) (nS E) (defBody st_CheckDD_initDD) (w_CheckDD_initDD) := by
  have nd := sc_CheckDD_initDD.nd
  exact dss_cons (ds_fld cf_Check_letters (de_var 0) (de_var 1)) (dss_cons (ds_fld cf_Check_counts (de_var 0) (de_disp (dp_cons (de_str) (de_int) (dp_cons (de_str) (de_int) (dp_nil))))) (dss_one (ds_fld cf_Check_trees (de_var 0) (de_int))))
abbrev st_Check_problem : Stmt := inClass (topS 21) 1
theorem sc_Check_problem : FnScope ["self", "tree", "deep", "is_much"] ["self", "tree", "deep"] (defScope st_Check_problem) := ⟨rfl, rfl, rfl, by decide +kernel, rfl, by decide +kernel, by decide +kernel⟩
theorem d_Check_problem {P : Program} {w : World} {K : PySem.W.Frag} {mg : Str → Option Value} {base : Heap} {f : Addr} (b_isinstance : mg "isinstance" = none) (b_str : mg "str" = none) (c_GREEDS : GC K mg "GREEDS" (.tup [.str "greedy", .str "lazy"])) (c_MOST_DEEP : GC K mg "MOST_DEEP" (.int 8)) (c_MOST_GROUPS : GC K mg "MOST_GROUPS" (.int 5)) (c_MOST_ONES : GC K mg "MOST_ONES" (.int 10)) (c_MOST_TREES : GC K mg "MOST_TREES" (.int 60)) (c_REPEATED : GC K mg "REPEATED" (.tup [.str "many", .str "some", .str "maybe"])) (cf_Check_counts : CF K mg "Check" "counts") (cf_Check_letters : CF K mg "Check" "letters") (cf_Check_trees : CF K mg "Check" "trees") (g_are_letters : GF P w K mg base "are_letters" 1 sp_are_letters) (g_has_form : GF P w K mg base "has_form" 2 sp_has_form) (cdv : Value) (A : Around) (outer : List Env) (s : Shared) (H : Hp) (E : XK) (hr : Room 2 (cxOf (L2.CX P w) P w K mg base ["self", "tree", "deep", "is_much"] "Check.problem" (defScope st_Check_problem) f cdv A outer s H E).A) (tk : Takes (cxOf (L2.CX P w) P w K mg base ["self", "tree", "deep", "is_much"] "Check.problem" (defScope st_Check_problem) f cdv A outer s H E) (nS E)) (hp : PassesOwn (model P w) (cxOf (L2.CX P w) P w K mg base ["self", "tree", "deep", "is_much"] "Check.problem" (defScope st_Check_problem) f cdv A outer s H E).A (cxOf (L2.CX P w) P w K mg base ["self", "tree", "deep", "is_much"] "Check.problem" (defScope st_Check_problem) f cdv A outer s H E).env (cxOf (L2.CX P w) P w K mg base ["self", "tree", "deep", "is_much"] "Check.problem" (defScope st_Check_problem) f cdv A outer s H E).xe) :
    DSs (cxOf (L2.CX P w) P w K mg base ["self", "tree", "deep", "is_much"] "Check.problem" (defScope st_Check_problem) f cdv A outer s H E) (nS E) (defBody st_Check_problem) (w_Check_problem) := by
  have nd := sc_Check_problem.nd
  exact dss_cons (ds_if (dt_not (dt_tru (de_call g_has_form tk hr (da_cons (de_var 1) (da_nil)) (hj := by omega)))) (dss_one (ds_ret (de_str))) (dss_nil)) (dss_cons (ds_if (DW.dt (dw_and (dt_cmp (ok_eq (hu64 hr)) (de_ix (de_var 1) (de_int)) (de_str)) (dw_and1 (dt_not (dt_tru (de_call g_are_letters tk hr (da_cons (de_ix (de_var 1) (de_int)) (da_cons (de_fld cf_Check_letters (de_var 0)) (da_nil))) (hj := by omega))))))) (dss_one (ds_ret (de_str))) (dss_nil)) (dss_cons (ds_if (DW.dt (dw_and (dt_cmp ok_in (de_ix (de_var 1) (de_int)) (de_glob c_REPEATED)) (dw_and1 (DW.dt (dw_or (dt_not (dt_tru (de_callB (ok_isinst) b_isinstance (by decide +kernel) (da_cons (de_ix (de_var 1) (de_int)) (da_cons (de_ty b_str (by decide +kernel)) (da_nil)))))) (dw_or1 (dt_cmp ok_notIn (de_ix (de_var 1) (de_int)) (de_glob c_GREEDS)))))))) (dss_one (ds_ret (de_str))) (dss_nil)) (dss_cons (ds_if (dt_cmp ok_gt (de_var 2) (de_glob c_MOST_DEEP)) (dss_one (ds_ret (de_str))) (dss_nil)) (dss_cons (ds_fld cf_Check_trees (de_var 0) (de_op ok_add (de_fld cf_Check_trees (de_var 0)) (de_int))) (dss_cons (ds_if (dt_din (hu1 hr) (de_ix (de_var 1) (de_int)) (de_fld cf_Check_counts (de_var 0))) (dss_one (ds_dput (hu1 hr) (de_fld cf_Check_counts (de_var 0)) (de_ix (de_var 1) (de_int)) (de_op ok_add (de_dget (hu1 hr) (de_fld cf_Check_counts (de_var 0)) (de_ix (de_var 1) (de_int))) (de_int)))) (dss_nil)) (dss_cons (ds_set 3 nd (de_or (de_cmp ok_gt (de_dget (hu1 hr) (de_fld cf_Check_counts (de_var 0)) (de_str)) (de_glob c_MOST_ONES)) (de_or (de_cmp ok_gt (de_dget (hu1 hr) (de_fld cf_Check_counts (de_var 0)) (de_str)) (de_glob c_MOST_GROUPS)) (de_one (de_cmp ok_gt (de_fld cf_Check_trees (de_var 0)) (de_glob c_MOST_TREES)))))) (dss_one (ds_ret (de_ifE (dt_tru (de_var 3)) (de_str) (de_non))))))))))
abbrev st_check_tree : Stmt := topS 22
theorem sc_check_tree : FnScope ["letters", "tree", "check", "waiting", "at", "why", "one", "deep", "inner"] ["letters", "tree"] (defScope st_check_tree) := ⟨rfl, rfl, rfl, by decide +kernel, rfl, by decide +kernel, by decide +kernel⟩
theorem d_check_tree {P : Program} {w : World} {K : PySem.W.Frag} {mg : Str → Option Value} {base : Heap} {f : Addr} (cf_Check_trees : CF K mg "Check" "trees") (g_within : GF P w K mg base "within" 1 sp_within) (i_Check : GI P w K mg base "Check" 1 sp_CheckDD_initDD) (m_Check_problem : GM' P w K mg base "Check" "problem" 3 sp_Check_problem) (x_NoPattern : GX P w K mg base "NoPattern" 1 sp_NoPatternDD_initDD) (cdv : Value) (A : Around) (outer : List Env) (s : Shared) (H : Hp) (E : XK) (hr : Room 3 (cxOf (L2.CX P w) P w K mg base ["letters", "tree", "check", "waiting", "at", "why", "one", "deep", "inner"] "check_tree" (defScope st_check_tree) f cdv A outer s H E).A) (tk : Takes (cxOf (L2.CX P w) P w K mg base ["letters", "tree", "check", "waiting", "at", "why", "one", "deep", "inner"] "check_tree" (defScope st_check_tree) f cdv A outer s H E) (nS E)) (hp : PassesOwn (model P w) (cxOf (L2.CX P w) P w K mg base ["letters", "tree", "check", "waiting", "at", "why", "one", "deep", "inner"] "check_tree" (defScope st_check_tree) f cdv A outer s H E).A (cxOf (L2.CX P w) P w K mg base ["letters", "tree", "check", "waiting", "at", "why", "one", "deep", "inner"] "check_tree" (defScope st_check_tree) f cdv A outer s H E).env (cxOf (L2.CX P w) P w K mg base ["letters", "tree", "check", "waiting", "at", "why", "one", "deep", "inner"] "check_tree" (defScope st_check_tree) f cdv A outer s H E).xe) :
    DSs (cxOf (L2.CX P w) P w K mg base ["letters", "tree", "check", "waiting", "at", "why", "one", "deep", "inner"] "check_tree" (defScope st_check_tree) f cdv A outer s H E) (nS E) (defBody st_check_tree) (w_check_tree) := by
  have nd := sc_check_tree.nd
  exact dss_cons (ds_set 2 nd (de_make i_Check tk hr (da_cons (de_var 0) (da_nil)) (hj := by omega))) (dss_cons (ds_set 3 nd (de_lst (da_cons (de_tup (da_cons (de_var 1) (da_cons (de_int) (da_nil)))) (da_nil)))) (dss_one (ds_while hp (dt_cmp (ok_ne (hu64 hr)) (de_var 3) (de_lst (da_nil))) (dss_cons (ds_asg (de_mt0 PySem.F.plainAttrs_list PySem.F.slot_list_pop PySem.F.type_list_pop ok_pop (de_var 3)) (dg_tup rfl (dgs_cons (dg_name 6 nd) (dgs_cons (dg_name 7 nd) (dgs_nil))))) (dss_cons (ds_set 4 nd (de_fld cf_Check_trees (de_var 2))) (dss_cons (ds_set 5 nd (de_meth m_Check_problem tk hr (de_var 2) (da_cons (de_var 6) (da_cons (de_var 7) (da_nil))) (hj := by omega))) (dss_cons (ds_if (dt_cmp ok_isnot (de_var 5) (de_non)) (dss_one (ds_raise rfl x_NoPattern tk hr (da_cons (de_var 4) (da_cons (de_var 5) (da_nil))) (hj := by omega))) (dss_nil)) (dss_one (ds_expr (de_mt PySem.F.plainAttrs_list PySem.F.slot_list_extend PySem.F.type_list_extend ok_extend (de_var 3) (da_cons (de_lc (own := [("inner", 8)]) rfl nd (di_list (de_rev (de_call g_within tk hr (da_cons (de_var 6) (da_nil)) (hj := by omega)))) (blkOk_by (N := ["letters", "tree", "check", "waiting", "at", "why", "one", "deep", "inner"]) (sc := defScope st_check_tree) (own := [("inner", 8)]) (by decide +kernel)) (fun _ _ _ _ _ => dg_name 8 nd) (fun _ _ _ _ _ => dts_nil) (fun _ _ _ _ _ => de_tup (da_cons (de_var 8) (da_cons (de_op ok_add (de_var 7) (de_int)) (da_nil))))) (da_nil))))))))))))
abbrev st_can_be_empty : Stmt := topS 23
theorem sc_can_be_empty : FnScope ["tree", "inner"] ["tree"] (defScope st_can_be_empty) := ⟨rfl, rfl, rfl, by decide +kernel, rfl, by decide +kernel, by decide +kernel⟩
theorem d_can_be_empty {P : Program} {w : World} {K : PySem.W.Frag} {mg : Str → Option Value} {base : Heap} {f : Addr} {n : Nat} (b_all : mg "all" = none) (b_any : mg "any" = none) (g_can_be_empty : GF P w K mg base "can_be_empty" (0 + n) (sp_can_be_empty n)) (cdv : Value) (A : Around) (outer : List Env) (s : Shared) (H : Hp) (E : XK) (hr : Room (0 + n) (cxOf (L2.CX P w) P w K mg base ["tree", "inner"] "can_be_empty" (defScope st_can_be_empty) f cdv A outer s H E).A) (tk : Takes (cxOf (L2.CX P w) P w K mg base ["tree", "inner"] "can_be_empty" (defScope st_can_be_empty) f cdv A outer s H E) (nS E)) (hp : PassesOwn (model P w) (cxOf (L2.CX P w) P w K mg base ["tree", "inner"] "can_be_empty" (defScope st_can_be_empty) f cdv A outer s H E).A (cxOf (L2.CX P w) P w K mg base ["tree", "inner"] "can_be_empty" (defScope st_can_be_empty) f cdv A outer s H E).env (cxOf (L2.CX P w) P w K mg base ["tree", "inner"] "can_be_empty" (defScope st_can_be_empty) f cdv A outer s H E).xe) :
    DSs (cxOf (L2.CX P w) P w K mg base ["tree", "inner"] "can_be_empty" (defScope st_can_be_empty) f cdv A outer s H E) (nS E) (defBody st_can_be_empty) (w_can_be_empty n) := by
  have nd := sc_can_be_empty.nd
  exact dss_cons (ds_if (dt_cmp (ok_eq (hu64 hr)) (de_ix (de_var 0) (de_int)) (de_str)) (dss_one (ds_ret (de_callB (ok_all rfl) b_all (by decide +kernel) (da_cons (de_lc (own := [("inner", 1)]) rfl nd (di_sq (de_ix (de_var 0) (de_int))) (blkOk_by (N := ["tree", "inner"]) (sc := defScope st_can_be_empty) (own := [("inner", 1)]) (by decide +kernel)) (fun _ _ _ _ _ => dg_name 1 nd) (fun _ _ _ _ _ => dts_nil) (fun _ _ _ _ _ => de_call g_can_be_empty takes0 hr (da_cons (de_var 1) (da_nil)) (hj := by omega))) (da_nil))))) (dss_nil)) (dss_cons (ds_if (dt_cmp (ok_eq (hu64 hr)) (de_ix (de_var 0) (de_int)) (de_str)) (dss_one (ds_ret (de_callB (ok_any rfl) b_any (by decide +kernel) (da_cons (de_lc (own := [("inner", 1)]) rfl nd (di_sq (de_ix (de_var 0) (de_int))) (blkOk_by (N := ["tree", "inner"]) (sc := defScope st_can_be_empty) (own := [("inner", 1)]) (by decide +kernel)) (fun _ _ _ _ _ => dg_name 1 nd) (fun _ _ _ _ _ => dts_nil) (fun _ _ _ _ _ => de_call g_can_be_empty takes0 hr (da_cons (de_var 1) (da_nil)) (hj := by omega))) (da_nil))))) (dss_nil)) (dss_cons (ds_if (dt_cmp ok_in (de_ix (de_var 0) (de_int)) (de_tup (da_cons (de_str) (da_cons (de_str) (da_nil))))) (dss_one (ds_ret (de_call g_can_be_empty tk hr (da_cons (de_ix (de_var 0) (de_int)) (da_nil)) (hj := by omega)))) (dss_nil)) (dss_one (ds_ret (de_cmp (ok_ne (hu64 hr)) (de_ix (de_var 0) (de_int)) (de_str))))))
abbrev st_in_order : Stmt := topS 24
theorem sc_in_order : FnScope ["tree", "found", "inner"] ["tree"] (defScope st_in_order) := ⟨rfl, rfl, rfl, by decide +kernel, rfl, by decide +kernel, by decide +kernel⟩
theorem d_in_order {P : Program} {w : World} {K : PySem.W.Frag} {mg : Str → Option Value} {base : Heap} {f : Addr} {n : Nat} (g_in_order : GF P w K mg base "in_order" (1 + n) (sp_in_order n)) (g_within : GF P w K mg base "within" 1 sp_within) (cdv : Value) (A : Around) (outer : List Env) (s : Shared) (H : Hp) (E : XK) (hr : Room (1 + n) (cxOf (L2.CX P w) P w K mg base ["tree", "found", "inner"] "in_order" (defScope st_in_order) f cdv A outer s H E).A) (tk : Takes (cxOf (L2.CX P w) P w K mg base ["tree", "found", "inner"] "in_order" (defScope st_in_order) f cdv A outer s H E) (nS E)) (hp : PassesOwn (model P w) (cxOf (L2.CX P w) P w K mg base ["tree", "found", "inner"] "in_order" (defScope st_in_order) f cdv A outer s H E).A (cxOf (L2.CX P w) P w K mg base ["tree", "found", "inner"] "in_order" (defScope st_in_order) f cdv A outer s H E).env (cxOf (L2.CX P w) P w K mg base ["tree", "found", "inner"] "in_order" (defScope st_in_order) f cdv A outer s H E).xe) :
    DSs (cxOf (L2.CX P w) P w K mg base ["tree", "found", "inner"] "in_order" (defScope st_in_order) f cdv A outer s H E) (nS E) (defBody st_in_order) (w_in_order n) := by
  have nd := sc_in_order.nd
  exact dss_cons (ds_set 1 nd (de_lst (da_cons (de_var 0) (da_nil)))) (dss_cons (ds_for hp rfl (di_list (de_call g_within tk hr (da_cons (de_var 0) (da_nil)) (hj := by omega))) (dg_name 2 nd) (dss_one (ds_expr (de_mt PySem.F.plainAttrs_list PySem.F.slot_list_extend PySem.F.type_list_extend ok_extend (de_var 1) (da_cons (de_call g_in_order tk hr (da_cons (de_var 2) (da_nil)) (hj := by omega)) (da_nil)))))) (dss_one (ds_ret (de_var 1))))
abbrev st_check_repeated : Stmt := topS 25
theorem sc_check_repeated : FnScope ["tree", "at", "one"] ["tree"] (defScope st_check_repeated) := ⟨rfl, rfl, rfl, by decide +kernel, rfl, by decide +kernel, by decide +kernel⟩
theorem d_check_repeated {P : Program} {w : World} {K : PySem.W.Frag} {mg : Str → Option Value} {base : Heap} {f : Addr} (b_enumerate : mg "enumerate" = none) (g_can_be_empty : GF P w K mg base "can_be_empty" 20 (sp_can_be_empty 20)) (g_in_order : GF P w K mg base "in_order" 21 (sp_in_order 20)) (x_NoPattern : GX P w K mg base "NoPattern" 1 sp_NoPatternDD_initDD) (cdv : Value) (A : Around) (outer : List Env) (s : Shared) (H : Hp) (E : XK) (hr : Room 21 (cxOf (L2.CX P w) P w K mg base ["tree", "at", "one"] "check_repeated" (defScope st_check_repeated) f cdv A outer s H E).A) (tk : Takes (cxOf (L2.CX P w) P w K mg base ["tree", "at", "one"] "check_repeated" (defScope st_check_repeated) f cdv A outer s H E) (nS E)) (hp : PassesOwn (model P w) (cxOf (L2.CX P w) P w K mg base ["tree", "at", "one"] "check_repeated" (defScope st_check_repeated) f cdv A outer s H E).A (cxOf (L2.CX P w) P w K mg base ["tree", "at", "one"] "check_repeated" (defScope st_check_repeated) f cdv A outer s H E).env (cxOf (L2.CX P w) P w K mg base ["tree", "at", "one"] "check_repeated" (defScope st_check_repeated) f cdv A outer s H E).xe) :
    DSs (cxOf (L2.CX P w) P w K mg base ["tree", "at", "one"] "check_repeated" (defScope st_check_repeated) f cdv A outer s H E) (nS E) (defBody st_check_repeated) (w_check_repeated) := by
  have nd := sc_check_repeated.nd
  exact dss_one (ds_for hp rfl (di_enum b_enumerate (da_cons (de_call g_in_order tk hr (da_cons (de_var 0) (da_nil)) (hj := by omega)) (da_nil))) (dg_tup rfl (dgs_cons (dg_name 1 nd) (dgs_cons (dg_name 2 nd) (dgs_nil)))) (dss_one (ds_if (DW.dt (dw_and (dt_cmp ok_in (de_ix (de_var 2) (de_int)) (de_tup (da_cons (de_str) (da_cons (de_str) (da_nil))))) (dw_and1 (dt_tru (de_call g_can_be_empty tk hr (da_cons (de_ix (de_var 2) (de_int)) (da_nil)) (hj := by omega)))))) (dss_one (ds_raise rfl x_NoPattern tk hr (da_cons (de_var 1) (da_cons (de_str) (da_nil))) (hj := by omega))) (dss_nil))))
abbrev st_settled_tree : Stmt := topS 26
theorem sc_settled_tree : FnScope ["tree", "inner"] ["tree"] (defScope st_settled_tree) := ⟨rfl, rfl, rfl, by decide +kernel, rfl, by decide +kernel, by decide +kernel⟩
theorem d_settled_tree {P : Program} {w : World} {K : PySem.W.Frag} {mg : Str → Option Value} {base : Heap} {f : Addr} {n : Nat} (b_tuple : mg "tuple" = none) (g_settled_tree : GF P w K mg base "settled_tree" (0 + n) (sp_settled_tree n)) (cdv : Value) (A : Around) (outer : List Env) (s : Shared) (H : Hp) (E : XK) (hr : Room (0 + n) (cxOf (L2.CX P w) P w K mg base ["tree", "inner"] "settled_tree" (defScope st_settled_tree) f cdv A outer s H E).A) (tk : Takes (cxOf (L2.CX P w) P w K mg base ["tree", "inner"] "settled_tree" (defScope st_settled_tree) f cdv A outer s H E) (nS E)) (hp : PassesOwn (model P w) (cxOf (L2.CX P w) P w K mg base ["tree", "inner"] "settled_tree" (defScope st_settled_tree) f cdv A outer s H E).A (cxOf (L2.CX P w) P w K mg base ["tree", "inner"] "settled_tree" (defScope st_settled_tree) f cdv A outer s H E).env (cxOf (L2.CX P w) P w K mg base ["tree", "inner"] "settled_tree" (defScope st_settled_tree) f cdv A outer s H E).xe) :
    DSs (cxOf (L2.CX P w) P w K mg base ["tree", "inner"] "settled_tree" (defScope st_settled_tree) f cdv A outer s H E) (nS E) (defBody st_settled_tree) (w_settled_tree n) := by
  have nd := sc_settled_tree.nd
  exact dss_cons (ds_if (dt_cmp ok_in (de_ix (de_var 0) (de_int)) (de_tup (da_cons (de_str) (da_cons (de_str) (da_nil))))) (dss_one (ds_ret (de_tup (da_cons (de_ix (de_var 0) (de_int)) (da_cons (de_callTy (ok_tuple) b_tuple (by decide +kernel) (da_cons (de_lc (own := [("inner", 1)]) rfl nd (di_sq (de_ix (de_var 0) (de_int))) (blkOk_by (N := ["tree", "inner"]) (sc := defScope st_settled_tree) (own := [("inner", 1)]) (by decide +kernel)) (fun _ _ _ _ _ => dg_name 1 nd) (fun _ _ _ _ _ => dts_nil) (fun _ _ _ _ _ => de_call g_settled_tree takes0 hr (da_cons (de_var 1) (da_nil)) (hj := by omega))) (da_nil))) (da_nil)))))) (dss_nil)) (dss_cons (ds_if (dt_cmp ok_in (de_ix (de_var 0) (de_int)) (de_tup (da_cons (de_str) (da_cons (de_str) (da_nil))))) (dss_one (ds_ret (de_var 0))) (dss_nil)) (dss_one (ds_ret (de_op ok_add (de_tup (da_cons (de_ix (de_var 0) (de_int)) (da_cons (de_call g_settled_tree tk hr (da_cons (de_ix (de_var 0) (de_int)) (da_nil)) (hj := by omega)) (da_nil)))) (de_sl (de_var 0) (do_some (de_int)) (do_none))))))
abbrev st_PatternDD_initDD : Stmt := inClass (topS 27) 0
theorem sc_PatternDD_initDD : FnScope ["self", "letters", "tree", "every", "one"] ["self", "letters", "tree"] (defScope st_PatternDD_initDD) := ⟨rfl, rfl, rfl, by decide +kernel, rfl, by decide +kernel, by decide +kernel⟩
theorem d_PatternDD_initDD {P : Program} {w : World} {K : PySem.W.Frag} {mg : Str → Option Value} {base : Heap} {f : Addr} (b_len : mg "len" = none) (b_tuple : mg "tuple" = none) (cf_Pattern_groups : CF K mg "Pattern" "groups") (cf_Pattern_letters : CF K mg "Pattern" "letters") (cf_Pattern_ones : CF K mg "Pattern" "ones") (cf_Pattern_tree : CF K mg "Pattern" "tree") (g_check_letters : GF P w K mg base "check_letters" 3 sp_check_letters) (g_check_repeated : GF P w K mg base "check_repeated" 22 sp_check_repeated) (g_check_tree : GF P w K mg base "check_tree" 4 sp_check_tree) (g_in_order : GF P w K mg base "in_order" 21 (sp_in_order 20)) (g_settled_tree : GF P w K mg base "settled_tree" 20 (sp_settled_tree 20)) (cdv : Value) (A : Around) (outer : List Env) (s : Shared) (H : Hp) (E : XK) (hr : Room 22 (cxOf (L2.CX P w) P w K mg base ["self", "letters", "tree", "every", "one"] "Pattern.__init__" (defScope st_PatternDD_initDD) f cdv A outer s H E).A) (tk : Takes (cxOf (L2.CX P w) P w K mg base ["self", "letters", "tree", "every", "one"] "Pattern.__init__" (defScope st_PatternDD_initDD) f cdv A outer s H E) (nS E)) (hp : PassesOwn (model P w) (cxOf (L2.CX P w) P w K mg base ["self", "letters", "tree", "every", "one"] "Pattern.__init__" (defScope st_PatternDD_initDD) f cdv A outer s H E).A (cxOf (L2.CX P w) P w K mg base ["self", "letters", "tree", "every", "one"] "Pattern.__init__" (defScope st_PatternDD_initDD) f cdv A outer s H E).env (cxOf (L2.CX P w) P w K mg base ["self", "letters", "tree", "every", "one"] "Pattern.__init__" (defScope st_PatternDD_initDD) f cdv A outer s H E).xe) :
    DSs (cxOf (L2.CX P w) P w K mg base ["self", "letters", "tree", "every", "one"] "Pattern.__init__" (defScope st_PatternDD_initDD) f cdv A outer s H E) (nS E) (defBody st_PatternDD_initDD) (w_PatternDD_initDD) := by
  have nd := sc_PatternDD_initDD.nd
  exact dss_cons (ds_expr (de_call g_check_letters tk hr (da_cons (de_var 1) (da_nil)) (hj := by omega))) (dss_cons (ds_expr (de_call g_check_tree tk hr (da_cons (de_var 1) (da_cons (de_var 2) (da_nil))) (hj := by omega))) (dss_cons (ds_expr (de_call g_check_repeated tk hr (da_cons (de_var 2) (da_nil)) (hj := by omega))) (dss_cons (ds_fld cf_Pattern_letters (de_var 0) (de_var 1)) (dss_cons (ds_fld cf_Pattern_tree (de_var 0) (de_call g_settled_tree tk hr (da_cons (de_var 2) (da_nil)) (hj := by omega))) (dss_cons (ds_set 3 nd (de_call g_in_order tk hr (da_cons (de_fld cf_Pattern_tree (de_var 0)) (da_nil)) (hj := by omega))) (dss_cons (ds_fld cf_Pattern_groups (de_var 0) (de_callB (ok_len) b_len (by decide +kernel) (da_cons (de_lc (own := [("one", 4)]) rfl nd (di_list (de_var 3)) (blkOk_by (N := ["self", "letters", "tree", "every", "one"]) (sc := defScope st_PatternDD_initDD) (own := [("one", 4)]) (by decide +kernel)) (fun _ _ _ _ _ => dg_name 4 nd) (fun _ _ _ _ _ => dts_one (dt_cmp (ok_eq (hu64 hr)) (de_ix (de_var 4) (de_int)) (de_str))) (fun _ _ _ _ _ => de_var 4)) (da_nil)))) (dss_one (ds_fld cf_Pattern_ones (de_var 0) (de_callTy (ok_tuple) b_tuple (by decide +kernel) (da_cons (de_lc (own := [("one", 4)]) rfl nd (di_list (de_var 3)) (blkOk_by (N := ["self", "letters", "tree", "every", "one"]) (sc := defScope st_PatternDD_initDD) (own := [("one", 4)]) (by decide +kernel)) (fun _ _ _ _ _ => dg_name 4 nd) (fun _ _ _ _ _ => dts_one (dt_cmp (ok_eq (hu64 hr)) (de_ix (de_var 4) (de_int)) (de_str))) (fun _ _ _ _ _ => de_ix (de_var 4) (de_int))) (da_nil)))))))))))
abbrev st_PatternDD_eqDD : Stmt := inClass (topS 27) 1
theorem sc_PatternDD_eqDD : FnScope ["self", "other"] ["self", "other"] (defScope st_PatternDD_eqDD) := ⟨rfl, rfl, rfl, by decide +kernel, rfl, by decide +kernel, by decide +kernel⟩
theorem d_PatternDD_eqDD {P : Program} {w : World} {K : PySem.W.Frag} {mg : Str → Option Value} {base : Heap} {f : Addr} (b_isinstance : mg "isinstance" = none) (cf_Pattern_letters : CF K mg "Pattern" "letters") (cf_Pattern_tree : CF K mg "Pattern" "tree") (isi_Pattern : GIsI K mg "Pattern" tabI_Pattern) (cdv : Value) (A : Around) (outer : List Env) (s : Shared) (H : Hp) (E : XK) (hr : Room 0 (cxOf (L2.CX P w) P w K mg base ["self", "other"] "Pattern.__eq__" (defScope st_PatternDD_eqDD) f cdv A outer s H E).A) (tk : Takes (cxOf (L2.CX P w) P w K mg base ["self", "other"] "Pattern.__eq__" (defScope st_PatternDD_eqDD) f cdv A outer s H E) (nS E)) (hp : PassesOwn (model P w) (cxOf (L2.CX P w) P w K mg base ["self", "other"] "Pattern.__eq__" (defScope st_PatternDD_eqDD) f cdv A outer s H E).A (cxOf (L2.CX P w) P w K mg base ["self", "other"] "Pattern.__eq__" (defScope st_PatternDD_eqDD) f cdv A outer s H E).env (cxOf (L2.CX P w) P w K mg base ["self", "other"] "Pattern.__eq__" (defScope st_PatternDD_eqDD) f cdv A outer s H E).xe) :
    DSs (cxOf (L2.CX P w) P w K mg base ["self", "other"] "Pattern.__eq__" (defScope st_PatternDD_eqDD) f cdv A outer s H E) (nS E) (defBody st_PatternDD_eqDD) (w_PatternDD_eqDD) := by
  have nd := sc_PatternDD_eqDD.nd
  exact dss_one (ds_ret (de_and (de_isI isi_Pattern b_isinstance (de_var 1)) (de_and (de_cmp (ok_eq (hu64 hr)) (de_fld cf_Pattern_letters (de_var 0)) (de_fld cf_Pattern_letters (de_var 1))) (de_one (de_cmp (ok_eq (hu64 hr)) (de_fld cf_Pattern_tree (de_var 0)) (de_fld cf_Pattern_tree (de_var 1)))))))
abbrev st_LevelDD_initDD : Stmt := inClass (topS 34) 0
theorem sc_LevelDD_initDD : FnScope ["self", "is_group"] ["self", "is_group"] (defScope st_LevelDD_initDD) := ⟨rfl, rfl, rfl, by decide +kernel, rfl, by decide +kernel, by decide +kernel⟩
theorem d_LevelDD_initDD {P : Program} {w : World} {K : PySem.W.Frag} {mg : Str → Option Value} {base : Heap} {f : Addr} (cf_Level_choices : CF K mg "Level" "choices") (cf_Level_is_group : CF K mg "Level" "is_group") (cf_Level_last : CF K mg "Level" "last") (cdv : Value) (A : Around) (outer : List Env) (s : Shared) (H : Hp) (E : XK) (hr : Room 0 (cxOf (L2.CX P w) P w K mg base ["self", "is_group"] "Level.__init__" (defScope st_LevelDD_initDD) f cdv A outer s H E).A) (tk : Takes (cxOf (L2.CX P w) P w K mg base ["self", "is_group"] "Level.__init__" (defScope st_LevelDD_initDD) f cdv A outer s H E) (nS E)) (hp : PassesOwn (model P w) (cxOf (L2.CX P w) P w K mg base ["self", "is_group"] "Level.__init__" (defScope st_LevelDD_initDD) f cdv A outer s H E).A (cxOf (L2.CX P w) P w K mg base ["self", "is_group"] "Level.__init__" (defScope st_LevelDD_initDD) f cdv A outer s H E).env (cxOf (L2.CX P w) P w K mg base ["self", "is_group"] "Level.__init__" (defScope st_LevelDD_initDD) f cdv A outer s H E).xe) :
    DSs (cxOf (L2.CX P w) P w K mg base ["self", "is_group"] "Level.__init__" (defScope st_LevelDD_initDD) f cdv A outer s H E) (nS E) (defBody st_LevelDD_initDD) (w_LevelDD_initDD) := by
  have nd := sc_LevelDD_initDD.nd
  exact dss_cons (ds_fld cf_Level_is_group (de_var 0) (de_var 1)) (dss_cons (ds_fld cf_Level_choices (de_var 0) (de_lst (da_nil))) (dss_one (ds_fld cf_Level_last (de_var 0) (de_lst (da_nil)))))
abbrev st_Level_end_row : Stmt := inClass (topS 34) 1
theorem sc_Level_end_row : FnScope ["self"] ["self"] (defScope st_Level_end_row) := ⟨rfl, rfl, rfl, by decide +kernel, rfl, by decide +kernel, by decide +kernel⟩
theorem d_Level_end_row {P : Program} {w : World} {K : PySem.W.Frag} {mg : Str → Option Value} {base : Heap} {f : Addr} (b_len : mg "len" = none) (b_tuple : mg "tuple" = none) (cf_Level_choices : CF K mg "Level" "choices") (cf_Level_last : CF K mg "Level" "last") (cdv : Value) (A : Around) (outer : List Env) (s : Shared) (H : Hp) (E : XK) (hr : Room 0 (cxOf (L2.CX P w) P w K mg base ["self"] "Level.end_row" (defScope st_Level_end_row) f cdv A outer s H E).A) (tk : Takes (cxOf (L2.CX P w) P w K mg base ["self"] "Level.end_row" (defScope st_Level_end_row) f cdv A outer s H E) (nS E)) (hp : PassesOwn (model P w) (cxOf (L2.CX P w) P w K mg base ["self"] "Level.end_row" (defScope st_Level_end_row) f cdv A outer s H E).A (cxOf (L2.CX P w) P w K mg base ["self"] "Level.end_row" (defScope st_Level_end_row) f cdv A outer s H E).env (cxOf (L2.CX P w) P w K mg base ["self"] "Level.end_row" (defScope st_Level_end_row) f cdv A outer s H E).xe) :
    DSs (cxOf (L2.CX P w) P w K mg base ["self"] "Level.end_row" (defScope st_Level_end_row) f cdv A outer s H E) (nS E) (defBody st_Level_end_row) (w_Level_end_row) := by
  have nd := sc_Level_end_row.nd
  exact dss_cons (ds_if (dt_cmp (ok_eq (hu64 hr)) (de_callB (ok_len) b_len (by decide +kernel) (da_cons (de_fld cf_Level_last (de_var 0)) (da_nil))) (de_int)) (dss_one (ds_expr (de_mt PySem.F.plainAttrs_list PySem.F.slot_list_append PySem.F.type_list_append ok_append (de_fld cf_Level_choices (de_var 0)) (da_cons (de_ix (de_fld cf_Level_last (de_var 0)) (de_int)) (da_nil))))) (dss_one (ds_expr (de_mt PySem.F.plainAttrs_list PySem.F.slot_list_append PySem.F.type_list_append ok_append (de_fld cf_Level_choices (de_var 0)) (da_cons (de_ifE (dt_cmp (ok_ne (hu64 hr)) (de_fld cf_Level_last (de_var 0)) (de_lst (da_nil))) (de_tup (da_cons (de_str) (da_cons (de_callTy (ok_tuple) b_tuple (by decide +kernel) (da_cons (de_fld cf_Level_last (de_var 0)) (da_nil))) (da_nil)))) (de_tup (da_cons (de_str) (da_nil)))) (da_nil)))))) (dss_one (ds_fld cf_Level_last (de_var 0) (de_lst (da_nil))))
abbrev st_Level_finished : Stmt := inClass (topS 34) 2
theorem sc_Level_finished : FnScope ["self", "found"] ["self"] (defScope st_Level_finished) := ⟨rfl, rfl, rfl, by decide +kernel, rfl, by decide +kernel, by decide +kernel⟩
theorem d_Level_finished {P : Program} {w : World} {K : PySem.W.Frag} {mg : Str → Option Value} {base : Heap} {f : Addr} (b_len : mg "len" = none) (b_tuple : mg "tuple" = none) (cf_Level_choices : CF K mg "Level" "choices") (cf_Level_is_group : CF K mg "Level" "is_group") (m_Level_end_row : GM' P w K mg base "Level" "end_row" 1 sp_Level_end_row) (cdv : Value) (A : Around) (outer : List Env) (s : Shared) (H : Hp) (E : XK) (hr : Room 1 (cxOf (L2.CX P w) P w K mg base ["self", "found"] "Level.finished" (defScope st_Level_finished) f cdv A outer s H E).A) (tk : Takes (cxOf (L2.CX P w) P w K mg base ["self", "found"] "Level.finished" (defScope st_Level_finished) f cdv A outer s H E) (nS E)) (hp : PassesOwn (model P w) (cxOf (L2.CX P w) P w K mg base ["self", "found"] "Level.finished" (defScope st_Level_finished) f cdv A outer s H E).A (cxOf (L2.CX P w) P w K mg base ["self", "found"] "Level.finished" (defScope st_Level_finished) f cdv A outer s H E).env (cxOf (L2.CX P w) P w K mg base ["self", "found"] "Level.finished" (defScope st_Level_finished) f cdv A outer s H E).xe) :
    DSs (cxOf (L2.CX P w) P w K mg base ["self", "found"] "Level.finished" (defScope st_Level_finished) f cdv A outer s H E) (nS E) (defBody st_Level_finished) (w_Level_finished) := by
  have nd := sc_Level_finished.nd
  exact dss_cons (ds_expr (de_meth0 m_Level_end_row tk hr (de_var 0) (hj := by omega))) (dss_cons (ds_set 1 nd (de_ifE (dt_cmp (ok_eq (hu64 hr)) (de_callB (ok_len) b_len (by decide +kernel) (da_cons (de_fld cf_Level_choices (de_var 0)) (da_nil))) (de_int)) (de_ix (de_fld cf_Level_choices (de_var 0)) (de_int)) (de_tup (da_cons (de_str) (da_cons (de_callTy (ok_tuple) b_tuple (by decide +kernel) (da_cons (de_fld cf_Level_choices (de_var 0)) (da_nil))) (da_nil)))))) (dss_one (ds_ret (de_ifE (dt_tru (de_fld cf_Level_is_group (de_var 0))) (de_tup (da_cons (de_str) (da_cons (de_var 1) (da_nil)))) (de_var 1)))))
abbrev st_ReaderDD_initDD : Stmt := inClass (topS 35) 0
theorem sc_ReaderDD_initDD : FnScope ["self", "letters", "text"] ["self", "letters", "text"] (defScope st_ReaderDD_initDD) := ⟨rfl, rfl, rfl, by decide +kernel, rfl, by decide +kernel, by decide +kernel⟩
theorem d_ReaderDD_initDD {P : Program} {w : World} {K : PySem.W.Frag} {mg : Str → Option Value} {base : Heap} {f : Addr} (c_NOTHING : GC K mg "NOTHING" (.int 0)) (cf_Reader_at : CF K mg "Reader" "at") (cf_Reader_behind : CF K mg "Reader" "behind") (cf_Reader_letters : CF K mg "Reader" "letters") (cf_Reader_levels : CF K mg "Reader" "levels") (cf_Reader_text : CF K mg "Reader" "text") (i_Level : GI P w K mg base "Level" 1 sp_LevelDD_initDD) (cdv : Value) (A : Around) (outer : List Env) (s : Shared) (H : Hp) (E : XK) (hr : Room 2 (cxOf (L2.CX P w) P w K mg base ["self", "letters", "text"] "Reader.__init__" (defScope st_ReaderDD_initDD) f cdv A outer s H E).A) (tk : Takes (cxOf (L2.CX P w) P w K mg base ["self", "letters", "text"] "Reader.__init__" (defScope st_ReaderDD_initDD) f cdv A outer s H E) (nS E)) (hp : PassesOwn (model P w) (cxOf (L2.CX P w) P w K mg base ["self", "letters", "text"] "Reader.__init__" (defScope st_ReaderDD_initDD) f cdv A outer s H E).A (cxOf (L2.CX P w) P w K mg base ["self", "letters", "text"] "Reader.__init__" (defScope st_ReaderDD_initDD) f cdv A outer s H E).env (cxOf (L2.CX P w) P w K mg base ["self", "letters", "text"] "Reader.__init__" (defScope st_ReaderDD_initDD) f cdv A outer s H E).xe) :
    DSs (cxOf (L2.CX P w) P w K mg base ["self", "letters", "text"] "Reader.__init__" (defScope st_ReaderDD_initDD) f cdv A outer s H E) (nS E) (defBody st_ReaderDD_initDD) (w_ReaderDD_initDD) := by
  have nd := sc_ReaderDD_initDD.nd
  exact dss_cons (ds_fld cf_Reader_letters (de_var 0) (de_var 1)) (dss_cons (ds_fld cf_Reader_text (de_var 0) (de_var 2)) (dss_cons (ds_fld cf_Reader_at (de_var 0) (de_int)) (dss_cons (ds_fld cf_Reader_levels (de_var 0) (de_lst (da_cons (de_make i_Level tk hr (da_cons (de_bl) (da_nil)) (hj := by omega)) (da_nil)))) (dss_one (ds_fld cf_Reader_behind (de_var 0) (de_glob c_NOTHING))))))
abbrev st_Reader_sign : Stmt := inClass (topS 35) 1
theorem sc_Reader_sign : FnScope ["self"] ["self"] (defScope st_Reader_sign) := ⟨rfl, rfl, rfl, by decide +kernel, rfl, by decide +kernel, by decide +kernel⟩
theorem d_Reader_sign {P : Program} {w : World} {K : PySem.W.Frag} {mg : Str → Option Value} {base : Heap} {f : Addr} (cf_Reader_at : CF K mg "Reader" "at") (cf_Reader_text : CF K mg "Reader" "text") (cdv : Value) (A : Around) (outer : List Env) (s : Shared) (H : Hp) (E : XK) (hr : Room 0 (cxOf (L2.CX P w) P w K mg base ["self"] "Reader.sign" (defScope st_Reader_sign) f cdv A outer s H E).A) (tk : Takes (cxOf (L2.CX P w) P w K mg base ["self"] "Reader.sign" (defScope st_Reader_sign) f cdv A outer s H E) (nS E)) (hp : PassesOwn (model P w) (cxOf (L2.CX P w) P w K mg base ["self"] "Reader.sign" (defScope st_Reader_sign) f cdv A outer s H E).A (cxOf (L2.CX P w) P w K mg base ["self"] "Reader.sign" (defScope st_Reader_sign) f cdv A outer s H E).env (cxOf (L2.CX P w) P w K mg base ["self"] "Reader.sign" (defScope st_Reader_sign) f cdv A outer s H E).xe) :
    DSs (cxOf (L2.CX P w) P w K mg base ["self"] "Reader.sign" (defScope st_Reader_sign) f cdv A outer s H E) (nS E) (defBody st_Reader_sign) (w_Reader_sign) := by
  have nd := sc_Reader_sign.nd
  exact dss_one (ds_ret (de_sl (de_fld cf_Reader_text (de_var 0)) (do_some (de_fld cf_Reader_at (de_var 0))) (do_some (de_op ok_add (de_fld cf_Reader_at (de_var 0)) (de_int)))))
abbrev st_Reader_refuse : Stmt := inClass (topS 35) 2
theorem sc_Reader_refuse : FnScope ["self"] ["self"] (defScope st_Reader_refuse) := ⟨rfl, rfl, rfl, by decide +kernel, rfl, by decide +kernel, by decide +kernel⟩
theorem d_Reader_refuse {P : Program} {w : World} {K : PySem.W.Frag} {mg : Str → Option Value} {base : Heap} {f : Addr} (cf_Reader_at : CF K mg "Reader" "at") (x_NoText : GX P w K mg base "NoText" 1 sp_NoTextDD_initDD) (cdv : Value) (A : Around) (outer : List Env) (s : Shared) (H : Hp) (E : XK) (hr : Room 2 (cxOf (L2.CX P w) P w K mg base ["self"] "Reader.refuse" (defScope st_Reader_refuse) f cdv A outer s H E).A) (tk : Takes (cxOf (L2.CX P w) P w K mg base ["self"] "Reader.refuse" (defScope st_Reader_refuse) f cdv A outer s H E) (nS E)) (hp : PassesOwn (model P w) (cxOf (L2.CX P w) P w K mg base ["self"] "Reader.refuse" (defScope st_Reader_refuse) f cdv A outer s H E).A (cxOf (L2.CX P w) P w K mg base ["self"] "Reader.refuse" (defScope st_Reader_refuse) f cdv A outer s H E).env (cxOf (L2.CX P w) P w K mg base ["self"] "Reader.refuse" (defScope st_Reader_refuse) f cdv A outer s H E).xe) :
    DSs (cxOf (L2.CX P w) P w K mg base ["self"] "Reader.refuse" (defScope st_Reader_refuse) f cdv A outer s H E) (nS E) (defBody st_Reader_refuse) (w_Reader_refuse) := by
  have nd := sc_Reader_refuse.nd
  exact dss_one (ds_raise rfl x_NoText tk hr (da_cons (de_fld cf_Reader_at (de_var 0)) (da_nil)) (hj := by omega))
abbrev st_Reader_add : Stmt := inClass (topS 35) 3
theorem sc_Reader_add : FnScope ["self", "tree"] ["self", "tree"] (defScope st_Reader_add) := ⟨rfl, rfl, rfl, by decide +kernel, rfl, by decide +kernel, by decide +kernel⟩
theorem d_Reader_add {P : Program} {w : World} {K : PySem.W.Frag} {mg : Str → Option Value} {base : Heap} {f : Addr} (c_ITEM : GC K mg "ITEM" (.int 1)) (cf_Level_last : CF K mg "Level" "last") (cf_Reader_behind : CF K mg "Reader" "behind") (cf_Reader_levels : CF K mg "Reader" "levels") (cdv : Value) (A : Around) (outer : List Env) (s : Shared) (H : Hp) (E : XK) (hr : Room 0 (cxOf (L2.CX P w) P w K mg base ["self", "tree"] "Reader.add" (defScope st_Reader_add) f cdv A outer s H E).A) (tk : Takes (cxOf (L2.CX P w) P w K mg base ["self", "tree"] "Reader.add" (defScope st_Reader_add) f cdv A outer s H E) (nS E)) (hp : PassesOwn (model P w) (cxOf (L2.CX P w) P w K mg base ["self", "tree"] "Reader.add" (defScope st_Reader_add) f cdv A outer s H E).A (cxOf (L2.CX P w) P w K mg base ["self", "tree"] "Reader.add" (defScope st_Reader_add) f cdv A outer s H E).env (cxOf (L2.CX P w) P w K mg base ["self", "tree"] "Reader.add" (defScope st_Reader_add) f cdv A outer s H E).xe) :
    DSs (cxOf (L2.CX P w) P w K mg base ["self", "tree"] "Reader.add" (defScope st_Reader_add) f cdv A outer s H E) (nS E) (defBody st_Reader_add) (w_Reader_add) := by
  have nd := sc_Reader_add.nd
  exact dss_cons (ds_expr (de_mt PySem.F.plainAttrs_list PySem.F.slot_list_append PySem.F.type_list_append ok_append (de_fld cf_Level_last (de_ix (de_fld cf_Reader_levels (de_var 0)) (de_neg (de_int)))) (da_cons (de_var 1) (da_nil)))) (dss_one (ds_fld cf_Reader_behind (de_var 0) (de_glob c_ITEM)))
abbrev st_Reader_bracket : Stmt := inClass (topS 35) 4
theorem sc_Reader_bracket : FnScope ["self", "found"] ["self"] (defScope st_Reader_bracket) := ⟨rfl, rfl, rfl, by decide +kernel, rfl, by decide +kernel, by decide +kernel⟩
theorem d_Reader_bracket {P : Program} {w : World} {K : PySem.W.Frag} {mg : Str → Option Value} {base : Heap} {f : Addr} (cf_Reader_at : CF K mg "Reader" "at") (cf_Reader_letters : CF K mg "Reader" "letters") (m_Reader_refuse : GM' P w K mg base "Reader" "refuse" 3 sp_Reader_refuse) (m_Reader_sign : GM' P w K mg base "Reader" "sign" 1 sp_Reader_sign) (cdv : Value) (A : Around) (outer : List Env) (s : Shared) (H : Hp) (E : XK) (hr : Room 3 (cxOf (L2.CX P w) P w K mg base ["self", "found"] "Reader.bracket" (defScope st_Reader_bracket) f cdv A outer s H E).A) (tk : Takes (cxOf (L2.CX P w) P w K mg base ["self", "found"] "Reader.bracket" (defScope st_Reader_bracket) f cdv A outer s H E) (nS E)) (hp : PassesOwn (model P w) (cxOf (L2.CX P w) P w K mg base ["self", "found"] "Reader.bracket" (defScope st_Reader_bracket) f cdv A outer s H E).A (cxOf (L2.CX P w) P w K mg base ["self", "found"] "Reader.bracket" (defScope st_Reader_bracket) f cdv A outer s H E).env (cxOf (L2.CX P w) P w K mg base ["self", "found"] "Reader.bracket" (defScope st_Reader_bracket) f cdv A outer s H E).xe) :
    DSs (cxOf (L2.CX P w) P w K mg base ["self", "found"] "Reader.bracket" (defScope st_Reader_bracket) f cdv A outer s H E) (nS E) (defBody st_Reader_bracket) (w_Reader_bracket) := by
  have nd := sc_Reader_bracket.nd
  exact dss_cons (ds_set 1 nd (de_str)) (dss_cons (ds_while hp (DW.dt (dw_or (dt_cmp (ok_eq (hu64 hr)) (de_var 1) (de_str)) (dw_or1 (dt_cmp (ok_ne (hu64 hr)) (de_meth0 m_Reader_sign tk hr (de_var 0) (hj := by omega)) (de_str))))) (dss_cons (ds_if (DW.dt (dw_or (dt_cmp (ok_eq (hu64 hr)) (de_meth0 m_Reader_sign tk hr (de_var 0) (hj := by omega)) (de_str)) (dw_or (dt_cmp ok_notIn (de_meth0 m_Reader_sign tk hr (de_var 0) (hj := by omega)) (de_fld cf_Reader_letters (de_var 0))) (dw_or1 (dt_cmp ok_le (de_meth0 m_Reader_sign tk hr (de_var 0) (hj := by omega)) (de_sl (de_var 1) (do_some (de_neg (de_int))) (do_none))))))) (dss_one (ds_expr (de_meth0 m_Reader_refuse tk hr (de_var 0) (hj := by omega)))) (dss_nil)) (dss_cons (ds_set 1 nd (de_op ok_add (de_var 1) (de_meth0 m_Reader_sign tk hr (de_var 0) (hj := by omega)))) (dss_one (ds_fld cf_Reader_at (de_var 0) (de_op ok_add (de_fld cf_Reader_at (de_var 0)) (de_int))))))) (dss_cons (ds_fld cf_Reader_at (de_var 0) (de_op ok_add (de_fld cf_Reader_at (de_var 0)) (de_int))) (dss_one (ds_ret (de_tup (da_cons (de_str) (da_cons (de_var 1) (da_nil))))))))
abbrev st_Reader_enter : Stmt := inClass (topS 35) 5
theorem sc_Reader_enter : FnScope ["self", "is_group"] ["self"] (defScope st_Reader_enter) := ⟨rfl, rfl, rfl, by decide +kernel, rfl, by decide +kernel, by decide +kernel⟩
theorem d_Reader_enter {P : Program} {w : World} {K : PySem.W.Frag} {mg : Str → Option Value} {base : Heap} {f : Addr} (c_NOTHING : GC K mg "NOTHING" (.int 0)) (cf_Reader_at : CF K mg "Reader" "at") (cf_Reader_behind : CF K mg "Reader" "behind") (cf_Reader_levels : CF K mg "Reader" "levels") (i_Level : GI P w K mg base "Level" 1 sp_LevelDD_initDD) (m_Reader_refuse : GM' P w K mg base "Reader" "refuse" 3 sp_Reader_refuse) (m_Reader_sign : GM' P w K mg base "Reader" "sign" 1 sp_Reader_sign) (cdv : Value) (A : Around) (outer : List Env) (s : Shared) (H : Hp) (E : XK) (hr : Room 3 (cxOf (L2.CX P w) P w K mg base ["self", "is_group"] "Reader.enter" (defScope st_Reader_enter) f cdv A outer s H E).A) (tk : Takes (cxOf (L2.CX P w) P w K mg base ["self", "is_group"] "Reader.enter" (defScope st_Reader_enter) f cdv A outer s H E) (nS E)) (hp : PassesOwn (model P w) (cxOf (L2.CX P w) P w K mg base ["self", "is_group"] "Reader.enter" (defScope st_Reader_enter) f cdv A outer s H E).A (cxOf (L2.CX P w) P w K mg base ["self", "is_group"] "Reader.enter" (defScope st_Reader_enter) f cdv A outer s H E).env (cxOf (L2.CX P w) P w K mg base ["self", "is_group"] "Reader.enter" (defScope st_Reader_enter) f cdv A outer s H E).xe) :
    DSs (cxOf (L2.CX P w) P w K mg base ["self", "is_group"] "Reader.enter" (defScope st_Reader_enter) f cdv A outer s H E) (nS E) (defBody st_Reader_enter) (w_Reader_enter) := by
  have nd := sc_Reader_enter.nd
  exact dss_cons (ds_set 1 nd (de_cmp (ok_ne (hu64 hr)) (de_meth0 m_Reader_sign tk hr (de_var 0) (hj := by omega)) (de_str))) (dss_cons (ds_if (dt_not (dt_tru (de_var 1))) (dss_cons (ds_fld cf_Reader_at (de_var 0) (de_op ok_add (de_fld cf_Reader_at (de_var 0)) (de_int))) (dss_cons (ds_if (dt_cmp (ok_ne (hu64 hr)) (de_meth0 m_Reader_sign tk hr (de_var 0) (hj := by omega)) (de_str)) (dss_one (ds_expr (de_meth0 m_Reader_refuse tk hr (de_var 0) (hj := by omega)))) (dss_nil)) (dss_one (ds_fld cf_Reader_at (de_var 0) (de_op ok_add (de_fld cf_Reader_at (de_var 0)) (de_int)))))) (dss_nil)) (dss_cons (ds_expr (de_mt PySem.F.plainAttrs_list PySem.F.slot_list_append PySem.F.type_list_append ok_append (de_fld cf_Reader_levels (de_var 0)) (da_cons (de_make i_Level tk hr (da_cons (de_var 1) (da_nil)) (hj := by omega)) (da_nil)))) (dss_one (ds_fld cf_Reader_behind (de_var 0) (de_glob c_NOTHING)))))
abbrev st_Reader_repeat : Stmt := inClass (topS 35) 6
theorem sc_Reader_repeat : FnScope ["self", "sign", "last"] ["self", "sign"] (defScope st_Reader_repeat) := ⟨rfl, rfl, rfl, by decide +kernel, rfl, by decide +kernel, by decide +kernel⟩
theorem d_Reader_repeat {P : Program} {w : World} {K : PySem.W.Frag} {mg : Str → Option Value} {base : Heap} {f : Addr} (c_ITEM : GC K mg "ITEM" (.int 1)) (c_NOTHING : GC K mg "NOTHING" (.int 0)) (c_SIGN : GC K mg "SIGN" (.int 2)) (cf_Level_last : CF K mg "Level" "last") (cf_Reader_behind : CF K mg "Reader" "behind") (cf_Reader_levels : CF K mg "Reader" "levels") (m_Reader_refuse : GM' P w K mg base "Reader" "refuse" 3 sp_Reader_refuse) (wd_SIGNS : WD K mg w "SIGNS" tblSigns) (cdv : Value) (A : Around) (outer : List Env) (s : Shared) (H : Hp) (E : XK) (hr : Room 3 (cxOf (L2.CX P w) P w K mg base ["self", "sign", "last"] "Reader.repeat" (defScope st_Reader_repeat) f cdv A outer s H E).A) (tk : Takes (cxOf (L2.CX P w) P w K mg base ["self", "sign", "last"] "Reader.repeat" (defScope st_Reader_repeat) f cdv A outer s H E) (nS E)) (hp : PassesOwn (model P w) (cxOf (L2.CX P w) P w K mg base ["self", "sign", "last"] "Reader.repeat" (defScope st_Reader_repeat) f cdv A outer s H E).A (cxOf (L2.CX P w) P w K mg base ["self", "sign", "last"] "Reader.repeat" (defScope st_Reader_repeat) f cdv A outer s H E).env (cxOf (L2.CX P w) P w K mg base ["self", "sign", "last"] "Reader.repeat" (defScope st_Reader_repeat) f cdv A outer s H E).xe) :
    DSs (cxOf (L2.CX P w) P w K mg base ["self", "sign", "last"] "Reader.repeat" (defScope st_Reader_repeat) f cdv A outer s H E) (nS E) (defBody st_Reader_repeat) (w_Reader_repeat) := by
  have nd := sc_Reader_repeat.nd
  exact dss_cons (ds_set 2 nd (de_fld cf_Level_last (de_ix (de_fld cf_Reader_levels (de_var 0)) (de_neg (de_int))))) (dss_one (ds_if (dt_cmp (ok_eq (hu64 hr)) (de_fld cf_Reader_behind (de_var 0)) (de_glob c_ITEM)) (dss_cons (ds_setIx (de_var 2) (de_neg (de_int)) (de_tup (da_cons (de_wget wd_SIGNS (de_var 1)) (da_cons (de_ix (de_var 2) (de_neg (de_int))) (da_cons (de_str) (da_nil)))))) (dss_one (ds_fld cf_Reader_behind (de_var 0) (de_glob c_SIGN)))) (dss_one (ds_if (DW.dt (dw_and (dt_cmp (ok_eq (hu64 hr)) (de_fld cf_Reader_behind (de_var 0)) (de_glob c_SIGN)) (dw_and1 (dt_cmp (ok_eq (hu64 hr)) (de_var 1) (de_str))))) (dss_cons (ds_setIx (de_var 2) (de_neg (de_int)) (de_op ok_add (de_sl (de_ix (de_var 2) (de_neg (de_int))) (do_none) (do_some (de_int))) (de_tup (da_cons (de_str) (da_nil))))) (dss_one (ds_fld cf_Reader_behind (de_var 0) (de_glob c_NOTHING)))) (dss_one (ds_expr (de_meth0 m_Reader_refuse tk hr (de_var 0) (hj := by omega))))))))
abbrev st_Reader_step : Stmt := inClass (topS 35) 7
theorem sc_Reader_step : FnScope ["self", "sign", "is_close", "is_begin", "level"] ["self"] (defScope st_Reader_step) := ⟨rfl, rfl, rfl, by decide +kernel, rfl, by decide +kernel, by decide +kernel⟩
theorem d_Reader_step {P : Program} {w : World} {K : PySem.W.Frag} {mg : Str → Option Value} {base : Heap} {f : Addr} (b_len : mg "len" = none) (c_MOST_LEVELS : GC K mg "MOST_LEVELS" (.int 60)) (c_NOTHING : GC K mg "NOTHING" (.int 0)) (cf_Reader_at : CF K mg "Reader" "at") (cf_Reader_behind : CF K mg "Reader" "behind") (cf_Reader_letters : CF K mg "Reader" "letters") (cf_Reader_levels : CF K mg "Reader" "levels") (m_Level_end_row : GM' P w K mg base "Level" "end_row" 1 sp_Level_end_row) (m_Level_finished : GM' P w K mg base "Level" "finished" 2 sp_Level_finished) (m_Reader_add : GM' P w K mg base "Reader" "add" 1 sp_Reader_add) (m_Reader_bracket : GM' P w K mg base "Reader" "bracket" 4 sp_Reader_bracket) (m_Reader_enter : GM' P w K mg base "Reader" "enter" 4 sp_Reader_enter) (m_Reader_refuse : GM' P w K mg base "Reader" "refuse" 3 sp_Reader_refuse) (m_Reader_repeat : GM' P w K mg base "Reader" "repeat" 4 sp_Reader_repeat) (m_Reader_sign : GM' P w K mg base "Reader" "sign" 1 sp_Reader_sign) (wd_SIGNS : WD K mg w "SIGNS" tblSigns) (cdv : Value) (A : Around) (outer : List Env) (s : Shared) (H : Hp) (E : XK) (hr : Room 4 (cxOf (L2.CX P w) P w K mg base ["self", "sign", "is_close", "is_begin", "level"] "Reader.step" (defScope st_Reader_step) f cdv A outer s H E).A) (tk : Takes (cxOf (L2.CX P w) P w K mg base ["self", "sign", "is_close", "is_begin", "level"] "Reader.step" (defScope st_Reader_step) f cdv A outer s H E) (nS E)) (hp : PassesOwn (model P w) (cxOf (L2.CX P w) P w K mg base ["self", "sign", "is_close", "is_begin", "level"] "Reader.step" (defScope st_Reader_step) f cdv A outer s H E).A (cxOf (L2.CX P w) P w K mg base ["self", "sign", "is_close", "is_begin", "level"] "Reader.step" (defScope st_Reader_step) f cdv A outer s H E).env (cxOf (L2.CX P w) P w K mg base ["self", "sign", "is_close", "is_begin", "level"] "Reader.step" (defScope st_Reader_step) f cdv A outer s H E).xe) :
    DSs (cxOf (L2.CX P w) P w K mg base ["self", "sign", "is_close", "is_begin", "level"] "Reader.step" (defScope st_Reader_step) f cdv A outer s H E) (nS E) (defBody st_Reader_step) (w_Reader_step) := by
  have nd := sc_Reader_step.nd
  exact dss_cons (ds_set 1 nd (de_meth0 m_Reader_sign tk hr (de_var 0) (hj := by omega))) (dss_cons (ds_if (dt_win wd_SIGNS (de_var 1)) (dss_cons (ds_expr (de_meth m_Reader_repeat tk hr (de_var 0) (da_cons (de_var 1) (da_nil)) (hj := by omega))) (dss_cons (ds_fld cf_Reader_at (de_var 0) (de_op ok_add (de_fld cf_Reader_at (de_var 0)) (de_int))) (dss_one (ds_retN)))) (dss_nil)) (dss_cons (ds_set 2 nd (de_and (de_cmp (ok_eq (hu64 hr)) (de_var 1) (de_str)) (de_one (de_cmp ok_gt (de_callB (ok_len) b_len (by decide +kernel) (da_cons (de_fld cf_Reader_levels (de_var 0)) (da_nil))) (de_int))))) (dss_cons (ds_set 3 nd (de_and (de_cmp (ok_eq (hu64 hr)) (de_var 1) (de_str)) (de_one (de_cmp ok_le (de_callB (ok_len) b_len (by decide +kernel) (da_cons (de_fld cf_Reader_levels (de_var 0)) (da_nil))) (de_glob c_MOST_LEVELS))))) (dss_cons (ds_if (DW.dt (dw_and (dt_not (dt_tru (de_var 2))) (dw_and (dt_not (dt_tru (de_var 3))) (dw_and (dt_cmp ok_notIn (de_var 1) (de_fld cf_Reader_letters (de_var 0))) (dw_and1 (dt_cmp ok_notIn (de_var 1) (de_tup (da_cons (de_str) (da_cons (de_str) (da_cons (de_str) (da_nil))))))))))) (dss_one (ds_expr (de_meth0 m_Reader_refuse tk hr (de_var 0) (hj := by omega)))) (dss_nil)) (dss_cons (ds_fld cf_Reader_at (de_var 0) (de_op ok_add (de_fld cf_Reader_at (de_var 0)) (de_int))) (dss_one (ds_if (dt_tru (de_var 2)) (dss_cons (ds_set 4 nd (de_mt0 PySem.F.plainAttrs_list PySem.F.slot_list_pop PySem.F.type_list_pop ok_pop (de_fld cf_Reader_levels (de_var 0)))) (dss_one (ds_expr (de_meth m_Reader_add tk hr (de_var 0) (da_cons (de_meth0 m_Level_finished tk hr (de_var 4) (hj := by omega)) (da_nil)) (hj := by omega))))) (dss_one (ds_if (dt_tru (de_var 3)) (dss_one (ds_expr (de_meth0 m_Reader_enter tk hr (de_var 0) (hj := by omega)))) (dss_one (ds_if (dt_cmp (ok_eq (hu64 hr)) (de_var 1) (de_str)) (dss_one (ds_expr (de_meth m_Reader_add tk hr (de_var 0) (da_cons (de_meth0 m_Reader_bracket tk hr (de_var 0) (hj := by omega)) (da_nil)) (hj := by omega)))) (dss_one (ds_if (dt_cmp (ok_eq (hu64 hr)) (de_var 1) (de_str)) (dss_cons (ds_expr (de_meth0 m_Level_end_row tk hr (de_ix (de_fld cf_Reader_levels (de_var 0)) (de_neg (de_int))) (hj := by omega))) (dss_one (ds_fld cf_Reader_behind (de_var 0) (de_glob c_NOTHING)))) (dss_one (ds_expr (de_meth m_Reader_add tk hr (de_var 0) (da_cons (de_tup (da_cons (de_str) (da_cons (de_ifE (dt_cmp (ok_eq (hu64 hr)) (de_var 1) (de_str)) (de_fld cf_Reader_letters (de_var 0)) (de_var 1)) (da_nil)))) (da_nil)) (hj := by omega)))))))))))))))))
abbrev st_Reader_finished : Stmt := inClass (topS 35) 8
theorem sc_Reader_finished : FnScope ["self"] ["self"] (defScope st_Reader_finished) := ⟨rfl, rfl, rfl, by decide +kernel, rfl, by decide +kernel, by decide +kernel⟩
theorem d_Reader_finished {P : Program} {w : World} {K : PySem.W.Frag} {mg : Str → Option Value} {base : Heap} {f : Addr} (b_len : mg "len" = none) (cf_Reader_at : CF K mg "Reader" "at") (cf_Reader_levels : CF K mg "Reader" "levels") (cf_Reader_text : CF K mg "Reader" "text") (m_Level_finished : GM' P w K mg base "Level" "finished" 2 sp_Level_finished) (m_Reader_refuse : GM' P w K mg base "Reader" "refuse" 3 sp_Reader_refuse) (m_Reader_step : GM' P w K mg base "Reader" "step" 5 sp_Reader_step) (cdv : Value) (A : Around) (outer : List Env) (s : Shared) (H : Hp) (E : XK) (hr : Room 5 (cxOf (L2.CX P w) P w K mg base ["self"] "Reader.finished" (defScope st_Reader_finished) f cdv A outer s H E).A) (tk : Takes (cxOf (L2.CX P w) P w K mg base ["self"] "Reader.finished" (defScope st_Reader_finished) f cdv A outer s H E) (nS E)) (hp : PassesOwn (model P w) (cxOf (L2.CX P w) P w K mg base ["self"] "Reader.finished" (defScope st_Reader_finished) f cdv A outer s H E).A (cxOf (L2.CX P w) P w K mg base ["self"] "Reader.finished" (defScope st_Reader_finished) f cdv A outer s H E).env (cxOf (L2.CX P w) P w K mg base ["self"] "Reader.finished" (defScope st_Reader_finished) f cdv A outer s H E).xe) :
    DSs (cxOf (L2.CX P w) P w K mg base ["self"] "Reader.finished" (defScope st_Reader_finished) f cdv A outer s H E) (nS E) (defBody st_Reader_finished) (w_Reader_finished) := by
  have nd := sc_Reader_finished.nd
  exact dss_cons (ds_while hp (dt_cmp ok_lt (de_fld cf_Reader_at (de_var 0)) (de_callB (ok_len) b_len (by decide +kernel) (da_cons (de_fld cf_Reader_text (de_var 0)) (da_nil)))) (dss_one (ds_expr (de_meth0 m_Reader_step tk hr (de_var 0) (hj := by omega))))) (dss_cons (ds_if (dt_cmp ok_gt (de_callB (ok_len) b_len (by decide +kernel) (da_cons (de_fld cf_Reader_levels (de_var 0)) (da_nil))) (de_int)) (dss_one (ds_expr (de_meth0 m_Reader_refuse tk hr (de_var 0) (hj := by omega)))) (dss_nil)) (dss_one (ds_ret (de_meth0 m_Level_finished tk hr (de_ix (de_fld cf_Reader_levels (de_var 0)) (de_int)) (hj := by omega)))))
abbrev st_read : Stmt := topS 36
theorem sc_read : FnScope ["letters", "text"] ["letters", "text"] (defScope st_read) := ⟨rfl, rfl, rfl, by decide +kernel, rfl, by decide +kernel, by decide +kernel⟩
theorem d_read {P : Program} {w : World} {K : PySem.W.Frag} {mg : Str → Option Value} {base : Heap} {f : Addr} (b_isinstance : mg "isinstance" = none) (b_str : mg "str" = none) (g_check_letters : GF P w K mg base "check_letters" 3 sp_check_letters) (i_Pattern : GI P w K mg base "Pattern" 23 sp_PatternDD_initDD) (i_Reader : GI P w K mg base "Reader" 3 sp_ReaderDD_initDD) (m_Reader_finished : GM' P w K mg base "Reader" "finished" 6 sp_Reader_finished) (x_NoText : GX P w K mg base "NoText" 1 sp_NoTextDD_initDD) (cdv : Value) (A : Around) (outer : List Env) (s : Shared) (H : Hp) (E : XK) (hr : Room 24 (cxOf (L2.CX P w) P w K mg base ["letters", "text"] "read" (defScope st_read) f cdv A outer s H E).A) (tk : Takes (cxOf (L2.CX P w) P w K mg base ["letters", "text"] "read" (defScope st_read) f cdv A outer s H E) (nS E)) (hp : PassesOwn (model P w) (cxOf (L2.CX P w) P w K mg base ["letters", "text"] "read" (defScope st_read) f cdv A outer s H E).A (cxOf (L2.CX P w) P w K mg base ["letters", "text"] "read" (defScope st_read) f cdv A outer s H E).env (cxOf (L2.CX P w) P w K mg base ["letters", "text"] "read" (defScope st_read) f cdv A outer s H E).xe) :
    DSs (cxOf (L2.CX P w) P w K mg base ["letters", "text"] "read" (defScope st_read) f cdv A outer s H E) (nS E) (defBody st_read) (w_read) := by
  have nd := sc_read.nd
  exact dss_cons (ds_expr (de_call g_check_letters tk hr (da_cons (de_var 0) (da_nil)) (hj := by omega))) (dss_cons (ds_if (dt_not (dt_tru (de_callB (ok_isinst) b_isinstance (by decide +kernel) (da_cons (de_var 1) (da_cons (de_ty b_str (by decide +kernel)) (da_nil)))))) (dss_one (ds_raise rfl x_NoText tk hr (da_cons (de_neg (de_int)) (da_nil)) (hj := by omega))) (dss_nil)) (dss_one (ds_ret (de_make i_Pattern tk hr (da_cons (de_var 0) (da_cons (de_meth0 m_Reader_finished tk hr (de_make i_Reader tk hr (da_cons (de_var 0) (da_cons (de_var 1) (da_nil))) (hj := by omega)) (hj := by omega)) (da_nil))) (hj := by omega)))))
abbrev st__law_cell_at : Stmt := topS 38
theorem sc__law_cell_at : FnScope ["_law_script", "_law_k"] ["_law_script", "_law_k"] (defScope st__law_cell_at) := ⟨rfl, rfl, rfl, by decide +kernel, rfl, by decide +kernel, by decide +kernel⟩
theorem d__law_cell_at {P : Program} {w : World} {K : PySem.W.Frag} {mg : Str → Option Value} {base : Heap} {f : Addr} (b_len : mg "len" = none) (cdv : Value) (A : Around) (outer : List Env) (s : Shared) (H : Hp) (E : XK) (hr : Room 0 (cxOf (L2.CX P w) P w K mg base ["_law_script", "_law_k"] "_law_cell_at" (defScope st__law_cell_at) f cdv A outer s H E).A) (tk : Takes (cxOf (L2.CX P w) P w K mg base ["_law_script", "_law_k"] "_law_cell_at" (defScope st__law_cell_at) f cdv A outer s H E) (nS E)) (hp : PassesOwn (model P w) (cxOf (L2.CX P w) P w K mg base ["_law_script", "_law_k"] "_law_cell_at" (defScope st__law_cell_at) f cdv A outer s H E).A (cxOf (L2.CX P w) P w K mg base ["_law_script", "_law_k"] "_law_cell_at" (defScope st__law_cell_at) f cdv A outer s H E).env (cxOf (L2.CX P w) P w K mg base ["_law_script", "_law_k"] "_law_cell_at" (defScope st__law_cell_at) f cdv A outer s H E).xe) :
    DSs (cxOf (L2.CX P w) P w K mg base ["_law_script", "_law_k"] "_law_cell_at" (defScope st__law_cell_at) f cdv A outer s H E) (nS E) (defBody st__law_cell_at) (w__law_cell_at) := by
  have nd := sc__law_cell_at.nd
  exact dss_cons (ds_if (dt_cmp ok_lt (de_var 1) (de_callB (ok_len) b_len (by decide +kernel) (da_cons (de_var 0) (da_nil)))) (dss_one (ds_ret (de_ix (de_var 0) (de_var 1)))) (dss_nil)) (dss_one (ds_ret (de_int)))
abbrev st__law_source_of : Stmt := topS 39
theorem sc__law_source_of : FnScope ["_law_cell"] ["_law_cell"] (defScope st__law_source_of) := ⟨rfl, rfl, rfl, by decide +kernel, rfl, by decide +kernel, by decide +kernel⟩
theorem d__law_source_of {P : Program} {w : World} {K : PySem.W.Frag} {mg : Str → Option Value} {base : Heap} {f : Addr} (b_int : mg "int" = none) (cdv : Value) (A : Around) (outer : List Env) (s : Shared) (H : Hp) (E : XK) (hr : Room 0 (cxOf (L2.CX P w) P w K mg base ["_law_cell"] "_law_source_of" (defScope st__law_source_of) f cdv A outer s H E).A) (tk : Takes (cxOf (L2.CX P w) P w K mg base ["_law_cell"] "_law_source_of" (defScope st__law_source_of) f cdv A outer s H E) (nS E)) (hp : PassesOwn (model P w) (cxOf (L2.CX P w) P w K mg base ["_law_cell"] "_law_source_of" (defScope st__law_source_of) f cdv A outer s H E).A (cxOf (L2.CX P w) P w K mg base ["_law_cell"] "_law_source_of" (defScope st__law_source_of) f cdv A outer s H E).env (cxOf (L2.CX P w) P w K mg base ["_law_cell"] "_law_source_of" (defScope st__law_source_of) f cdv A outer s H E).xe) :
    DSs (cxOf (L2.CX P w) P w K mg base ["_law_cell"] "_law_source_of" (defScope st__law_source_of) f cdv A outer s H E) (nS E) (defBody st__law_source_of) (w__law_source_of) := by
  have nd := sc__law_source_of.nd
  exact dss_cons (ds_set 0 nd (de_ifE (dt_cmp ok_ge (de_var 0) (de_int)) (de_var 0) (de_op ok_sub (de_op ok_sub (de_int) (de_op ok_mul (de_int) (de_var 0))) (de_int)))) (dss_one (ds_ret (de_lst (da_cons (de_op ok_mul (de_var 0) (de_callTy (ok_int1) b_int (by decide +kernel) (da_cons (de_cmp ok_ge (de_var 0) (de_op ok_pow (de_int) (de_int))) (da_nil)))) (da_cons (de_op ok_mod (de_callTy (ok_int1) b_int (by decide +kernel) (da_cons (de_var 0) (da_nil))) (de_int)) (da_cons (de_int) (da_nil)))))))
abbrev st__law_next : Stmt := topS 40
theorem sc__law_next : FnScope ["_law_source", "_law_many", "_law_prime", "_law_number", "_law_found"] ["_law_source", "_law_many"] (defScope st__law_next) := ⟨rfl, rfl, rfl, by decide +kernel, rfl, by decide +kernel, by decide +kernel⟩
theorem d__law_next {P : Program} {w : World} {K : PySem.W.Frag} {mg : Str → Option Value} {base : Heap} {f : Addr} (b_int : mg "int" = none) (cdv : Value) (A : Around) (outer : List Env) (s : Shared) (H : Hp) (E : XK) (hr : Room 0 (cxOf (L2.CX P w) P w K mg base ["_law_source", "_law_many", "_law_prime", "_law_number", "_law_found"] "_law_next" (defScope st__law_next) f cdv A outer s H E).A) (tk : Takes (cxOf (L2.CX P w) P w K mg base ["_law_source", "_law_many", "_law_prime", "_law_number", "_law_found"] "_law_next" (defScope st__law_next) f cdv A outer s H E) (nS E)) (hp : PassesOwn (model P w) (cxOf (L2.CX P w) P w K mg base ["_law_source", "_law_many", "_law_prime", "_law_number", "_law_found"] "_law_next" (defScope st__law_next) f cdv A outer s H E).A (cxOf (L2.CX P w) P w K mg base ["_law_source", "_law_many", "_law_prime", "_law_number", "_law_found"] "_law_next" (defScope st__law_next) f cdv A outer s H E).env (cxOf (L2.CX P w) P w K mg base ["_law_source", "_law_many", "_law_prime", "_law_number", "_law_found"] "_law_next" (defScope st__law_next) f cdv A outer s H E).xe) :
    DSs (cxOf (L2.CX P w) P w K mg base ["_law_source", "_law_many", "_law_prime", "_law_number", "_law_found"] "_law_next" (defScope st__law_next) f cdv A outer s H E) (nS E) (defBody st__law_next) (w__law_next) := by
  have nd := sc__law_next.nd
  exact dss_cons (ds_if (dt_cmp ok_gt (de_ix (de_var 0) (de_int)) (de_int)) (dss_cons (ds_set 4 nd (de_op ok_mod (de_callTy (ok_int1) b_int (by decide +kernel) (da_cons (de_ix (de_var 0) (de_int)) (da_nil))) (de_var 1))) (dss_cons (ds_setIx (de_var 0) (de_int) (de_op ok_div (de_ix (de_var 0) (de_int)) (de_var 1))) (dss_one (ds_ret (de_var 4))))) (dss_nil)) (dss_cons (ds_setIx (de_var 0) (de_int) (de_op ok_add (de_ix (de_var 0) (de_int)) (de_int))) (dss_cons (ds_set 2 nd (de_int)) (dss_cons (ds_set 3 nd (de_op ok_mod (de_callTy (ok_int1) b_int (by decide +kernel) (da_cons (de_op ok_add (de_op ok_add (de_ix (de_var 0) (de_int)) (de_op ok_mul (de_int) (de_ix (de_var 0) (de_int)))) (de_int)) (da_nil))) (de_var 2))) (dss_cons (ds_set 3 nd (de_op ok_mod (de_callTy (ok_int1) b_int (by decide +kernel) (da_cons (de_op ok_mul (de_var 3) (de_int)) (da_nil))) (de_var 2))) (dss_cons (ds_set 3 nd (de_op ok_mod (de_callTy (ok_int1) b_int (by decide +kernel) (da_cons (de_op ok_mul (de_var 3) (de_op ok_add (de_op ok_div (de_var 3) (de_int)) (de_int))) (da_nil))) (de_var 2))) (dss_cons (ds_set 3 nd (de_op ok_mod (de_callTy (ok_int1) b_int (by decide +kernel) (da_cons (de_op ok_mul (de_var 3) (de_op ok_add (de_op ok_div (de_var 3) (de_int)) (de_int))) (da_nil))) (de_int))) (dss_one (ds_ret (de_op ok_mod (de_callTy (ok_int1) b_int (by decide +kernel) (da_cons (de_op ok_div (de_var 3) (de_int)) (da_nil))) (de_var 1))))))))))
abbrev st__law_one : Stmt := topS 41
theorem sc__law_one : FnScope ["_law_source", "_law_some"] ["_law_source", "_law_some"] (defScope st__law_one) := ⟨rfl, rfl, rfl, by decide +kernel, rfl, by decide +kernel, by decide +kernel⟩
theorem d__law_one {P : Program} {w : World} {K : PySem.W.Frag} {mg : Str → Option Value} {base : Heap} {f : Addr} (b_len : mg "len" = none) (g__law_next : GF P w K mg base "_law_next" 1 sp__law_next) (cdv : Value) (A : Around) (outer : List Env) (s : Shared) (H : Hp) (E : XK) (hr : Room 1 (cxOf (L2.CX P w) P w K mg base ["_law_source", "_law_some"] "_law_one" (defScope st__law_one) f cdv A outer s H E).A) (tk : Takes (cxOf (L2.CX P w) P w K mg base ["_law_source", "_law_some"] "_law_one" (defScope st__law_one) f cdv A outer s H E) (nS E)) (hp : PassesOwn (model P w) (cxOf (L2.CX P w) P w K mg base ["_law_source", "_law_some"] "_law_one" (defScope st__law_one) f cdv A outer s H E).A (cxOf (L2.CX P w) P w K mg base ["_law_source", "_law_some"] "_law_one" (defScope st__law_one) f cdv A outer s H E).env (cxOf (L2.CX P w) P w K mg base ["_law_source", "_law_some"] "_law_one" (defScope st__law_one) f cdv A outer s H E).xe) :
    DSs (cxOf (L2.CX P w) P w K mg base ["_law_source", "_law_some"] "_law_one" (defScope st__law_one) f cdv A outer s H E) (nS E) (defBody st__law_one) (w__law_one) := by
  have nd := sc__law_one.nd
  exact dss_one (ds_ret (de_ix (de_var 1) (de_call g__law_next tk hr (da_cons (de_var 0) (da_cons (de_callB (ok_len) b_len (by decide +kernel) (da_cons (de_var 1) (da_nil))) (da_nil))) (hj := by omega))))
abbrev st__law_alike : Stmt := topS 42
theorem sc__law_alike : FnScope ["_law_found"] [] (defScope st__law_alike) := ⟨rfl, rfl, rfl, by decide +kernel, rfl, by decide +kernel, by decide +kernel⟩
theorem d__law_alike {P : Program} {w : World} {K : PySem.W.Frag} {mg : Str → Option Value} {base : Heap} {f : Addr} (cdv : Value) (A : Around) (outer : List Env) (s : Shared) (H : Hp) (E : XK) (hr : Room 0 (cxOf (L2.CX P w) P w K mg base ["_law_found"] "_law_alike" (defScope st__law_alike) f cdv A outer s H E).A) (tk : Takes (cxOf (L2.CX P w) P w K mg base ["_law_found"] "_law_alike" (defScope st__law_alike) f cdv A outer s H E) (nS E)) (hp : PassesOwn (model P w) (cxOf (L2.CX P w) P w K mg base ["_law_found"] "_law_alike" (defScope st__law_alike) f cdv A outer s H E).A (cxOf (L2.CX P w) P w K mg base ["_law_found"] "_law_alike" (defScope st__law_alike) f cdv A outer s H E).env (cxOf (L2.CX P w) P w K mg base ["_law_found"] "_law_alike" (defScope st__law_alike) f cdv A outer s H E).xe) :
    DSs (cxOf (L2.CX P w) P w K mg base ["_law_found"] "_law_alike" (defScope st__law_alike) f cdv A outer s H E) (nS E) (defBody st__law_alike) (w__law_alike) := by
  have nd := sc__law_alike.nd
  exact dss_cons (ds_set 0 nd (de_lst (da_cons (de_tup (da_cons (de_str) (da_cons (de_str) (da_nil)))) (da_cons (de_tup (da_cons (de_str) (da_cons (de_str) (da_nil)))) (da_cons (de_tup (da_cons (de_str) (da_cons (de_str) (da_nil)))) (da_cons (de_tup (da_cons (de_str) (da_cons (de_str) (da_nil)))) (da_cons (de_tup (da_cons (de_str) (da_cons (de_str) (da_nil)))) (da_cons (de_tup (da_cons (de_str) (da_cons (de_str) (da_nil)))) (da_nil))))))))) (dss_cons (ds_set 0 nd (de_op ok_add (de_var 0) (de_lst (da_cons (de_tup (da_cons (de_str) (da_cons (de_str) (da_nil)))) (da_cons (de_tup (da_cons (de_str) (da_cons (de_str) (da_nil)))) (da_cons (de_tup (da_cons (de_str) (da_cons (de_str) (da_nil)))) (da_cons (de_tup (da_cons (de_str) (da_cons (de_str) (da_nil)))) (da_nil)))))))) (dss_cons (ds_expr (de_mt PySem.F.plainAttrs_list PySem.F.slot_list_append PySem.F.type_list_append ok_append (de_var 0) (da_cons (de_tup (da_cons (de_str) (da_cons (de_str) (da_nil)))) (da_nil)))) (dss_cons (ds_set 0 nd (de_op ok_add (de_var 0) (de_lst (da_cons (de_tup (da_cons (de_str) (da_cons (de_str) (da_nil)))) (da_cons (de_tup (da_cons (de_str) (da_cons (de_str) (da_nil)))) (da_cons (de_tup (da_cons (de_str) (da_cons (de_str) (da_nil)))) (da_cons (de_tup (da_cons (de_str) (da_cons (de_str) (da_nil)))) (da_nil)))))))) (dss_one (ds_ret (de_op ok_add (de_var 0) (de_lst (da_cons (de_tup (da_cons (de_str) (da_cons (de_str) (da_nil)))) (da_cons (de_tup (da_cons (de_str) (da_cons (de_str) (da_nil)))) (da_cons (de_tup (da_cons (de_str) (da_cons (de_str) (da_nil)))) (da_cons (de_tup (da_cons (de_str) (da_cons (de_str) (da_nil)))) (da_nil))))))))))))
abbrev st__law_unlike : Stmt := topS 43
theorem sc__law_unlike : FnScope ["_law_found"] [] (defScope st__law_unlike) := ⟨rfl, rfl, rfl, by decide +kernel, rfl, by decide +kernel, by decide +kernel⟩
theorem d__law_unlike {P : Program} {w : World} {K : PySem.W.Frag} {mg : Str → Option Value} {base : Heap} {f : Addr} (cdv : Value) (A : Around) (outer : List Env) (s : Shared) (H : Hp) (E : XK) (hr : Room 0 (cxOf (L2.CX P w) P w K mg base ["_law_found"] "_law_unlike" (defScope st__law_unlike) f cdv A outer s H E).A) (tk : Takes (cxOf (L2.CX P w) P w K mg base ["_law_found"] "_law_unlike" (defScope st__law_unlike) f cdv A outer s H E) (nS E)) (hp : PassesOwn (model P w) (cxOf (L2.CX P w) P w K mg base ["_law_found"] "_law_unlike" (defScope st__law_unlike) f cdv A outer s H E).A (cxOf (L2.CX P w) P w K mg base ["_law_found"] "_law_unlike" (defScope st__law_unlike) f cdv A outer s H E).env (cxOf (L2.CX P w) P w K mg base ["_law_found"] "_law_unlike" (defScope st__law_unlike) f cdv A outer s H E).xe) :
    DSs (cxOf (L2.CX P w) P w K mg base ["_law_found"] "_law_unlike" (defScope st__law_unlike) f cdv A outer s H E) (nS E) (defBody st__law_unlike) (w__law_unlike) := by
  have nd := sc__law_unlike.nd
  exact dss_cons (ds_set 0 nd (de_lst (da_cons (de_tup (da_cons (de_str) (da_cons (de_str) (da_nil)))) (da_cons (de_tup (da_cons (de_str) (da_cons (de_str) (da_nil)))) (da_cons (de_tup (da_cons (de_str) (da_cons (de_str) (da_nil)))) (da_cons (de_tup (da_cons (de_str) (da_cons (de_str) (da_nil)))) (da_cons (de_tup (da_cons (de_str) (da_cons (de_str) (da_nil)))) (da_cons (de_tup (da_cons (de_str) (da_cons (de_str) (da_nil)))) (da_cons (de_tup (da_cons (de_str) (da_cons (de_str) (da_nil)))) (da_nil)))))))))) (dss_cons (ds_set 0 nd (de_op ok_add (de_var 0) (de_lst (da_cons (de_tup (da_cons (de_str) (da_cons (de_str) (da_nil)))) (da_cons (de_tup (da_cons (de_str) (da_cons (de_str) (da_nil)))) (da_cons (de_tup (da_cons (de_str) (da_cons (de_str) (da_nil)))) (da_cons (de_tup (da_cons (de_str) (da_cons (de_str) (da_nil)))) (da_cons (de_tup (da_cons (de_str) (da_cons (de_str) (da_nil)))) (da_nil))))))))) (dss_cons (ds_expr (de_mt PySem.F.plainAttrs_list PySem.F.slot_list_append PySem.F.type_list_append ok_append (de_var 0) (da_cons (de_tup (da_cons (de_str) (da_cons (de_str) (da_nil)))) (da_nil)))) (dss_cons (ds_set 0 nd (de_op ok_add (de_var 0) (de_lst (da_cons (de_tup (da_cons (de_str) (da_cons (de_str) (da_nil)))) (da_cons (de_tup (da_cons (de_str) (da_cons (de_str) (da_nil)))) (da_cons (de_tup (da_cons (de_str) (da_cons (de_str) (da_nil)))) (da_cons (de_tup (da_cons (de_str) (da_cons (de_str) (da_nil)))) (da_cons (de_tup (da_cons (de_str) (da_cons (de_str) (da_nil)))) (da_nil))))))))) (dss_cons (ds_set 0 nd (de_op ok_add (de_var 0) (de_lst (da_cons (de_tup (da_cons (de_str) (da_cons (de_str) (da_nil)))) (da_cons (de_tup (da_cons (de_str) (da_cons (de_str) (da_nil)))) (da_cons (de_tup (da_cons (de_str) (da_cons (de_str) (da_nil)))) (da_cons (de_tup (da_cons (de_str) (da_cons (de_str) (da_nil)))) (da_cons (de_tup (da_cons (de_str) (da_cons (de_str) (da_nil)))) (da_nil))))))))) (dss_one (ds_ret (de_op ok_add (de_var 0) (de_lst (da_cons (de_tup (da_cons (de_str) (da_cons (de_str) (da_nil)))) (da_cons (de_tup (da_cons (de_str) (da_cons (de_str) (da_nil)))) (da_cons (de_tup (da_cons (de_str) (da_cons (de_str) (da_nil)))) (da_cons (de_tup (da_cons (de_str) (da_cons (de_str) (da_nil)))) (da_cons (de_tup (da_cons (de_str) (da_cons (de_str) (da_nil)))) (da_cons (de_tup (da_cons (de_str) (da_cons (de_str) (da_nil)))) (da_nil)))))))))))))))
abbrev st__law_put : Stmt := topS 44
theorem sc__law_put : FnScope ["_law_source", "_law_pair", "_law_is_alike", "_law_way", "_law_some", "_law_sign", "_law_other", "_law_more", "_law_text"] ["_law_source", "_law_pair", "_law_is_alike"] (defScope st__law_put) := ⟨rfl, rfl, rfl, by decide +kernel, rfl, by decide +kernel, by decide +kernel⟩
theorem d__law_put {P : Program} {w : World} {K : PySem.W.Frag} {mg : Str → Option Value} {base : Heap} {f : Addr} (g__law_alike : GF P w K mg base "_law_alike" 1 sp__law_alike) (g__law_next : GF P w K mg base "_law_next" 1 sp__law_next) (g__law_one : GF P w K mg base "_law_one" 2 sp__law_one) (g__law_unlike : GF P w K mg base "_law_unlike" 1 sp__law_unlike) (cdv : Value) (A : Around) (outer : List Env) (s : Shared) (H : Hp) (E : XK) (hr : Room 2 (cxOf (L2.CX P w) P w K mg base ["_law_source", "_law_pair", "_law_is_alike", "_law_way", "_law_some", "_law_sign", "_law_other", "_law_more", "_law_text"] "_law_put" (defScope st__law_put) f cdv A outer s H E).A) (tk : Takes (cxOf (L2.CX P w) P w K mg base ["_law_source", "_law_pair", "_law_is_alike", "_law_way", "_law_some", "_law_sign", "_law_other", "_law_more", "_law_text"] "_law_put" (defScope st__law_put) f cdv A outer s H E) (nS E)) (hp : PassesOwn (model P w) (cxOf (L2.CX P w) P w K mg base ["_law_source", "_law_pair", "_law_is_alike", "_law_way", "_law_some", "_law_sign", "_law_other", "_law_more", "_law_text"] "_law_put" (defScope st__law_put) f cdv A outer s H E).A (cxOf (L2.CX P w) P w K mg base ["_law_source", "_law_pair", "_law_is_alike", "_law_way", "_law_some", "_law_sign", "_law_other", "_law_more", "_law_text"] "_law_put" (defScope st__law_put) f cdv A outer s H E).env (cxOf (L2.CX P w) P w K mg base ["_law_source", "_law_pair", "_law_is_alike", "_law_way", "_law_some", "_law_sign", "_law_other", "_law_more", "_law_text"] "_law_put" (defScope st__law_put) f cdv A outer s H E).xe) :
    DSs (cxOf (L2.CX P w) P w K mg base ["_law_source", "_law_pair", "_law_is_alike", "_law_way", "_law_some", "_law_sign", "_law_other", "_law_more", "_law_text"] "_law_put" (defScope st__law_put) f cdv A outer s H E) (nS E) (defBody st__law_put) (w__law_put) := by
  have nd := sc__law_put.nd
  exact dss_cons (ds_set 3 nd (de_call g__law_next tk hr (da_cons (de_var 0) (da_cons (de_int) (da_nil))) (hj := by omega))) (dss_cons (ds_setLc 4 (own := [("_law_text", 8)]) rfl nd (sw_true rfl rfl rfl (by decide +kernel)) (di_tup (de_var 1)) (blkOk_by (N := ["_law_source", "_law_pair", "_law_is_alike", "_law_way", "_law_some", "_law_sign", "_law_other", "_law_more", "_law_text"]) (sc := defScope st__law_put) (own := [("_law_text", 8)]) (by decide +kernel)) (fun _ _ _ _ _ => dg_name 8 nd) (fun _ _ _ _ _ => dts_nil) (fun _ _ _ _ _ => de_op ok_add (de_op ok_add (de_str) (de_var 8)) (de_str))) (dss_cons (ds_if (dt_cmp (ok_eq (hu64 hr)) (de_var 3) (de_int)) (dss_one (ds_ret (de_tup (da_cons (de_tup (da_cons (de_op ok_add (de_op ok_add (de_str) (de_ix (de_var 1) (de_int))) (de_str)) (da_cons (de_op ok_add (de_op ok_add (de_str) (de_ix (de_var 1) (de_int))) (de_str)) (da_nil)))) (da_cons (de_var 2) (da_nil)))))) (dss_nil)) (dss_cons (ds_if (dt_cmp (ok_eq (hu64 hr)) (de_var 3) (de_int)) (dss_cons (ds_set 5 nd (de_call g__law_one tk hr (da_cons (de_var 0) (da_cons (de_lst (da_cons (de_str) (da_cons (de_str) (da_nil)))) (da_nil))) (hj := by omega))) (dss_one (ds_ret (de_tup (da_cons (de_tup (da_cons (de_op ok_add (de_ix (de_var 4) (de_int)) (de_var 5)) (da_cons (de_op ok_add (de_ix (de_var 4) (de_int)) (de_var 5)) (da_nil)))) (da_cons (de_var 2) (da_nil))))))) (dss_nil)) (dss_cons (ds_if (dt_cmp ok_lt (de_var 3) (de_int)) (dss_cons (ds_set 6 nd (de_call g__law_one tk hr (da_cons (de_var 0) (da_cons (de_call0 g__law_alike tk hr (hj := by omega)) (da_nil))) (hj := by omega))) (dss_cons (ds_setLc 7 (own := [("_law_text", 8)]) rfl nd (sw_true rfl rfl rfl (by decide +kernel)) (di_tup (de_var 6)) (blkOk_by (N := ["_law_source", "_law_pair", "_law_is_alike", "_law_way", "_law_some", "_law_sign", "_law_other", "_law_more", "_law_text"]) (sc := defScope st__law_put) (own := [("_law_text", 8)]) (by decide +kernel)) (fun _ _ _ _ _ => dg_name 8 nd) (fun _ _ _ _ _ => dts_nil) (fun _ _ _ _ _ => de_op ok_add (de_op ok_add (de_str) (de_var 8)) (de_str))) (dss_cons (ds_set 5 nd (de_ix (de_lst (da_cons (de_str) (da_cons (de_str) (da_nil)))) (de_op ok_sub (de_var 3) (de_int)))) (dss_cons (ds_if (dt_cmp (ok_eq (hu64 hr)) (de_call g__law_next tk hr (da_cons (de_var 0) (da_cons (de_int) (da_nil))) (hj := by omega)) (de_int)) (dss_one (ds_ret (de_tup (da_cons (de_tup (da_cons (de_op ok_add (de_op ok_add (de_ix (de_var 7) (de_int)) (de_var 5)) (de_ix (de_var 4) (de_int))) (da_cons (de_op ok_add (de_op ok_add (de_ix (de_var 7) (de_int)) (de_var 5)) (de_ix (de_var 4) (de_int))) (da_nil)))) (da_cons (de_var 2) (da_nil)))))) (dss_nil)) (dss_one (ds_ret (de_tup (da_cons (de_tup (da_cons (de_op ok_add (de_op ok_add (de_ix (de_var 4) (de_int)) (de_var 5)) (de_ix (de_var 7) (de_int))) (da_cons (de_op ok_add (de_op ok_add (de_ix (de_var 4) (de_int)) (de_var 5)) (de_ix (de_var 7) (de_int))) (da_nil)))) (da_cons (de_var 2) (da_nil)))))))))) (dss_nil)) (dss_cons (ds_if (dt_cmp ok_lt (de_var 3) (de_int)) (dss_cons (ds_set 6 nd (de_call g__law_one tk hr (da_cons (de_var 0) (da_cons (de_call0 g__law_unlike tk hr (hj := by omega)) (da_nil))) (hj := by omega))) (dss_cons (ds_setLc 7 (own := [("_law_text", 8)]) rfl nd (sw_true rfl rfl rfl (by decide +kernel)) (di_tup (de_var 6)) (blkOk_by (N := ["_law_source", "_law_pair", "_law_is_alike", "_law_way", "_law_some", "_law_sign", "_law_other", "_law_more", "_law_text"]) (sc := defScope st__law_put) (own := [("_law_text", 8)]) (by decide +kernel)) (fun _ _ _ _ _ => dg_name 8 nd) (fun _ _ _ _ _ => dts_nil) (fun _ _ _ _ _ => de_op ok_add (de_op ok_add (de_str) (de_var 8)) (de_str))) (dss_one (ds_ret (de_tup (da_cons (de_tup (da_cons (de_op ok_add (de_op ok_add (de_ix (de_var 4) (de_int)) (de_op ok_mulS (de_str) (de_op ok_sub (de_var 3) (de_int)))) (de_ix (de_var 7) (de_int))) (da_cons (de_op ok_add (de_op ok_add (de_ix (de_var 4) (de_int)) (de_op ok_mulS (de_str) (de_op ok_sub (de_var 3) (de_int)))) (de_ix (de_var 7) (de_int))) (da_nil)))) (da_cons (de_bl) (da_nil)))))))) (dss_nil)) (dss_one (ds_ret (de_tup (da_cons (de_tup (da_cons (de_ix (de_var 1) (de_int)) (da_cons (de_ix (de_var 4) (de_int)) (da_nil)))) (da_cons (de_var 2) (da_nil)))))))))))
abbrev st_law : Stmt := topS 45
theorem sc_law : FnScope ["_law_script", "_law_cell", "_law_source", "_law_rows", "_law_pair", "_law_is_alike", "_law_wide", "_law_is_same", "_law_some", "_law_must", "_law_one_here", "_law_other"] ["_law_script"] (defScope st_law) := ⟨rfl, rfl, rfl, by decide +kernel, rfl, by decide +kernel, by decide +kernel⟩
theorem d_law {P : Program} {w : World} {K : PySem.W.Frag} {mg : Str → Option Value} {base : Heap} {f : Addr} (cf_Pattern_letters : CF K mg "Pattern" "letters") (cf_Pattern_tree : CF K mg "Pattern" "tree") (eqc_Pattern : GEq P w K mg base "Pattern" 1 sp_PatternDD_eqDD) (g__law_alike : GF P w K mg base "_law_alike" 1 sp__law_alike) (g__law_cell_at : GF P w K mg base "_law_cell_at" 1 sp__law_cell_at) (g__law_put : GF P w K mg base "_law_put" 3 sp__law_put) (g__law_source_of : GF P w K mg base "_law_source_of" 1 sp__law_source_of) (g__law_unlike : GF P w K mg base "_law_unlike" 1 sp__law_unlike) (g_read : GF P w K mg base "read" 25 sp_read) (cdv : Value) (A : Around) (outer : List Env) (s : Shared) (H : Hp) (E : XK) (hr : Room 59 (cxOf (L2.CX P w) P w K mg base ["_law_script", "_law_cell", "_law_source", "_law_rows", "_law_pair", "_law_is_alike", "_law_wide", "_law_is_same", "_law_some", "_law_must", "_law_one_here", "_law_other"] "law" (defScope st_law) f cdv A outer s H E).A) (tk : Takes (cxOf (L2.CX P w) P w K mg base ["_law_script", "_law_cell", "_law_source", "_law_rows", "_law_pair", "_law_is_alike", "_law_wide", "_law_is_same", "_law_some", "_law_must", "_law_one_here", "_law_other"] "law" (defScope st_law) f cdv A outer s H E) (nS E)) (hp : PassesOwn (model P w) (cxOf (L2.CX P w) P w K mg base ["_law_script", "_law_cell", "_law_source", "_law_rows", "_law_pair", "_law_is_alike", "_law_wide", "_law_is_same", "_law_some", "_law_must", "_law_one_here", "_law_other"] "law" (defScope st_law) f cdv A outer s H E).A (cxOf (L2.CX P w) P w K mg base ["_law_script", "_law_cell", "_law_source", "_law_rows", "_law_pair", "_law_is_alike", "_law_wide", "_law_is_same", "_law_some", "_law_must", "_law_one_here", "_law_other"] "law" (defScope st_law) f cdv A outer s H E).env (cxOf (L2.CX P w) P w K mg base ["_law_script", "_law_cell", "_law_source", "_law_rows", "_law_pair", "_law_is_alike", "_law_wide", "_law_is_same", "_law_some", "_law_must", "_law_one_here", "_law_other"] "law" (defScope st_law) f cdv A outer s H E).xe) :
    DSs (cxOf (L2.CX P w) P w K mg base ["_law_script", "_law_cell", "_law_source", "_law_rows", "_law_pair", "_law_is_alike", "_law_wide", "_law_is_same", "_law_some", "_law_must", "_law_one_here", "_law_other"] "law" (defScope st_law) f cdv A outer s H E) (nS E) (defBody st_law) (w_law) := by
  have nd := sc_law.nd
  exact dss_cons (ds_for hp rfl (di_list (de_op ok_add (de_lst (da_cons (de_call g__law_cell_at tk hr (da_cons (de_var 0) (da_cons (de_int) (da_nil))) (hj := by omega)) (da_nil))) (de_sl (de_var 0) (do_some (de_int)) (do_some (de_int))))) (dg_name 1 nd) (dss_cons (ds_set 2 nd (de_call g__law_source_of tk hr (da_cons (de_var 1) (da_nil)) (hj := by omega))) (dss_cons (ds_set 3 nd (de_op ok_add (de_lc (own := [("_law_pair", 4)]) rfl nd (di_list (de_call0 g__law_alike tk hr (hj := by omega))) (blkOk_by (N := ["_law_script", "_law_cell", "_law_source", "_law_rows", "_law_pair", "_law_is_alike", "_law_wide", "_law_is_same", "_law_some", "_law_must", "_law_one_here", "_law_other"]) (sc := defScope st_law) (own := [("_law_pair", 4)]) (by decide +kernel)) (fun _ _ _ _ _ => dg_name 4 nd) (fun _ _ _ _ _ => dts_nil) (fun _ _ _ _ _ => de_tup (da_cons (de_var 4) (da_cons (de_bl) (da_nil))))) (de_lc (own := [("_law_pair", 4)]) rfl nd (di_list (de_call0 g__law_unlike tk hr (hj := by omega))) (blkOk_by (N := ["_law_script", "_law_cell", "_law_source", "_law_rows", "_law_pair", "_law_is_alike", "_law_wide", "_law_is_same", "_law_some", "_law_must", "_law_one_here", "_law_other"]) (sc := defScope st_law) (own := [("_law_pair", 4)]) (by decide +kernel)) (fun _ _ _ _ _ => dg_name 4 nd) (fun _ _ _ _ _ => dts_nil) (fun _ _ _ _ _ => de_tup (da_cons (de_var 4) (da_cons (de_bl) (da_nil))))))) (dss_one (ds_for hp rfl (di_list (de_var 3)) (dg_tup rfl (dgs_cons (dg_name 4 nd) (dgs_cons (dg_name 5 nd) (dgs_nil)))) (dss_cons (ds_asg (de_call g__law_put tk hr (da_cons (de_var 2) (da_cons (de_var 4) (da_cons (de_var 5) (da_nil)))) (hj := by omega)) (dg_tup rfl (dgs_cons (dg_name 6 nd) (dgs_cons (dg_name 7 nd) (dgs_nil))))) (dss_one (ds_for hp rfl (di_tup (de_tup (da_cons (de_tup (da_cons (de_var 4) (da_cons (de_var 5) (da_nil)))) (da_cons (de_tup (da_cons (de_var 6) (da_cons (de_var 7) (da_nil)))) (da_nil))))) (dg_tup rfl (dgs_cons (dg_name 8 nd) (dgs_cons (dg_name 9 nd) (dgs_nil)))) (dss_cons (ds_par (i := 10) (j := 11) rfl nd rfl rfl (by decide) rfl rfl (da_cons (de_call g_read tk hr (da_cons (de_str) (da_cons (de_ix (de_var 8) (de_int)) (da_nil))) (hj := by omega)) (da_cons (de_call g_read tk hr (da_cons (de_str) (da_cons (de_ix (de_var 8) (de_int)) (da_nil))) (hj := by omega)) (da_nil)))) (dss_cons (ds_if (DW.dt (dw_or (dt_cmp (ok_ne (hu64 hr)) (de_eqOwn eqc_Pattern hr (de_var 10) (de_var 11)) (de_var 9)) (dw_or (dt_cmp (ok_eq (hu64 hr)) (de_neOwn eqc_Pattern hr (de_var 10) (de_var 11)) (de_var 9)) (dw_or1 (dt_cmp (ok_ne (hu64 hr)) (de_cmp (ok_eq (hu64 hr)) (de_fld cf_Pattern_tree (de_var 10)) (de_fld cf_Pattern_tree (de_var 11))) (de_var 9)))))) (dss_one (ds_ret (de_bl))) (dss_nil)) (dss_one (ds_if (DW.dt (dw_or (dt_cmp (ok_ne (hu64 hr)) (de_fld cf_Pattern_letters (de_var 10)) (de_str)) (dw_or (dt_neOwn eqc_Pattern hr (de_call g_read tk hr (da_cons (de_str) (da_cons (de_ix (de_var 8) (de_int)) (da_nil))) (hj := by omega)) (de_var 10)) (dw_or1 (dt_eqOwn eqc_Pattern hr (de_call g_read tk hr (da_cons (de_str) (da_cons (de_ix (de_var 8) (de_int)) (da_nil))) (hj := by omega)) (de_var 11)))))) (dss_one (ds_ret (de_bl))) (dss_nil))))))))))))) (dss_one (ds_ret (de_bl)))
end EV.K15

namespace EV.K15
open PySem PySem.Spec PyProof.Rows L2 LamX EV
end EV.K15

namespace EV.K15
open PySem PySem.Spec PyProof.Rows L2 LamX EV
section
variable {wa wo wv : WE} {B : DEnds} {s : Sl} {h g : Hh} {Q : PV} {E : PX} {wr : WA} {C f : Str}
def IsC (ds : List D) (k : D → List D → Prop) : Prop := ∃ d es, ds = d :: es ∧ k d es
@[simp] theorem IsC_cons (d : D) (es : List D) (k : D → List D → Prop) : IsC (d :: es) k = k d es := propext ⟨fun ⟨_, _, e, q⟩ => by cases e; exact q, fun q => ⟨_, _, rfl, q⟩⟩
@[simp] theorem e_xini : wXIni C wr s h Q E = wr s h (fun ds h1 => IsC ds fun d es => IsRef d fun n => es.length ≤ 1000 ∧ h1[n]? = some (.exo C none) ∧ Q .non h1) E := by
  refine congrArg (fun k => wr s h k E) (funext fun ds => funext fun h1 => propext ⟨?_, ?_⟩)
  · rintro ⟨n, es, e, a, b, q⟩; exact ⟨_, es, e, n, rfl, a, b, q⟩
  · rintro ⟨_, es, e, n, rfl, a, b, q⟩; exact ⟨n, es, e, a, b, q⟩
@[simp] theorem e_setX : wSetX C f wo wv B s h = wv s h (fun d h1 => wo s h1 (fun o h2 => IsRef o fun n =>
  ((h2[n]? = some (.exo C none) ∧ B.nx s ((h2 ++ [O.exd [(f, d)]]).set n (.exo C (some h2.length)))) ∨
   ∃ m fs, h2[n]? = some (.exo C (some m)) ∧ h2[m]? = some (.exd fs) ∧ fs.length ≤ 900 ∧ B.nx s (h2.set m (.exd ((f, d) :: fs))))) (B.ex s)) (B.ex s) := rfl
end
theorem b_NoText : ∀ ds h Q E, spIni1 "NoText" "at" ds h Q E → w_NoTextDD_initDD (endsOf Q E) (slots0 ["self", "at"] ds) h := by
  rintro ds h Q E ⟨n, v, rfl, hn, q⟩
  simp [w_NoTextDD_initDD, slots0, hn, q]

theorem b_NoPattern : ∀ ds h Q E, sp_NoPatternDD_initDD ds h Q E → w_NoPatternDD_initDD (endsOf Q E) (slots0 ["self", "at", "why"] ds) h := by
  rintro ds h Q E ⟨n, v, w, rfl, hn, q⟩
  have hlt : n < h.length := (List.getElem?_eq_some_iff.mp hn).1
  have e1 : ((h ++ [O.exd [("at", v)]]).set n (.exo "NoPattern" (some h.length)))[n]? = some (.exo "NoPattern" (some h.length)) := by rw [List.getElem?_set_self (by simp; omega)]
  have e2 : ((h ++ [O.exd [("at", v)]]).set n (.exo "NoPattern" (some h.length)))[h.length]? = some (.exd [("at", v)]) := by rw [List.getElem?_set_ne (by omega)]; simp
  simp only [w_NoPatternDD_initDD, slots0, e_seq, e_expr, e_xini, e_setX]
  simp [hn]
  exact .inr ⟨h.length, e1, _, e2, by simp, q⟩

theorem chain {P : Program} {w : World} {K : PySem.W.Frag} {mg : Str → Option Value} {base : Heap} {T : List (Addr × Str)} {f_NoPatternDD_initDD f_NoTextDD_initDD f_is_row f_are_letters f_check_letters f_has_form f_within f_CheckDD_initDD f_Check_problem f_check_tree f_can_be_empty f_in_order f_check_repeated f_settled_tree f_PatternDD_initDD f_PatternDD_eqDD f_LevelDD_initDD f_Level_end_row f_Level_finished f_ReaderDD_initDD f_Reader_sign f_Reader_refuse f_Reader_add f_Reader_bracket f_Reader_enter f_Reader_repeat f_Reader_step f_Reader_finished f_read f__law_cell_at f__law_source_of f__law_next f__law_one f__law_alike f__law_unlike f__law_put : Addr} {fd_NoPatternDD_initDD fd_NoTextDD_initDD fd_is_row fd_are_letters fd_check_letters fd_has_form fd_within fd_CheckDD_initDD fd_Check_problem fd_check_tree fd_can_be_empty fd_in_order fd_check_repeated fd_settled_tree fd_PatternDD_initDD fd_PatternDD_eqDD fd_LevelDD_initDD fd_Level_end_row fd_Level_finished fd_ReaderDD_initDD fd_Reader_sign fd_Reader_refuse fd_Reader_add fd_Reader_bracket fd_Reader_enter fd_Reader_repeat fd_Reader_step fd_Reader_finished fd_read fd__law_cell_at fd__law_source_of fd__law_next fd__law_one fd__law_alike fd__law_unlike fd__law_put : FuncData} {c_Check c_Level c_Pattern c_Reader : Addr}
    (b_all : mg "all" = none)
    (b_any : mg "any" = none)
    (b_enumerate : mg "enumerate" = none)
    (b_int : mg "int" = none)
    (b_isinstance : mg "isinstance" = none)
    (b_len : mg "len" = none)
    (b_list : mg "list" = none)
    (b_str : mg "str" = none)
    (b_tuple : mg "tuple" = none)
    (b_zip : mg "zip" = none)
    (c_ALPHABET : GC K mg "ALPHABET" (.str "abcdefghijklmnopqrstuvwxyz"))
    (c_GREEDS : GC K mg "GREEDS" (.tup [.str "greedy", .str "lazy"]))
    (c_ITEM : GC K mg "ITEM" (.int 1))
    (c_MOST_DEEP : GC K mg "MOST_DEEP" (.int 8))
    (c_MOST_GROUPS : GC K mg "MOST_GROUPS" (.int 5))
    (c_MOST_LETTERS : GC K mg "MOST_LETTERS" (.int 4))
    (c_MOST_LEVELS : GC K mg "MOST_LEVELS" (.int 60))
    (c_MOST_ONES : GC K mg "MOST_ONES" (.int 10))
    (c_MOST_PARTS : GC K mg "MOST_PARTS" (.int 8))
    (c_MOST_TREES : GC K mg "MOST_TREES" (.int 60))
    (c_NOTHING : GC K mg "NOTHING" (.int 0))
    (c_REPEATED : GC K mg "REPEATED" (.tup [.str "many", .str "some", .str "maybe"]))
    (c_SIGN : GC K mg "SIGN" (.int 2))
    (cf_Check_counts : CF K mg "Check" "counts")
    (cf_Check_letters : CF K mg "Check" "letters")
    (cf_Check_trees : CF K mg "Check" "trees")
    (cf_Level_choices : CF K mg "Level" "choices")
    (cf_Level_is_group : CF K mg "Level" "is_group")
    (cf_Level_last : CF K mg "Level" "last")
    (cf_Pattern_groups : CF K mg "Pattern" "groups")
    (cf_Pattern_letters : CF K mg "Pattern" "letters")
    (cf_Pattern_ones : CF K mg "Pattern" "ones")
    (cf_Pattern_tree : CF K mg "Pattern" "tree")
    (cf_Reader_at : CF K mg "Reader" "at")
    (cf_Reader_behind : CF K mg "Reader" "behind")
    (cf_Reader_letters : CF K mg "Reader" "letters")
    (cf_Reader_levels : CF K mg "Reader" "levels")
    (cf_Reader_text : CF K mg "Reader" "text")
    (isi_Pattern : GIsI K mg "Pattern" tabI_Pattern)
    (wd_SIGNS : WD K mg w "SIGNS" tblSigns)
    (wd_SIZES : WD K mg w "SIZES" tblSizes)
    (xc_NoPattern : GXC K mg "NoPattern")
    (xc_NoText : GXC K mg "NoText")
    (xf_NoPattern_at : GXF K mg "NoPattern" "at")
    (xf_NoPattern_why : GXF K mg "NoPattern" "why")
    (xf_NoText_at : GXF K mg "NoText" "at")
    (xi_RegsError : GXI K mg "RegsError")
    (F_NoPatternDD_initDD : Fun K "__init__" "NoPattern.__init__" st_NoPatternDD_initDD f_NoPatternDD_initDD fd_NoPatternDD_initDD)
    (gx_NoPattern : ∃ c, mg "NoPattern" = some (.ref c) ∧ OexC K c ∧ PySem.W.findIn K (.ref c) "__init__" = some (some (.ref f_NoPatternDD_initDD)) ∧ PySem.W.typeIn K (.ref f_NoPatternDD_initDD) = some (.type "function"))
    (F_NoTextDD_initDD : Fun K "__init__" "NoText.__init__" st_NoTextDD_initDD f_NoTextDD_initDD fd_NoTextDD_initDD)
    (gx_NoText : ∃ c, mg "NoText" = some (.ref c) ∧ OexC K c ∧ PySem.W.findIn K (.ref c) "__init__" = some (some (.ref f_NoTextDD_initDD)) ∧ PySem.W.typeIn K (.ref f_NoTextDD_initDD) = some (.type "function"))
    (F_is_row : Fun K "is_row" "is_row" st_is_row f_is_row fd_is_row)
    (n_is_row : mg "is_row" = some (.ref f_is_row))
    (F_are_letters : Fun K "are_letters" "are_letters" st_are_letters f_are_letters fd_are_letters)
    (n_are_letters : mg "are_letters" = some (.ref f_are_letters))
    (F_check_letters : Fun K "check_letters" "check_letters" st_check_letters f_check_letters fd_check_letters)
    (n_check_letters : mg "check_letters" = some (.ref f_check_letters))
    (F_has_form : Fun K "has_form" "has_form" st_has_form f_has_form fd_has_form)
    (n_has_form : mg "has_form" = some (.ref f_has_form))
    (F_within : Fun K "within" "within" st_within f_within fd_within)
    (n_within : mg "within" = some (.ref f_within))
    (F_CheckDD_initDD : Fun K "__init__" "Check.__init__" st_CheckDD_initDD f_CheckDD_initDD fd_CheckDD_initDD)
    (mk_Check : Mk K c_Check f_CheckDD_initDD)
    (F_Check_problem : Fun K "problem" "Check.problem" st_Check_problem f_Check_problem fd_Check_problem)
    (me_Check_problem : Meth K c_Check "problem" f_Check_problem)
    (F_check_tree : Fun K "check_tree" "check_tree" st_check_tree f_check_tree fd_check_tree)
    (n_check_tree : mg "check_tree" = some (.ref f_check_tree))
    (F_can_be_empty : Fun K "can_be_empty" "can_be_empty" st_can_be_empty f_can_be_empty fd_can_be_empty)
    (n_can_be_empty : mg "can_be_empty" = some (.ref f_can_be_empty))
    (F_in_order : Fun K "in_order" "in_order" st_in_order f_in_order fd_in_order)
    (n_in_order : mg "in_order" = some (.ref f_in_order))
    (F_check_repeated : Fun K "check_repeated" "check_repeated" st_check_repeated f_check_repeated fd_check_repeated)
    (n_check_repeated : mg "check_repeated" = some (.ref f_check_repeated))
    (F_settled_tree : Fun K "settled_tree" "settled_tree" st_settled_tree f_settled_tree fd_settled_tree)
    (n_settled_tree : mg "settled_tree" = some (.ref f_settled_tree))
    (F_PatternDD_initDD : Fun K "__init__" "Pattern.__init__" st_PatternDD_initDD f_PatternDD_initDD fd_PatternDD_initDD)
    (mk_Pattern : Mk K c_Pattern f_PatternDD_initDD)
    (F_PatternDD_eqDD : Fun K "__eq__" "Pattern.__eq__" st_PatternDD_eqDD f_PatternDD_eqDD fd_PatternDD_eqDD)
    (eq_Pattern : EqCls K c_Pattern f_PatternDD_eqDD)
    (F_LevelDD_initDD : Fun K "__init__" "Level.__init__" st_LevelDD_initDD f_LevelDD_initDD fd_LevelDD_initDD)
    (mk_Level : Mk K c_Level f_LevelDD_initDD)
    (F_Level_end_row : Fun K "end_row" "Level.end_row" st_Level_end_row f_Level_end_row fd_Level_end_row)
    (me_Level_end_row : Meth K c_Level "end_row" f_Level_end_row)
    (F_Level_finished : Fun K "finished" "Level.finished" st_Level_finished f_Level_finished fd_Level_finished)
    (me_Level_finished : Meth K c_Level "finished" f_Level_finished)
    (F_ReaderDD_initDD : Fun K "__init__" "Reader.__init__" st_ReaderDD_initDD f_ReaderDD_initDD fd_ReaderDD_initDD)
    (mk_Reader : Mk K c_Reader f_ReaderDD_initDD)
    (F_Reader_sign : Fun K "sign" "Reader.sign" st_Reader_sign f_Reader_sign fd_Reader_sign)
    (me_Reader_sign : Meth K c_Reader "sign" f_Reader_sign)
    (F_Reader_refuse : Fun K "refuse" "Reader.refuse" st_Reader_refuse f_Reader_refuse fd_Reader_refuse)
    (me_Reader_refuse : Meth K c_Reader "refuse" f_Reader_refuse)
    (F_Reader_add : Fun K "add" "Reader.add" st_Reader_add f_Reader_add fd_Reader_add)
    (me_Reader_add : Meth K c_Reader "add" f_Reader_add)
    (F_Reader_bracket : Fun K "bracket" "Reader.bracket" st_Reader_bracket f_Reader_bracket fd_Reader_bracket)
    (me_Reader_bracket : Meth K c_Reader "bracket" f_Reader_bracket)
    (F_Reader_enter : Fun K "enter" "Reader.enter" st_Reader_enter f_Reader_enter fd_Reader_enter)
    (me_Reader_enter : Meth K c_Reader "enter" f_Reader_enter)
    (F_Reader_repeat : Fun K "repeat" "Reader.repeat" st_Reader_repeat f_Reader_repeat fd_Reader_repeat)
    (me_Reader_repeat : Meth K c_Reader "repeat" f_Reader_repeat)
    (F_Reader_step : Fun K "step" "Reader.step" st_Reader_step f_Reader_step fd_Reader_step)
    (me_Reader_step : Meth K c_Reader "step" f_Reader_step)
    (F_Reader_finished : Fun K "finished" "Reader.finished" st_Reader_finished f_Reader_finished fd_Reader_finished)
    (me_Reader_finished : Meth K c_Reader "finished" f_Reader_finished)
    (F_read : Fun K "read" "read" st_read f_read fd_read)
    (n_read : mg "read" = some (.ref f_read))
    (F__law_cell_at : Fun K "_law_cell_at" "_law_cell_at" st__law_cell_at f__law_cell_at fd__law_cell_at)
    (n__law_cell_at : mg "_law_cell_at" = some (.ref f__law_cell_at))
    (F__law_source_of : Fun K "_law_source_of" "_law_source_of" st__law_source_of f__law_source_of fd__law_source_of)
    (n__law_source_of : mg "_law_source_of" = some (.ref f__law_source_of))
    (F__law_next : Fun K "_law_next" "_law_next" st__law_next f__law_next fd__law_next)
    (n__law_next : mg "_law_next" = some (.ref f__law_next))
    (F__law_one : Fun K "_law_one" "_law_one" st__law_one f__law_one fd__law_one)
    (n__law_one : mg "_law_one" = some (.ref f__law_one))
    (F__law_alike : Fun K "_law_alike" "_law_alike" st__law_alike f__law_alike fd__law_alike)
    (n__law_alike : mg "_law_alike" = some (.ref f__law_alike))
    (F__law_unlike : Fun K "_law_unlike" "_law_unlike" st__law_unlike f__law_unlike fd__law_unlike)
    (n__law_unlike : mg "_law_unlike" = some (.ref f__law_unlike))
    (F__law_put : Fun K "_law_put" "_law_put" st__law_put f__law_put fd__law_put)
    (n__law_put : mg "_law_put" = some (.ref f__law_put))
    (mc_Check : mg "Check" = some (.ref c_Check))
    (cl_Check : Cls K c_Check)
    (mc_Level : mg "Level" = some (.ref c_Level))
    (cl_Level : Cls K c_Level)
    (mc_Pattern : mg "Pattern" = some (.ref c_Pattern))
    (cl_Pattern : Cls K c_Pattern)
    (mc_Reader : mg "Reader" = some (.ref c_Reader))
    (cl_Reader : Cls K c_Reader)
    : GEq P w K mg base "Pattern" 1 sp_PatternDD_eqDD ∧ GF P w K mg base "_law_alike" 1 sp__law_alike ∧ GF P w K mg base "_law_cell_at" 1 sp__law_cell_at ∧ GF P w K mg base "_law_put" 3 sp__law_put ∧ GF P w K mg base "_law_source_of" 1 sp__law_source_of ∧ GF P w K mg base "_law_unlike" 1 sp__law_unlike ∧ GF P w K mg base "read" 25 sp_read := by
  have ok_NoPatternDD_initDD : FnOk P w K mg base (L2.CX P w) 1 f_NoPatternDD_initDD fd_NoPatternDD_initDD ["self", "at", "why"] (LSp K mg sp_NoPatternDD_initDD) := fn_ok4 F_NoPatternDD_initDD sc_NoPatternDD_initDD (by rintro ds h Q E ⟨_, _, _, rfl, _⟩; rfl) (fun ds h Q E sc sd clo clx z => b_NoPattern ds h Q E  z) (d_NoPatternDD_initDD xc_NoPattern xf_NoPattern_at xf_NoPattern_why xi_RegsError)
  obtain ⟨cx_NoPattern, ca_NoPattern, cb_NoPattern, cc_NoPattern, cd_NoPattern⟩ := gx_NoPattern
  have x_NoPattern : GX P w K mg base "NoPattern" 1 sp_NoPatternDD_initDD := ⟨⟨_, _, _, _, ok_NoPatternDD_initDD, ca_NoPattern, cb_NoPattern, cc_NoPattern, cd_NoPattern, F_NoPatternDD_initDD.binds (ps := ["self", "at", "why"]) fun _ _ _ _ _ _ us hl => match us, hl with | [_, _, _], _ => rfl⟩, mono_nop⟩
  have ok_NoTextDD_initDD : FnOk P w K mg base (L2.CX P w) 1 f_NoTextDD_initDD fd_NoTextDD_initDD ["self", "at"] (LSp K mg sp_NoTextDD_initDD) := fn_ok4 F_NoTextDD_initDD sc_NoTextDD_initDD (by rintro ds h Q E ⟨_, _, rfl, _⟩; rfl) (fun ds h Q E sc sd clo clx z => b_NoText ds h Q E  z) (d_NoTextDD_initDD xc_NoText xf_NoText_at xi_RegsError)
  obtain ⟨cx_NoText, ca_NoText, cb_NoText, cc_NoText, cd_NoText⟩ := gx_NoText
  have x_NoText : GX P w K mg base "NoText" 1 sp_NoTextDD_initDD := ⟨⟨_, _, _, _, ok_NoTextDD_initDD, ca_NoText, cb_NoText, cc_NoText, cd_NoText, F_NoTextDD_initDD.binds (ps := ["self", "at"]) fun _ _ _ _ _ _ us hl => match us, hl with | [_, _], _ => rfl⟩, mono_ini1 _ _⟩
  have ok_is_row : FnOk P w K mg base (L2.CX P w) 1 f_is_row fd_is_row ["thing"] (LSp K mg sp_is_row) := fn_ok4 F_is_row sc_is_row (fun ds h Q E z => len_spN ds h Q E z) (fun ds h Q E sc sd clo clx z => b_is_row ds h Q E  z) (d_is_row b_isinstance b_list b_tuple)
  have g_is_row : GF P w K mg base "is_row" 1 sp_is_row := ⟨⟨_, _, _, ok_is_row, n_is_row, F_is_row.kp, F_is_row.binds (ps := ["thing"]) fun _ _ _ _ _ _ us hl => match us, hl with | [_], _ => rfl⟩, mono_spN _ _⟩
  have ok_are_letters : FnOk P w K mg base (L2.CX P w) 1 f_are_letters fd_are_letters ["thing", "allowed"] (LSp K mg sp_are_letters) := fn_ok4 F_are_letters sc_are_letters (fun ds h Q E z => len_spN ds h Q E z) (fun ds h Q E sc sd clo clx z => b_are_letters ds h Q E sc clo z) (d_are_letters b_all b_isinstance b_str b_zip)
  have g_are_letters : GF P w K mg base "are_letters" 1 sp_are_letters := ⟨⟨_, _, _, ok_are_letters, n_are_letters, F_are_letters.kp, F_are_letters.binds (ps := ["thing", "allowed"]) fun _ _ _ _ _ _ us hl => match us, hl with | [_, _], _ => rfl⟩, mono_spN _ _⟩
  have ok_check_letters : FnOk P w K mg base (L2.CX P w) 3 f_check_letters fd_check_letters ["letters"] (LSp K mg sp_check_letters) := fn_ok4 F_check_letters sc_check_letters (fun ds h Q E z => len_spN ds h Q E z) (fun ds h Q E sc sd clo clx z => b_check_letters ds h Q E  z) (d_check_letters b_len c_ALPHABET c_MOST_LETTERS g_are_letters x_NoPattern)
  have g_check_letters : GF P w K mg base "check_letters" 3 sp_check_letters := ⟨⟨_, _, _, ok_check_letters, n_check_letters, F_check_letters.kp, F_check_letters.binds (ps := ["letters"]) fun _ _ _ _ _ _ us hl => match us, hl with | [_], _ => rfl⟩, mono_spN _ _⟩
  have ok_has_form : FnOk P w K mg base (L2.CX P w) 2 f_has_form fd_has_form ["thing"] (LSp K mg sp_has_form) := fn_ok4 F_has_form sc_has_form (fun ds h Q E z => len_spN ds h Q E z) (fun ds h Q E sc sd clo clx z => b_has_form ds h Q E  z) (d_has_form b_isinstance b_len b_str b_tuple c_MOST_PARTS g_is_row wd_SIZES)
  have g_has_form : GF P w K mg base "has_form" 2 sp_has_form := ⟨⟨_, _, _, ok_has_form, n_has_form, F_has_form.kp, F_has_form.binds (ps := ["thing"]) fun _ _ _ _ _ _ us hl => match us, hl with | [_], _ => rfl⟩, mono_spN _ _⟩
  have ok_within : FnOk P w K mg base (L2.CX P w) 1 f_within fd_within ["tree"] (LSp K mg sp_within) := fn_ok4 F_within sc_within (fun ds h Q E z => len_spN ds h Q E z) (fun ds h Q E sc sd clo clx z => b_within ds h Q E  z) (d_within b_list)
  have g_within : GF P w K mg base "within" 1 sp_within := ⟨⟨_, _, _, ok_within, n_within, F_within.kp, F_within.binds (ps := ["tree"]) fun _ _ _ _ _ _ us hl => match us, hl with | [_], _ => rfl⟩, mono_spN _ _⟩
  have ok_CheckDD_initDD : FnOk P w K mg base (L2.CX P w) 1 f_CheckDD_initDD fd_CheckDD_initDD ["self", "letters"] (LSp K mg sp_CheckDD_initDD) := fn_ok4 F_CheckDD_initDD sc_CheckDD_initDD (by rintro ds h Q E ⟨_, _, rfl, _⟩; rfl) (fun ds h Q E sc sd clo clx z => b_ckInit ds h Q E  z) (d_CheckDD_initDD cf_Check_counts cf_Check_letters cf_Check_trees)
  have i_Check : GI P w K mg base "Check" 1 sp_CheckDD_initDD := ⟨⟨_, _, _, _, ok_CheckDD_initDD, mc_Check, mk_Check, F_CheckDD_initDD.binds (ps := ["self", "letters"]) fun _ _ _ _ _ _ us hl => match us, hl with | [_, _], _ => rfl⟩, mono_ckInit⟩
  have ok_Check_problem : FnOk P w K mg base (L2.CX P w) 3 f_Check_problem fd_Check_problem ["self", "tree", "deep"] (LSp K mg sp_Check_problem) := fn_ok4 F_Check_problem sc_Check_problem (by rintro ds h Q E ⟨_, _, _, _, _, _, _, rfl, _⟩; rfl) (fun ds h Q E sc sd clo clx z => b_problem ds h Q E  z) (d_Check_problem b_isinstance b_str c_GREEDS c_MOST_DEEP c_MOST_GROUPS c_MOST_ONES c_MOST_TREES c_REPEATED cf_Check_counts cf_Check_letters cf_Check_trees g_are_letters g_has_form)
  have m_Check_problem : GM' P w K mg base "Check" "problem" 3 sp_Check_problem := ⟨⟨_, _, _, _, ok_Check_problem, mc_Check, cl_Check, me_Check_problem, F_Check_problem.binds (ps := ["self", "tree", "deep"]) fun _ _ _ _ _ _ us hl => match us, hl with | [_, _, _], _ => rfl⟩, mono_problem⟩
  have ok_check_tree : FnOk P w K mg base (L2.CX P w) 4 f_check_tree fd_check_tree ["letters", "tree"] (LSp K mg sp_check_tree) := fn_ok4 F_check_tree sc_check_tree (fun ds h Q E z => len_spN ds h Q E z) (fun ds h Q E sc sd clo clx z => b_check_tree ds h Q E sc clo clx z) (d_check_tree cf_Check_trees g_within i_Check m_Check_problem x_NoPattern)
  have g_check_tree : GF P w K mg base "check_tree" 4 sp_check_tree := ⟨⟨_, _, _, ok_check_tree, n_check_tree, F_check_tree.kp, F_check_tree.binds (ps := ["letters", "tree"]) fun _ _ _ _ _ _ us hl => match us, hl with | [_, _], _ => rfl⟩, mono_spN _ _⟩
  have ok_can_be_empty : ∀ n : Nat, FnOk P w K mg base (L2.CX P w) (0 + n) f_can_be_empty fd_can_be_empty ["tree"] (LSp K mg (sp_can_be_empty n)) := by
    intro n
    induction n with
    | zero => exact fn_never (fun ds h Q E z => by rcases z with ⟨l, z⟩; obtain ⟨a, rfl⟩ := one_of l; exact z)
    | succ n ih =>
      have g_can_be_empty : GF P w K mg base "can_be_empty" (0 + n) (sp_can_be_empty n) := ⟨⟨_, _, _, ih, n_can_be_empty, F_can_be_empty.kp, F_can_be_empty.binds (ps := ["tree"]) fun _ _ _ _ _ _ us hl => match us, hl with | [_], _ => rfl⟩, mono_spN _ _⟩
      exact fn_ok4 F_can_be_empty sc_can_be_empty (fun ds h Q E z => len_spN ds h Q E z) (fun ds h Q E sc sd clo clx z => b_can_be_empty n ds h Q E sc clo z) (d_can_be_empty b_all b_any g_can_be_empty)
  have g_can_be_empty : GF P w K mg base "can_be_empty" 20 (sp_can_be_empty 20) := ⟨⟨_, _, _, ok_can_be_empty 20, n_can_be_empty, F_can_be_empty.kp, F_can_be_empty.binds (ps := ["tree"]) fun _ _ _ _ _ _ us hl => match us, hl with | [_], _ => rfl⟩, mono_spN _ _⟩
  have ok_in_order : ∀ n : Nat, FnOk P w K mg base (L2.CX P w) (1 + n) f_in_order fd_in_order ["tree"] (LSp K mg (sp_in_order n)) := by
    intro n
    induction n with
    | zero => exact fn_never (fun ds h Q E z => by rcases z with ⟨l, z⟩; obtain ⟨a, rfl⟩ := one_of l; exact z)
    | succ n ih =>
      have g_in_order : GF P w K mg base "in_order" (1 + n) (sp_in_order n) := ⟨⟨_, _, _, ih, n_in_order, F_in_order.kp, F_in_order.binds (ps := ["tree"]) fun _ _ _ _ _ _ us hl => match us, hl with | [_], _ => rfl⟩, mono_spN _ _⟩
      exact fn_ok4 F_in_order sc_in_order (fun ds h Q E z => len_spN ds h Q E z) (fun ds h Q E sc sd clo clx z => b_in_order n ds h Q E sc sd clo z) (d_in_order g_in_order g_within)
  have g_in_order : GF P w K mg base "in_order" 21 (sp_in_order 20) := ⟨⟨_, _, _, ok_in_order 20, n_in_order, F_in_order.kp, F_in_order.binds (ps := ["tree"]) fun _ _ _ _ _ _ us hl => match us, hl with | [_], _ => rfl⟩, mono_spN _ _⟩
  have ok_check_repeated : FnOk P w K mg base (L2.CX P w) 22 f_check_repeated fd_check_repeated ["tree"] (LSp K mg sp_check_repeated) := fn_ok4 F_check_repeated sc_check_repeated (fun ds h Q E z => len_spN ds h Q E z) (fun ds h Q E sc sd clo clx z => b_check_repeated ds h Q E sc clo clx z) (d_check_repeated b_enumerate g_can_be_empty g_in_order x_NoPattern)
  have g_check_repeated : GF P w K mg base "check_repeated" 22 sp_check_repeated := ⟨⟨_, _, _, ok_check_repeated, n_check_repeated, F_check_repeated.kp, F_check_repeated.binds (ps := ["tree"]) fun _ _ _ _ _ _ us hl => match us, hl with | [_], _ => rfl⟩, mono_spN _ _⟩
  have ok_settled_tree : ∀ n : Nat, FnOk P w K mg base (L2.CX P w) (0 + n) f_settled_tree fd_settled_tree ["tree"] (LSp K mg (sp_settled_tree n)) := by
    intro n
    induction n with
    | zero => exact fn_never (fun ds h Q E z => by rcases z with ⟨l, z⟩; obtain ⟨a, rfl⟩ := one_of l; exact z)
    | succ n ih =>
      have g_settled_tree : GF P w K mg base "settled_tree" (0 + n) (sp_settled_tree n) := ⟨⟨_, _, _, ih, n_settled_tree, F_settled_tree.kp, F_settled_tree.binds (ps := ["tree"]) fun _ _ _ _ _ _ us hl => match us, hl with | [_], _ => rfl⟩, mono_spN _ _⟩
      exact fn_ok4 F_settled_tree sc_settled_tree (fun ds h Q E z => len_spN ds h Q E z) (fun ds h Q E sc sd clo clx z => b_settled_tree n ds h Q E sc sd clo z) (d_settled_tree b_tuple g_settled_tree)
  have g_settled_tree : GF P w K mg base "settled_tree" 20 (sp_settled_tree 20) := ⟨⟨_, _, _, ok_settled_tree 20, n_settled_tree, F_settled_tree.kp, F_settled_tree.binds (ps := ["tree"]) fun _ _ _ _ _ _ us hl => match us, hl with | [_], _ => rfl⟩, mono_spN _ _⟩
  have ok_PatternDD_initDD : FnOk P w K mg base (L2.CX P w) 23 f_PatternDD_initDD fd_PatternDD_initDD ["self", "letters", "tree"] (LSp K mg sp_PatternDD_initDD) := fn_ok4 F_PatternDD_initDD sc_PatternDD_initDD (by rintro ds h Q E ⟨_, _, _, _, rfl, _⟩; rfl) (fun ds h Q E sc sd clo clx z => b_patInit ds h Q E sc sd clo clx z) (d_PatternDD_initDD b_len b_tuple cf_Pattern_groups cf_Pattern_letters cf_Pattern_ones cf_Pattern_tree g_check_letters g_check_repeated g_check_tree g_in_order g_settled_tree)
  have i_Pattern : GI P w K mg base "Pattern" 23 sp_PatternDD_initDD := ⟨⟨_, _, _, _, ok_PatternDD_initDD, mc_Pattern, mk_Pattern, F_PatternDD_initDD.binds (ps := ["self", "letters", "tree"]) fun _ _ _ _ _ _ us hl => match us, hl with | [_, _, _], _ => rfl⟩, mono_patInit⟩
  have ok_PatternDD_eqDD : FnOk P w K mg base (L2.CX P w) 1 f_PatternDD_eqDD fd_PatternDD_eqDD ["self", "other"] (LSp K mg sp_PatternDD_eqDD) := fn_ok4 F_PatternDD_eqDD sc_PatternDD_eqDD (fun ds h Q E z => len_spN ds h Q E z) (fun ds h Q E sc sd clo clx z => b_patEq ds h Q E  z) (d_PatternDD_eqDD b_isinstance cf_Pattern_letters cf_Pattern_tree isi_Pattern)
  have eqc_Pattern : GEq P w K mg base "Pattern" 1 sp_PatternDD_eqDD := ⟨⟨_, _, _, _, ok_PatternDD_eqDD, mc_Pattern, eq_Pattern, F_PatternDD_eqDD.binds (ps := ["self", "other"]) fun _ _ _ _ _ _ us hl => match us, hl with | [_, _], _ => rfl⟩, mono_spN _ _⟩
  have ok_LevelDD_initDD : FnOk P w K mg base (L2.CX P w) 1 f_LevelDD_initDD fd_LevelDD_initDD ["self", "is_group"] (LSp K mg sp_LevelDD_initDD) := fn_ok4 F_LevelDD_initDD sc_LevelDD_initDD (by rintro ds h Q E ⟨_, _, rfl, _⟩; rfl) (fun ds h Q E sc sd clo clx z => b_lvInit ds h Q E  z) (d_LevelDD_initDD cf_Level_choices cf_Level_is_group cf_Level_last)
  have i_Level : GI P w K mg base "Level" 1 sp_LevelDD_initDD := ⟨⟨_, _, _, _, ok_LevelDD_initDD, mc_Level, mk_Level, F_LevelDD_initDD.binds (ps := ["self", "is_group"]) fun _ _ _ _ _ _ us hl => match us, hl with | [_, _], _ => rfl⟩, mono_lvInit⟩
  have ok_Level_end_row : FnOk P w K mg base (L2.CX P w) 1 f_Level_end_row fd_Level_end_row ["self"] (LSp K mg sp_Level_end_row) := fn_ok4 F_Level_end_row sc_Level_end_row (by rintro ds h Q E ⟨_, _, _, _, rfl, _⟩; rfl) (fun ds h Q E sc sd clo clx z => b_endRow ds h Q E  z) (d_Level_end_row b_len b_tuple cf_Level_choices cf_Level_last)
  have m_Level_end_row : GM' P w K mg base "Level" "end_row" 1 sp_Level_end_row := ⟨⟨_, _, _, _, ok_Level_end_row, mc_Level, cl_Level, me_Level_end_row, F_Level_end_row.binds (ps := ["self"]) fun _ _ _ _ _ _ us hl => match us, hl with | [_], _ => rfl⟩, mono_endRow⟩
  have ok_Level_finished : FnOk P w K mg base (L2.CX P w) 2 f_Level_finished fd_Level_finished ["self"] (LSp K mg sp_Level_finished) := fn_ok4 F_Level_finished sc_Level_finished (by rintro ds h Q E ⟨_, _, _, _, rfl, _⟩; rfl) (fun ds h Q E sc sd clo clx z => b_lvFin ds h Q E  z) (d_Level_finished b_len b_tuple cf_Level_choices cf_Level_is_group m_Level_end_row)
  have m_Level_finished : GM' P w K mg base "Level" "finished" 2 sp_Level_finished := ⟨⟨_, _, _, _, ok_Level_finished, mc_Level, cl_Level, me_Level_finished, F_Level_finished.binds (ps := ["self"]) fun _ _ _ _ _ _ us hl => match us, hl with | [_], _ => rfl⟩, mono_lvFin⟩
  have ok_ReaderDD_initDD : FnOk P w K mg base (L2.CX P w) 3 f_ReaderDD_initDD fd_ReaderDD_initDD ["self", "letters", "text"] (LSp K mg sp_ReaderDD_initDD) := fn_ok4 F_ReaderDD_initDD sc_ReaderDD_initDD (by rintro ds h Q E ⟨_, _, _, rfl, _⟩; rfl) (fun ds h Q E sc sd clo clx z => b_rdInit ds h Q E  z) (d_ReaderDD_initDD c_NOTHING cf_Reader_at cf_Reader_behind cf_Reader_letters cf_Reader_levels cf_Reader_text i_Level)
  have i_Reader : GI P w K mg base "Reader" 3 sp_ReaderDD_initDD := ⟨⟨_, _, _, _, ok_ReaderDD_initDD, mc_Reader, mk_Reader, F_ReaderDD_initDD.binds (ps := ["self", "letters", "text"]) fun _ _ _ _ _ _ us hl => match us, hl with | [_, _, _], _ => rfl⟩, mono_rdInit⟩
  have ok_Reader_sign : FnOk P w K mg base (L2.CX P w) 1 f_Reader_sign fd_Reader_sign ["self"] (LSp K mg sp_Reader_sign) := fn_ok4 F_Reader_sign sc_Reader_sign (by rintro ds h Q E ⟨_, _, _, _, _, _, rfl, _⟩; rfl) (fun ds h Q E sc sd clo clx z => b_sign ds h Q E  z) (d_Reader_sign cf_Reader_at cf_Reader_text)
  have m_Reader_sign : GM' P w K mg base "Reader" "sign" 1 sp_Reader_sign := ⟨⟨_, _, _, _, ok_Reader_sign, mc_Reader, cl_Reader, me_Reader_sign, F_Reader_sign.binds (ps := ["self"]) fun _ _ _ _ _ _ us hl => match us, hl with | [_], _ => rfl⟩, mono_sign⟩
  have ok_Reader_refuse : FnOk P w K mg base (L2.CX P w) 3 f_Reader_refuse fd_Reader_refuse ["self"] (LSp K mg sp_Reader_refuse) := fn_ok4 F_Reader_refuse sc_Reader_refuse (by rintro ds h Q E ⟨_, _, _, _, _, _, rfl, _⟩; rfl) (fun ds h Q E sc sd clo clx z => b_refuse ds h Q E  z) (d_Reader_refuse cf_Reader_at x_NoText)
  have m_Reader_refuse : GM' P w K mg base "Reader" "refuse" 3 sp_Reader_refuse := ⟨⟨_, _, _, _, ok_Reader_refuse, mc_Reader, cl_Reader, me_Reader_refuse, F_Reader_refuse.binds (ps := ["self"]) fun _ _ _ _ _ _ us hl => match us, hl with | [_], _ => rfl⟩, mono_refuse⟩
  have ok_Reader_add : FnOk P w K mg base (L2.CX P w) 1 f_Reader_add fd_Reader_add ["self", "tree"] (LSp K mg sp_Reader_add) := fn_ok4 F_Reader_add sc_Reader_add (by rintro ds h Q E ⟨_, _, _, _, _, _, _, rfl, _⟩; rfl) (fun ds h Q E sc sd clo clx z => b_add ds h Q E  z) (d_Reader_add c_ITEM cf_Level_last cf_Reader_behind cf_Reader_levels)
  have m_Reader_add : GM' P w K mg base "Reader" "add" 1 sp_Reader_add := ⟨⟨_, _, _, _, ok_Reader_add, mc_Reader, cl_Reader, me_Reader_add, F_Reader_add.binds (ps := ["self", "tree"]) fun _ _ _ _ _ _ us hl => match us, hl with | [_, _], _ => rfl⟩, mono_add⟩
  have ok_Reader_bracket : FnOk P w K mg base (L2.CX P w) 4 f_Reader_bracket fd_Reader_bracket ["self"] (LSp K mg sp_Reader_bracket) := fn_ok4 F_Reader_bracket sc_Reader_bracket (by rintro ds h Q E ⟨_, _, _, _, rfl, _⟩; rfl) (fun ds h Q E sc sd clo clx z => b_bracket ds h Q E  z) (d_Reader_bracket cf_Reader_at cf_Reader_letters m_Reader_refuse m_Reader_sign)
  have m_Reader_bracket : GM' P w K mg base "Reader" "bracket" 4 sp_Reader_bracket := ⟨⟨_, _, _, _, ok_Reader_bracket, mc_Reader, cl_Reader, me_Reader_bracket, F_Reader_bracket.binds (ps := ["self"]) fun _ _ _ _ _ _ us hl => match us, hl with | [_], _ => rfl⟩, mono_bracket⟩
  have ok_Reader_enter : FnOk P w K mg base (L2.CX P w) 4 f_Reader_enter fd_Reader_enter ["self"] (LSp K mg sp_Reader_enter) := fn_ok4 F_Reader_enter sc_Reader_enter (by rintro ds h Q E ⟨_, _, _, _, rfl, _⟩; rfl) (fun ds h Q E sc sd clo clx z => b_enter ds h Q E  z) (d_Reader_enter c_NOTHING cf_Reader_at cf_Reader_behind cf_Reader_levels i_Level m_Reader_refuse m_Reader_sign)
  have m_Reader_enter : GM' P w K mg base "Reader" "enter" 4 sp_Reader_enter := ⟨⟨_, _, _, _, ok_Reader_enter, mc_Reader, cl_Reader, me_Reader_enter, F_Reader_enter.binds (ps := ["self"]) fun _ _ _ _ _ _ us hl => match us, hl with | [_], _ => rfl⟩, mono_enter⟩
  have ok_Reader_repeat : FnOk P w K mg base (L2.CX P w) 4 f_Reader_repeat fd_Reader_repeat ["self", "sign"] (LSp K mg sp_Reader_repeat) := fn_ok4 F_Reader_repeat sc_Reader_repeat (by rintro ds h Q E ⟨_, _, _, _, _, rfl, _⟩; rfl) (fun ds h Q E sc sd clo clx z => b_repeat ds h Q E  z) (d_Reader_repeat c_ITEM c_NOTHING c_SIGN cf_Level_last cf_Reader_behind cf_Reader_levels m_Reader_refuse wd_SIGNS)
  have m_Reader_repeat : GM' P w K mg base "Reader" "repeat" 4 sp_Reader_repeat := ⟨⟨_, _, _, _, ok_Reader_repeat, mc_Reader, cl_Reader, me_Reader_repeat, F_Reader_repeat.binds (ps := ["self", "sign"]) fun _ _ _ _ _ _ us hl => match us, hl with | [_, _], _ => rfl⟩, mono_repeat⟩
  have ok_Reader_step : FnOk P w K mg base (L2.CX P w) 5 f_Reader_step fd_Reader_step ["self"] (LSp K mg sp_Reader_step) := fn_ok4 F_Reader_step sc_Reader_step (by rintro ds h Q E ⟨_, _, _, _, rfl, _⟩; rfl) (fun ds h Q E sc sd clo clx z => b_step ds h Q E  z) (d_Reader_step b_len c_MOST_LEVELS c_NOTHING cf_Reader_at cf_Reader_behind cf_Reader_letters cf_Reader_levels m_Level_end_row m_Level_finished m_Reader_add m_Reader_bracket m_Reader_enter m_Reader_refuse m_Reader_repeat m_Reader_sign wd_SIGNS)
  have m_Reader_step : GM' P w K mg base "Reader" "step" 5 sp_Reader_step := ⟨⟨_, _, _, _, ok_Reader_step, mc_Reader, cl_Reader, me_Reader_step, F_Reader_step.binds (ps := ["self"]) fun _ _ _ _ _ _ us hl => match us, hl with | [_], _ => rfl⟩, mono_step⟩
  have ok_Reader_finished : FnOk P w K mg base (L2.CX P w) 6 f_Reader_finished fd_Reader_finished ["self"] (LSp K mg sp_Reader_finished) := fn_ok4 F_Reader_finished sc_Reader_finished (by rintro ds h Q E ⟨_, _, _, _, _, rfl, _⟩; rfl) (fun ds h Q E sc sd clo clx z => b_rdFin ds h Q E  z) (d_Reader_finished b_len cf_Reader_at cf_Reader_levels cf_Reader_text m_Level_finished m_Reader_refuse m_Reader_step)
  have m_Reader_finished : GM' P w K mg base "Reader" "finished" 6 sp_Reader_finished := ⟨⟨_, _, _, _, ok_Reader_finished, mc_Reader, cl_Reader, me_Reader_finished, F_Reader_finished.binds (ps := ["self"]) fun _ _ _ _ _ _ us hl => match us, hl with | [_], _ => rfl⟩, mono_rdFin⟩
  have ok_read : FnOk P w K mg base (L2.CX P w) 25 f_read fd_read ["letters", "text"] (LSp K mg sp_read) := fn_ok4 F_read sc_read (fun ds h Q E z => len_spN ds h Q E z) (fun ds h Q E sc sd clo clx z => b_read ds h Q E sc sd clo clx z) (d_read b_isinstance b_str g_check_letters i_Pattern i_Reader m_Reader_finished x_NoText)
  have g_read : GF P w K mg base "read" 25 sp_read := ⟨⟨_, _, _, ok_read, n_read, F_read.kp, F_read.binds (ps := ["letters", "text"]) fun _ _ _ _ _ _ us hl => match us, hl with | [_, _], _ => rfl⟩, mono_spN _ _⟩
  have ok__law_cell_at : FnOk P w K mg base (L2.CX P w) 1 f__law_cell_at fd__law_cell_at ["_law_script", "_law_k"] (LSp K mg sp__law_cell_at) := fn_ok4 F__law_cell_at sc__law_cell_at (by rintro ds h Q E ⟨_, _, _, rfl, _⟩; rfl) (fun ds h Q E sc sd clo clx z => b_cellAt ds h Q E  z) (d__law_cell_at b_len)
  have g__law_cell_at : GF P w K mg base "_law_cell_at" 1 sp__law_cell_at := ⟨⟨_, _, _, ok__law_cell_at, n__law_cell_at, F__law_cell_at.kp, F__law_cell_at.binds (ps := ["_law_script", "_law_k"]) fun _ _ _ _ _ _ us hl => match us, hl with | [_, _], _ => rfl⟩, mono_cellAt⟩
  have ok__law_source_of : FnOk P w K mg base (L2.CX P w) 1 f__law_source_of fd__law_source_of ["_law_cell"] (LSp K mg sp__law_source_of) := fn_ok4 F__law_source_of sc__law_source_of (by rintro ds h Q E ⟨_, rfl, _⟩; rfl) (fun ds h Q E sc sd clo clx z => b_sourceOf ds h Q E  z) (d__law_source_of b_int)
  have g__law_source_of : GF P w K mg base "_law_source_of" 1 sp__law_source_of := ⟨⟨_, _, _, ok__law_source_of, n__law_source_of, F__law_source_of.kp, F__law_source_of.binds (ps := ["_law_cell"]) fun _ _ _ _ _ _ us hl => match us, hl with | [_], _ => rfl⟩, mono_sourceOf⟩
  have ok__law_next : FnOk P w K mg base (L2.CX P w) 1 f__law_next fd__law_next ["_law_source", "_law_many"] (LSp K mg sp__law_next) := fn_ok4 F__law_next sc__law_next (by rintro ds h Q E ⟨_, _, _, _, _, rfl, _⟩; rfl) (fun ds h Q E sc sd clo clx z => b_next ds h Q E  z) (d__law_next b_int)
  have g__law_next : GF P w K mg base "_law_next" 1 sp__law_next := ⟨⟨_, _, _, ok__law_next, n__law_next, F__law_next.kp, F__law_next.binds (ps := ["_law_source", "_law_many"]) fun _ _ _ _ _ _ us hl => match us, hl with | [_, _], _ => rfl⟩, mono_lnext⟩
  have ok__law_one : FnOk P w K mg base (L2.CX P w) 2 f__law_one fd__law_one ["_law_source", "_law_some"] (LSp K mg sp__law_one) := fn_ok4 F__law_one sc__law_one (by rintro ds h Q E ⟨_, _, _, _, _, _, rfl, _⟩; rfl) (fun ds h Q E sc sd clo clx z => b_one ds h Q E  z) (d__law_one b_len g__law_next)
  have g__law_one : GF P w K mg base "_law_one" 2 sp__law_one := ⟨⟨_, _, _, ok__law_one, n__law_one, F__law_one.kp, F__law_one.binds (ps := ["_law_source", "_law_some"]) fun _ _ _ _ _ _ us hl => match us, hl with | [_, _], _ => rfl⟩, mono_one⟩
  have ok__law_alike : FnOk P w K mg base (L2.CX P w) 1 f__law_alike fd__law_alike [] (LSp K mg sp__law_alike) := fn_ok4 F__law_alike sc__law_alike (fun ds h Q E z => len_spN ds h Q E z) (fun ds h Q E sc sd clo clx z => b_alike ds h Q E sc sd clo clx z) (d__law_alike )
  have g__law_alike : GF P w K mg base "_law_alike" 1 sp__law_alike := ⟨⟨_, _, _, ok__law_alike, n__law_alike, F__law_alike.kp, F__law_alike.binds (ps := []) fun _ _ _ _ _ _ us hl => match us, hl with | [], _ => rfl⟩, mono_spN _ _⟩
  have ok__law_unlike : FnOk P w K mg base (L2.CX P w) 1 f__law_unlike fd__law_unlike [] (LSp K mg sp__law_unlike) := fn_ok4 F__law_unlike sc__law_unlike (fun ds h Q E z => len_spN ds h Q E z) (fun ds h Q E sc sd clo clx z => b_unlike ds h Q E sc sd clo clx z) (d__law_unlike )
  have g__law_unlike : GF P w K mg base "_law_unlike" 1 sp__law_unlike := ⟨⟨_, _, _, ok__law_unlike, n__law_unlike, F__law_unlike.kp, F__law_unlike.binds (ps := []) fun _ _ _ _ _ _ us hl => match us, hl with | [], _ => rfl⟩, mono_spN _ _⟩
  have ok__law_put : FnOk P w K mg base (L2.CX P w) 3 f__law_put fd__law_put ["_law_source", "_law_pair", "_law_is_alike"] (LSp K mg sp__law_put) := fn_ok4 F__law_put sc__law_put (by rintro ds h Q E ⟨_, _, _, _, _, _, _, rfl, _⟩; rfl) (fun ds h Q E sc sd clo clx z => b_put ds h Q E sc sd clo clx z) (d__law_put g__law_alike g__law_next g__law_one g__law_unlike)
  have g__law_put : GF P w K mg base "_law_put" 3 sp__law_put := ⟨⟨_, _, _, ok__law_put, n__law_put, F__law_put.kp, F__law_put.binds (ps := ["_law_source", "_law_pair", "_law_is_alike"]) fun _ _ _ _ _ _ us hl => match us, hl with | [_, _, _], _ => rfl⟩, mono_put⟩
  exact ⟨eqc_Pattern, g__law_alike, g__law_cell_at, g__law_put, g__law_source_of, g__law_unlike, g_read⟩
end EV.K15

namespace EV.K15
open PySem PySem.Spec PyProof.Rows L2 LamX EV
theorem all_mk {l : PySem.W.OpenLaw} {w : World} {K : PySem.W.Frag} {mg : Str → Option Value} {h : Heap} {pr : Program} {fa : Addr} {c_Check c_Level c_NoPattern c_NoText c_Pattern c_Reader c_RegsError f_CheckDD_initDD f_Check_problem f_LevelDD_initDD f_Level_end_row f_Level_finished f_NoPatternDD_initDD f_NoTextDD_initDD f_PatternDD_eqDD f_PatternDD_initDD f_ReaderDD_initDD f_Reader_add f_Reader_bracket f_Reader_enter f_Reader_finished f_Reader_refuse f_Reader_repeat f_Reader_sign f_Reader_step f__law_alike f__law_cell_at f__law_next f__law_one f__law_put f__law_source_of f__law_unlike f_are_letters f_can_be_empty f_check_letters f_check_repeated f_check_tree f_has_form f_in_order f_is_row f_law f_read f_settled_tree f_within p_GREEDS p_REPEATED p_SIGNS p_SIZES : Addr} {t_ALPHABET t0_GREEDS t1_GREEDS t_ITEM t_MOST_DEEP t_MOST_GROUPS t_MOST_LETTERS t_MOST_LEVELS t_MOST_ONES t_MOST_PARTS t_MOST_TREES t_NOTHING t0_REPEATED t1_REPEATED t2_REPEATED t_SIGN : Tok} {n_GREEDS n_REPEATED n_SIZES n_SIGNS : Nat} {sl_GREEDS sl_REPEATED : Array (Option Value)} {es_SIZES es_SIGNS : Array DictEntry}
    (X : K.In h) (G : h.Ns mainGlobals mg) (hfa : mg "law" = some (.ref fa)) (own : ∀ (y : Str) (ay : Addr), ((recsOf pr).any fun r => r.name == y) = true → mg y = some (.ref ay) → OwnTab K ay h)
    (a_RegsError : PySem.W.nsIn K mainGlobals "RegsError" = some (some (.ref c_RegsError)))
    (a_NoPattern : PySem.W.nsIn K mainGlobals "NoPattern" = some (some (.ref c_NoPattern)))
    (a_NoText : PySem.W.nsIn K mainGlobals "NoText" = some (some (.ref c_NoText)))
    (e_NoPattern : excB K c_NoPattern = true)
    (xl_NoPattern : OexL K c_NoPattern c_RegsError)
    (i_NoPattern : PySem.W.findIn K (.ref c_NoPattern) "__init__" = some (some (.ref f_NoPatternDD_initDD)))
    (t_NoPattern : PySem.W.typeIn K (.ref f_NoPatternDD_initDD) = some (.type "function"))
    (F_NoPatternDD_initDD : ∃ fd, Fun K "__init__" "NoPattern.__init__" st_NoPatternDD_initDD f_NoPatternDD_initDD fd)
    (n_NoPattern_at : PySem.W.findIn K (.ref c_NoPattern) "at" = some none)
    (n_NoPattern_why : PySem.W.findIn K (.ref c_NoPattern) "why" = some none)
    (e_NoText : excB K c_NoText = true)
    (xl_NoText : OexL K c_NoText c_RegsError)
    (i_NoText : PySem.W.findIn K (.ref c_NoText) "__init__" = some (some (.ref f_NoTextDD_initDD)))
    (t_NoText : PySem.W.typeIn K (.ref f_NoTextDD_initDD) = some (.type "function"))
    (F_NoTextDD_initDD : ∃ fd, Fun K "__init__" "NoText.__init__" st_NoTextDD_initDD f_NoTextDD_initDD fd)
    (n_NoText_at : PySem.W.findIn K (.ref c_NoText) "at" = some none)
    (g1 : PySem.W.specialIn K (.ref c_RegsError) "__getattribute__" = some (some (.builtin "type.__getattribute__")))
    (g2 : PySem.W.readsIn K c_RegsError (.type "type") = true)
    (g3 : PySem.W.findCls K (.ref c_RegsError) (.type "type") "__init__" = some (.val (.builtin "ValueError.__init__")))
    (a_Check : PySem.W.nsIn K mainGlobals "Check" = some (some (.ref c_Check)))
    (cl_Check : clsB K c_Check = true)
    (no_Check : noB K c_Check ["counts", "letters", "trees"] = true)
    (a_Level : PySem.W.nsIn K mainGlobals "Level" = some (some (.ref c_Level)))
    (cl_Level : clsB K c_Level = true)
    (no_Level : noB K c_Level ["choices", "is_group", "last"] = true)
    (a_Pattern : PySem.W.nsIn K mainGlobals "Pattern" = some (some (.ref c_Pattern)))
    (cl_Pattern : clsB K c_Pattern = true)
    (no_Pattern : noB K c_Pattern ["groups", "letters", "ones", "tree"] = true)
    (a_Reader : PySem.W.nsIn K mainGlobals "Reader" = some (some (.ref c_Reader)))
    (cl_Reader : clsB K c_Reader = true)
    (no_Reader : noB K c_Reader ["at", "behind", "letters", "levels", "text"] = true)
    (a_is_row : PySem.W.nsIn K mainGlobals "is_row" = some (some (.ref f_is_row)))
    (F_is_row : ∃ fd, Fun K "is_row" "is_row" st_is_row f_is_row fd)
    (a_are_letters : PySem.W.nsIn K mainGlobals "are_letters" = some (some (.ref f_are_letters)))
    (F_are_letters : ∃ fd, Fun K "are_letters" "are_letters" st_are_letters f_are_letters fd)
    (a_check_letters : PySem.W.nsIn K mainGlobals "check_letters" = some (some (.ref f_check_letters)))
    (F_check_letters : ∃ fd, Fun K "check_letters" "check_letters" st_check_letters f_check_letters fd)
    (a_has_form : PySem.W.nsIn K mainGlobals "has_form" = some (some (.ref f_has_form)))
    (F_has_form : ∃ fd, Fun K "has_form" "has_form" st_has_form f_has_form fd)
    (a_within : PySem.W.nsIn K mainGlobals "within" = some (some (.ref f_within)))
    (F_within : ∃ fd, Fun K "within" "within" st_within f_within fd)
    (i_CheckDD_initDD : PySem.W.findIn K (.ref c_Check) "__init__" = some (some (.ref f_CheckDD_initDD)))
    (j_CheckDD_initDD : PySem.W.isFn K (.ref f_CheckDD_initDD) = true)
    (k_Check : PySem.W.makesIn K c_Check = true)
    (l_Check : PySem.W.keepIn K (.ref c_Check) = true)
    (F_CheckDD_initDD : ∃ fd, Fun K "__init__" "Check.__init__" st_CheckDD_initDD f_CheckDD_initDD fd)
    (i_Check_problem : PySem.W.findIn K (.ref c_Check) "problem" = some (some (.ref f_Check_problem)))
    (j_Check_problem : PySem.W.isFn K (.ref f_Check_problem) = true)
    (F_Check_problem : ∃ fd, Fun K "problem" "Check.problem" st_Check_problem f_Check_problem fd)
    (a_check_tree : PySem.W.nsIn K mainGlobals "check_tree" = some (some (.ref f_check_tree)))
    (F_check_tree : ∃ fd, Fun K "check_tree" "check_tree" st_check_tree f_check_tree fd)
    (a_can_be_empty : PySem.W.nsIn K mainGlobals "can_be_empty" = some (some (.ref f_can_be_empty)))
    (F_can_be_empty : ∃ fd, Fun K "can_be_empty" "can_be_empty" st_can_be_empty f_can_be_empty fd)
    (a_in_order : PySem.W.nsIn K mainGlobals "in_order" = some (some (.ref f_in_order)))
    (F_in_order : ∃ fd, Fun K "in_order" "in_order" st_in_order f_in_order fd)
    (a_check_repeated : PySem.W.nsIn K mainGlobals "check_repeated" = some (some (.ref f_check_repeated)))
    (F_check_repeated : ∃ fd, Fun K "check_repeated" "check_repeated" st_check_repeated f_check_repeated fd)
    (a_settled_tree : PySem.W.nsIn K mainGlobals "settled_tree" = some (some (.ref f_settled_tree)))
    (F_settled_tree : ∃ fd, Fun K "settled_tree" "settled_tree" st_settled_tree f_settled_tree fd)
    (i_PatternDD_initDD : PySem.W.findIn K (.ref c_Pattern) "__init__" = some (some (.ref f_PatternDD_initDD)))
    (j_PatternDD_initDD : PySem.W.isFn K (.ref f_PatternDD_initDD) = true)
    (k_Pattern : PySem.W.makesIn K c_Pattern = true)
    (l_Pattern : PySem.W.keepIn K (.ref c_Pattern) = true)
    (F_PatternDD_initDD : ∃ fd, Fun K "__init__" "Pattern.__init__" st_PatternDD_initDD f_PatternDD_initDD fd)
    (i_PatternDD_eqDD : PySem.W.findIn K (.ref c_Pattern) "__eq__" = some (some (.ref f_PatternDD_eqDD)))
    (j_PatternDD_eqDD : PySem.W.isFn K (.ref f_PatternDD_eqDD) = true)
    (q7_Pattern : kit7B K c_Pattern = true)
    (qi_Pattern : insB K c_Pattern = true)
    (qk_Pattern : PySem.W.kitOne K (.ref c_Pattern) (.ref c_Pattern) = some true)
    (qe_Pattern : eqcB K c_Pattern = true)
    (F_PatternDD_eqDD : ∃ fd, Fun K "__eq__" "Pattern.__eq__" st_PatternDD_eqDD f_PatternDD_eqDD fd)
    (i_LevelDD_initDD : PySem.W.findIn K (.ref c_Level) "__init__" = some (some (.ref f_LevelDD_initDD)))
    (j_LevelDD_initDD : PySem.W.isFn K (.ref f_LevelDD_initDD) = true)
    (k_Level : PySem.W.makesIn K c_Level = true)
    (l_Level : PySem.W.keepIn K (.ref c_Level) = true)
    (F_LevelDD_initDD : ∃ fd, Fun K "__init__" "Level.__init__" st_LevelDD_initDD f_LevelDD_initDD fd)
    (i_Level_end_row : PySem.W.findIn K (.ref c_Level) "end_row" = some (some (.ref f_Level_end_row)))
    (j_Level_end_row : PySem.W.isFn K (.ref f_Level_end_row) = true)
    (F_Level_end_row : ∃ fd, Fun K "end_row" "Level.end_row" st_Level_end_row f_Level_end_row fd)
    (i_Level_finished : PySem.W.findIn K (.ref c_Level) "finished" = some (some (.ref f_Level_finished)))
    (j_Level_finished : PySem.W.isFn K (.ref f_Level_finished) = true)
    (F_Level_finished : ∃ fd, Fun K "finished" "Level.finished" st_Level_finished f_Level_finished fd)
    (i_ReaderDD_initDD : PySem.W.findIn K (.ref c_Reader) "__init__" = some (some (.ref f_ReaderDD_initDD)))
    (j_ReaderDD_initDD : PySem.W.isFn K (.ref f_ReaderDD_initDD) = true)
    (k_Reader : PySem.W.makesIn K c_Reader = true)
    (l_Reader : PySem.W.keepIn K (.ref c_Reader) = true)
    (F_ReaderDD_initDD : ∃ fd, Fun K "__init__" "Reader.__init__" st_ReaderDD_initDD f_ReaderDD_initDD fd)
    (i_Reader_sign : PySem.W.findIn K (.ref c_Reader) "sign" = some (some (.ref f_Reader_sign)))
    (j_Reader_sign : PySem.W.isFn K (.ref f_Reader_sign) = true)
    (F_Reader_sign : ∃ fd, Fun K "sign" "Reader.sign" st_Reader_sign f_Reader_sign fd)
    (i_Reader_refuse : PySem.W.findIn K (.ref c_Reader) "refuse" = some (some (.ref f_Reader_refuse)))
    (j_Reader_refuse : PySem.W.isFn K (.ref f_Reader_refuse) = true)
    (F_Reader_refuse : ∃ fd, Fun K "refuse" "Reader.refuse" st_Reader_refuse f_Reader_refuse fd)
    (i_Reader_add : PySem.W.findIn K (.ref c_Reader) "add" = some (some (.ref f_Reader_add)))
    (j_Reader_add : PySem.W.isFn K (.ref f_Reader_add) = true)
    (F_Reader_add : ∃ fd, Fun K "add" "Reader.add" st_Reader_add f_Reader_add fd)
    (i_Reader_bracket : PySem.W.findIn K (.ref c_Reader) "bracket" = some (some (.ref f_Reader_bracket)))
    (j_Reader_bracket : PySem.W.isFn K (.ref f_Reader_bracket) = true)
    (F_Reader_bracket : ∃ fd, Fun K "bracket" "Reader.bracket" st_Reader_bracket f_Reader_bracket fd)
    (i_Reader_enter : PySem.W.findIn K (.ref c_Reader) "enter" = some (some (.ref f_Reader_enter)))
    (j_Reader_enter : PySem.W.isFn K (.ref f_Reader_enter) = true)
    (F_Reader_enter : ∃ fd, Fun K "enter" "Reader.enter" st_Reader_enter f_Reader_enter fd)
    (i_Reader_repeat : PySem.W.findIn K (.ref c_Reader) "repeat" = some (some (.ref f_Reader_repeat)))
    (j_Reader_repeat : PySem.W.isFn K (.ref f_Reader_repeat) = true)
    (F_Reader_repeat : ∃ fd, Fun K "repeat" "Reader.repeat" st_Reader_repeat f_Reader_repeat fd)
    (i_Reader_step : PySem.W.findIn K (.ref c_Reader) "step" = some (some (.ref f_Reader_step)))
    (j_Reader_step : PySem.W.isFn K (.ref f_Reader_step) = true)
    (F_Reader_step : ∃ fd, Fun K "step" "Reader.step" st_Reader_step f_Reader_step fd)
    (i_Reader_finished : PySem.W.findIn K (.ref c_Reader) "finished" = some (some (.ref f_Reader_finished)))
    (j_Reader_finished : PySem.W.isFn K (.ref f_Reader_finished) = true)
    (F_Reader_finished : ∃ fd, Fun K "finished" "Reader.finished" st_Reader_finished f_Reader_finished fd)
    (a_read : PySem.W.nsIn K mainGlobals "read" = some (some (.ref f_read)))
    (F_read : ∃ fd, Fun K "read" "read" st_read f_read fd)
    (a__law_cell_at : PySem.W.nsIn K mainGlobals "_law_cell_at" = some (some (.ref f__law_cell_at)))
    (F__law_cell_at : ∃ fd, Fun K "_law_cell_at" "_law_cell_at" st__law_cell_at f__law_cell_at fd)
    (a__law_source_of : PySem.W.nsIn K mainGlobals "_law_source_of" = some (some (.ref f__law_source_of)))
    (F__law_source_of : ∃ fd, Fun K "_law_source_of" "_law_source_of" st__law_source_of f__law_source_of fd)
    (a__law_next : PySem.W.nsIn K mainGlobals "_law_next" = some (some (.ref f__law_next)))
    (F__law_next : ∃ fd, Fun K "_law_next" "_law_next" st__law_next f__law_next fd)
    (a__law_one : PySem.W.nsIn K mainGlobals "_law_one" = some (some (.ref f__law_one)))
    (F__law_one : ∃ fd, Fun K "_law_one" "_law_one" st__law_one f__law_one fd)
    (a__law_alike : PySem.W.nsIn K mainGlobals "_law_alike" = some (some (.ref f__law_alike)))
    (F__law_alike : ∃ fd, Fun K "_law_alike" "_law_alike" st__law_alike f__law_alike fd)
    (a__law_unlike : PySem.W.nsIn K mainGlobals "_law_unlike" = some (some (.ref f__law_unlike)))
    (F__law_unlike : ∃ fd, Fun K "_law_unlike" "_law_unlike" st__law_unlike f__law_unlike fd)
    (a__law_put : PySem.W.nsIn K mainGlobals "_law_put" = some (some (.ref f__law_put)))
    (F__law_put : ∃ fd, Fun K "_law_put" "_law_put" st__law_put f__law_put fd)
    (a_law : PySem.W.nsIn K mainGlobals "law" = some (some (.ref f_law)))
    (F_law : ∃ fd, Fun K "law" "law" st_law f_law fd)
    (z_ValueError : PySem.W.nsIn K mainGlobals "ValueError" = some none)
    (z_all : PySem.W.nsIn K mainGlobals "all" = some none)
    (z_any : PySem.W.nsIn K mainGlobals "any" = some none)
    (z_enumerate : PySem.W.nsIn K mainGlobals "enumerate" = some none)
    (z_int : PySem.W.nsIn K mainGlobals "int" = some none)
    (z_isinstance : PySem.W.nsIn K mainGlobals "isinstance" = some none)
    (z_len : PySem.W.nsIn K mainGlobals "len" = some none)
    (z_list : PySem.W.nsIn K mainGlobals "list" = some none)
    (z_str : PySem.W.nsIn K mainGlobals "str" = some none)
    (z_tuple : PySem.W.nsIn K mainGlobals "tuple" = some none)
    (z_zip : PySem.W.nsIn K mainGlobals "zip" = some none)
    (v_ALPHABET : PySem.W.nsIn K mainGlobals "ALPHABET" = some (some (.str "abcdefghijklmnopqrstuvwxyz" t_ALPHABET)))
    (v_GREEDS : PySem.W.nsIn K mainGlobals "GREEDS" = some (some (.ref p_GREEDS)))
    (w_GREEDS : K.lookup p_GREEDS = some ⟨.type "tuple", none, .seq #[.str "greedy" t0_GREEDS, .str "lazy" t1_GREEDS] n_GREEDS, sl_GREEDS⟩)
    (v_ITEM : PySem.W.nsIn K mainGlobals "ITEM" = some (some (.int 1 t_ITEM)))
    (v_MOST_DEEP : PySem.W.nsIn K mainGlobals "MOST_DEEP" = some (some (.int 8 t_MOST_DEEP)))
    (v_MOST_GROUPS : PySem.W.nsIn K mainGlobals "MOST_GROUPS" = some (some (.int 5 t_MOST_GROUPS)))
    (v_MOST_LETTERS : PySem.W.nsIn K mainGlobals "MOST_LETTERS" = some (some (.int 4 t_MOST_LETTERS)))
    (v_MOST_LEVELS : PySem.W.nsIn K mainGlobals "MOST_LEVELS" = some (some (.int 60 t_MOST_LEVELS)))
    (v_MOST_ONES : PySem.W.nsIn K mainGlobals "MOST_ONES" = some (some (.int 10 t_MOST_ONES)))
    (v_MOST_PARTS : PySem.W.nsIn K mainGlobals "MOST_PARTS" = some (some (.int 8 t_MOST_PARTS)))
    (v_MOST_TREES : PySem.W.nsIn K mainGlobals "MOST_TREES" = some (some (.int 60 t_MOST_TREES)))
    (v_NOTHING : PySem.W.nsIn K mainGlobals "NOTHING" = some (some (.int 0 t_NOTHING)))
    (v_REPEATED : PySem.W.nsIn K mainGlobals "REPEATED" = some (some (.ref p_REPEATED)))
    (w_REPEATED : K.lookup p_REPEATED = some ⟨.type "tuple", none, .seq #[.str "many" t0_REPEATED, .str "some" t1_REPEATED, .str "maybe" t2_REPEATED] n_REPEATED, sl_REPEATED⟩)
    (v_SIGN : PySem.W.nsIn K mainGlobals "SIGN" = some (some (.int 2 t_SIGN)))
    (v_SIZES : PySem.W.nsIn K mainGlobals "SIZES" = some (some (.ref p_SIZES)))
    (w_SIZES : K.lookup p_SIZES = some ⟨.type "dict", none, .dict es_SIZES n_SIZES, #[]⟩)
    (y_SIZES : PySem.W.KeysLit w.params es_SIZES.toList)
    (s_SIZES : (p_SIZES == sysModules) = false)
    (en_SIZES : EntOk K es_SIZES.toList (szs.map fun p => (p.1, D.int p.2)))
    (v_SIGNS : PySem.W.nsIn K mainGlobals "SIGNS" = some (some (.ref p_SIGNS)))
    (w_SIGNS : K.lookup p_SIGNS = some ⟨.type "dict", none, .dict es_SIGNS n_SIGNS, #[]⟩)
    (y_SIGNS : PySem.W.KeysLit w.params es_SIGNS.toList)
    (s_SIGNS : (p_SIGNS == sysModules) = false)
    (en_SIGNS : EntOk K es_SIGNS.toList sgs)
    : LawAtS l w K (L2.CX l.prog w) 60 63 "_law_script" mg fa h := by
  have e := hfa.symm.trans (PySem.W.mg_of X G a_law)
  cases e
  have hm_RegsError := PySem.W.mg_of X G a_RegsError
  have hm_NoPattern := PySem.W.mg_of X G a_NoPattern
  have hm_NoText := PySem.W.mg_of X G a_NoText
  have xb_NoPattern := xb_of e_NoPattern
  have oc_NoPattern := oex_of xl_NoPattern xb_NoPattern
  have xc_NoPattern : GXC K mg "NoPattern" := ⟨⟨_, hm_NoPattern, oc_NoPattern⟩⟩
  have xf_NoPattern_at : GXF K mg "NoPattern" "at" := ⟨⟨_, hm_NoPattern, oc_NoPattern, xb_NoPattern.ec, n_NoPattern_at⟩⟩
  have xf_NoPattern_why : GXF K mg "NoPattern" "why" := ⟨⟨_, hm_NoPattern, oc_NoPattern, xb_NoPattern.ec, n_NoPattern_why⟩⟩
  obtain ⟨fd_NoPatternDD_initDD, F_NoPatternDD_initDD⟩ := F_NoPatternDD_initDD
  have gx_NoPattern : ∃ c, mg "NoPattern" = some (.ref c) ∧ OexC K c ∧ PySem.W.findIn K (.ref c) "__init__" = some (some (.ref f_NoPatternDD_initDD)) ∧ PySem.W.typeIn K (.ref f_NoPatternDD_initDD) = some (.type "function") := ⟨_, hm_NoPattern, oc_NoPattern, i_NoPattern, t_NoPattern⟩
  have xb_NoText := xb_of e_NoText
  have oc_NoText := oex_of xl_NoText xb_NoText
  have xc_NoText : GXC K mg "NoText" := ⟨⟨_, hm_NoText, oc_NoText⟩⟩
  have xf_NoText_at : GXF K mg "NoText" "at" := ⟨⟨_, hm_NoText, oc_NoText, xb_NoText.ec, n_NoText_at⟩⟩
  obtain ⟨fd_NoTextDD_initDD, F_NoTextDD_initDD⟩ := F_NoTextDD_initDD
  have gx_NoText : ∃ c, mg "NoText" = some (.ref c) ∧ OexC K c ∧ PySem.W.findIn K (.ref c) "__init__" = some (some (.ref f_NoTextDD_initDD)) ∧ PySem.W.typeIn K (.ref f_NoTextDD_initDD) = some (.type "function") := ⟨_, hm_NoText, oc_NoText, i_NoText, t_NoText⟩
  have xi_RegsError : GXI K mg "RegsError" := ⟨⟨_, hm_RegsError, g1, g2, g3⟩⟩
  have b_all := PySem.W.mg_none_of X G z_all
  have b_any := PySem.W.mg_none_of X G z_any
  have b_enumerate := PySem.W.mg_none_of X G z_enumerate
  have b_int := PySem.W.mg_none_of X G z_int
  have b_isinstance := PySem.W.mg_none_of X G z_isinstance
  have b_len := PySem.W.mg_none_of X G z_len
  have b_list := PySem.W.mg_none_of X G z_list
  have b_str := PySem.W.mg_none_of X G z_str
  have b_tuple := PySem.W.mg_none_of X G z_tuple
  have b_zip := PySem.W.mg_none_of X G z_zip
  have mc_Check := PySem.W.mg_of X G a_Check
  have cls_Check := cls_of cl_Check
  have cf_Check_counts : CF K mg "Check" "counts" := ⟨⟨_, mc_Check, cls_Check, no_of no_Check (by decide)⟩⟩
  have cf_Check_letters : CF K mg "Check" "letters" := ⟨⟨_, mc_Check, cls_Check, no_of no_Check (by decide)⟩⟩
  have cf_Check_trees : CF K mg "Check" "trees" := ⟨⟨_, mc_Check, cls_Check, no_of no_Check (by decide)⟩⟩
  have mc_Level := PySem.W.mg_of X G a_Level
  have cls_Level := cls_of cl_Level
  have cf_Level_choices : CF K mg "Level" "choices" := ⟨⟨_, mc_Level, cls_Level, no_of no_Level (by decide)⟩⟩
  have cf_Level_is_group : CF K mg "Level" "is_group" := ⟨⟨_, mc_Level, cls_Level, no_of no_Level (by decide)⟩⟩
  have cf_Level_last : CF K mg "Level" "last" := ⟨⟨_, mc_Level, cls_Level, no_of no_Level (by decide)⟩⟩
  have mc_Pattern := PySem.W.mg_of X G a_Pattern
  have cls_Pattern := cls_of cl_Pattern
  have cf_Pattern_groups : CF K mg "Pattern" "groups" := ⟨⟨_, mc_Pattern, cls_Pattern, no_of no_Pattern (by decide)⟩⟩
  have cf_Pattern_letters : CF K mg "Pattern" "letters" := ⟨⟨_, mc_Pattern, cls_Pattern, no_of no_Pattern (by decide)⟩⟩
  have cf_Pattern_ones : CF K mg "Pattern" "ones" := ⟨⟨_, mc_Pattern, cls_Pattern, no_of no_Pattern (by decide)⟩⟩
  have cf_Pattern_tree : CF K mg "Pattern" "tree" := ⟨⟨_, mc_Pattern, cls_Pattern, no_of no_Pattern (by decide)⟩⟩
  have mc_Reader := PySem.W.mg_of X G a_Reader
  have cls_Reader := cls_of cl_Reader
  have cf_Reader_at : CF K mg "Reader" "at" := ⟨⟨_, mc_Reader, cls_Reader, no_of no_Reader (by decide)⟩⟩
  have cf_Reader_behind : CF K mg "Reader" "behind" := ⟨⟨_, mc_Reader, cls_Reader, no_of no_Reader (by decide)⟩⟩
  have cf_Reader_letters : CF K mg "Reader" "letters" := ⟨⟨_, mc_Reader, cls_Reader, no_of no_Reader (by decide)⟩⟩
  have cf_Reader_levels : CF K mg "Reader" "levels" := ⟨⟨_, mc_Reader, cls_Reader, no_of no_Reader (by decide)⟩⟩
  have cf_Reader_text : CF K mg "Reader" "text" := ⟨⟨_, mc_Reader, cls_Reader, no_of no_Reader (by decide)⟩⟩
  obtain ⟨fd_is_row, F_is_row⟩ := F_is_row
  have n_is_row := PySem.W.mg_of X G a_is_row
  obtain ⟨fd_are_letters, F_are_letters⟩ := F_are_letters
  have n_are_letters := PySem.W.mg_of X G a_are_letters
  obtain ⟨fd_check_letters, F_check_letters⟩ := F_check_letters
  have n_check_letters := PySem.W.mg_of X G a_check_letters
  obtain ⟨fd_has_form, F_has_form⟩ := F_has_form
  have n_has_form := PySem.W.mg_of X G a_has_form
  obtain ⟨fd_within, F_within⟩ := F_within
  have n_within := PySem.W.mg_of X G a_within
  obtain ⟨fd_CheckDD_initDD, F_CheckDD_initDD⟩ := F_CheckDD_initDD
  have mk_Check : Mk K c_Check f_CheckDD_initDD := ⟨k_Check, i_CheckDD_initDD, j_CheckDD_initDD, l_Check⟩
  obtain ⟨fd_Check_problem, F_Check_problem⟩ := F_Check_problem
  have me_Check_problem : Meth K c_Check "problem" f_Check_problem := ⟨i_Check_problem, j_Check_problem, F_Check_problem.kp⟩
  obtain ⟨fd_check_tree, F_check_tree⟩ := F_check_tree
  have n_check_tree := PySem.W.mg_of X G a_check_tree
  obtain ⟨fd_can_be_empty, F_can_be_empty⟩ := F_can_be_empty
  have n_can_be_empty := PySem.W.mg_of X G a_can_be_empty
  obtain ⟨fd_in_order, F_in_order⟩ := F_in_order
  have n_in_order := PySem.W.mg_of X G a_in_order
  obtain ⟨fd_check_repeated, F_check_repeated⟩ := F_check_repeated
  have n_check_repeated := PySem.W.mg_of X G a_check_repeated
  obtain ⟨fd_settled_tree, F_settled_tree⟩ := F_settled_tree
  have n_settled_tree := PySem.W.mg_of X G a_settled_tree
  obtain ⟨fd_PatternDD_initDD, F_PatternDD_initDD⟩ := F_PatternDD_initDD
  have mk_Pattern : Mk K c_Pattern f_PatternDD_initDD := ⟨k_Pattern, i_PatternDD_initDD, j_PatternDD_initDD, l_Pattern⟩
  obtain ⟨fd_PatternDD_eqDD, F_PatternDD_eqDD⟩ := F_PatternDD_eqDD
  have eq_Pattern : EqCls K c_Pattern f_PatternDD_eqDD := eqCls_of i_PatternDD_eqDD j_PatternDD_eqDD qe_Pattern
  have isi_Pattern : GIsI K mg "Pattern" tabI_Pattern := gIsI_one mc_Pattern cls_Pattern q7_Pattern qi_Pattern qk_Pattern
  obtain ⟨fd_LevelDD_initDD, F_LevelDD_initDD⟩ := F_LevelDD_initDD
  have mk_Level : Mk K c_Level f_LevelDD_initDD := ⟨k_Level, i_LevelDD_initDD, j_LevelDD_initDD, l_Level⟩
  obtain ⟨fd_Level_end_row, F_Level_end_row⟩ := F_Level_end_row
  have me_Level_end_row : Meth K c_Level "end_row" f_Level_end_row := ⟨i_Level_end_row, j_Level_end_row, F_Level_end_row.kp⟩
  obtain ⟨fd_Level_finished, F_Level_finished⟩ := F_Level_finished
  have me_Level_finished : Meth K c_Level "finished" f_Level_finished := ⟨i_Level_finished, j_Level_finished, F_Level_finished.kp⟩
  obtain ⟨fd_ReaderDD_initDD, F_ReaderDD_initDD⟩ := F_ReaderDD_initDD
  have mk_Reader : Mk K c_Reader f_ReaderDD_initDD := ⟨k_Reader, i_ReaderDD_initDD, j_ReaderDD_initDD, l_Reader⟩
  obtain ⟨fd_Reader_sign, F_Reader_sign⟩ := F_Reader_sign
  have me_Reader_sign : Meth K c_Reader "sign" f_Reader_sign := ⟨i_Reader_sign, j_Reader_sign, F_Reader_sign.kp⟩
  obtain ⟨fd_Reader_refuse, F_Reader_refuse⟩ := F_Reader_refuse
  have me_Reader_refuse : Meth K c_Reader "refuse" f_Reader_refuse := ⟨i_Reader_refuse, j_Reader_refuse, F_Reader_refuse.kp⟩
  obtain ⟨fd_Reader_add, F_Reader_add⟩ := F_Reader_add
  have me_Reader_add : Meth K c_Reader "add" f_Reader_add := ⟨i_Reader_add, j_Reader_add, F_Reader_add.kp⟩
  obtain ⟨fd_Reader_bracket, F_Reader_bracket⟩ := F_Reader_bracket
  have me_Reader_bracket : Meth K c_Reader "bracket" f_Reader_bracket := ⟨i_Reader_bracket, j_Reader_bracket, F_Reader_bracket.kp⟩
  obtain ⟨fd_Reader_enter, F_Reader_enter⟩ := F_Reader_enter
  have me_Reader_enter : Meth K c_Reader "enter" f_Reader_enter := ⟨i_Reader_enter, j_Reader_enter, F_Reader_enter.kp⟩
  obtain ⟨fd_Reader_repeat, F_Reader_repeat⟩ := F_Reader_repeat
  have me_Reader_repeat : Meth K c_Reader "repeat" f_Reader_repeat := ⟨i_Reader_repeat, j_Reader_repeat, F_Reader_repeat.kp⟩
  obtain ⟨fd_Reader_step, F_Reader_step⟩ := F_Reader_step
  have me_Reader_step : Meth K c_Reader "step" f_Reader_step := ⟨i_Reader_step, j_Reader_step, F_Reader_step.kp⟩
  obtain ⟨fd_Reader_finished, F_Reader_finished⟩ := F_Reader_finished
  have me_Reader_finished : Meth K c_Reader "finished" f_Reader_finished := ⟨i_Reader_finished, j_Reader_finished, F_Reader_finished.kp⟩
  obtain ⟨fd_read, F_read⟩ := F_read
  have n_read := PySem.W.mg_of X G a_read
  obtain ⟨fd__law_cell_at, F__law_cell_at⟩ := F__law_cell_at
  have n__law_cell_at := PySem.W.mg_of X G a__law_cell_at
  obtain ⟨fd__law_source_of, F__law_source_of⟩ := F__law_source_of
  have n__law_source_of := PySem.W.mg_of X G a__law_source_of
  obtain ⟨fd__law_next, F__law_next⟩ := F__law_next
  have n__law_next := PySem.W.mg_of X G a__law_next
  obtain ⟨fd__law_one, F__law_one⟩ := F__law_one
  have n__law_one := PySem.W.mg_of X G a__law_one
  obtain ⟨fd__law_alike, F__law_alike⟩ := F__law_alike
  have n__law_alike := PySem.W.mg_of X G a__law_alike
  obtain ⟨fd__law_unlike, F__law_unlike⟩ := F__law_unlike
  have n__law_unlike := PySem.W.mg_of X G a__law_unlike
  obtain ⟨fd__law_put, F__law_put⟩ := F__law_put
  have n__law_put := PySem.W.mg_of X G a__law_put
  obtain ⟨fd_law, F_law⟩ := F_law
  have c_ALPHABET : GC K mg "ALPHABET" (.str "abcdefghijklmnopqrstuvwxyz") := gc_str (PySem.W.mg_of X G v_ALPHABET)
  have c_GREEDS : GC K mg "GREEDS" (.tup [.str "greedy", .str "lazy"]) := gc_tup2 (PySem.W.mg_of X G v_GREEDS) w_GREEDS
  have c_ITEM : GC K mg "ITEM" (.int 1) := gc_int (PySem.W.mg_of X G v_ITEM)
  have c_MOST_DEEP : GC K mg "MOST_DEEP" (.int 8) := gc_int (PySem.W.mg_of X G v_MOST_DEEP)
  have c_MOST_GROUPS : GC K mg "MOST_GROUPS" (.int 5) := gc_int (PySem.W.mg_of X G v_MOST_GROUPS)
  have c_MOST_LETTERS : GC K mg "MOST_LETTERS" (.int 4) := gc_int (PySem.W.mg_of X G v_MOST_LETTERS)
  have c_MOST_LEVELS : GC K mg "MOST_LEVELS" (.int 60) := gc_int (PySem.W.mg_of X G v_MOST_LEVELS)
  have c_MOST_ONES : GC K mg "MOST_ONES" (.int 10) := gc_int (PySem.W.mg_of X G v_MOST_ONES)
  have c_MOST_PARTS : GC K mg "MOST_PARTS" (.int 8) := gc_int (PySem.W.mg_of X G v_MOST_PARTS)
  have c_MOST_TREES : GC K mg "MOST_TREES" (.int 60) := gc_int (PySem.W.mg_of X G v_MOST_TREES)
  have c_NOTHING : GC K mg "NOTHING" (.int 0) := gc_int (PySem.W.mg_of X G v_NOTHING)
  have c_REPEATED : GC K mg "REPEATED" (.tup [.str "many", .str "some", .str "maybe"]) := gc_tup3 (PySem.W.mg_of X G v_REPEATED) w_REPEATED
  have c_SIGN : GC K mg "SIGN" (.int 2) := gc_int (PySem.W.mg_of X G v_SIGN)
  have wd_SIZES : WD K mg w "SIZES" tblSizes := wd_sizes (PySem.W.mg_of X G v_SIZES) ⟨w_SIZES, y_SIZES, s_SIZES⟩ en_SIZES
  have wd_SIGNS : WD K mg w "SIGNS" tblSigns := wd_signs (PySem.W.mg_of X G v_SIGNS) ⟨w_SIGNS, y_SIGNS, s_SIGNS⟩ en_SIGNS
  refine ⟨fd_law, [], spLawTs K [], fun p hp => absurd hp (by simp), fun p hp => absurd hp (by simp), fun p hp => absurd hp (by simp), fun s v => ?_, fun H a ns hl _ hT hS => ⟨a, ns, rfl, hS, hl, ?_, fun _ => rfl⟩, fun base hKb hNb hTB => ?_⟩
  · obtain ⟨oc, od, kV, doc, pm, an, cdv, ct, osl, rfl, lk, hcd⟩ := F_law.ex
    exact .of_eq rfl
  · intro p hp; exact absurd hp (by simp)
  have ndT : (([] : List (Addr × Str)).map (·.1)).Nodup := List.nodup_nil
  obtain ⟨eqc_Pattern, g__law_alike, g__law_cell_at, g__law_put, g__law_source_of, g__law_unlike, g_read⟩ := chain (P := l.prog) (w := w) (base := base) (T := []) b_all b_any b_enumerate b_int b_isinstance b_len b_list b_str b_tuple b_zip c_ALPHABET c_GREEDS c_ITEM c_MOST_DEEP c_MOST_GROUPS c_MOST_LETTERS c_MOST_LEVELS c_MOST_ONES c_MOST_PARTS c_MOST_TREES c_NOTHING c_REPEATED c_SIGN cf_Check_counts cf_Check_letters cf_Check_trees cf_Level_choices cf_Level_is_group cf_Level_last cf_Pattern_groups cf_Pattern_letters cf_Pattern_ones cf_Pattern_tree cf_Reader_at cf_Reader_behind cf_Reader_letters cf_Reader_levels cf_Reader_text isi_Pattern wd_SIGNS wd_SIZES xc_NoPattern xc_NoText xf_NoPattern_at xf_NoPattern_why xf_NoText_at xi_RegsError F_NoPatternDD_initDD gx_NoPattern F_NoTextDD_initDD gx_NoText F_is_row n_is_row F_are_letters n_are_letters F_check_letters n_check_letters F_has_form n_has_form F_within n_within F_CheckDD_initDD mk_Check F_Check_problem me_Check_problem F_check_tree n_check_tree F_can_be_empty n_can_be_empty F_in_order n_in_order F_check_repeated n_check_repeated F_settled_tree n_settled_tree F_PatternDD_initDD mk_Pattern F_PatternDD_eqDD eq_Pattern F_LevelDD_initDD mk_Level F_Level_end_row me_Level_end_row F_Level_finished me_Level_finished F_ReaderDD_initDD mk_Reader F_Reader_sign me_Reader_sign F_Reader_refuse me_Reader_refuse F_Reader_add me_Reader_add F_Reader_bracket me_Reader_bracket F_Reader_enter me_Reader_enter F_Reader_repeat me_Reader_repeat F_Reader_step me_Reader_step F_Reader_finished me_Reader_finished F_read n_read F__law_cell_at n__law_cell_at F__law_source_of n__law_source_of F__law_next n__law_next F__law_one n__law_one F__law_alike n__law_alike F__law_unlike n__law_unlike F__law_put n__law_put mc_Check cls_Check mc_Level cls_Level mc_Pattern cls_Pattern mc_Reader cls_Reader
  exact FnOk.imp (fn_ok4 F_law sc_law len_lawT (b_lawT) (d_law cf_Pattern_letters cf_Pattern_tree eqc_Pattern g__law_alike g__law_cell_at g__law_put g__law_source_of g__law_unlike g_read)) (lawTs_imp ndT)
end EV.K15

open PySem PySem.W PyProof.Rows in
set_option maxRecDepth 100000 in
set_option maxHeartbeats 0 in
theorem PySem.Challenge.cw_leastregs_k15_whole_texts_alike_and_unli_holds : PySem.Challenge.rw_leastregs_k15_whole_texts_alike_and_unli.Holds := by
  w_on; o_law; k_head; (case hw => w_witness2)
  k_fill
  refine EV.walk_tabs (row := PySem.Challenge.rw_leastregs_k15_whole_texts_alike_and_unli) (mo := 63) (lv := 60) (nm := "_law_script") (CC := fun w => L2.CX (PySem.Challenge.rw_leastregs_k15_whole_texts_alike_and_unli).prog w) rfl (by decide) rfl ⟨rfl, by decide, by decide⟩ (fun w h Y => PySem.W.kIn_of Y) ?F (fun _ H s e s' z => EV.cx_no H s e s' z)
  case F =>
    intro w mg fa h Y KX G hmg own
    refine' EV.K15.all_mk KX G hmg own ?a_RegsError ?a_NoPattern ?a_NoText ?e_NoPattern ?xl_NoPattern ?i_NoPattern ?t_NoPattern ?F_NoPatternDD_initDD ?n_NoPattern_at ?n_NoPattern_why ?e_NoText ?xl_NoText ?i_NoText ?t_NoText ?F_NoTextDD_initDD ?n_NoText_at ?g1 ?g2 ?g3 ?a_Check ?cl_Check ?no_Check ?a_Level ?cl_Level ?no_Level ?a_Pattern ?cl_Pattern ?no_Pattern ?a_Reader ?cl_Reader ?no_Reader ?a_is_row ?F_is_row ?a_are_letters ?F_are_letters ?a_check_letters ?F_check_letters ?a_has_form ?F_has_form ?a_within ?F_within ?i_CheckDD_initDD ?j_CheckDD_initDD ?k_Check ?l_Check ?F_CheckDD_initDD ?i_Check_problem ?j_Check_problem ?F_Check_problem ?a_check_tree ?F_check_tree ?a_can_be_empty ?F_can_be_empty ?a_in_order ?F_in_order ?a_check_repeated ?F_check_repeated ?a_settled_tree ?F_settled_tree ?i_PatternDD_initDD ?j_PatternDD_initDD ?k_Pattern ?l_Pattern ?F_PatternDD_initDD ?i_PatternDD_eqDD ?j_PatternDD_eqDD ?q7_Pattern ?qi_Pattern ?qk_Pattern ?qe_Pattern ?F_PatternDD_eqDD ?i_LevelDD_initDD ?j_LevelDD_initDD ?k_Level ?l_Level ?F_LevelDD_initDD ?i_Level_end_row ?j_Level_end_row ?F_Level_end_row ?i_Level_finished ?j_Level_finished ?F_Level_finished ?i_ReaderDD_initDD ?j_ReaderDD_initDD ?k_Reader ?l_Reader ?F_ReaderDD_initDD ?i_Reader_sign ?j_Reader_sign ?F_Reader_sign ?i_Reader_refuse ?j_Reader_refuse ?F_Reader_refuse ?i_Reader_add ?j_Reader_add ?F_Reader_add ?i_Reader_bracket ?j_Reader_bracket ?F_Reader_bracket ?i_Reader_enter ?j_Reader_enter ?F_Reader_enter ?i_Reader_repeat ?j_Reader_repeat ?F_Reader_repeat ?i_Reader_step ?j_Reader_step ?F_Reader_step ?i_Reader_finished ?j_Reader_finished ?F_Reader_finished ?a_read ?F_read ?a__law_cell_at ?F__law_cell_at ?a__law_source_of ?F__law_source_of ?a__law_next ?F__law_next ?a__law_one ?F__law_one ?a__law_alike ?F__law_alike ?a__law_unlike ?F__law_unlike ?a__law_put ?F__law_put ?a_law ?F_law ?z_ValueError ?z_all ?z_any ?z_enumerate ?z_int ?z_isinstance ?z_len ?z_list ?z_str ?z_tuple ?z_zip ?v_ALPHABET ?v_GREEDS ?w_GREEDS ?v_ITEM ?v_MOST_DEEP ?v_MOST_GROUPS ?v_MOST_LETTERS ?v_MOST_LEVELS ?v_MOST_ONES ?v_MOST_PARTS ?v_MOST_TREES ?v_NOTHING ?v_REPEATED ?w_REPEATED ?v_SIGN ?v_SIZES ?w_SIZES ?y_SIZES ?s_SIZES ?en_SIZES ?v_SIGNS ?w_SIGNS ?y_SIGNS ?s_SIGNS ?en_SIGNS
    (case a_RegsError => k_is)
    (case a_NoPattern => k_is)
    (case a_NoText => k_is)
    (case e_NoPattern => kernel_rfl)
    (case xl_NoPattern => (refine' EV.oexL_mk ?z; (case z => k_is)))
    (case i_NoPattern => k_is)
    (case t_NoPattern => k_is)
    (case F_NoPatternDD_initDD => (refine' EV.fun_ex (st := EV.K15.st_NoPatternDD_initDD) ?l ?c ?k; (case l => k_is); (case c => k_is); (case k => k_is)))
    (case n_NoPattern_at => k_is)
    (case n_NoPattern_why => k_is)
    (case e_NoText => kernel_rfl)
    (case xl_NoText => (refine' EV.oexL_mk ?z; (case z => k_is)))
    (case i_NoText => k_is)
    (case t_NoText => k_is)
    (case F_NoTextDD_initDD => (refine' EV.fun_ex (st := EV.K15.st_NoTextDD_initDD) ?l ?c ?k; (case l => k_is); (case c => k_is); (case k => k_is)))
    (case n_NoText_at => k_is)
    (case g1 => k_is)
    (case g2 => k_is)
    (case g3 => k_is)
    (case a_Check => k_is)
    (case cl_Check => kernel_rfl)
    (case no_Check => kernel_rfl)
    (case a_Level => k_is)
    (case cl_Level => kernel_rfl)
    (case no_Level => kernel_rfl)
    (case a_Pattern => k_is)
    (case cl_Pattern => kernel_rfl)
    (case no_Pattern => kernel_rfl)
    (case a_Reader => k_is)
    (case cl_Reader => kernel_rfl)
    (case no_Reader => kernel_rfl)
    (case a_is_row => k_is)
    (case F_is_row => (refine' EV.fun_ex (st := EV.K15.st_is_row) ?l ?c ?k; (case l => k_is); (case c => k_is); (case k => k_is)))
    (case a_are_letters => k_is)
    (case F_are_letters => (refine' EV.fun_ex (st := EV.K15.st_are_letters) ?l ?c ?k; (case l => k_is); (case c => k_is); (case k => k_is)))
    (case a_check_letters => k_is)
    (case F_check_letters => (refine' EV.fun_ex (st := EV.K15.st_check_letters) ?l ?c ?k; (case l => k_is); (case c => k_is); (case k => k_is)))
    (case a_has_form => k_is)
    (case F_has_form => (refine' EV.fun_ex (st := EV.K15.st_has_form) ?l ?c ?k; (case l => k_is); (case c => k_is); (case k => k_is)))
    (case a_within => k_is)
    (case F_within => (refine' EV.fun_ex (st := EV.K15.st_within) ?l ?c ?k; (case l => k_is); (case c => k_is); (case k => k_is)))
    (case i_CheckDD_initDD => k_is)
    (case j_CheckDD_initDD => k_is)
    (case k_Check => k_is)
    (case l_Check => k_is)
    (case F_CheckDD_initDD => (refine' EV.fun_ex (st := EV.K15.st_CheckDD_initDD) ?l ?c ?k; (case l => k_is); (case c => k_is); (case k => k_is)))
    (case i_Check_problem => k_is)
    (case j_Check_problem => k_is)
    (case F_Check_problem => (refine' EV.fun_ex (st := EV.K15.st_Check_problem) ?l ?c ?k; (case l => k_is); (case c => k_is); (case k => k_is)))
    (case a_check_tree => k_is)
    (case F_check_tree => (refine' EV.fun_ex (st := EV.K15.st_check_tree) ?l ?c ?k; (case l => k_is); (case c => k_is); (case k => k_is)))
    (case a_can_be_empty => k_is)
    (case F_can_be_empty => (refine' EV.fun_ex (st := EV.K15.st_can_be_empty) ?l ?c ?k; (case l => k_is); (case c => k_is); (case k => k_is)))
    (case a_in_order => k_is)
    (case F_in_order => (refine' EV.fun_ex (st := EV.K15.st_in_order) ?l ?c ?k; (case l => k_is); (case c => k_is); (case k => k_is)))
    (case a_check_repeated => k_is)
    (case F_check_repeated => (refine' EV.fun_ex (st := EV.K15.st_check_repeated) ?l ?c ?k; (case l => k_is); (case c => k_is); (case k => k_is)))
    (case a_settled_tree => k_is)
    (case F_settled_tree => (refine' EV.fun_ex (st := EV.K15.st_settled_tree) ?l ?c ?k; (case l => k_is); (case c => k_is); (case k => k_is)))
    (case i_PatternDD_initDD => k_is)
    (case j_PatternDD_initDD => k_is)
    (case k_Pattern => k_is)
    (case l_Pattern => k_is)
    (case F_PatternDD_initDD => (refine' EV.fun_ex (st := EV.K15.st_PatternDD_initDD) ?l ?c ?k; (case l => k_is); (case c => k_is); (case k => k_is)))
    (case i_PatternDD_eqDD => k_is)
    (case j_PatternDD_eqDD => k_is)
    (case q7_Pattern => kernel_rfl)
    (case qi_Pattern => kernel_rfl)
    (case qk_Pattern => kernel_rfl)
    (case qe_Pattern => kernel_rfl)
    (case F_PatternDD_eqDD => (refine' EV.fun_ex (st := EV.K15.st_PatternDD_eqDD) ?l ?c ?k; (case l => k_is); (case c => k_is); (case k => k_is)))
    (case i_LevelDD_initDD => k_is)
    (case j_LevelDD_initDD => k_is)
    (case k_Level => k_is)
    (case l_Level => k_is)
    (case F_LevelDD_initDD => (refine' EV.fun_ex (st := EV.K15.st_LevelDD_initDD) ?l ?c ?k; (case l => k_is); (case c => k_is); (case k => k_is)))
    (case i_Level_end_row => k_is)
    (case j_Level_end_row => k_is)
    (case F_Level_end_row => (refine' EV.fun_ex (st := EV.K15.st_Level_end_row) ?l ?c ?k; (case l => k_is); (case c => k_is); (case k => k_is)))
    (case i_Level_finished => k_is)
    (case j_Level_finished => k_is)
    (case F_Level_finished => (refine' EV.fun_ex (st := EV.K15.st_Level_finished) ?l ?c ?k; (case l => k_is); (case c => k_is); (case k => k_is)))
    (case i_ReaderDD_initDD => k_is)
    (case j_ReaderDD_initDD => k_is)
    (case k_Reader => k_is)
    (case l_Reader => k_is)
    (case F_ReaderDD_initDD => (refine' EV.fun_ex (st := EV.K15.st_ReaderDD_initDD) ?l ?c ?k; (case l => k_is); (case c => k_is); (case k => k_is)))
    (case i_Reader_sign => k_is)
    (case j_Reader_sign => k_is)
    (case F_Reader_sign => (refine' EV.fun_ex (st := EV.K15.st_Reader_sign) ?l ?c ?k; (case l => k_is); (case c => k_is); (case k => k_is)))
    (case i_Reader_refuse => k_is)
    (case j_Reader_refuse => k_is)
    (case F_Reader_refuse => (refine' EV.fun_ex (st := EV.K15.st_Reader_refuse) ?l ?c ?k; (case l => k_is); (case c => k_is); (case k => k_is)))
    (case i_Reader_add => k_is)
    (case j_Reader_add => k_is)
    (case F_Reader_add => (refine' EV.fun_ex (st := EV.K15.st_Reader_add) ?l ?c ?k; (case l => k_is); (case c => k_is); (case k => k_is)))
    (case i_Reader_bracket => k_is)
    (case j_Reader_bracket => k_is)
    (case F_Reader_bracket => (refine' EV.fun_ex (st := EV.K15.st_Reader_bracket) ?l ?c ?k; (case l => k_is); (case c => k_is); (case k => k_is)))
    (case i_Reader_enter => k_is)
    (case j_Reader_enter => k_is)
    (case F_Reader_enter => (refine' EV.fun_ex (st := EV.K15.st_Reader_enter) ?l ?c ?k; (case l => k_is); (case c => k_is); (case k => k_is)))
    (case i_Reader_repeat => k_is)
    (case j_Reader_repeat => k_is)
    (case F_Reader_repeat => (refine' EV.fun_ex (st := EV.K15.st_Reader_repeat) ?l ?c ?k; (case l => k_is); (case c => k_is); (case k => k_is)))
    (case i_Reader_step => k_is)
    (case j_Reader_step => k_is)
    (case F_Reader_step => (refine' EV.fun_ex (st := EV.K15.st_Reader_step) ?l ?c ?k; (case l => k_is); (case c => k_is); (case k => k_is)))
    (case i_Reader_finished => k_is)
    (case j_Reader_finished => k_is)
    (case F_Reader_finished => (refine' EV.fun_ex (st := EV.K15.st_Reader_finished) ?l ?c ?k; (case l => k_is); (case c => k_is); (case k => k_is)))
    (case a_read => k_is)
    (case F_read => (refine' EV.fun_ex (st := EV.K15.st_read) ?l ?c ?k; (case l => k_is); (case c => k_is); (case k => k_is)))
    (case a__law_cell_at => k_is)
    (case F__law_cell_at => (refine' EV.fun_ex (st := EV.K15.st__law_cell_at) ?l ?c ?k; (case l => k_is); (case c => k_is); (case k => k_is)))
    (case a__law_source_of => k_is)
    (case F__law_source_of => (refine' EV.fun_ex (st := EV.K15.st__law_source_of) ?l ?c ?k; (case l => k_is); (case c => k_is); (case k => k_is)))
    (case a__law_next => k_is)
    (case F__law_next => (refine' EV.fun_ex (st := EV.K15.st__law_next) ?l ?c ?k; (case l => k_is); (case c => k_is); (case k => k_is)))
    (case a__law_one => k_is)
    (case F__law_one => (refine' EV.fun_ex (st := EV.K15.st__law_one) ?l ?c ?k; (case l => k_is); (case c => k_is); (case k => k_is)))
    (case a__law_alike => k_is)
    (case F__law_alike => (refine' EV.fun_ex (st := EV.K15.st__law_alike) ?l ?c ?k; (case l => k_is); (case c => k_is); (case k => k_is)))
    (case a__law_unlike => k_is)
    (case F__law_unlike => (refine' EV.fun_ex (st := EV.K15.st__law_unlike) ?l ?c ?k; (case l => k_is); (case c => k_is); (case k => k_is)))
    (case a__law_put => k_is)
    (case F__law_put => (refine' EV.fun_ex (st := EV.K15.st__law_put) ?l ?c ?k; (case l => k_is); (case c => k_is); (case k => k_is)))
    (case a_law => k_is)
    (case F_law => (refine' EV.fun_ex (st := EV.K15.st_law) ?l ?c ?k; (case l => k_is); (case c => k_is); (case k => k_is)))
    (case z_ValueError => k_is)
    (case z_all => k_is)
    (case z_any => k_is)
    (case z_enumerate => k_is)
    (case z_int => k_is)
    (case z_isinstance => k_is)
    (case z_len => k_is)
    (case z_list => k_is)
    (case z_str => k_is)
    (case z_tuple => k_is)
    (case z_zip => k_is)
    (case v_ALPHABET => k_is)
    (case v_GREEDS => k_is)
    (case w_GREEDS => k_is)
    (case v_ITEM => k_is)
    (case v_MOST_DEEP => k_is)
    (case v_MOST_GROUPS => k_is)
    (case v_MOST_LETTERS => k_is)
    (case v_MOST_LEVELS => k_is)
    (case v_MOST_ONES => k_is)
    (case v_MOST_PARTS => k_is)
    (case v_MOST_TREES => k_is)
    (case v_NOTHING => k_is)
    (case v_REPEATED => k_is)
    (case w_REPEATED => k_is)
    (case v_SIGN => k_is)
    (case v_SIZES => k_is)
    (case w_SIZES => k_is)
    (case y_SIZES => (repeat (first | exact True.intro | refine ⟨⟨_, _, rfl, rfl⟩, ?_⟩)))
    (case s_SIZES => kernel_rfl)
    (case en_SIZES => (repeat (first | exact True.intro | refine EV.ent_i rfl rfl ?_)))
    (case v_SIGNS => k_is)
    (case w_SIGNS => k_is)
    (case y_SIGNS => (repeat (first | exact True.intro | refine ⟨⟨_, _, rfl, rfl⟩, ?_⟩)))
    (case s_SIGNS => kernel_rfl)
    (case en_SIGNS => (repeat (first | exact True.intro | refine EV.ent_s rfl rfl ?_)))
