import PyProof.Rows.All
import Wide.All
import OpenK.AllK
import Wide.FinOn
import PyProof.EqAt
import PyProof.EqKinds
import PyProof.TupleCall
import HandS.ForMost
import HandS.ForExc
import HandS.Lambda
import HandS.EndTab
import HandS.IsInst
import HandS.Wide
import HandS.Zip
import HandS.Style
import HandS.Flow
import HandS.ExcIs
import HandS.EndBits
import HandS.TupAny
import PySem.Challenge.RW_boundsums_k04_whole_no_value_lost
set_option linter.all false
set_option Elab.async false
set_option maxRecDepth 100000
set_option maxHeartbeats 4000000
/-! The layer BD: data, what stands for it in the heap, semantic functions. -/
namespace BD
open PySem PySem.Spec PyProof.Rows L2 LamX

/-- data -/
inductive D where
  | non | bl (b : Bool) | int (i : Int) | str (x : Str) | tup (ds : List D) | lst (ds : List D)
  | dic (ks : List Str) (ds : List D) | exn (c : Str) (nm : Option Str) | op (v : V) | scr (ns : List Int)
structure Xn where
  c : Str
  nm : Option Str
inductive Out (α : Type) where
  | ok (a : α) | exc (x : Xn) | bad
def Out.bind {α β : Type} (o : Out α) (g : α → Out β) : Out β := match o with
  | .ok a => g a
  | .exc x => .exc x
  | .bad => .bad
@[simp] theorem Out.bind_ok {α β : Type} (a : α) (g : α → Out β) : (Out.ok a).bind g = g a := rfl
@[simp] theorem Out.bind_exc {α β : Type} (x : Xn) (g : α → Out β) : (Out.exc x).bind g = .exc x := rfl
@[simp] theorem Out.bind_bad {α β : Type} (g : α → Out β) : (Out.bad : Out α).bind g = .bad := rfl

/-- what the whole text's walk is over -/
structure CC where
  K : PySem.W.Frag
  mg : Str → Option Value
  T : List (Addr × Str)
def ExcO (a : Addr) (cls : Value) (d : Option Addr) : HO := .ext fun h => ∃ oe vs, h.get? a = some oe ∧ Zc cls d oe ∧ oe.data = .fields vs
def NmAt (F : Hp) (dx : Option Addr) : Option Str → Prop
  | none => dx = none
  | some x => ∃ d, dx = some d ∧ F d = some (.xd [("name", .str x)])
def XnAt (c : CC) (F : Hp) (x : Xn) (C : Addr) (dx : Option Addr) : Prop := c.mg x.c = some (.ref C) ∧ NmAt F dx x.nm
mutual
def Rep (c : CC) (F : Hp) : D → V → Prop
  | .non, v => v = .non
  | .bl b, v => v = .bl b
  | .int i, v => v = .int i
  | .str x, v => v = .str x
  | .tup ds, v => ∃ a vs, v = .ref a ∧ SqT c.K F a vs ∧ Reps c F ds vs
  | .lst ds, v => ∃ a vs, v = .ref a ∧ F a = some (.lst vs) ∧ Reps c F ds vs
  | .dic ks ds, v => ∃ a kvs, v = .ref a ∧ Rd F a (.dK kvs) ∧ kvs.map (·.1) = ks.map Sum.inr ∧ Reps c F ds (kvs.map (·.2))
  | .exn n nm, v => ∃ a C dx, v = .ref a ∧ XnAt c F ⟨n, nm⟩ C dx ∧ F a = some (ExcO a (.ref C) dx)
  | .op u, v => v = u
  | .scr ns, v => ∃ a, v = .ref a ∧ SqL c.K F a (ns.map V.int)
def Reps (c : CC) (F : Hp) : List D → List V → Prop
  | [], vs => vs = []
  | d :: ds, vs => ∃ v r, vs = v :: r ∧ Rep c F d v ∧ Reps c F ds r
end
/-- what may be read, what is known of other things -/
structure ExR (F F' : Hp) : Prop where
  rd : ∀ a u, Rd F a u → Rd F' a u
  lst : ∀ a xs, F a = some (.lst xs) → F' a = some (.lst xs)
  ext : ∀ a φ, F a = some (.ext φ) → F' a = some (.ext φ)
  xd : ∀ a fs, F a = some (.xd fs) → F' a = some (.xd fs)
def Ex (F F' : Hp) : Prop := ∀ a o, F a = some o → F' a = some o
theorem Ex.refl (F : Hp) : Ex F F := fun _ _ h => h
theorem Ex.trans {F F1 F2 : Hp} (a : Ex F F1) (b : Ex F1 F2) : Ex F F2 := fun x o h => b x o (a x o h)
theorem Ex.r {F F' : Hp} (e : Ex F F') : ExR F F' := ⟨fun a u h => h.elim (fun h => .inl (e _ _ h)) fun ⟨o, h⟩ => .inr ⟨o, e _ _ h⟩, fun a xs h => e _ _ h, fun a φ h => e _ _ h, fun a fs h => e _ _ h⟩
theorem ExR.sqL {F F' : Hp} (e : ExR F F') {K : PySem.W.Frag} {a : Addr} {xs : List V} (h : SqL K F a xs) : SqL K F' a xs := h.elim (fun h => .inl (e.rd _ _ h)) .inr
theorem ExR.sqT {F F' : Hp} (e : ExR F F') {K : PySem.W.Frag} {a : Addr} {xs : List V} (h : SqT K F a xs) : SqT K F' a xs := h.elim (fun h => .inl (e.rd _ _ h)) .inr
theorem ExR.nm {F F' : Hp} (e : ExR F F') {dx : Option Addr} {nm : Option Str} (h : NmAt F dx nm) : NmAt F' dx nm := by
  cases nm with
  | none => exact h
  | some x => obtain ⟨d, e1, e2⟩ := h; exact ⟨d, e1, e.xd _ _ e2⟩
mutual
theorem Rep.mono {c : CC} {F F' : Hp} (e : ExR F F') : ∀ (d : D) (v : V), Rep c F d v → Rep c F' d v
  | .non, _, h => h
  | .bl _, _, h => h
  | .int _, _, h => h
  | .str _, _, h => h
  | .tup ds, _, ⟨a, vs, e1, e2, e3⟩ => ⟨a, vs, e1, e.sqT e2, Reps.mono e ds vs e3⟩
  | .lst ds, _, ⟨a, vs, e1, e2, e3⟩ => ⟨a, vs, e1, e.lst _ _ e2, Reps.mono e ds vs e3⟩
  | .dic ks ds, _, ⟨a, kvs, e1, e2, e3, e4⟩ => ⟨a, kvs, e1, e.rd _ _ e2, e3, Reps.mono e ds _ e4⟩
  | .exn n nm, _, ⟨a, C, dx, e1, ⟨e2, e3⟩, e4⟩ => ⟨a, C, dx, e1, ⟨e2, e.nm e3⟩, e.ext _ _ e4⟩
  | .op _, _, h => h
  | .scr _, _, ⟨a, e1, e2⟩ => ⟨a, e1, e.sqL e2⟩
theorem Reps.mono {c : CC} {F F' : Hp} (e : ExR F F') : ∀ (ds : List D) (vs : List V), Reps c F ds vs → Reps c F' ds vs
  | [], _, h => h
  | d :: ds, _, ⟨v, r, e1, e2, e3⟩ => ⟨v, r, e1, Rep.mono e d v e2, Reps.mono e ds r e3⟩
end
section
variable {c : CC} {F F' : Hp}
theorem Reps.length : ∀ {ds : List D} {vs : List V}, Reps c F ds vs → ds.length = vs.length
  | [], _, h => by rw [show _ = _ from h]; rfl
  | d :: ds, _, ⟨v, r, e1, e2, e3⟩ => by rw [e1, List.length_cons, List.length_cons, Reps.length e3]
theorem Reps.get : ∀ {ds : List D} {vs : List V} {i : Nat} {d : D}, Reps c F ds vs → ds[i]? = some d → ∃ v, vs[i]? = some v ∧ Rep c F d v
  | [], _, _, _, _, e => by simp at e
  | d :: ds, _, 0, _, ⟨v, r, e1, e2, e3⟩, e => by
    simp at e; subst e; exact ⟨v, by rw [e1]; rfl, e2⟩
  | d :: ds, _, i + 1, _, ⟨v, r, e1, e2, e3⟩, e => by
    obtain ⟨u, h1, h2⟩ := Reps.get (i := i) e3 (by simpa using e)
    exact ⟨u, by rw [e1]; simpa using h1, h2⟩
theorem Reps.get' : ∀ {ds : List D} {vs : List V} {i : Nat} {v : V}, Reps c F ds vs → vs[i]? = some v → ∃ d, ds[i]? = some d ∧ Rep c F d v := fun {ds vs i v} h e => by
  have hl := h.length
  obtain ⟨h1, _⟩ := List.getElem?_eq_some_iff.mp e
  have h2 : i < ds.length := by omega
  obtain ⟨u, q1, q2⟩ := h.get (List.getElem?_eq_getElem h2)
  rw [e] at q1
  cases q1
  exact ⟨_, List.getElem?_eq_getElem h2, q2⟩
theorem Reps.append : ∀ {ds es : List D} {vs us : List V}, Reps c F ds vs → Reps c F es us → Reps c F (ds ++ es) (vs ++ us)
  | [], _, _, _, h, k => by rw [show _ = _ from h]; exact k
  | d :: ds, _, _, _, ⟨v, r, e1, e2, e3⟩, k => by rw [e1]; exact ⟨v, r ++ _, rfl, e2, e3.append k⟩
theorem Reps.take : ∀ {ds : List D} {vs : List V} (n : Nat), Reps c F ds vs → Reps c F (ds.take n) (vs.take n)
  | [], _, n, h => by rw [show _ = _ from h, List.take_nil, List.take_nil]; exact rfl
  | d :: ds, _, 0, h => by rw [List.take_zero, List.take_zero]; exact rfl
  | d :: ds, _, n + 1, ⟨v, r, e1, e2, e3⟩ => by rw [e1]; exact ⟨v, r.take n, rfl, e2, e3.take n⟩
theorem Reps.drop : ∀ {ds : List D} {vs : List V} (n : Nat), Reps c F ds vs → Reps c F (ds.drop n) (vs.drop n)
  | [], _, n, h => by rw [show _ = _ from h, List.drop_nil, List.drop_nil]; exact rfl
  | d :: ds, _, 0, h => h
  | d :: ds, _, n + 1, ⟨v, r, e1, e2, e3⟩ => by rw [e1]; exact e3.drop n
theorem Reps.set : ∀ {ds : List D} {vs : List V} {d : D} {v : V} (n : Nat), Reps c F ds vs → Rep c F d v → Reps c F (ds.set n d) (vs.set n v)
  | [], _, _, _, n, h, _ => by rw [show _ = _ from h]; exact rfl
  | d :: ds, _, _, _, 0, ⟨v, r, e1, e2, e3⟩, k => by rw [e1]; exact ⟨_, r, rfl, k, e3⟩
  | d :: ds, _, _, _, n + 1, ⟨v, r, e1, e2, e3⟩, k => by rw [e1]; exact ⟨v, _, rfl, e2, e3.set n k⟩
theorem Reps.one {d : D} {v : V} (h : Rep c F d v) : Reps c F [d] [v] := ⟨v, [], rfl, h, rfl⟩
theorem Reps.of1 {d : D} {vs : List V} (h : Reps c F [d] vs) : ∃ v, vs = [v] ∧ Rep c F d v := by
  obtain ⟨v, r, e1, e2, e3⟩ := h
  have e3 : r = [] := e3
  subst e3
  exact ⟨v, e1, e2⟩
theorem Reps.of2 {d e : D} {vs : List V} (h : Reps c F [d, e] vs) : ∃ v u, vs = [v, u] ∧ Rep c F d v ∧ Rep c F e u := by
  obtain ⟨v, r, e1, e2, e3⟩ := h
  obtain ⟨u, e4, e5⟩ := Reps.of1 e3
  subst e4
  exact ⟨v, u, e1, e2, e5⟩
end

/-! ### how the heap grows -/
/-- no object but a table stands at a -/
def Fresh (H : Hp) (a : Addr) : Prop := ∀ o, H a = some o → ∃ ps, o = .tbl ps
theorem Fresh.of {H : Hp} {a : Addr} (h : H a = none) : Fresh H a := fun o e => by rw [h] at e; cases e
structure Bs (c : CC) (F H : Hp) : Prop where
  fh : Ex F H
  nt : ∀ a ps, F a ≠ some (.tbl ps)
  tb : Tabs c.T H
structure Grow (c : CC) (F H F' H' : Hp) : Prop extends Bs c F' H' where
  ff : Ex F F'
  hh : ExtN H H'
  nw : ∀ a o, F' a = some o → F a = some o ∨ Fresh H a
section
variable {c : CC} {F H F' H' F1 H1 F2 H2 : Hp}
theorem Bs.refl (b : Bs c F H) : Grow c F H F H := ⟨b, Ex.refl _, ExtN.refl _, fun _ _ h => .inl h⟩
theorem Fresh.back {a : Addr} (e : ExtN H H') (h : Fresh H' a) : Fresh H a := fun o ho => by
  by_cases q : ∃ ps, o = .tbl ps
  · exact q
  · exact h o (e a o ho fun ps z => q ⟨ps, z⟩)
theorem Grow.trans (a : Grow c F H F1 H1) (b : Grow c F1 H1 F2 H2) : Grow c F H F2 H2 :=
  ⟨b.toBs, a.ff.trans b.ff, a.hh.trans b.hh, fun x o h => (b.nw x o h).elim (fun h => a.nw x o h) fun h => .inr (h.back a.hh)⟩
theorem Bs.fnone (b : Bs c F H) {p : Addr} (hp : H p = none) : F p = none := by
  cases q : F p with
  | none => rfl
  | some o => have := b.fh _ _ q; rw [hp] at this; cases this
theorem Bs.fresh_none (b : Bs c F H) {p : Addr} (hp : Fresh H p) : F p = none := by
  cases q : F p with
  | none => rfl
  | some o => obtain ⟨ps, e⟩ := hp _ (b.fh _ _ q); rw [e] at q; exact (b.nt _ _ q).elim
theorem ex_new {p : Addr} {o : HO} (hp : H p = none) : Ex H (upd H p o) := fun a u h => by rw [upd_ne (ne_of_none h hp)]; exact h
/-- a new object, frozen at once -/
theorem Bs.new (b : Bs c F H) {p : Addr} {o : HO} (hp : H p = none) (no : ∀ ps, o ≠ .tbl ps) : Grow c F H (upd F p o) (upd H p o) := by
  have fp := b.fnone hp
  refine ⟨⟨fun a u h => ?_, fun a ps h => ?_, b.tb.ext (ex_new hp)⟩, ex_new fp, ExtN.of (ex_new hp), fun a u h => ?_⟩
  · by_cases e : a = p
    · rw [e, upd_same] at h ⊢; exact h
    · rw [upd_ne e] at h ⊢; exact b.fh _ _ h
  · by_cases e : a = p
    · rw [e, upd_same] at h; exact no ps (Option.some.inj h)
    · rw [upd_ne e] at h; exact b.nt _ _ h
  · by_cases e : a = p
    · rw [e]; exact .inr (.of hp)
    · rw [upd_ne e] at h; exact .inl h
/-- a new object, left open -/
theorem Bs.newO (b : Bs c F H) {p : Addr} {o : HO} (hp : H p = none) : Grow c F H F (upd H p o) :=
  ⟨⟨fun a u h => ex_new hp _ _ (b.fh _ _ h), b.nt, b.tb.ext (ex_new hp)⟩, Ex.refl _, ExtN.of (ex_new hp), fun _ _ h => .inl h⟩
theorem Grow.rep (g : Grow c F H F' H') {d : D} {v : V} (h : Rep c F d v) : Rep c F' d v := h.mono g.ff.r
theorem Grow.reps (g : Grow c F H F' H') {d : List D} {v : List V} (h : Reps c F d v) : Reps c F' d v := h.mono g.ff.r
/-- within the whole heap -/
theorem Bs.rep (b : Bs c F H) {d : D} {v : V} (h : Rep c F d v) : Rep c H d v := h.mono b.fh.r
theorem Bs.reps (b : Bs c F H) {d : List D} {v : List V} (h : Reps c F d v) : Reps c H d v := h.mono b.fh.r
end
/-- an open object: a list, a dict that no one else holds -/
def OwnAt (c : CC) (F H : Hp) (p : Addr) : D → Prop
  | .lst ds => ∃ vs, H p = some (.lst vs) ∧ Reps c F ds vs
  | .dic ks ds => ∃ kvs, H p = some (.dK kvs) ∧ kvs.map (·.1) = ks.map Sum.inr ∧ Reps c F ds (kvs.map (·.2))
  | _ => False
theorem OwnAt.there {c : CC} {F H : Hp} {p : Addr} {d : D} (h : OwnAt c F H p d) : ∃ o, H p = some o ∧ ∀ ps, o ≠ .tbl ps := by
  cases d with
  | lst ds => obtain ⟨vs, e, _⟩ := h; exact ⟨_, e, fun ps z => nomatch z⟩
  | dic ks ds => obtain ⟨vs, e, _⟩ := h; exact ⟨_, e, fun ps z => nomatch z⟩
  | _ => exact False.elim h
theorem OwnAt.grow {c : CC} {F H F' H' : Hp} (g : Grow c F H F' H') {p : Addr} {d : D} (h : OwnAt c F H p d) : OwnAt c F' H' p d := by
  cases d with
  | lst ds => obtain ⟨vs, e, r⟩ := h; exact ⟨vs, g.hh _ _ e (fun ps z => nomatch z), g.reps r⟩
  | dic ks ds => obtain ⟨vs, e, e2, r⟩ := h; exact ⟨vs, g.hh _ _ e (fun ps z => nomatch z), e2, g.reps r⟩
  | _ => exact False.elim h
/-- it is frozen -/
theorem OwnAt.freeze {c : CC} {F H : Hp} {p : Addr} {d : D} (b : Bs c F H) (h : OwnAt c F H p d) (hp : F p = none) : ∃ o, H p = some o ∧ (∀ ps, o ≠ .tbl ps) ∧ Bs c (upd F p o) H ∧ Rep c (upd F p o) d (.ref p) := by
  have key : ∀ o, H p = some o → (∀ ps, o ≠ .tbl ps) → Bs c (upd F p o) H := fun o e no => by
    refine ⟨fun a u h => ?_, fun a ps h => ?_, b.tb⟩
    · by_cases q : a = p
      · rw [q, upd_same] at h; rw [q, e]; exact h
      · rw [upd_ne q] at h; exact b.fh _ _ h
    · by_cases q : a = p
      · rw [q, upd_same] at h; exact no ps (Option.some.inj h)
      · rw [upd_ne q] at h; exact b.nt _ _ h
  cases d with
  | lst ds =>
    obtain ⟨vs, e, r⟩ := h
    exact ⟨_, e, (fun ps z => nomatch z), key _ e (fun ps z => nomatch z), p, vs, rfl, upd_same, r.mono (ex_new hp).r⟩
  | dic ks ds =>
    obtain ⟨vs, e, e2, r⟩ := h
    exact ⟨_, e, (fun ps z => nomatch z), key _ e (fun ps z => nomatch z), p, vs, rfl, .inl upd_same, e2, r.mono (ex_new hp).r⟩
  | _ => exact False.elim h

/-! ### the slots -/
inductive Sl where
  | em | val (d : D) | own (d : D)
abbrev Rho := List Sl
structure StR (c : CC) (F0 H0 F H : Hp) (σ : L2.St) (ρ : Rho) : Prop where
  gr : Grow c F0 H0 F H
  len : σ.length = ρ.length
  val : ∀ (i : Nat) d, ρ[i]? = some (.val d) → ∃ v, σ[i]? = some (some v) ∧ Rep c F d v
  own : ∀ (i : Nat) d, ρ[i]? = some (.own d) → ∃ p, σ[i]? = some (some (.ref p)) ∧ F p = none ∧ Fresh H0 p ∧ OwnAt c F H p d
  dis : ∀ (i j : Nat) d e p, ρ[i]? = some (.own d) → ρ[j]? = some (.own e) → σ[i]? = some (some (.ref p)) → σ[j]? = some (some (.ref p)) → i = j
section
variable {c : CC} {F0 H0 F H F' H' : Hp} {σ : L2.St} {ρ : Rho}
theorem StR.bs (S : StR c F0 H0 F H σ ρ) : Bs c F H := S.gr.toBs
/-- an expression is walked: nothing open is touched -/
theorem StR.grow (S : StR c F0 H0 F H σ ρ) (g : Grow c F H F' H') : StR c F0 H0 F' H' σ ρ where
  gr := S.gr.trans g
  len := S.len
  val := fun i d e => let ⟨v, h1, h2⟩ := S.val i d e; ⟨v, h1, g.rep h2⟩
  own := fun i d e => by
    obtain ⟨p, h1, h2, h3, h4⟩ := S.own i d e
    refine ⟨p, h1, ?_, h3, h4.grow g⟩
    obtain ⟨o, e1, e2⟩ := h4.there
    cases q : F' p with
    | none => rfl
    | some u =>
      rcases g.nw _ _ q with z | z
      · rw [h2] at z; cases z
      · obtain ⟨ps, z⟩ := z _ e1
        exact (e2 ps z).elim
  dis := S.dis
theorem StR.setV (S : StR c F0 H0 F H σ ρ) {i : Nat} {d : D} {v : V} (r : Rep c F d v) : StR c F0 H0 F H (σ.set i (some v)) (ρ.set i (.val d)) where
  gr := S.gr
  len := by rw [List.length_set, List.length_set]; exact S.len
  val := fun j e q => by
    by_cases hj : i = j
    · subst hj
      rw [List.getElem?_set] at q ⊢
      simp only [if_true] at q ⊢
      by_cases hi : i < ρ.length
      · rw [if_pos hi] at q
        rw [if_pos (by rw [S.len]; exact hi)]
        cases q
        exact ⟨v, rfl, r⟩
      · rw [if_neg hi] at q; cases q
    · rw [List.getElem?_set_ne hj] at q ⊢
      exact S.val j e q
  own := fun j e q => by
    by_cases hj : i = j
    · subst hj
      rw [List.getElem?_set] at q
      simp only [if_true] at q
      split at q <;> cases q
    · rw [List.getElem?_set_ne hj] at q ⊢
      exact S.own j e q
  dis := fun j k e f p q1 q2 q3 q4 => by
    have ne : ∀ (j : Nat) e, (ρ.set i (.val d))[j]? = some (.own e) → i ≠ j := fun j e q z => by
      subst z
      rw [List.getElem?_set] at q
      simp only [if_true] at q
      split at q <;> cases q
    have n1 := ne j e q1
    have n2 := ne k f q2
    rw [List.getElem?_set_ne n1] at q1 q3
    rw [List.getElem?_set_ne n2] at q2 q4
    exact S.dis j k e f p q1 q2 q3 q4
theorem StR.setO (S : StR c F0 H0 F H σ ρ) {i : Nat} {d : D} {p : Addr} (hp : F p = none) (hf : Fresh H0 p) (ho : OwnAt c F H p d) (ne : ∀ (j : Nat) e, ρ[j]? = some (.own e) → σ[j]? ≠ some (some (.ref p))) :
    StR c F0 H0 F H (σ.set i (some (.ref p))) (ρ.set i (.own d)) where
  gr := S.gr
  len := by rw [List.length_set, List.length_set]; exact S.len
  val := fun j e q => by
    by_cases hj : i = j
    · subst hj
      rw [List.getElem?_set] at q
      simp only [if_true] at q
      split at q <;> cases q
    · rw [List.getElem?_set_ne hj] at q ⊢
      exact S.val j e q
  own := fun j e q => by
    by_cases hj : i = j
    · subst hj
      rw [List.getElem?_set] at q ⊢
      simp only [if_true] at q ⊢
      by_cases hi : i < ρ.length
      · rw [if_pos hi] at q
        rw [if_pos (by rw [S.len]; exact hi)]
        cases q
        exact ⟨p, rfl, hp, hf, ho⟩
      · rw [if_neg hi] at q; cases q
    · rw [List.getElem?_set_ne hj] at q ⊢
      exact S.own j e q
  dis := fun j k e f a q1 q2 q3 q4 => by
    by_cases hj : i = j
    · by_cases hk : i = k
      · exact hj.symm.trans hk
      · exfalso
        subst hj
        rw [List.getElem?_set_ne hk] at q2 q4
        rw [List.getElem?_set] at q3
        simp only [if_true] at q3
        split at q3
        · cases q3
          exact ne k f q2 q4
        · cases q3
    · by_cases hk : i = k
      · exfalso
        subst hk
        rw [List.getElem?_set_ne hj] at q1 q3
        rw [List.getElem?_set] at q4
        simp only [if_true] at q4
        split at q4
        · cases q4
          exact ne j e q1 q3
        · cases q4
      · rw [List.getElem?_set_ne hj] at q1 q3
        rw [List.getElem?_set_ne hk] at q2 q4
        exact S.dis j k e f a q1 q2 q3 q4
/-- forgetting a slot -/
theorem StR.wipe1 (S : StR c F0 H0 F H σ ρ) (i : Nat) : StR c F0 H0 F H (σ.set i none) (ρ.set i .em) where
  gr := S.gr
  len := by rw [List.length_set, List.length_set]; exact S.len
  val := fun j e q => by
    by_cases hj : i = j
    · subst hj
      rw [List.getElem?_set] at q
      simp only [if_true] at q
      split at q <;> cases q
    · rw [List.getElem?_set_ne hj] at q ⊢
      exact S.val j e q
  own := fun j e q => by
    by_cases hj : i = j
    · subst hj
      rw [List.getElem?_set] at q
      simp only [if_true] at q
      split at q <;> cases q
    · rw [List.getElem?_set_ne hj] at q ⊢
      exact S.own j e q
  dis := fun j k e f p q1 q2 q3 q4 => by
    have ne : ∀ (j : Nat) e, (ρ.set i .em)[j]? = some (.own e) → i ≠ j := fun j e q z => by
      subst z
      rw [List.getElem?_set] at q
      simp only [if_true] at q
      split at q <;> cases q
    have n1 := ne j e q1
    have n2 := ne k f q2
    rw [List.getElem?_set_ne n1] at q1 q3
    rw [List.getElem?_set_ne n2] at q2 q4
    exact S.dis j k e f p q1 q2 q3 q4
def wipeR (ρ : Rho) : List Nat → Rho
  | [] => ρ
  | v :: vs => (wipeR ρ vs).set v .em
theorem StR.wipe (S : StR c F0 H0 F H σ ρ) : ∀ vs : List Nat, StR c F0 H0 F H (L2.wipe σ vs) (wipeR ρ vs)
  | [] => S
  | v :: vs => (S.wipe vs).wipe1 v
/-- an open object is frozen: it may be handed on -/
theorem StR.frz (S : StR c F0 H0 F H σ ρ) {i : Nat} {d : D} (hi : ρ[i]? = some (.own d)) : ∃ F1, Ex F F1 ∧ StR c F0 H0 F1 H σ (ρ.set i (.val d)) := by
  obtain ⟨p, h1, h2, h3, h4⟩ := S.own i d hi
  obtain ⟨o, e1, e2, e3, e4⟩ := h4.freeze S.bs h2
  have ff : Ex F (upd F p o) := ex_new h2
  have G : Grow c F0 H0 (upd F p o) H := ⟨e3, S.gr.ff.trans ff, S.gr.hh, fun a u q => by
    by_cases z : a = p
    · rw [z]; exact .inr h3
    · rw [upd_ne z] at q; exact S.gr.nw _ _ q⟩
  have ix : ∀ (j : Nat), i ≠ j → (ρ.set i (.val d))[j]? = ρ[j]? := fun j hj => List.getElem?_set_ne hj
  refine ⟨upd F p o, ff, G, by rw [List.length_set]; exact S.len, fun j e q => ?_, fun j e q => ?_, fun j k e f a q1 q2 q3 q4 => ?_⟩
  · by_cases hj : i = j
    · subst hj
      rw [List.getElem?_set] at q
      simp only [if_true] at q
      split at q
      · cases q; exact ⟨_, h1, e4⟩
      · cases q
    · rw [ix j hj] at q
      obtain ⟨v, k1, k2⟩ := S.val j e q
      exact ⟨v, k1, k2.mono ff.r⟩
  · have hj : i ≠ j := fun z => by
      subst z
      rw [List.getElem?_set] at q
      simp only [if_true] at q
      split at q <;> cases q
    rw [ix j hj] at q
    obtain ⟨r, k1, k2, k3, k4⟩ := S.own j e q
    have hrp : r ≠ p := fun z => hj (S.dis i j d e p hi q h1 (by rw [← z]; exact k1))
    refine ⟨r, k1, by rw [upd_ne hrp]; exact k2, k3, ?_⟩
    cases e with
    | lst ds => obtain ⟨vs, a1, a2⟩ := k4; exact ⟨vs, a1, a2.mono ff.r⟩
    | dic ks ds => obtain ⟨vs, a1, a2, a3⟩ := k4; exact ⟨vs, a1, a2, a3.mono ff.r⟩
    | _ => exact False.elim k4
  · have ne : ∀ (j : Nat) e, (ρ.set i (.val d))[j]? = some (.own e) → i ≠ j := fun j e q z => by
      subst z
      rw [List.getElem?_set] at q
      simp only [if_true] at q
      split at q <;> cases q
    rw [ix j (ne j e q1)] at q1
    rw [ix k (ne k f q2)] at q2
    exact S.dis j k e f a q1 q2 q3 q4
end

/-! ### readings by semantic functions -/
section
variable {α β : Type} {c : CC} {W : WX} {σ : L2.St} {F H F' H' : Hp} {P P' : α → Hp → Hp → Prop}
def OutP (c : CC) (W : WX) (σ : L2.St) (F H : Hp) (P : α → Hp → Hp → Prop) : Out α → Prop
  | .ok a => ∀ F' H', Grow c F H F' H' → P a F' H'
  | .exc x => ∀ F' H' C dx, Grow c F H F' H' → XnAt c F' x C dx → W (.ref C) dx σ H'
  | .bad => False
theorem OutP.imp {o : Out α} (h : OutP c W σ F H P o) (k : ∀ a F' H', Grow c F H F' H' → P a F' H' → P' a F' H') : OutP c W σ F H P' o := by
  cases o with
  | ok a => exact fun F' H' g => k a F' H' g (h F' H' g)
  | exc x => exact h
  | bad => exact h
theorem OutP.grow {o : Out α} (h : OutP c W σ F H P o) (g : Grow c F H F' H') : OutP c W σ F' H' P o := by
  cases o with
  | ok a => exact fun F2 H2 g2 => h F2 H2 (g.trans g2)
  | exc x => exact fun F2 H2 C dx g2 => h F2 H2 C dx (g.trans g2)
  | bad => exact h
theorem OutP.bind {P : β → Hp → Hp → Prop} {o : Out α} {g : α → Out β} (h : OutP c W σ F H P (o.bind g)) : OutP c W σ F H (fun a F1 H1 => OutP c W σ F1 H1 P (g a)) o := by
  cases o with
  | ok a => exact fun F1 H1 gr => h.grow gr
  | exc x => exact h
  | bad => exact h
theorem OutP.now {o : Out α} {a : α} (h : OutP c W σ F H P o) (b : Bs c F H) (e : o = .ok a) : P a F H := by
  rw [e] at h
  exact h F H b.refl
end
/-- what is wanted of exceptions; the heap at the def's entry: what was frozen then, all -/
structure WW where
  W : WX
  F0 : Hp
  H0 : Hp
def tD (c : CC) (W : WW) (f : Rho → Out D) : TE := fun σ H Q => ∃ F ρ, StR c W.F0 W.H0 F H σ ρ ∧ OutP c W.W σ F H (fun d F' H' => ∀ v, Rep c F' d v → Q v H') (f ρ)
def tT (c : CC) (W : WW) (f : Rho → Out Bool) : TT := fun σ H Q => ∃ F ρ, StR c W.F0 W.H0 F H σ ρ ∧ OutP c W.W σ F H (fun b _ H' => Q b H') (f ρ)
def tA (c : CC) (W : WW) (f : Rho → Out (List D)) : TA := fun σ H Q => ∃ F ρ, StR c W.F0 W.H0 F H σ ρ ∧ OutP c W.W σ F H (fun ds F' H' => ∀ vs, Reps c F' ds vs → Q vs H') (f ρ)
/-- a new list, a new dict: open yet -/
def tO (c : CC) (W : WW) (f : Rho → Out D) : TE := fun σ H Q => ∃ F ρ, StR c W.F0 W.H0 F H σ ρ ∧ OutP c W.W σ F H (fun d F' H' => ∀ p, F' p = none → Fresh H p → OwnAt c F' H' p d → Q (.ref p) H') (f ρ)
theorem PE.imp {X : Cx} {e : Expr} {t t' : TE} (h : PE X e t) (k : ∀ σ H Q, t' σ H Q → t σ H Q) : PE X e t' := ⟨fun pins s σ H Q I q => h.run pins s σ H Q I (k σ H Q q)⟩
theorem PT.imp {X : Cx} {e : Expr} {t t' : TT} (h : PT X e t) (k : ∀ σ H Q, t' σ H Q → t σ H Q) : PT X e t' := ⟨fun pins s σ H Q I q => h.run pins s σ H Q I (k σ H Q q)⟩
theorem PW.imp {X : Cx} {e : Expr} {t t' : TT} (h : PW X e t) (k : ∀ σ H Q, t' σ H Q → t σ H Q) : PW X e t' := ⟨fun wh pins s σ H Q I q => h.run wh pins s σ H Q I (k σ H Q q)⟩
theorem PA.imp {X : Cx} {es : List Expr} {t t' : TA} (h : PA X es t) (k : ∀ σ H Q, t' σ H Q → t σ H Q) : PA X es t' := ⟨fun pos pins s σ H Q I q => h.run pos pins s σ H Q I (k σ H Q q)⟩
theorem PS.imp {X : Cx} {st : Stmt} {t t' : TS} (h : PS X st t) (k : ∀ D σ H, t' D σ H → t D σ H) : PS X st t' := ⟨fun pins s σ H D I q => h.run pins s σ H D I (k D σ H q)⟩
theorem PSs.imp {X : Cx} {st : List Stmt} {t t' : TS} (h : PSs X st t) (k : ∀ D σ H, t' D σ H → t D σ H) : PSs X st t' := ⟨fun pins s σ H D I q => h.run pins s σ H D I (k D σ H q)⟩
/-- what a def's body (or a block, a try's body) is walked in -/
structure Ok (X : Cx) (c : CC) (W : WW) (k : Nat) : Prop where
  K : X.K = c.K
  mg : X.mg = c.mg
  calm : X.calm = true
  tk : Takes X W.W
  rm : Room k X.A
  nd : X.N.Nodup
/-- an open one is frozen -/
theorem tO.val {c : CC} {W : WW} {f : Rho → Out D} {σ : L2.St} {H : Hp} {Q : VK} (h : tD c W f σ H Q) : tO c W f σ H Q := by
  obtain ⟨F, ρ, S, h⟩ := h
  refine ⟨F, ρ, S, ?_⟩
  revert h
  cases f ρ with
  | ok d =>
    intro h F' H' g p hp hf ho
    obtain ⟨o, e1, e2, e3, e4⟩ := ho.freeze g.toBs hp
    refine h (upd F' p o) H' ⟨e3, g.ff.trans (ex_new hp), g.hh, fun a u q => ?_⟩ _ e4
    by_cases z : a = p
    · rw [z]; exact .inr hf
    · rw [upd_ne z] at q; exact g.nw _ _ q
  | exc x => exact fun h => h
  | bad => exact fun h => h
theorem d_own {X : Cx} {c : CC} {W : WW} {e : Expr} {f : Rho → Out D} (h : PE X e (tO c W f)) : PE X e (tD c W f) := PE.imp h fun _ _ _ q => tO.val q
end BD
set_option Elab.async false
set_option maxRecDepth 100000
set_option maxHeartbeats 4000000
/-! The layer BD: expressions. -/
namespace BD
open PySem PySem.Spec PyProof.Rows L2 LamX

def ofO {α : Type} : Option α → Out α
  | some d => .ok d
  | none => .bad
@[simp] theorem ofO_some {α : Type} (d : α) : ofO (some d) = .ok d := rfl
@[simp] theorem ofO_none {α : Type} : ofO (none : Option α) = .bad := rfl
def eVar (i : Nat) : Rho → Out D := fun ρ => match ρ[i]? with
  | some (.val d) => .ok d
  | _ => .bad
def eC (d : D) : Rho → Out D := fun _ => .ok d
def eOp (g : D → D → Option D) (f h : Rho → Out D) : Rho → Out D := fun ρ => (f ρ).bind fun a => (h ρ).bind fun b => ofO (g a b)
def eU (g : D → Option D) (f : Rho → Out D) : Rho → Out D := fun ρ => (f ρ).bind fun a => ofO (g a)
def eN (g : List D → Option D) (f : Rho → Out (List D)) : Rho → Out D := fun ρ => (f ρ).bind fun a => ofO (g a)
def aNil : Rho → Out (List D) := fun _ => .ok []
def aCons (f : Rho → Out D) (g : Rho → Out (List D)) : Rho → Out (List D) := fun ρ => (f ρ).bind fun d => (g ρ).bind fun ds => .ok (d :: ds)
def toB : D → Out Bool
  | .bl b => .ok b
  | _ => .bad
@[simp] theorem toB_bl (b : Bool) : toB (.bl b) = .ok b := rfl
def tV (f : Rho → Out D) : Rho → Out Bool := fun ρ => (f ρ).bind toB
def tAn (f g : Rho → Out Bool) : Rho → Out Bool := fun ρ => (f ρ).bind fun b => if b = true then g ρ else .ok false
def tOrr (f g : Rho → Out Bool) : Rho → Out Bool := fun ρ => (f ρ).bind fun b => if b = true then .ok true else g ρ
def tNo (f : Rho → Out Bool) : Rho → Out Bool := fun ρ => (f ρ).bind fun b => .ok (!b)
def eIf (t : Rho → Out Bool) (f g : Rho → Out D) : Rho → Out D := fun ρ => (t ρ).bind fun b => if b = true then f ρ else g ρ
def truD : D → Option Bool
  | .non => some false
  | .bl b => some b
  | .int i => some (i != 0)
  | .str y => if y.length ≤ 1000000 then some (decide (y.length ≠ 0)) else none
  | .tup ds => some (!ds.isEmpty)
  | .lst ds => some (!ds.isEmpty)
  | .scr ns => some (!ns.isEmpty)
  | _ => none
def tTru (f : Rho → Out D) : Rho → Out Bool := fun ρ => (f ρ).bind fun d => ofO (truD d)
/-- x or y, x and y as values, by truth -/
def eOrV (f g : Rho → Out D) : Rho → Out D := fun ρ => (f ρ).bind fun d => (ofO (truD d)).bind fun b => if b = true then .ok d else g ρ
def eAndV (f g : Rho → Out D) : Rho → Out D := fun ρ => (f ρ).bind fun d => (ofO (truD d)).bind fun b => if b = true then g ρ else .ok d
def eChain (g h : D → D → Option D) (f1 f2 f3 : Rho → Out D) : Rho → Out D := fun ρ => (f1 ρ).bind fun a => (f2 ρ).bind fun b => (ofO (g a b)).bind fun d => (toB d).bind fun k =>
  if k = true then (f3 ρ).bind fun e => ofO (h b e) else .ok (.bl false)

section
variable {X : Cx} {c : CC} {W : WW} {k : Nat} {σ : L2.St} {F H : Hp} {Q : VK} {pos : Pos}

def Goes (c : CC) (F H : Hp) (Q : VK) (d : D) : Prop := ∀ F' H', Grow c F H F' H' → ∀ v, Rep c F' d v → Q v H'
theorem Goes.at {d : D} {v : V} (g : Goes c F H Q d) (b : Bs c F H) (r : Rep c F d v) : Q v H := g F H b.refl v r
theorem Goes.new {d : D} {p : Addr} {o : HO} (g : Goes c F H Q d) (b : Bs c F H) (hp : H p = none) (no : ∀ ps, o ≠ .tbl ps) (r : Rep c (upd F p o) d (.ref p)) : Q (.ref p) (upd H p o) := g _ _ (b.new hp no) _ r
theorem OutP.goes {F H : Hp} {o : Option D} (h : OutP c W.W σ F H (fun d F' H' => ∀ v, Rep c F' d v → Q v H') (ofO o)) : ∃ d, o = some d ∧ Goes c F H Q d := by
  cases o with
  | none => exact False.elim h
  | some d => exact ⟨d, rfl, h⟩

/-! ### names, constants -/
theorem d_var {i : Nat} {x : Str} (hN : X.N[i]? = some x := by rfl) (hv : Vis X.env.scope x := by first | exact Or.inl rfl | exact Or.inr (Or.inl rfl) | exact Or.inr (Or.inr rfl)) (hd : (x == ("__debug__" : Str)) = false := by decide)
    (hcd : (x == ("__classdict__" : Str)) = false := by decide) : PE X (.Name x pos) (tD c W (eVar i)) :=
  PE.imp (pe_var hN hv hd hcd) fun σ H Q ⟨F, ρ, S, h⟩ => by
    unfold eVar at h
    cases e : ρ[i]? with
    | none => rw [e] at h; exact False.elim h
    | some s =>
      rw [e] at h
      cases s with
      | em => exact False.elim h
      | own d => exact False.elim h
      | val d =>
        obtain ⟨v, h1, h2⟩ := S.val i d e
        exact ⟨v, h1, h F H S.bs.refl v h2⟩
theorem d_c {e : Expr} {v : V} {d : D} (h : PE X e (tC v)) (r : ∀ F, Rep c F d v) : PE X e (tD c W (eC d)) :=
  PE.imp h fun σ H Q ⟨F, ρ, S, h⟩ => h F H S.bs.refl v (r F)
theorem d_int {i j} : PE X (.Constant (.int i) j pos) (tD c W (eC (.int i))) := d_c pe_int fun _ => rfl
theorem d_bl {i j} : PE X (.Constant (.bool i) j pos) (tD c W (eC (.bl i))) := d_c pe_bl fun _ => rfl
theorem d_non {j} : PE X (.Constant .none j pos) (tD c W (eC .non)) := d_c pe_non fun _ => rfl
theorem d_str {i j} : PE X (.Constant (.str i) j pos) (tD c W (eC (.str i))) := d_c pe_str fun _ => rfl
/-- a module's value: an int, a text, a tuple of the written part .. -/
theorem d_glob {x : Str} {v : V} {d : D} {u : Value} (hm : X.mg x = some u) (r : RelV v u) (rp : ∀ F, Rep c F d v) (hg : Gl X x := by rfl) (hd : (x == ("__debug__" : Str)) = false := by decide) : PE X (.Name x pos) (tD c W (eC d)) :=
  d_c (pe_glob hg hm r hd) rp
theorem d_bltn {x : Str} {v : V} {d : D} {u : Value} (hm : X.mg x = none) (hv : bootBuiltins x = some u) (r : RelV v u) (rp : ∀ F, Rep c F d v) (hg : Gl X x := by rfl) (hn : x ≠ "__name__" := by decide) (hd : (x == ("__debug__" : Str)) = false := by decide) : PE X (.Name x pos) (tD c W (eC d)) :=
  d_c (pe_bltn hg hm hv r hn hd) rp

/-! ### operators -/
def RLaw (c : CC) (r : R2) (g : D → D → Option D) : Prop := ∀ (F H : Hp) (x y : V) (a b d : D) (Q : VK), Bs c F H → Rep c F a x → Rep c F b y → g a b = some d → Goes c F H Q d → r x y H Q
theorem tOp_of {r : R2} {g : D → D → Option D} (L : RLaw c r g) {f h : Rho → Out D} {H : Hp} (q : tD c W (eOp g f h) σ H Q) : tOp r (tD c W f) (tD c W h) σ H Q := by
  obtain ⟨F, ρ, S, q⟩ := q
  refine ⟨F, ρ, S, (OutP.bind q).imp fun a F1 H1 G1 q1 x rx => ⟨F1, ρ, S.grow G1, (OutP.bind q1).imp fun b F2 H2 G2 q2 y ry => ?_⟩⟩
  obtain ⟨d, e, go⟩ := OutP.goes q2
  exact L F2 H2 x y a b d Q G2.toBs (G2.rep rx) ry e go
theorem d_op {op : Operator} {a b : Expr} {r : R2} {g : D → D → Option D} {f h : Rho → Out D} (ho : OpR X (binaryOp op) r) (L : RLaw c r g) (ha : PE X a (tD c W f)) (hb : PE X b (tD c W h)) : PE X (.BinOp a op b pos) (tD c W (eOp g f h)) :=
  PE.imp (pe_op ho ha hb) fun _ _ _ q => tOp_of L q
theorem d_cmp {op : CmpOp} {a b : Expr} {r : R2} {g : D → D → Option D} {f h : Rho → Out D} (ho : OpR X (compareOp op) r) (L : RLaw c r g) (hm : behindInMarks op b = false) (ha : PE X a (tD c W f)) (hb : PE X b (tD c W h)) : PE X (.Compare a [op] [b] pos) (tD c W (eOp g f h)) :=
  PE.imp (pe_cmpR ho ha hb hm) fun _ _ _ q => tOp_of L q
theorem tTest_of {t t' : TE} {R : Bool → Hp → Prop} (k : ∀ H Q, t σ H Q → t' σ H Q) {H : Hp} (q : tTest t σ H R) : tTest t' σ H R := k _ _ q
theorem tV_of {f : Rho → Out D} {R : Bool → Hp → Prop} {H : Hp} (q : tT c W (tV f) σ H R) : tD c W f σ H fun x H1 => ∃ k, x = .bl k ∧ R k H1 := by
  obtain ⟨F, ρ, S, q⟩ := q
  refine ⟨F, ρ, S, (OutP.bind q).imp fun d F1 H1 G1 q1 v rv => ?_⟩
  cases d with
  | bl b => exact ⟨b, rv, q1 F1 H1 G1.toBs.refl⟩
  | _ => exact False.elim q1
/-- a comparison as a test -/
theorem t_cmp {op : CmpOp} {a b : Expr} {r : R2} {g : D → D → Option D} {f h : Rho → Out D} (ho : OpR X (compareOp op) r) (L : RLaw c r g) (hm : behindInMarks op b = false) (ha : PE X a (tD c W f)) (hb : PE X b (tD c W h)) : PT X (.Compare a [op] [b] pos) (tT c W (tV (eOp g f h))) :=
  PT.imp (pt_cmpR ho ha hb hm) fun _ _ _ q => tOp_of L (tV_of q)
theorem tChain_of {r r' : R2} {g g' : D → D → Option D} (L : RLaw c r g) (L' : RLaw c r' g') {f1 f2 f3 : Rho → Out D} {H : Hp} (q : tD c W (eChain g g' f1 f2 f3) σ H Q) : tChain r r' (tD c W f1) (tD c W f2) (tD c W f3) σ H Q := by
  obtain ⟨F, ρ, S, q⟩ := q
  refine ⟨F, ρ, S, (OutP.bind q).imp fun a F1 H1 G1 q1 x rx => ⟨F1, ρ, S.grow G1, (OutP.bind q1).imp fun b F2 H2 G2 q2 y ry => ?_⟩⟩
  have q3 := OutP.bind q2
  cases e : g a b with
  | none => rw [e] at q3; exact False.elim q3
  | some d =>
    rw [e] at q3
    refine L F2 H2 x y a b d _ G2.toBs (G2.rep rx) ry e fun F3 H3 G3 v rv => ?_
    have q4 := OutP.bind (q3 F3 H3 G3)
    cases d with
    | bl kk =>
      refine ⟨kk, rv, ?_⟩
      have q5 := q4 F3 H3 G3.toBs.refl
      cases kk with
      | true =>
        rw [if_pos rfl]
        rw [if_pos rfl] at q5
        refine ⟨F3, ρ, ((S.grow G1).grow G2).grow G3, (OutP.bind q5).imp fun e F4 H4 G4 q6 z rz => ?_⟩
        obtain ⟨d', e', go⟩ := OutP.goes q6
        exact L' F4 H4 y z b e d' Q G4.toBs (G4.rep (G3.rep ry)) rz e' go
      | false =>
        rw [if_neg Bool.false_ne_true]
        rw [if_neg Bool.false_ne_true] at q5
        exact q5 F3 H3 G3.toBs.refl _ rfl
    | _ => exact False.elim q4
theorem d_chain {op op' : CmpOp} {a b b' : Expr} {r r' : R2} {g g' : D → D → Option D} {f1 f2 f3 : Rho → Out D} (ho : OpR X (compareOp op) r) (L : RLaw c r g) (ho' : OpR X (compareOp op') r') (L' : RLaw c r' g') (ha : PE X a (tD c W f1)) (hb : PE X b (tD c W f2)) (hc : PE X b' (tD c W f3))
    (hm : lastMarks [op, op'] [b, b'] = false := by with_unfolding_all rfl) : PE X (.Compare a [op, op'] [b, b'] pos) (tD c W (eChain g g' f1 f2 f3)) :=
  PE.imp (pe_chain ho ho' ha hb hc hm) fun _ _ _ q => tChain_of L L' q
theorem t_chain {op op' : CmpOp} {a b b' : Expr} {r r' : R2} {g g' : D → D → Option D} {f1 f2 f3 : Rho → Out D} (ho : OpR X (compareOp op) r) (L : RLaw c r g) (ho' : OpR X (compareOp op') r') (L' : RLaw c r' g') (ha : PE X a (tD c W f1)) (hb : PE X b (tD c W f2)) (hc : PE X b' (tD c W f3))
    (hm : lastMarks [op, op'] [b, b'] = false := by with_unfolding_all rfl) : PT X (.Compare a [op, op'] [b, b'] pos) (tT c W (tV (eChain g g' f1 f2 f3))) :=
  PT.imp (pt_chain ho ho' ha hb hc hm) fun _ _ _ q => tChain_of L L' (tV_of q)

/-! ### tests -/
/-- an expression whose value is a bool -/
theorem t_val {e : Expr} {f : Rho → Out D} (h : PE X e (tD c W f)) (he : ∀ whole, isTrue e X.env whole = (do let v ← whole; standAt e.pos; holding [v] (truthy v)) := by intro _; rfl) : PT X e (tT c W (tV f)) :=
  PT.imp (pt_val h he) fun _ _ _ q => tV_of q
theorem TruV.of {d : D} {v : V} {b : Bool} {F H : Hp} (B : Bs c F H) (r : Rep c F d v) (e : truD d = some b) : TruV c.K v H b := by
  have r := B.rep r
  cases d with
  | non => cases r; cases e; exact rfl
  | bl x => cases r; cases e; exact rfl
  | int x => cases r; cases e; exact rfl
  | str y =>
    cases r
    have e : (if y.length ≤ 1000000 then some (decide (y.length ≠ 0)) else none) = some b := e
    split at e
    · rename_i h
      cases e
      refine ⟨by rw [sizeLine_eq]; omega, ?_⟩
      by_cases z : y.length = 0
      · rw [z]; rfl
      · rw [decide_eq_true z]
        have : ((y.length : Int) != 0) = true := by simpa using z
        exact this.symm
    · cases e
  | tup ds =>
    obtain ⟨a, vs, rfl, h1, h2⟩ := r
    cases e
    refine .inr (.inl ⟨vs, h1, ?_⟩)
    have := h2.length
    cases ds <;> cases vs <;> first | rfl | simp at this
  | lst ds =>
    obtain ⟨a, vs, rfl, h1, h2⟩ := r
    cases e
    refine .inl ⟨vs, SqL.of h1, ?_⟩
    have := h2.length
    cases ds <;> cases vs <;> first | rfl | simp at this
  | scr ns =>
    obtain ⟨a, rfl, h1⟩ := r
    cases e
    refine .inl ⟨_, h1, ?_⟩
    cases ns <;> rfl
  | _ => cases e
/-- the truth of any value -/
theorem t_tru (hK : X.K = c.K) {e : Expr} {f : Rho → Out D} (h : PE X e (tD c W f)) (he : ∀ whole, isTrue e X.env whole = (do let v ← whole; standAt e.pos; holding [v] (truthy v)) := by intro _; rfl) : PT X e (tT c W (tTru f)) :=
  PT.imp (pt_truth h he) fun σ H R ⟨F, ρ, S, q⟩ => by
    refine ⟨F, ρ, S, (OutP.bind q).imp fun d F1 H1 G1 q1 v rv => ?_⟩
    cases e : truD d with
    | none => rw [e] at q1; exact False.elim q1
    | some b =>
      rw [e] at q1
      exact ⟨b, by rw [hK]; exact TruV.of G1.toBs rv e, q1 F1 H1 G1.toBs.refl⟩
theorem w_and1 {a : Expr} {f : Rho → Out Bool} (h : PT X a (tT c W f)) : PW X (.BoolOp .And [a] pos) (tT c W f) := pw_and1 h
theorem w_or1 {a : Expr} {f : Rho → Out Bool} (h : PT X a (tT c W f)) : PW X (.BoolOp .Or [a] pos) (tT c W f) := pw_or1 h
theorem w_and {a b : Expr} {rest : List Expr} {f g : Rho → Out Bool} (h : PT X a (tT c W f)) (k : PW X (.BoolOp .And (b :: rest) pos) (tT c W g)) : PW X (.BoolOp .And (a :: b :: rest) pos) (tT c W (tAn f g)) :=
  PW.imp (pw_and h k) fun σ H R ⟨F, ρ, S, q⟩ => ⟨F, ρ, S, (OutP.bind q).imp fun b F1 H1 G1 q1 => by
    cases b with
    | true => rw [if_pos rfl]; rw [if_pos rfl] at q1; exact ⟨F1, ρ, S.grow G1, q1⟩
    | false => rw [if_neg Bool.false_ne_true]; rw [if_neg Bool.false_ne_true] at q1; exact q1 F1 H1 G1.toBs.refl⟩
theorem w_or {a b : Expr} {rest : List Expr} {f g : Rho → Out Bool} (h : PT X a (tT c W f)) (k : PW X (.BoolOp .Or (b :: rest) pos) (tT c W g)) : PW X (.BoolOp .Or (a :: b :: rest) pos) (tT c W (tOrr f g)) :=
  PW.imp (pw_or h k) fun σ H R ⟨F, ρ, S, q⟩ => ⟨F, ρ, S, (OutP.bind q).imp fun b F1 H1 G1 q1 => by
    cases b with
    | true => rw [if_pos rfl]; rw [if_pos rfl] at q1; exact q1 F1 H1 G1.toBs.refl
    | false => rw [if_neg Bool.false_ne_true]; rw [if_neg Bool.false_ne_true] at q1; exact ⟨F1, ρ, S.grow G1, q1⟩⟩
theorem t_w {e : Expr} {f : Rho → Out Bool} (h : PW X e (tT c W f)) : PT X e (tT c W f) := h.pt
theorem t_not {a : Expr} {f : Rho → Out Bool} (h : PT X a (tT c W f)) : PT X (.UnaryOp .Not a pos) (tT c W (tNo f)) :=
  PT.imp (pt_not h) fun σ H R ⟨F, ρ, S, q⟩ => ⟨F, ρ, S, (OutP.bind q).imp fun b F1 H1 G1 q1 => q1 F1 H1 G1.toBs.refl⟩
/-! ### values by truth -/
theorem d_if {t a b : Expr} {f : Rho → Out Bool} {g h : Rho → Out D} (ht : PT X t (tT c W f)) (ha : PE X a (tD c W g)) (hb : PE X b (tD c W h)) : PE X (.IfExp t a b pos) (tD c W (eIf f g h)) :=
  PE.imp (pe_ifExp ht ha hb) fun σ H R ⟨F, ρ, S, q⟩ => ⟨F, ρ, S, (OutP.bind q).imp fun b F1 H1 G1 q1 => by
    cases b with
    | true => rw [if_pos rfl]; rw [if_pos rfl] at q1; exact ⟨F1, ρ, S.grow G1, q1⟩
    | false => rw [if_neg Bool.false_ne_true]; rw [if_neg Bool.false_ne_true] at q1; exact ⟨F1, ρ, S.grow G1, q1⟩⟩
end
end BD
set_option Elab.async false
set_option maxRecDepth 100000
set_option maxHeartbeats 4000000
/-! The layer BD: operators by data. -/
namespace BD
open PySem PySem.Spec PyProof.Rows L2 LamX

/-! ### what they are -/
def dSub : D → D → Option D
  | .int i, .int j => some (.int (i - j))
  | _, _ => none
instance (i j : Int) : Decidable (CMul i j) := by unfold CMul; infer_instance
instance (i j : Int) : Decidable (CMulW i j) := by unfold CMulW; infer_instance
instance (i j : Int) : Decidable (CDivW i j) := by unfold CDivW; infer_instance
instance (i j : Int) : Decidable (CPow i j) := by unfold CPow; infer_instance
def mulOk (i j : Int) : Prop := CMul i j ∨ CMulW i j
instance (i j : Int) : Decidable (mulOk i j) := by unfold mulOk; infer_instance
def dMul : D → D → Option D
  | .int i, .int j => if mulOk i j then some (.int (i * j)) else none
  | .lst ds, .int j => if 0 ≤ j ∧ j ≤ 1000 ∧ ds.length ≤ 1000 then some (.lst (List.replicate j.toNat ds).flatten) else none
  | _, _ => none
def dDiv : D → D → Option D
  | .int i, .int j => if CDivW i j then some (.int (i / j)) else none
  | _, _ => none
def dMod : D → D → Option D
  | .int i, .int j => if 0 < j then some (.int (i % j)) else none
  | _, _ => none
def dPow : D → D → Option D
  | .int i, .int j => if CPow i j then some (.int (i ^ j.toNat)) else none
  | _, _ => none
def dBand : D → D → Option D
  | .int i, .int j => some (.int (Builtin.bitAnd i j))
  | _, _ => none
def dAdd : D → D → Option D
  | .int i, .int j => some (.int (i + j))
  | .str x, .str y => if x.length + y.length ≤ 1000000 then some (.str (x ++ y)) else none
  | .tup xs, .tup ys => if xs ≠ [] ∧ ys ≠ [] ∧ xs.length + ys.length ≤ 100000 then some (.tup (xs ++ ys)) else none
  | .lst xs, .lst ys => if xs.length + ys.length ≤ 100000 then some (.lst (xs ++ ys)) else none
  | _, _ => none
def dI (p : Int → Int → Bool) : D → D → Option D
  | .int i, .int j => some (.bl (p i j))
  | _, _ => none
def dLt := dI fun i j => decide (i < j)
def dLe := dI fun i j => decide (i ≤ j)
def dGt := dI fun i j => decide (j < i)
def dGe := dI fun i j => decide (j ≤ i)
def isNon : D → Bool
  | .non => true
  | .op v => decide (v = .non)
  | _ => false
def dIsN : D → D → Option D
  | a, .non => some (.bl (isNon a))
  | _, _ => none
def dNotN : D → D → Option D
  | a, .non => some (.bl (!isNon a))
  | _, _ => none
def dIsB : D → D → Option D
  | .bl a, .bl b => some (.bl (decide (a = b)))
  | _, _ => none
def dNotB : D → D → Option D
  | .bl a, .bl b => some (.bl (!decide (a = b)))
  | _, _ => none
mutual
def D.py : D → PyData
  | .non => .none
  | .bl b => .bool b
  | .int i => .int i
  | .str x => .str x
  | .tup ds => .tuple (pys ds)
  | .lst ds => .list (pys ds)
  | .dic _ _ => .none
  | .exn _ _ => .none
  | .op _ => .none
  | .scr _ => .none
def pys : List D → List PyData
  | [] => []
  | d :: ds => d.py :: pys ds
end
mutual
def D.lay : D → Bool
  | .non => true
  | .bl _ => true
  | .int _ => true
  | .str x => PyData.strOk x
  | .tup ds => lays ds
  | .lst ds => lays ds
  | .dic _ _ => false
  | .exn _ _ => false
  | .op _ => false
  | .scr _ => false
def lays : List D → Bool
  | [] => true
  | d :: ds => d.lay && lays ds
end
mutual
def D.dep : D → Nat
  | .tup ds => deps ds + 1
  | .lst ds => deps ds + 1
  | _ => 0
def deps : List D → Nat
  | [] => 0
  | d :: ds => max d.dep (deps ds)
end
mutual
def D.eqv : D → D → Bool
  | .non, .non => true
  | .bl a, .bl b => a == b
  | .bl a, .int j => (if a then 1 else 0) == j
  | .int i, .bl b => i == (if b then 1 else 0)
  | .int i, .int j => i == j
  | .str x, .str y => x == y
  | .lst xs, .lst ys => eqvs xs ys
  | .tup xs, .tup ys => eqvs xs ys
  | _, _ => false
def eqvs : List D → List D → Bool
  | [], [] => true
  | x :: xs, y :: ys => x.eqv y && eqvs xs ys
  | _, _ => false
end
def cmpOk (a b : D) : Prop := a.lay = true ∧ b.lay = true ∧ a.dep ≤ 60 ∧ b.dep ≤ 60
instance (a b : D) : Decidable (cmpOk a b) := by unfold cmpOk; infer_instance
def dEq (a b : D) : Option D := if cmpOk a b then some (.bl (a.eqv b)) else none
/-- a dict is no int -/
def neDI : D → D → Option D
  | .dic _ _, .int _ => some (.bl true)
  | _, _ => none
def dNe (a b : D) : Option D := if cmpOk a b then some (.bl (!a.eqv b)) else neDI a b
def flatD : D → Bool
  | .non => true | .bl _ => true | .int _ => true | .str _ => true
  | _ => false
def eqF : D → D → Bool
  | .non, .non => true
  | .bl a, .bl b => a == b
  | .bl a, .int b => (if a then 1 else 0) == b
  | .int a, .bl b => a == (if b then 1 else 0)
  | .int a, .int b => a == b
  | .str a, .str b => a == b
  | _, _ => false
def inF (x : D) (ds : List D) : Option Bool := if flatD x = true ∧ ds.all flatD = true then some (ds.any fun y => eqF y x) else none
/-- x in (a list, a tuple, a dict by texts, a text) -/
def inD (a b : D) : Option Bool := match b with
  | .lst ds => inF a ds
  | .tup ds => inF a ds
  | .dic ks _ => (match a with | .str x => some (decide (x ∈ ks)) | _ => none)
  | .str z => (match a with | .str x => (match x.cps.toList with | [n] => some (decide (n ∈ z.cps.toList)) | _ => none) | _ => none)
  | _ => none
def dIn (a b : D) : Option D := (inD a b).map .bl
def dNotIn (a b : D) : Option D := (inD a b).map fun k => .bl (!k)
def dIx : D → D → Option D
  | .tup ds, .int i => atI ds i
  | .lst ds, .int i => atI ds i
  | .scr ns, .int i => (atI ns i).map .int
  | .str z, .int i => if z.length ≤ 1000000 then (atI z.cps.toList i).map fun n => .str ⟨#[n]⟩ else none
  | _, _ => none

/-! ### they are the machine's -/
section
open PySem.SeqAt PySem.Calls
variable {A : Around} {s : Shared}
theorem int_ne_declines_dict (b : Int) (u : Tok) (l : Addr) (c : Value) (es : Array DictEntry) (n : Nat) (dd : Option Addr) (sl : Array (Option Value)) :
    Meets (Builtin.«int.__ne__» ⟨[.int b u, .ref l], []⟩) (fun _ R s => s.heap.get? l = some { cls := c, dict := dd, data := .dict es n, slots := sl } ∧ R (.ok (.ret .notImplemented)) s) :=
  .of_wp fun prog w A R s h => by obtain ⟨hp, g, d, tk, os⟩ := s; obtain ⟨hl, h⟩ := h; wp_walk using wpAny_loadPart' hl, wpAny_load hl; exact ⟨_, rfl, h⟩
theorem dict_ne_int {prog : Program} {w : World} {E : Value → Shared → Prop} {Q : Value → Shared → Prop} {K : Type} [DecidableEq K] {knd : KeyKind prog w K} {l : Addr} {kvs : List (K × Value)} (b : Int) (u : Tok) (da : s.heap.DictOf knd l kvs) (hu : A.units < cLine) (h : Q (.bool true) s) : wpAny (model prog w) A (compareOp .NotEq (.ref l) (.int b u)) Q E s := by
  obtain ⟨o, es, ep, ho, hc, hdat, _, _, _⟩ := id da
  obtain ⟨cls, dd, data, sl⟩ := o
  obtain ⟨hc1, hc2, hc3⟩ := hc
  simp only at hc1 hc2 hc3 hdat
  subst hc1 hdat
  refine rc_ne_decline_or (k := false) da.typeIs (typeIs_int s b u) (by decide) PySem.F.sub_int_dict PySem.F.slot_dict_ne PySem.F.slot_int_ne_refl
    (fun _ hq => ?_)
    (fun _ hq => call_meets PySem.F.slot_int_ne_refl (typeIs_int s b u) PySem.F.entry_int_ne (PySem.F.args_int_ne_2 _ _) (int_ne_declines_dict b u l (.type "dict") es ep dd sl) ⟨ho, hq⟩)
    (fun _ hq => wpAny_of_eq (rfl : isSame (.ref l) (.int b u) = pure false) hq) (.inr hu) h
  refine wpAny_call_entry PySem.F.slot_dict_ne da.typeIs PySem.F.entry_dict_ne ?_ (PySem.F.args_dict_ne_2 _ _)
  show wpAny _ _ (Builtin.Dict.dictSlotArgs "__ne__" ⟨[.ref l, .int b u], []⟩ >>= _) _ _ s
  refine wpAny_bind ?_
  unfold Builtin.Dict.dictSlotArgs
  refine wpAny_bind (wpAny_notOrdered_dict da.typeIs ?_)
  show wpAny _ _ (pure (Value.ref l, Value.int b u)) _ _ s
  refine wpAny_pure ?_
  refine wpAny_bind (wpAny_isInstance (T := "int") (typeIs_int s b u) PySem.F.sub_int_dict ?_)
  simp only [Bool.not_false, if_true]
  exact wpAny_bind (wpAny_rule (wpAny_pure ⟨_, rfl, hq⟩))
end
section
variable {X : Cx} {c : CC}
theorem law_or {r r' : R2} {g : D → D → Option D} (h : ∀ F H x y a b d Q, Bs c F H → Rep c F a x → Rep c F b y → g a b = some d → Goes c F H Q d → r x y H Q ∨ r' x y H Q) : RLaw c (fun x y H Q => r x y H Q ∨ r' x y H Q) g := h
theorem l_int {p : Int → Int → V} {g : D → D → Option D} {q : Int → Int → D} (hg : ∀ a b d, g a b = some d → ∃ i j, a = .int i ∧ b = .int j ∧ d = q i j) (hv : ∀ i j F, Rep c F (q i j) (p i j)) : RLaw c (rI0 p) g := fun F H x y a b d Q B rx ry e go => by
  obtain ⟨i, j, rfl, rfl, rfl⟩ := hg a b d e
  exact ⟨i, j, rx, ry, go.at B (hv i j F)⟩
theorem L_sub : RLaw c (rI0 fun i j => .int (i - j)) dSub := l_int (q := fun i j => .int (i - j)) (fun a b d e => by
  unfold dSub at e; split at e
  · cases e; exact ⟨_, _, rfl, rfl, rfl⟩
  · cases e) fun _ _ _ => rfl
theorem L_cmpI {p : Int → Int → Bool} : RLaw c (rI0 fun i j => .bl (p i j)) (dI p) := l_int (q := fun i j => .bl (p i j)) (fun a b d e => by
  unfold dI at e; split at e
  · cases e; exact ⟨_, _, rfl, rfl, rfl⟩
  · cases e) fun _ _ _ => rfl
theorem L_lt : RLaw c (rI0 fun i j => .bl (decide (i < j))) dLt := L_cmpI
theorem L_le : RLaw c (rI0 fun i j => .bl (decide (i ≤ j))) dLe := L_cmpI
theorem L_gt : RLaw c (rI0 fun i j => .bl (decide (j < i))) dGt := L_cmpI
theorem L_ge : RLaw c (rI0 fun i j => .bl (decide (j ≤ i))) dGe := L_cmpI
theorem L_band : RLaw c (rI0 fun i j => .int (Builtin.bitAnd i j)) dBand := l_int (q := fun i j => .int (Builtin.bitAnd i j)) (fun a b d e => by
  unfold dBand at e; split at e
  · cases e; exact ⟨_, _, rfl, rfl, rfl⟩
  · cases e) fun _ _ _ => rfl
theorem l_intC {C : Int → Int → Prop} {p : Int → Int → V} {g : D → D → Option D} {q : Int → Int → D} (hg : ∀ a b d, g a b = some d → ∃ i j, a = .int i ∧ b = .int j ∧ C i j ∧ d = q i j) (hv : ∀ i j F, Rep c F (q i j) (p i j)) : RLaw c (rI C p) g := fun F H x y a b d Q B rx ry e go => by
  obtain ⟨i, j, rfl, rfl, h, rfl⟩ := hg a b d e
  exact ⟨i, j, rx, ry, h, go.at B (hv i j F)⟩
theorem L_div : RLaw c (rI CDivW fun i j => .int (i / j)) dDiv := l_intC (q := fun i j => .int (i / j)) (fun a b d e => by
  unfold dDiv at e; split at e
  · split at e
    · cases e; exact ⟨_, _, rfl, rfl, by assumption, rfl⟩
    · cases e
  · cases e) fun _ _ _ => rfl
theorem L_mod : RLaw c (rI (fun _ j => 0 < j) fun i j => .int (i % j)) dMod := l_intC (q := fun i j => .int (i % j)) (fun a b d e => by
  unfold dMod at e; split at e
  · split at e
    · cases e; exact ⟨_, _, rfl, rfl, by assumption, rfl⟩
    · cases e
  · cases e) fun _ _ _ => rfl
theorem L_pow : RLaw c (rI CPow fun i j => .int (i ^ j.toNat)) dPow := l_intC (q := fun i j => .int (i ^ j.toNat)) (fun a b d e => by
  unfold dPow at e; split at e
  · split at e
    · cases e; exact ⟨_, _, rfl, rfl, by assumption, rfl⟩
    · cases e
  · cases e) fun _ _ _ => rfl
def rMulA : R2 := fun x y H Q => (rI CMul (fun i j => .int (i * j)) x y H Q ∨ rI CMulW (fun i j => .int (i * j)) x y H Q) ∨ rRep x y H Q
theorem O_mul : OpR X (binaryOp .Mult) rMulA := (op_mul.or op_mulW).or op_rep
theorem reps_rep {F : Hp} {ds : List D} {vs : List V} (h : Reps c F ds vs) : ∀ n, Reps c F (List.replicate n ds).flatten (List.replicate n vs).flatten
  | 0 => rfl
  | n + 1 => by
    rw [List.replicate_succ, List.replicate_succ, List.flatten_cons, List.flatten_cons]
    exact h.append (reps_rep h n)
theorem L_mul : RLaw c rMulA dMul := fun F H x y a b d Q B rx ry e go => by
  unfold dMul at e
  split at e
  · split at e
    · rename_i h
      cases e
      rcases h with h | h
      · exact .inl (.inl ⟨_, _, rx, ry, h, go.at B rfl⟩)
      · exact .inl (.inr ⟨_, _, rx, ry, h, go.at B rfl⟩)
    · cases e
  · split at e
    · rename_i h
      cases e
      obtain ⟨l, vs, rfl, h1, h2⟩ := rx
      have hl := h2.length
      obtain ⟨z1, z2, z3⟩ := h
      refine .inr ⟨l, _, vs, rfl, ry, B.fh _ _ h1, by omega, by omega, ?_, fun p hp => ?_⟩
      · rw [sizeLine_eq]
        exact Nat.le_trans (Nat.mul_le_mul (show vs.length ≤ 1000 by omega) (Int.toNat_le.mpr (by omega) : _ ≤ 1000)) (by decide)
      · exact go.new B hp (fun ps z => nomatch z) ⟨p, _, rfl, upd_same, (reps_rep h2 _).mono (ex_new (B.fnone hp)).r⟩
    · cases e
  · cases e
def rAddA (K : PySem.W.Frag) : R2 := fun x y H Q => ((rI0 (fun i j => .int (i + j)) x y H Q ∨ (∃ i j, x = .str i ∧ y = .str j ∧ i.length + j.length ≤ sizeLine ∧ Q (.str (i ++ j)) H)) ∨ rCatT K x y H Q) ∨ rCat x y H Q
theorem O_add (hK : X.K = c.K) : OpR X (binaryOp .Add) (rAddA c.K) := by
  rw [← hK]
  exact ((op_add.or op_add_str).or op_catT).or op_cat
theorem L_add : RLaw c (rAddA c.K) dAdd := fun F H x y a b d Q B rx ry e go => by
  unfold dAdd at e
  split at e
  · cases e
    exact .inl (.inl (.inl ⟨_, _, rx, ry, go.at B rfl⟩))
  · split at e
    · rename_i h
      cases e
      exact .inl (.inl (.inr ⟨_, _, rx, ry, by rw [sizeLine_eq]; omega, go.at B rfl⟩))
    · cases e
  · split at e
    · rename_i h
      cases e
      obtain ⟨l, vs, rfl, h1, h2⟩ := rx
      obtain ⟨l', vs', rfl, h1', h2'⟩ := ry
      have hl := h2.length
      have hl' := h2'.length
      obtain ⟨z1, z2, z3⟩ := h
      have n1 : vs ≠ [] := fun z => by rw [z] at hl; exact z1 (List.eq_nil_of_length_eq_zero hl)
      have n2 : vs' ≠ [] := fun z => by rw [z] at hl'; exact z2 (List.eq_nil_of_length_eq_zero hl')
      refine .inl (.inr ⟨l, l', vs, vs', rfl, rfl, B.fh.r.sqT h1, B.fh.r.sqT h1', n1, by rw [sizeLine_eq]; omega, fun z => (n2 z).elim, fun _ p hp => ?_⟩)
      exact go.new B hp (fun ps z => nomatch z) ⟨p, _, rfl, SqT.of upd_same, (h2.append h2').mono (ex_new (B.fnone hp)).r⟩
    · cases e
  · split at e
    · rename_i h
      cases e
      obtain ⟨l, vs, rfl, h1, h2⟩ := rx
      obtain ⟨l', vs', rfl, h1', h2'⟩ := ry
      have hl := h2.length
      have hl' := h2'.length
      refine .inr ⟨l, l', vs, vs', rfl, rfl, B.fh _ _ h1, B.fh _ _ h1', by rw [sizeLine_eq]; omega, fun p hp => ?_⟩
      exact go.new B hp (fun ps z => nomatch z) ⟨p, _, rfl, upd_same, (h2.append h2').mono (ex_new (B.fnone hp)).r⟩
    · cases e
  · cases e
/-! comparisons -/
theorem Rep.isNon {F : Hp} {a : D} {x : V} (r : Rep c F a x) : decide (x = .non) = isNon a := by
  cases a with
  | non => cases r; rfl
  | bl _ => cases r; rfl
  | int _ => cases r; rfl
  | str _ => cases r; rfl
  | tup _ => obtain ⟨a, vs, rfl, _⟩ := r; rfl
  | lst _ => obtain ⟨a, vs, rfl, _⟩ := r; rfl
  | dic _ _ => obtain ⟨a, vs, rfl, _⟩ := r; rfl
  | exn _ _ => obtain ⟨a, C, dx, rfl, _⟩ := r; rfl
  | op v => cases r; rfl
  | scr _ => obtain ⟨a, rfl, _⟩ := r; rfl
theorem L_isN : RLaw c (fun x y H Q => y = .non ∧ Q (.bl (decide (x = .non))) H) dIsN := fun F H x y a b d Q B rx ry e go => by
  unfold dIsN at e
  split at e
  · cases e
    exact ⟨ry, by rw [rx.isNon]; exact go.at B rfl⟩
  · cases e
theorem L_notN : RLaw c (fun x y H Q => y = .non ∧ Q (.bl (!decide (x = .non))) H) dNotN := fun F H x y a b d Q B rx ry e go => by
  unfold dNotN at e
  split at e
  · cases e
    exact ⟨ry, by rw [rx.isNon]; exact go.at B rfl⟩
  · cases e
/-! deep == -/
theorem py_shaped_all : (∀ d : D, d.lay = true → d.py.canLay0 = true ∧ d.py.depth = d.dep) := by
  have key : ∀ n, (∀ d : D, sizeOf d < n → d.lay = true → d.py.canLay0 = true ∧ d.py.depth = d.dep) ∧ ∀ ds : List D, sizeOf ds < n → lays ds = true → PyData.canLayAll0 (pys ds) = true ∧ PyData.depthAll (pys ds) = deps ds := by
    intro n
    induction n with
    | zero => exact ⟨fun d h => absurd h (Nat.not_lt_zero _), fun d h => absurd h (Nat.not_lt_zero _)⟩
    | succ n ih =>
      refine ⟨fun d hd hl => ?_, fun ds hd hl => ?_⟩
      · cases d with
        | non => exact ⟨by simp [D.py, PyData.canLay0], by simp [D.py, PyData.depth, D.dep]⟩
        | bl _ => exact ⟨by simp [D.py, PyData.canLay0], by simp [D.py, PyData.depth, D.dep]⟩
        | int _ => exact ⟨by simp [D.py, PyData.canLay0], by simp [D.py, PyData.depth, D.dep]⟩
        | str x => exact ⟨by simpa [D.py, PyData.canLay0, D.lay] using hl, by simp [D.py, PyData.depth, D.dep]⟩
        | tup ds =>
          have h := ih.2 ds (by simp at hd; omega) (by simpa [D.lay] using hl)
          exact ⟨by simpa [D.py, PyData.canLay0] using h.1, by simp [D.py, PyData.depth, D.dep, h.2]⟩
        | lst ds =>
          have h := ih.2 ds (by simp at hd; omega) (by simpa [D.lay] using hl)
          exact ⟨by simpa [D.py, PyData.canLay0] using h.1, by simp [D.py, PyData.depth, D.dep, h.2]⟩
        | dic _ _ => simp [D.lay] at hl
        | exn _ _ => simp [D.lay] at hl
        | op _ => simp [D.lay] at hl
        | scr _ => simp [D.lay] at hl
      · cases ds with
        | nil => exact ⟨by simp [pys, PyData.canLayAll0], by simp [pys, PyData.depthAll, deps]⟩
        | cons d ds =>
          simp [lays] at hl
          have h1 := ih.1 d (by simp at hd; omega) hl.1
          have h2 := ih.2 ds (by simp at hd; omega) hl.2
          exact ⟨by simp [pys, PyData.canLayAll0, h1.1, h2.1], by simp [pys, PyData.depthAll, deps, h1.2, h2.2]⟩
  intro d hl
  exact (key (sizeOf d + 1)).1 d (Nat.lt_succ_self _) hl
theorem shaped_of {d : D} (h : d.lay = true) (k : d.dep ≤ 60) : SeqAt.shaped d.py = true := by
  obtain ⟨h1, h2⟩ := py_shaped_all d h
  unfold SeqAt.shaped
  rw [h1, h2]
  simp
  omega
mutual
theorem rep_dp {F : Hp} : ∀ (d : D) (v : V), d.lay = true → Rep c F d v → Dp c.K F v d.py
  | .non, _, _, h => by rw [show _ = _ from h]; exact .non
  | .bl _, _, _, h => by rw [show _ = _ from h]; exact .bl _
  | .int _, _, _, h => by rw [show _ = _ from h]; exact .int _
  | .str _, _, _, h => by rw [show _ = _ from h]; exact .str _
  | .tup ds, _, l, ⟨a, vs, e, h1, h2⟩ => by rw [e]; exact .tup h1 (reps_dp ds vs (by simpa [D.lay] using l) h2)
  | .lst ds, _, l, ⟨a, vs, e, h1, h2⟩ => by rw [e]; exact .lst (SqL.of h1) (reps_dp ds vs (by simpa [D.lay] using l) h2)
  | .dic _ _, _, l, _ => by simp [D.lay] at l
  | .exn _ _, _, l, _ => by simp [D.lay] at l
  | .op _, _, l, _ => by simp [D.lay] at l
  | .scr _, _, l, _ => by simp [D.lay] at l
theorem reps_dp {F : Hp} : ∀ (ds : List D) (vs : List V), lays ds = true → Reps c F ds vs → DpAll c.K F vs (pys ds)
  | [], _, _, h => by rw [show _ = _ from h]; exact .nil
  | d :: ds, _, l, ⟨v, r, e, h1, h2⟩ => by
    simp [lays] at l
    rw [e]
    exact .cons (rep_dp d v l.1 h1) (reps_dp ds r l.2 h2)
end
theorem eqv_py_all : ∀ n, (∀ a b : D, sizeOf a < n → a.lay = true → b.lay = true → PyData.eqv a.py b.py = a.eqv b) ∧ ∀ a b : List D, sizeOf a < n → lays a = true → lays b = true → PyData.eqvAll (pys a) (pys b) = eqvs a b := by
  intro n
  induction n with
  | zero => exact ⟨fun d _ h => absurd h (Nat.not_lt_zero _), fun d _ h => absurd h (Nat.not_lt_zero _)⟩
  | succ n ih =>
    refine ⟨fun a b hd la lb => ?_, fun a b hd la lb => ?_⟩
    · cases a with
      | tup xs =>
        cases b with
        | tup ys => simp only [D.py, PyData.eqv, D.eqv]; exact ih.2 xs ys (by simp at hd; omega) (by simpa [D.lay] using la) (by simpa [D.lay] using lb)
        | _ => first | (simp [D.lay] at lb; done) | simp [D.py, PyData.eqv, D.eqv]
      | lst xs =>
        cases b with
        | lst ys => simp only [D.py, PyData.eqv, D.eqv]; exact ih.2 xs ys (by simp at hd; omega) (by simpa [D.lay] using la) (by simpa [D.lay] using lb)
        | _ => first | (simp [D.lay] at lb; done) | simp [D.py, PyData.eqv, D.eqv]
      | dic _ _ => simp [D.lay] at la
      | exn _ _ => simp [D.lay] at la
      | op _ => simp [D.lay] at la
      | scr _ => simp [D.lay] at la
      | _ => cases b <;> first | (simp [D.lay] at lb; done) | simp [D.py, PyData.eqv, D.eqv]
    · cases a with
      | nil => cases b <;> simp [pys, PyData.eqvAll, eqvs]
      | cons x xs =>
        cases b with
        | nil => simp [pys, PyData.eqvAll, eqvs]
        | cons y ys =>
          simp [lays] at la lb
          simp only [pys, PyData.eqvAll, eqvs]
          rw [ih.1 x y (by simp at hd; omega) la.1 lb.1, ih.2 xs ys (by simp at hd; omega) la.2 lb.2]
theorem eqv_py {a b : D} (la : a.lay = true) (lb : b.lay = true) : PyData.eqv a.py b.py = a.eqv b := (eqv_py_all (sizeOf a + 1)).1 a b (Nat.lt_succ_self _) la lb
theorem O_eq (hK : X.K = c.K) (hr : Room k X.A) : OpR X (compareOp .Eq) (rEqD c.K) := by rw [← hK]; exact op_eqD hr.units
def rNeDI : R2 := fun x y H Q => ∃ (a : Addr) (kvs : List (Key × V)) (j : Int), x = .ref a ∧ y = .int j ∧ Rd H a (.dK kvs) ∧ Q (.bl true) H
def rNeA (K : PySem.W.Frag) : R2 := fun x y H Q => rNeD K x y H Q ∨ rNeDI x y H Q
theorem O_ne (hK : X.K = c.K) (hr : Room k X.A) : OpR X (compareOp .NotEq) (rNeA c.K) := by
  rw [← hK]
  intro pins s σ H x y v u Q I rx ry h
  rcases h with h | ⟨a, kvs, j, rfl, rfl, e, q⟩
  · exact op_neD hr.units pins s σ H x y v u Q I rx ry h
  · obtain rfl : v = Value.ref a := rx
    obtain ⟨t, rfl⟩ := ry
    obtain ⟨_, _, vs, _, da⟩ := dk_rd I.hok e
    have hu := hr.units
    exact dict_ne_int j t da (by omega) ⟨.bl true, H, I, rfl, q⟩
theorem L_eq : RLaw c (rEqD c.K) dEq := fun F H x y a b d Q B rx ry e go => by
  unfold dEq at e
  split at e
  · rename_i h
    cases e
    obtain ⟨l1, l2, k1, k2⟩ := h
    exact ⟨a.py, b.py, rep_dp a x l1 (B.rep rx), rep_dp b y l2 (B.rep ry), shaped_of l1 k1, shaped_of l2 k2, by rw [eqv_py l1 l2]; exact go.at B rfl⟩
  · cases e
theorem L_ne : RLaw c (rNeA c.K) dNe := fun F H x y a b d Q B rx ry e go => by
  unfold dNe at e
  split at e
  · rename_i h
    cases e
    obtain ⟨l1, l2, k1, k2⟩ := h
    exact .inl ⟨a.py, b.py, rep_dp a x l1 (B.rep rx), rep_dp b y l2 (B.rep ry), shaped_of l1 k1, shaped_of l2 k2, by rw [eqv_py l1 l2]; exact go.at B rfl⟩
  · unfold neDI at e
    split at e
    · cases e
      obtain ⟨p, kvs, rfl, h1, _⟩ := B.rep rx
      exact .inr ⟨p, kvs, _, rfl, ry, h1, go.at B rfl⟩
    · cases e
end
end BD
namespace BD
open PySem PySem.Spec PyProof.Rows L2 LamX
section
variable {X : Cx} {c : CC}
/-! in -/
theorem flat_rep {F : Hp} {a : D} {x : V} (h : flatD a = true) (r : Rep c F a x) : flatV x = true ∧ ∀ b y, flatD b = true → Rep c F b y → eqV y x = eqF b a := by
  cases a with
  | non => cases r; exact ⟨rfl, fun b y hb rb => by cases b <;> first | (cases rb; rfl) | (cases hb)⟩
  | bl _ => cases r; exact ⟨rfl, fun b y hb rb => by cases b <;> first | (cases rb; rfl) | (cases hb)⟩
  | int _ => cases r; exact ⟨rfl, fun b y hb rb => by cases b <;> first | (cases rb; rfl) | (cases hb)⟩
  | str _ => cases r; exact ⟨rfl, fun b y hb rb => by cases b <;> first | (cases rb; rfl) | (cases hb)⟩
  | _ => cases h
theorem inF_rep {F : Hp} {a : D} {x : V} {b : Bool} (r : Rep c F a x) : ∀ {ds : List D} {vs : List V}, Reps c F ds vs → inF a ds = some b → flatV x = true ∧ vs.all flatV = true ∧ inV x vs = b := by
  intro ds vs h e
  unfold inF at e
  split at e
  · rename_i hh
    obtain ⟨h1, h2⟩ := hh
    obtain ⟨f1, f2⟩ := flat_rep h1 r
    cases e
    refine ⟨f1, ?_⟩
    unfold inV
    clear f1
    induction ds generalizing vs with
    | nil => cases (show vs = [] from h); exact ⟨rfl, rfl⟩
    | cons d ds ih =>
      obtain ⟨v, rr, e1, e2, e3⟩ := h
      subst e1
      simp only [List.all_cons, Bool.and_eq_true] at h2
      obtain ⟨k1, k2⟩ := ih e3 h2.2
      simp only [List.all_cons, List.any_cons, Bool.and_eq_true]
      exact ⟨⟨(flat_rep h2.1 e2).1, k1⟩, by rw [f2 d v h2.1 e2, k2]⟩
  · cases e
def rInA (K : PySem.W.Frag) (neg : Bool) : R2 := fun x y H Q => (rIn K neg x y H Q ∨ ∃ (n : Nat) (z : Str), x = .str ⟨#[n]⟩ ∧ y = .str z ∧ Q (.bl (if neg then !decide (n ∈ z.cps.toList) else decide (n ∈ z.cps.toList))) H) ∨
  ∃ a o, y = .ref a ∧ DGet H a x o ∧ Q (.bl (if neg then !o.isSome else o.isSome)) H
theorem O_in (hK : X.K = c.K) (hr : Room k X.A) : OpR X (compareOp .In) (rInA c.K false) := by
  rw [← hK]
  refine (op_in_seq.or op_in_sign).or ?_
  intro pins s σ H x y v u Q I rx ry h
  obtain ⟨a, o, rfl, g, q⟩ := h
  cases ry
  exact d_in (hu_of hr) I g rx fun s' I' => ⟨.bl o.isSome, H, I', rfl, q⟩
theorem O_notIn (hK : X.K = c.K) (hr : Room k X.A) : OpR X (compareOp .NotIn) (rInA c.K true) := by
  rw [← hK]
  refine (op_notIn_seq.or op_notIn_sign).or ?_
  intro pins s σ H x y v u Q I rx ry h
  obtain ⟨a, o, rfl, g, q⟩ := h
  cases ry
  exact d_notIn (hu_of hr) I g rx fun s' I' => ⟨.bl (!o.isSome), H, I', rfl, q⟩
theorem valV_keys : ∀ {kvs : List (Key × V)} {ks : List Str} {x : Str}, kvs.map (·.1) = ks.map Sum.inr → (valV kvs (Sum.inr x)).isSome = decide (x ∈ ks) := by
  intro kvs
  induction kvs with
  | nil => intro ks x h; cases ks with
    | nil => rfl
    | cons _ _ => cases h
  | cons p r ih =>
    intro ks x h
    cases ks with
    | nil => cases h
    | cons q ks =>
      simp only [List.map_cons, List.cons.injEq] at h
      obtain ⟨h1, h2⟩ := h
      obtain ⟨pk, pv⟩ := p
      have h1 : pk = Sum.inr q := h1
      subst h1
      have h3 := ih (x := x) h2
      unfold valV at h3 ⊢
      by_cases e : x = q
      · subst e
        simp
      · have e2 : ¬ (Sum.inr q : Key) = Sum.inr x := fun z => e (Sum.inr.inj z).symm
        simp [e, e2] at h3 ⊢
        first | exact h3 | simpa using h3
theorem inD_law {neg : Bool} {F H : Hp} {x y : V} {a b d : D} {k : Bool} {Q : VK} (B : Bs c F H) (rx : Rep c F a x) (ry : Rep c F b y) (e : inD a b = some k) (go : Q (.bl (if neg then !k else k)) H) : rInA c.K neg x y H Q := by
  unfold inD at e
  split at e
  · obtain ⟨l, vs, rfl, h1, h2⟩ := ry
    obtain ⟨z1, z2, z3⟩ := inF_rep rx h2 e
    exact .inl (.inl ⟨l, vs, rfl, .inl (SqL.of (B.fh _ _ h1)), z1, z2, by rw [z3]; exact go⟩)
  · obtain ⟨l, vs, rfl, h1, h2⟩ := ry
    obtain ⟨z1, z2, z3⟩ := inF_rep rx h2 e
    exact .inl (.inl ⟨l, vs, rfl, .inr (B.fh.r.sqT h1), z1, z2, by rw [z3]; exact go⟩)
  · split at e
    · cases e
      cases rx
      obtain ⟨l, kvs, rfl, h1, h2, h3⟩ := ry
      refine .inr ⟨l, valV kvs (Sum.inr _), rfl, .inl ⟨kvs, Sum.inr _, B.fh.r.rd _ _ h1, rfl, rfl⟩, ?_⟩
      rw [valV_keys h2]
      exact go
    · cases e
  · split at e
    · split at e
      · rename_i x' _ n hsz
        cases e
        cases rx
        cases ry
        obtain ⟨⟨l⟩⟩ := x'
        have hl : l = [n] := hsz
        subst hl
        exact .inl (.inr ⟨n, _, rfl, rfl, go⟩)
      · cases e
    · cases e
  · cases e
theorem L_in : RLaw c (rInA c.K false) dIn := fun F H x y a b d Q B rx ry e go => by
  unfold dIn at e
  obtain ⟨k, e1, e2⟩ := Option.map_eq_some_iff.mp e
  subst e2
  exact inD_law (d := .bl k) B rx ry e1 (go.at B rfl)
theorem L_notIn : RLaw c (rInA c.K true) dNotIn := fun F H x y a b d Q B rx ry e go => by
  unfold dNotIn at e
  obtain ⟨k, e1, e2⟩ := Option.map_eq_some_iff.mp e
  subst e2
  exact inD_law (d := .bl k) B rx ry e1 (go.at B rfl)
/-! subscripts -/
theorem O_ix (hK : X.K = c.K) : IxR X (rIx c.K) := by rw [← hK]; exact ix_seq
theorem reps_at {F : Hp} {ds : List D} {vs : List V} {i : Int} {d : D} (h : Reps c F ds vs) (e : atI ds i = some d) : ∃ v, atI vs i = some v ∧ Rep c F d v := by
  unfold atI at e ⊢
  rw [← h.length]
  cases q : ixN ds.length i with
  | none => rw [q] at e; cases e
  | some j =>
    rw [q] at e
    exact h.get (show ds[j]? = some d from e)
theorem L_ix : RLaw c (rIx c.K) dIx := fun F H x y a b d Q B rx ry e go => by
  unfold dIx at e
  split at e
  · obtain ⟨l, vs, rfl, h1, h2⟩ := rx
    obtain ⟨v, z1, z2⟩ := reps_at h2 e
    exact .inr (.inl ⟨l, vs, _, v, rfl, ry, B.fh.r.sqT h1, z1, go.at B z2⟩)
  · obtain ⟨l, vs, rfl, h1, h2⟩ := rx
    obtain ⟨v, z1, z2⟩ := reps_at h2 e
    exact .inl ⟨l, vs, _, v, rfl, ry, SqL.of (B.fh _ _ h1), z1, go.at B z2⟩
  · obtain ⟨l, rfl, h1⟩ := rx
    obtain ⟨n, e1, e2⟩ := Option.map_eq_some_iff.mp e
    subst e2
    refine .inl ⟨l, _, _, .int n, rfl, ry, B.fh.r.sqL h1, ?_, go.at B rfl⟩
    unfold atI at e1 ⊢
    rw [List.length_map]
    cases q : ixN _ _ with
    | none => rw [q] at e1; cases e1
    | some j =>
      rw [q] at e1
      show (List.map V.int _)[j]? = _
      rw [List.getElem?_map, show _[j]? = some n from e1] <;> rfl
  · split at e
    · obtain ⟨n, e1, e2⟩ := Option.map_eq_some_iff.mp e
      subst e2
      cases rx
      exact .inr (.inr ⟨_, _, n, rfl, ry, by rw [sizeLine_eq]; omega, e1, go.at B rfl⟩)
    · cases e
  · cases e
theorem d_ix {W : WW} {a b : Expr} {f h : Rho → Out D} {pos : Pos} (hK : X.K = c.K) (ha : PE X a (tD c W f)) (hb : PE X b (tD c W h)) (hs : PlainIx b := by exact fun _ _ => rfl) : PE X (.Subscript a b pos) (tD c W (eOp dIx f h)) :=
  PE.imp (pe_ix (O_ix hK) ha hb hs) fun _ _ _ q => tOp_of L_ix q
end
end BD
set_option Elab.async false
set_option maxRecDepth 100000
set_option maxHeartbeats 4000000
/-! The layer BD: arguments, displays, slices, calls. -/
namespace BD
open PySem PySem.Spec PyProof.Rows L2 LamX

def eTup (a : Rho → Out (List D)) : Rho → Out D := fun ρ => (a ρ).bind fun ds => if ds.length ≤ 1000 then .ok (.tup ds) else .bad
def eLst (a : Rho → Out (List D)) : Rho → Out D := fun ρ => (a ρ).bind fun ds => if ds.length ≤ 1000 then .ok (.lst ds) else .bad
/-- a def's call -/
def eCall (f : List D → Out D) (a : Rho → Out (List D)) : Rho → Out D := fun ρ => (a ρ).bind f
def ap0 (f : Out D) : List D → Out D
  | [] => f
  | _ => .bad
def ap1 (f : D → Out D) : List D → Out D
  | [a] => f a
  | _ => .bad
def ap2 (f : D → D → Out D) : List D → Out D
  | [a, b] => f a b
  | _ => .bad
def ap3 (f : D → D → D → Out D) : List D → Out D
  | [a, b, d] => f a b d
  | _ => .bad
def ap4 (f : D → D → D → D → Out D) : List D → Out D
  | [a, b, d, e] => f a b d e
  | _ => .bad
def ap5 (f : D → D → D → D → D → Out D) : List D → Out D
  | [a, b, d, e, g] => f a b d e g
  | _ => .bad
def ap6 (f : D → D → D → D → D → D → Out D) : List D → Out D
  | [a, b, d, e, g, h] => f a b d e g h
  | _ => .bad
@[simp] theorem ap0_eq (f : Out D) : ap0 f [] = f := rfl
@[simp] theorem ap1_eq (f : D → Out D) (a : D) : ap1 f [a] = f a := rfl
@[simp] theorem ap2_eq (f : D → D → Out D) (a b : D) : ap2 f [a, b] = f a b := rfl
@[simp] theorem ap3_eq (f : D → D → D → Out D) (a b d : D) : ap3 f [a, b, d] = f a b d := rfl
@[simp] theorem ap4_eq (f : D → D → D → D → Out D) (a b d e : D) : ap4 f [a, b, d, e] = f a b d e := rfl
@[simp] theorem ap5_eq (f : D → D → D → D → D → Out D) (a b d e g : D) : ap5 f [a, b, d, e, g] = f a b d e g := rfl
@[simp] theorem ap6_eq (f : D → D → D → D → D → D → Out D) (a b d e g h : D) : ap6 f [a, b, d, e, g, h] = f a b d e g h := rfl
/-- a promise takes so many arguments -/
def Ar (n : Nat) (f : List D → Out D) : Prop := ∀ ds, f ds ≠ .bad → ds.length = n
theorem ar0 {f} : Ar 0 (ap0 f) := fun ds h => match ds, h with | [], _ => rfl | _ :: _, h => (h rfl).elim
theorem ar1 {f} : Ar 1 (ap1 f) := fun ds h => match ds, h with | [], h => (h rfl).elim | [_], _ => rfl | _ :: _ :: _, h => (h rfl).elim
theorem ar2 {f} : Ar 2 (ap2 f) := fun ds h => match ds, h with | [], h => (h rfl).elim | [_], h => (h rfl).elim | [_, _], _ => rfl | _ :: _ :: _ :: _, h => (h rfl).elim
theorem ar3 {f} : Ar 3 (ap3 f) := fun ds h => match ds, h with | [], h => (h rfl).elim | [_], h => (h rfl).elim | [_, _], h => (h rfl).elim | [_, _, _], _ => rfl | _ :: _ :: _ :: _ :: _, h => (h rfl).elim
theorem ar4 {f} : Ar 4 (ap4 f) := fun ds h => match ds, h with | [], h => (h rfl).elim | [_], h => (h rfl).elim | [_, _], h => (h rfl).elim | [_, _, _], h => (h rfl).elim | [_, _, _, _], _ => rfl | _ :: _ :: _ :: _ :: _ :: _, h => (h rfl).elim
theorem ar5 {f} : Ar 5 (ap5 f) := fun ds h => match ds, h with | [], h => (h rfl).elim | [_], h => (h rfl).elim | [_, _], h => (h rfl).elim | [_, _, _], h => (h rfl).elim | [_, _, _, _], h => (h rfl).elim | [_, _, _, _, _], _ => rfl | _ :: _ :: _ :: _ :: _ :: _ :: _, h => (h rfl).elim
theorem ar6 {f} : Ar 6 (ap6 f) := fun ds h => match ds, h with | [], h => (h rfl).elim | [_], h => (h rfl).elim | [_, _], h => (h rfl).elim | [_, _, _], h => (h rfl).elim | [_, _, _, _], h => (h rfl).elim | [_, _, _, _, _], h => (h rfl).elim | [_, _, _, _, _, _], _ => rfl | _ :: _ :: _ :: _ :: _ :: _ :: _ :: _, h => (h rfl).elim

section
variable {X : Cx} {c : CC} {W : WW} {k : Nat} {σ : L2.St} {F H : Hp} {Q : VK} {pos : Pos}
/-! ### arguments, displays -/
theorem a_nil : PA X [] (tA c W aNil) := PA.imp pa_nil fun σ H Q ⟨F, ρ, S, h⟩ => h F H S.bs.refl [] rfl
theorem a_cons {e : Expr} {es : List Expr} {f : Rho → Out D} {g : Rho → Out (List D)} (he : PE X e (tD c W f)) (hr : PA X es (tA c W g)) (hs : starEach (e :: es) X.env = (false, eval e X.env) :: starEach es X.env := by rfl) : PA X (e :: es) (tA c W (aCons f g)) :=
  PA.imp (pa_cons he hr hs) fun σ H Q ⟨F, ρ, S, h⟩ => ⟨F, ρ, S, (OutP.bind h).imp fun d F1 H1 G1 q1 v rv =>
    ⟨F1, ρ, S.grow G1, (OutP.bind q1).imp fun ds F2 H2 G2 q2 vs rs => q2 F2 H2 G2.toBs.refl (v :: vs) ⟨v, vs, rfl, G2.rep rv, rs⟩⟩⟩
theorem d_tup {es : List Expr} {x1} {f : Rho → Out (List D)} (h : PA X es (tA c W f)) : PE X (.Tuple es x1 pos) (tD c W (eTup f)) :=
  PE.imp (pe_tup h) fun σ H Q ⟨F, ρ, S, h⟩ => ⟨F, ρ, S, (OutP.bind h).imp fun ds F1 H1 G1 q vs rv => by
    split at q
    · rename_i hl
      refine ⟨by rw [sizeLine_eq, ← rv.length]; omega, fun p hp => ?_⟩
      exact Goes.new (d := .tup ds) q G1.toBs hp (fun ps z => nomatch z) ⟨p, vs, rfl, SqT.of upd_same, rv.mono (ex_new (G1.toBs.fnone hp)).r⟩
    · exact False.elim q⟩
def GoesO (c : CC) (F H : Hp) (Q : VK) (d : D) : Prop := ∀ F' H', Grow c F H F' H' → ∀ p, F' p = none → Fresh H p → OwnAt c F' H' p d → Q (.ref p) H'
theorem GoesO.new {d : D} {p : Addr} {o : HO} (g : GoesO c F H Q d) (b : Bs c F H) (hp : H p = none) (ho : OwnAt c F (upd H p o) p d) : Q (.ref p) (upd H p o) := g _ _ (b.newO hp) p (b.fnone hp) (.of hp) ho
theorem OutP.goesO {F0 H0 F H : Hp} {o : Option D} (G : Grow c F0 H0 F H) (h : OutP c W.W σ F H (fun d F' H' => ∀ p, F' p = none → Fresh H0 p → OwnAt c F' H' p d → Q (.ref p) H') (ofO o)) : ∃ d, o = some d ∧ GoesO c F H Q d := by
  cases o with
  | none => exact False.elim h
  | some d => exact ⟨d, rfl, fun F' H' g p a b => h F' H' g p a (b.back G.hh)⟩
theorem o_lst {es : List Expr} {f : Rho → Out (List D)} (h : PA X es (tA c W f)) : PE X (.List es pos) (tO c W (eLst f)) :=
  PE.imp (pe_lst h) fun σ H Q ⟨F, ρ, S, h⟩ => ⟨F, ρ, S, (OutP.bind h).imp fun ds F1 H1 G1 q vs rv => by
    split at q
    · rename_i hl
      refine ⟨by rw [sizeLine_eq, ← rv.length]; omega, fun p hp => ?_⟩
      exact q F1 _ (G1.toBs.newO hp) p (G1.toBs.fnone hp) ((Fresh.of hp).back G1.hh) ⟨vs, upd_same, rv⟩
    · exact False.elim q⟩
theorem d_lst {es : List Expr} {f : Rho → Out (List D)} (h : PA X es (tA c W f)) : PE X (.List es pos) (tD c W (eLst f)) := d_own (o_lst h)

/-! ### slices -/
def eSl (g : D → Option Int → Option Int → Option D) (f : Rho → Out D) (lo hi : Rho → Out (Option Int)) : Rho → Out D := fun ρ => (f ρ).bind fun d => (lo ρ).bind fun l => (hi ρ).bind fun h => ofO (g d l h)
def oNo : Rho → Out (Option Int) := fun _ => .ok none
def toI : D → Out (Option Int)
  | .int i => .ok (some i)
  | _ => .bad
@[simp] theorem toI_int (i : Int) : toI (.int i) = .ok (some i) := rfl
def oSo (f : Rho → Out D) : Rho → Out (Option Int) := fun ρ => (f ρ).bind toI
def tOo (c : CC) (W : WW) (f : Rho → Out (Option Int)) : TO := fun σ H Q => ∃ F ρ, StR c W.F0 W.H0 F H σ ρ ∧ OutP c W.W σ F H (fun o _ H' => Q o H') (f ρ)
theorem PO.imp {e : Option Expr} {t t' : TO} (h : PO X e t) (k : ∀ σ H Q, t' σ H Q → t σ H Q) : PO X e t' := ⟨fun pins s σ H Q I q => h.run pins s σ H Q I (k σ H Q q)⟩
theorem o_no : PO X none (tOo c W oNo) := PO.imp po_none fun σ H Q ⟨F, ρ, S, h⟩ => h F H S.bs.refl
theorem o_so {e : Expr} {f : Rho → Out D} (h : PE X e (tD c W f)) : PO X (some e) (tOo c W (oSo f)) := PO.imp (po_some h) fun σ H Q ⟨F, ρ, S, h⟩ => ⟨F, ρ, S, (OutP.bind h).imp fun d F1 H1 G1 q v rv => by
  cases d with
  | int i => exact ⟨i, rv, q F1 H1 G1.toBs.refl⟩
  | _ => exact False.elim q⟩
def cutD (ds : List D) (lo hi : Option Int) : List D := (ds.drop (HT.sIx ds.length 0 lo)).take (HT.sIx ds.length ds.length hi - HT.sIx ds.length 0 lo)
def dSlT : D → Option Int → Option Int → Option D
  | .tup ds, lo, hi => if ¬ (HT.sIx ds.length 0 lo = 0 ∧ HT.sIx ds.length ds.length hi = ds.length) then some (.tup (cutD ds lo hi)) else none
  | _, _, _ => none
def dSlS : D → Option Int → Option Int → Option D
  | .str z, lo, hi => if z.length ≤ 1000000 then some (.str (cutS z lo hi)) else none
  | _, _, _ => none
/-- a list's, the script's -/
def dSlL : D → Option Int → Option Int → Option D
  | .lst ds, lo, hi => some (.lst (cutD ds lo hi))
  | .scr ns, lo, hi => some (.lst (cutD (ns.map D.int) lo hi))
  | _, _, _ => none
theorem reps_cut {ds : List D} {vs : List V} (h : Reps c F ds vs) (lo hi : Option Int) : Reps c F (cutD ds lo hi) (cutV vs lo hi) := by
  unfold cutD cutV
  rw [h.length]
  exact (h.drop _).take _
theorem reps_ints : ∀ (ns : List Int), Reps c F (ns.map D.int) (ns.map V.int)
  | [] => rfl
  | n :: r => ⟨_, _, rfl, rfl, reps_ints r⟩
theorem d_slT {e : Expr} {f : Rho → Out D} {lo hi : Option Expr} {l h : Rho → Out (Option Int)} {p2 : Pos} (hK : X.K = c.K) (he : PE X e (tD c W f)) (hl : PO X lo (tOo c W l)) (hh : PO X hi (tOo c W h)) : PE X (.Subscript e (.Slice lo hi none p2) pos) (tD c W (eSl dSlT f l h)) :=
  PE.imp (pe_slice sl_tup he hl hh) fun σ H Q ⟨F, ρ, S, q⟩ => ⟨F, ρ, S, (OutP.bind q).imp fun d F1 H1 G1 q1 x rx => ⟨F1, ρ, S.grow G1, (OutP.bind q1).imp fun lo F2 H2 G2 q2 =>
    ⟨F2, ρ, (S.grow G1).grow G2, (OutP.bind q2).imp fun hi F3 H3 G3 q3 => by
      obtain ⟨d', e, go⟩ := OutP.goes q3
      unfold dSlT at e
      split at e
      · split at e
        · rename_i hn
          cases e
          obtain ⟨a, vs, rfl, h1, h2⟩ := G3.rep (G2.rep rx)
          refine ⟨a, vs, rfl, by rw [hK]; exact G3.fh.r.sqT h1, by rw [← h2.length]; exact hn, fun p hp => ?_⟩
          exact go.new G3.toBs hp (fun ps z => nomatch z) ⟨p, _, rfl, SqT.of upd_same, (reps_cut h2 _ _).mono (ex_new (G3.toBs.fnone hp)).r⟩
        · cases e
      · cases e⟩⟩⟩
theorem d_slS {e : Expr} {f : Rho → Out D} {lo hi : Option Expr} {l h : Rho → Out (Option Int)} {p2 : Pos} (he : PE X e (tD c W f)) (hl : PO X lo (tOo c W l)) (hh : PO X hi (tOo c W h)) : PE X (.Subscript e (.Slice lo hi none p2) pos) (tD c W (eSl dSlS f l h)) :=
  PE.imp (pe_slice sl_str he hl hh) fun σ H Q ⟨F, ρ, S, q⟩ => ⟨F, ρ, S, (OutP.bind q).imp fun d F1 H1 G1 q1 x rx => ⟨F1, ρ, S.grow G1, (OutP.bind q1).imp fun lo F2 H2 G2 q2 =>
    ⟨F2, ρ, (S.grow G1).grow G2, (OutP.bind q2).imp fun hi F3 H3 G3 q3 => by
      obtain ⟨d', e, go⟩ := OutP.goes q3
      unfold dSlS at e
      split at e
      · split at e
        · cases e
          cases rx
          exact ⟨_, rfl, by rw [sizeLine_eq]; omega, go.at G3.toBs rfl⟩
        · cases e
      · cases e⟩⟩⟩
theorem o_slL {e : Expr} {f : Rho → Out D} {lo hi : Option Expr} {l h : Rho → Out (Option Int)} {p2 : Pos} (hK : X.K = c.K) (he : PE X e (tD c W f)) (hl : PO X lo (tOo c W l)) (hh : PO X hi (tOo c W h)) : PE X (.Subscript e (.Slice lo hi none p2) pos) (tO c W (eSl dSlL f l h)) :=
  PE.imp (pe_slice sl_list he hl hh) fun σ H Q ⟨F, ρ, S, q⟩ => ⟨F, ρ, S, (OutP.bind q).imp fun d F1 H1 G1 q1 x rx => ⟨F1, ρ, S.grow G1, (OutP.bind q1).imp fun lo F2 H2 G2 q2 =>
    ⟨F2, ρ, (S.grow G1).grow G2, (OutP.bind q2).imp fun hi F3 H3 G3 q3 => by
      obtain ⟨d', e, go⟩ := OutP.goesO ((G1.trans G2).trans G3) q3
      unfold dSlL at e
      split at e
      · cases e
        obtain ⟨a, vs, rfl, h1, h2⟩ := G3.rep (G2.rep rx)
        refine ⟨a, vs, rfl, by rw [hK]; exact SqL.of (G3.fh _ _ h1), fun p hp => ?_⟩
        exact go.new G3.toBs hp ⟨_, upd_same, reps_cut h2 _ _⟩
      · cases e
        obtain ⟨a, rfl, h1⟩ := G3.rep (G2.rep rx)
        refine ⟨a, _, rfl, by rw [hK]; exact G3.fh.r.sqL h1, fun p hp => ?_⟩
        exact go.new G3.toBs hp ⟨_, upd_same, reps_cut (reps_ints _) _ _⟩
      · cases e⟩⟩⟩
theorem d_slL {e : Expr} {f : Rho → Out D} {lo hi : Option Expr} {l h : Rho → Out (Option Int)} {p2 : Pos} (hK : X.K = c.K) (he : PE X e (tD c W f)) (hl : PO X lo (tOo c W l)) (hh : PO X hi (tOo c W h)) : PE X (.Subscript e (.Slice lo hi none p2) pos) (tD c W (eSl dSlL f l h)) := d_own (o_slL hK he hl hh)

/-! ### calls of built-ins, by data -/
def NLaw (c : CC) (r : List V → Hp → VK → Prop) (g : List D → Option D) : Prop := ∀ (F H : Hp) (xs : List V) (ds : List D) (d : D) (Q : VK), Bs c F H → Reps c F ds xs → g ds = some d → Goes c F H Q d → r xs H Q
def NLawO (c : CC) (r : List V → Hp → VK → Prop) (g : List D → Option D) : Prop := ∀ (F H : Hp) (xs : List V) (ds : List D) (d : D) (Q : VK), Bs c F H → Reps c F ds xs → g ds = some d → GoesO c F H Q d → r xs H Q
theorem tCB_of {r : List V → Hp → VK → Prop} {g : List D → Option D} (L : NLaw c r g) {f : Rho → Out (List D)} (q : tD c W (eN g f) σ H Q) : tCB r (tA c W f) σ H Q := by
  obtain ⟨F, ρ, S, q⟩ := q
  refine ⟨F, ρ, S, (OutP.bind q).imp fun ds F1 H1 G1 q1 xs rx => ?_⟩
  obtain ⟨d, e, go⟩ := OutP.goes q1
  exact L F1 H1 xs ds d Q G1.toBs rx e go
theorem tCB_ofO {r : List V → Hp → VK → Prop} {g : List D → Option D} (L : NLawO c r g) {f : Rho → Out (List D)} (q : tO c W (eN g f) σ H Q) : tCB r (tA c W f) σ H Q := by
  obtain ⟨F, ρ, S, q⟩ := q
  refine ⟨F, ρ, S, (OutP.bind q).imp fun ds F1 H1 G1 q1 xs rx => ?_⟩
  obtain ⟨d, e, go⟩ := OutP.goesO G1 q1
  exact L F1 H1 xs ds d Q G1.toBs rx e go
section
variable {x : Str} {id T : String} {e : Expr} {es : List Expr} {p : Pos} {r : List V → Hp → VK → Prop} {g : List D → Option D} {f : Rho → Out (List D)}
theorem d_callB (hc : CallR X (.builtin id) r) (L : NLaw c r g) (hm : X.mg x = none) (hv : bootBuiltins x = some (.builtin id)) (ha : PA X (e :: es) (tA c W f)) (hg : Gl X x := by rfl) (hn : x ≠ "__name__" := by decide) (hdb : (x == ("__debug__" : Str)) = false := by decide)
    (he : starEach (e :: es) X.env = (false, eval e X.env) :: starEach es X.env := by rfl) (hpl : (backTo pos (starEach es X.env)).any (·.1) = false := by rfl) : PE X (.Call (.Name x p) (e :: es) [] pos) (tD c W (eN g f)) :=
  PE.imp (pe_callB hc hg hm hv ha hn hdb he hpl) fun _ _ _ q => tCB_of L q
theorem o_callB (hc : CallR X (.builtin id) r) (L : NLawO c r g) (hm : X.mg x = none) (hv : bootBuiltins x = some (.builtin id)) (ha : PA X (e :: es) (tA c W f)) (hg : Gl X x := by rfl) (hn : x ≠ "__name__" := by decide) (hdb : (x == ("__debug__" : Str)) = false := by decide)
    (he : starEach (e :: es) X.env = (false, eval e X.env) :: starEach es X.env := by rfl) (hpl : (backTo pos (starEach es X.env)).any (·.1) = false := by rfl) : PE X (.Call (.Name x p) (e :: es) [] pos) (tO c W (eN g f)) :=
  PE.imp (pe_callB hc hg hm hv ha hn hdb he hpl) fun _ _ _ q => tCB_ofO L q
theorem d_callTy (hc : CallR X (.type T) r) (L : NLaw c r g) (hm : X.mg x = none) (hv : bootBuiltins x = some (.type T)) (ha : PA X (e :: es) (tA c W f)) (hg : Gl X x := by rfl) (hn : x ≠ "__name__" := by decide) (hdb : (x == ("__debug__" : Str)) = false := by decide)
    (he : starEach (e :: es) X.env = (false, eval e X.env) :: starEach es X.env := by rfl) (hpl : (backTo pos (starEach es X.env)).any (·.1) = false := by rfl) : PE X (.Call (.Name x p) (e :: es) [] pos) (tD c W (eN g f)) :=
  PE.imp (pe_callTy hc hg hm hv ha hn hdb he hpl) fun _ _ _ q => tCB_of L q
theorem o_callTy (hc : CallR X (.type T) r) (L : NLawO c r g) (hm : X.mg x = none) (hv : bootBuiltins x = some (.type T)) (ha : PA X (e :: es) (tA c W f)) (hg : Gl X x := by rfl) (hn : x ≠ "__name__" := by decide) (hdb : (x == ("__debug__" : Str)) = false := by decide)
    (he : starEach (e :: es) X.env = (false, eval e X.env) :: starEach es X.env := by rfl) (hpl : (backTo pos (starEach es X.env)).any (·.1) = false := by rfl) : PE X (.Call (.Name x p) (e :: es) [] pos) (tO c W (eN g f)) :=
  PE.imp (pe_callTy hc hg hm hv ha hn hdb he hpl) fun _ _ _ q => tCB_ofO L q
end
def dLen : List D → Option D
  | [.str z] => if z.length ≤ 1000000 then some (.int z.length) else none
  | [.tup ds] => some (.int ds.length)
  | [.lst ds] => some (.int ds.length)
  | [.scr ns] => some (.int ns.length)
  | _ => none
theorem C_len (hK : X.K = c.K) : CallR X (.builtin "len") (fun xs H Q => ∃ x n, xs = [x] ∧ LenV c.K x H n ∧ Q (.int n) H) := by rw [← hK]; exact call_len
theorem L_len : NLaw c (fun xs H Q => ∃ x n, xs = [x] ∧ LenV c.K x H n ∧ Q (.int n) H) dLen := fun F H xs ds d Q B r e go => by
  unfold dLen at e
  split at e
  · obtain ⟨v, rfl, rv⟩ := Reps.of1 r
    split at e
    · cases e
      cases rv
      exact ⟨_, _, rfl, ⟨by rw [sizeLine_eq]; omega, rfl⟩, go.at B rfl⟩
    · cases e
  · obtain ⟨v, rfl, rv⟩ := Reps.of1 r
    cases e
    obtain ⟨a, vs, rfl, h1, h2⟩ := rv
    exact ⟨_, vs.length, rfl, .inr ⟨vs, B.fh.r.sqT h1, rfl⟩, by rw [← h2.length]; exact go.at B rfl⟩
  · obtain ⟨v, rfl, rv⟩ := Reps.of1 r
    cases e
    obtain ⟨a, vs, rfl, h1, h2⟩ := rv
    exact ⟨_, vs.length, rfl, .inl ⟨vs, SqL.of (B.fh _ _ h1), rfl⟩, by rw [← h2.length]; exact go.at B rfl⟩
  · obtain ⟨v, rfl, rv⟩ := Reps.of1 r
    cases e
    obtain ⟨a, rfl, h1⟩ := rv
    exact ⟨_, _, rfl, .inl ⟨_, B.fh.r.sqL h1, rfl⟩, by rw [List.length_map]; exact go.at B rfl⟩
  · cases e
def dAbs : List D → Option D
  | [.int i] => some (.int (if i < 0 then -i else i))
  | _ => none
theorem L_abs : NLaw c (fun xs H Q => ∃ i, xs = [.int i] ∧ Q (.int (if i < 0 then -i else i)) H) dAbs := fun F H xs ds d Q B r e go => by
  unfold dAbs at e
  split at e
  · obtain ⟨v, rfl, rv⟩ := Reps.of1 r
    cases e
    cases rv
    exact ⟨_, rfl, go.at B rfl⟩
  · cases e
def dInt : List D → Option D
  | [.int i] => some (.int i)
  | [.bl b] => some (.int (if b then 1 else 0))
  | _ => none
theorem L_int : NLaw c (fun xs H Q => (∃ i, xs = [.int i] ∧ Q (.int i) H) ∨ ∃ k, xs = [.bl k] ∧ Q (.int (if k then 1 else 0)) H) dInt := fun F H xs ds d Q B r e go => by
  unfold dInt at e
  split at e
  · obtain ⟨v, rfl, rv⟩ := Reps.of1 r
    cases e
    cases rv
    exact .inl ⟨_, rfl, go.at B rfl⟩
  · obtain ⟨v, rfl, rv⟩ := Reps.of1 r
    cases e
    cases rv
    exact .inr ⟨_, rfl, go.at B rfl⟩
  · cases e
def dStrI : List D → Option D
  | [.int i] => if i.natAbs.log2 < 1920 then some (.str (toString i)) else none
  | _ => none
theorem L_strI : NLaw c (fun xs H Q => ∃ i, xs = [.int i] ∧ i.natAbs.log2 < 1920 ∧ Q (.str (toString i)) H) dStrI := fun F H xs ds d Q B r e go => by
  unfold dStrI at e
  split at e
  · obtain ⟨v, rfl, rv⟩ := Reps.of1 r
    split at e
    · cases e
      cases rv
      exact ⟨_, rfl, by assumption, go.at B rfl⟩
    · cases e
  · cases e
def dMax2 : List D → Option D
  | [.int i, .int j] => some (.int (if j > i then j else i))
  | _ => none
theorem L_max2 : NLaw c (fun xs H Q => ∃ i j, xs = [.int i, .int j] ∧ Q (.int (if j > i then j else i)) H) dMax2 := fun F H xs ds d Q B r e go => by
  unfold dMax2 at e
  split at e
  · obtain ⟨v, u, rfl, rv, ru⟩ := Reps.of2 r
    cases e
    cases rv
    cases ru
    exact ⟨_, _, rfl, go.at B rfl⟩
  · cases e
def dMin2 : List D → Option D
  | [.int i, .int j] => some (.int (if j < i then j else i))
  | _ => none
theorem L_min2 : NLaw c (fun xs H Q => ∃ i j, xs = [.int i, .int j] ∧ Q (.int (if j < i then j else i)) H) dMin2 := fun F H xs ds d Q B r e go => by
  unfold dMin2 at e
  split at e
  · obtain ⟨v, u, rfl, rv, ru⟩ := Reps.of2 r
    cases e
    cases rv
    cases ru
    exact ⟨_, _, rfl, go.at B rfl⟩
  · cases e
/-! max, min of a list of ints -/
def intsOf : List D → Option (List Int)
  | [] => some []
  | .int i :: r => (intsOf r).map (i :: ·)
  | _ => none
theorem intsOf_rep : ∀ {ds : List D} {ns : List Int} {vs : List V}, intsOf ds = some ns → Reps c F ds vs → vs = ns.map V.int
  | [], ns, vs, e, h => by cases e; exact h
  | .int i :: r, ns, vs, e, ⟨v, u, e1, e2, e3⟩ => by
    obtain ⟨ms, q1, q2⟩ := Option.map_eq_some_iff.mp e
    subst q2
    rw [e1, intsOf_rep q1 e3, show v = _ from e2]
    rfl
def dMaxL : List D → Option D
  | [.lst ds] => (match intsOf ds with | some (n :: ns) => some (.int (ns.foldl max n)) | _ => none)
  | _ => none
def dMinL : List D → Option D
  | [.lst ds] => (match intsOf ds with | some (n :: ns) => some (.int (ns.foldl min n)) | _ => none)
  | _ => none
theorem foldl_max_spec : ∀ (ns : List Int) (n : Int), (ns.foldl max n = n ∨ ns.foldl max n ∈ ns) ∧ n ≤ ns.foldl max n ∧ ∀ y ∈ ns, y ≤ ns.foldl max n
  | [], n => ⟨.inl rfl, Int.le_refl _, fun _ h => nomatch h⟩
  | m :: r, n => by
    obtain ⟨h1, h2, h3⟩ := foldl_max_spec r (max n m)
    rw [List.foldl_cons]
    refine ⟨?_, by omega, fun y hy => ?_⟩
    · rcases h1 with h1 | h1
      · rw [h1]
        by_cases q : n ≤ m
        · exact .inr (by rw [Int.max_eq_right q]; exact List.mem_cons_self)
        · exact .inl (Int.max_eq_left (by omega))
      · exact .inr (List.mem_cons_of_mem _ h1)
    · rcases List.mem_cons.mp hy with z | z
      · rw [z]; omega
      · exact h3 y z
theorem foldl_min_spec : ∀ (ns : List Int) (n : Int), (ns.foldl min n = n ∨ ns.foldl min n ∈ ns) ∧ ns.foldl min n ≤ n ∧ ∀ y ∈ ns, ns.foldl min n ≤ y
  | [], n => ⟨.inl rfl, Int.le_refl _, fun _ h => nomatch h⟩
  | m :: r, n => by
    obtain ⟨h1, h2, h3⟩ := foldl_min_spec r (min n m)
    rw [List.foldl_cons]
    refine ⟨?_, by omega, fun y hy => ?_⟩
    · rcases h1 with h1 | h1
      · rw [h1]
        by_cases q : n ≤ m
        · exact .inl (Int.min_eq_left q)
        · exact .inr (by rw [Int.min_eq_right (by omega)]; exact List.mem_cons_self)
      · exact .inr (List.mem_cons_of_mem _ h1)
    · rcases List.mem_cons.mp hy with z | z
      · rw [z]; omega
      · exact h3 y z
theorem C_maxL (hK : X.K = c.K) (hc : X.calm = true) : CallR X (.builtin "max") (rMax c.K) := by rw [← hK]; exact cr_max hc
theorem C_minL (hK : X.K = c.K) (hc : X.calm = true) : CallR X (.builtin "min") (rMin c.K) := by rw [← hK]; exact cr_min hc
theorem L_maxL : NLaw c (rMax c.K) dMaxL := fun F H xs ds d Q B r e go => by
  unfold dMaxL at e
  split at e
  · split at e
    · rename_i ds n ns hi
      cases e
      obtain ⟨v, rfl, rv⟩ := Reps.of1 r
      obtain ⟨a, vs, rfl, h1, h2⟩ := rv
      have hv := intsOf_rep hi h2
      subst hv
      refine ⟨a, n :: ns, rfl, SqL.of (B.fh _ _ h1), Nat.succ_pos _, fun m hm hle => ?_⟩
      obtain ⟨k1, k2, k3⟩ := foldl_max_spec ns n
      have : m = ns.foldl max n := by
        have u1 : ns.foldl max n ≤ m := hle _ (by rcases k1 with z | z; rw [z]; exact List.mem_cons_self; exact List.mem_cons_of_mem _ z)
        have u2 : m ≤ ns.foldl max n := by rcases List.mem_cons.mp hm with z | z; rw [z]; exact k2; exact k3 _ z
        omega
      rw [this]
      exact go.at B rfl
    · cases e
  · cases e
theorem L_minL : NLaw c (rMin c.K) dMinL := fun F H xs ds d Q B r e go => by
  unfold dMinL at e
  split at e
  · split at e
    · rename_i ds n ns hi
      cases e
      obtain ⟨v, rfl, rv⟩ := Reps.of1 r
      obtain ⟨a, vs, rfl, h1, h2⟩ := rv
      have hv := intsOf_rep hi h2
      subst hv
      refine ⟨a, n :: ns, rfl, SqL.of (B.fh _ _ h1), Nat.succ_pos _, fun m hm hle => ?_⟩
      obtain ⟨k1, k2, k3⟩ := foldl_min_spec ns n
      have : m = ns.foldl min n := by
        have u1 : m ≤ ns.foldl min n := hle _ (by rcases k1 with z | z; rw [z]; exact List.mem_cons_self; exact List.mem_cons_of_mem _ z)
        have u2 : ns.foldl min n ≤ m := by rcases List.mem_cons.mp hm with z | z; rw [z]; exact k2; exact k3 _ z
        omega
      rw [this]
      exact go.at B rfl
    · cases e
  · cases e
/-! all of a list of bools -/
def blsOf : List D → Option (List Bool)
  | [] => some []
  | .bl i :: r => (blsOf r).map (i :: ·)
  | _ => none
theorem blsOf_rep : ∀ {ds : List D} {ns : List Bool} {vs : List V}, blsOf ds = some ns → Reps c F ds vs → vs = ns.map V.bl
  | [], ns, vs, e, h => by cases e; exact h
  | .bl i :: r, ns, vs, e, ⟨v, u, e1, e2, e3⟩ => by
    obtain ⟨ms, q1, q2⟩ := Option.map_eq_some_iff.mp e
    subst q2
    rw [e1, blsOf_rep q1 e3, show v = _ from e2]
    rfl
def dAll : List D → Option D
  | [.lst ds] => (blsOf ds).map fun bs => .bl (bs.all id)
  | _ => none
theorem C_all (hK : X.K = c.K) (hc : X.calm = true) : CallR X (.builtin "all") (rAll c.K) := by rw [← hK]; exact cr_all hc
theorem L_all : NLaw c (rAll c.K) dAll := fun F H xs ds d Q B r e go => by
  unfold dAll at e
  split at e
  · obtain ⟨bs, e1, e2⟩ := Option.map_eq_some_iff.mp e
    subst e2
    obtain ⟨v, rfl, rv⟩ := Reps.of1 r
    obtain ⟨a, vs, rfl, h1, h2⟩ := rv
    have hv := blsOf_rep e1 h2
    subst hv
    exact ⟨a, bs, rfl, SqL.of (B.fh _ _ h1), go.at B rfl⟩
  · cases e
/-! isinstance(x, a built-in class) -/
def tyD : D → Option String
  | .non => some "NoneType"
  | .bl _ => some "bool"
  | .int _ => some "int"
  | .str _ => some "str"
  | .tup _ => some "tuple"
  | .lst _ => some "list"
  | .dic _ _ => some "dict"
  | _ => none
def isiS (a n : String) : Bool := a == n || (a == "bool" && n == "int")
def dIsi (n : String) (d : D) : Option D := (tyD d).map fun t => .bl (isiS t n)
theorem kitB_ok : ∀ a ∈ ["NoneType", "bool", "int", "str", "tuple", "list", "dict"], ∀ n ∈ ["int", "bool", "str", "tuple", "list", "dict"], kitB a n = some (isiS a n) := by decide +kernel
theorem tyX_of {d : D} {v : V} {t : String} (B : Bs c F H) (r : Rep c F d v) (e : tyD d = some t) : TyX c.K H v (.type t) := by
  have r := B.rep r
  cases d with
  | non => cases r; cases e; exact .base .non
  | bl _ => cases r; cases e; exact .base (.bl _)
  | int _ => cases r; cases e; exact .base (.int _)
  | str _ => cases r; cases e; exact .base (.str _)
  | tup ds =>
    obtain ⟨a, vs, rfl, h, _⟩ := r
    cases e
    rcases h with (h | ⟨o, h⟩) | ⟨o, its, n, h, hc, _⟩
    · exact .base (.tup h)
    · exact .fTuple h
    · exact .kTuple h hc
  | lst ds => obtain ⟨a, vs, rfl, h, _⟩ := r; cases e; exact .base (.lst h)
  | dic ks ds =>
    obtain ⟨a, vs, rfl, h, _⟩ := r
    cases e
    rcases h with h | ⟨o, h⟩
    · exact .base (.dK h)
    · exact .fDict h
  | _ => cases e
theorem tyD_mem {d : D} {t : String} (e : tyD d = some t) : t ∈ ["NoneType", "bool", "int", "str", "tuple", "list", "dict"] := by
  cases d <;> cases e <;> decide
theorem d_isi {n : String} {x : Str} {e : Expr} {p p2 : Pos} {f : Rho → Out D} (hK : X.K = c.K) (hn : n ∈ ["int", "bool", "str", "tuple", "list", "dict"]) (hm : X.mg "isinstance" = none) (hm2 : X.mg x = none) (hv2 : bootBuiltins x = some (.type n)) (he : PE X e (tD c W f))
    (hg : Gl X "isinstance" := by rfl) (hg2 : Gl X x := by rfl) (hn2 : x ≠ "__name__" := by decide) (hdb : (x == ("__debug__" : Str)) = false := by decide)
    (hs : starEach [e, .Name x p2] X.env = (false, eval e X.env) :: starEach [.Name x p2] X.env := by rfl) (hs2 : starEach [.Name x p2] X.env = (false, eval (.Name x p2) X.env) :: starEach [] X.env := by rfl) (hpl : (backTo pos (starEach [.Name x p2] X.env)).any (·.1) = false := by rfl) :
    PE X (.Call (.Name "isinstance" p) [e, .Name x p2] [] pos) (tD c W (eU (dIsi n) f)) := by
  have hc : CallR X (.builtin "isinstance") (rIsi c.K) := by rw [← hK]; exact call_isi
  have ha : PA X [e, .Name x p2] (tCons (tD c W f) (tCons (tC (.ty n)) tNil)) := pa_cons he (pa_cons (pe_bltn hg2 hm2 hv2 rfl hn2 hdb) pa_nil hs2) hs
  refine PE.imp (pe_callB hc hg hm (by decide +kernel) ha (by decide) (by decide) hs hpl) fun σ H Q ⟨F, ρ, S, q⟩ => ⟨F, ρ, S, (OutP.bind q).imp fun d F1 H1 G1 q1 v rv => ?_⟩
  obtain ⟨d', e1, go⟩ := OutP.goes q1
  unfold dIsi at e1
  obtain ⟨t, e2, e3⟩ := Option.map_eq_some_iff.mp e1
  subst e3
  exact ⟨v, .ty n, .type t, .type n, _, rfl, .ty n, tyX_of G1.toBs rv e2, kit_ty (kitB_ok t (tyD_mem e2) n hn), go.at G1.toBs rfl⟩

/-! ### calls of defs -/
def SpD (c : CC) (f : List D → Out D) : Sp := fun vs H Q E => ∃ F ds, Bs c F H ∧ Reps c F ds vs ∧ OutP c (fun cls d _ H' => E cls d H') [] F H (fun d F' H' => ∀ v, Rep c F' d v → Q v H') (f ds)
/-- a def that may be called by its name -/
structure Cal (P : Program) (w : World) (c : CC) (base : Heap) (k : Nat) (x : Str) (f : List D → Out D) : Prop where
  ex : ∃ (fa : Addr) (fd : FuncData) (ps : List Str), FnOk P w c.K c.mg base (L2.CX P w) k fa fd ps (SpD c f) ∧ c.mg x = some (.ref fa) ∧ PySem.W.keepIn c.K (.ref fa) = true ∧ Binds c.K fd ps []
theorem Cal.mono {P : Program} {w : World} {base : Heap} {k k' : Nat} {x : Str} {f : List D → Out D} (C : Cal P w c base k x f) (h : k ≤ k') : Cal P w c base k' x f :=
  let ⟨fa, fd, ps, a, b, d, e⟩ := C.ex; ⟨fa, fd, ps, a.mono h, b, d, e⟩
theorem d_call {k' : Nat} {x : Str} {e : Expr} {es : List Expr} {p : Pos} {f : List D → Out D} {a : Rho → Out (List D)} (O : Ok X c W k') (C : Cal X.prog X.w c X.base k x f) (hk : k ≤ k') (ha : PA X (e :: es) (tA c W a)) (hg : Gl X x := by rfl) (hdb : (x == ("__debug__" : Str)) = false := by decide)
    (he : starEach (e :: es) X.env = (false, eval e X.env) :: starEach es X.env := by rfl) (hpl : (backTo pos (starEach es X.env)).any (·.1) = false := by rfl) : PE X (.Call (.Name x p) (e :: es) [] pos) (tD c W (eCall f a)) := by
  obtain ⟨fa, fd, ps, G, hm, hkp, hb⟩ := C.ex
  rw [← O.K, ← O.mg] at G
  rw [← O.mg] at hm
  rw [← O.K] at hkp hb
  refine PE.imp (pe_callS G (O.rm.mono hk) hg hm hkp hb (fun σ => passAt O.tk σ) ha hdb he hpl) fun σ H Q ⟨F, ρ, S, q⟩ => ⟨F, ρ, S, (OutP.bind q).imp fun ds F1 H1 G1 q1 vs rs => ⟨F1, ds, G1.toBs, rs, ?_⟩⟩
  cases e : f ds with
  | ok d => rw [e] at q1; exact q1
  | exc x => rw [e] at q1; exact fun F' H' C dx g h => q1 F' H' C dx g h
  | bad => rw [e] at q1; exact q1
theorem d_call0 {k' : Nat} {x : Str} {p : Pos} {f : List D → Out D} {d : D} (O : Ok X c W k') (C : Cal X.prog X.w c X.base k x f) (hk : k ≤ k') (hf : f [] = .ok d) (hg : Gl X x := by rfl) (hdb : (x == ("__debug__" : Str)) = false := by decide) :
    PE X (.Call (.Name x p) [] [] pos) (tD c W (eC d)) := by
  obtain ⟨fa, fd, ps, G, hm, hkp, hb⟩ := C.ex
  rw [← O.K, ← O.mg] at G
  rw [← O.mg] at hm
  rw [← O.K] at hkp hb
  refine PE.imp (pe_call0 (E := E0) G (O.rm.mono hk) hg hm hkp hb .nil passL hdb) fun σ H Q ⟨F, ρ, S, q⟩ => ?_
  refine ⟨F, [], S.bs, rfl, ?_⟩
  rw [hf]
  exact fun F' H' g v rv => q F' H' g v rv
end
end BD
set_option Elab.async false
set_option maxRecDepth 100000
set_option maxHeartbeats 4000000
/-! The layer BD: statements, loops, defs. -/
namespace BD
open PySem PySem.Spec PyProof.Rows L2 LamX

/-- how a statement ends -/
inductive SO where
  | nx (ρ : Rho) | rt (d : D) | ro (d : D) | bk (ρ : Rho) | ct (ρ : Rho) | exc (x : Xn) (ρ : Rho) | bad
abbrev SF := Rho → SO
def OutS (c : CC) (W : WX) (D : Ends) (F0 H0 Fc : Hp) : SO → Prop
  | .nx ρ => ∀ σ F H, Ex Fc F → StR c F0 H0 F H σ ρ → D.nx σ H
  | .bk ρ => ∀ σ F H, Ex Fc F → StR c F0 H0 F H σ ρ → D.bk σ H
  | .ct ρ => ∀ σ F H, Ex Fc F → StR c F0 H0 F H σ ρ → D.ct σ H
  | .rt d => ∀ F H, Grow c F0 H0 F H → ∀ v, Rep c F d v → D.rt v H
  | .ro d => ∀ F H, Grow c F0 H0 F H → ∀ p, F p = none → Fresh H0 p → OwnAt c F H p d → D.rt (.ref p) H
  | .exc x ρ => ∀ σ F H C dx, Ex Fc F → StR c F0 H0 F H σ ρ → XnAt c F x C dx → W (.ref C) dx σ H
  | .bad => False
def tS (c : CC) (W : WW) (f : SF) : TS := fun D σ H => ∃ F ρ, StR c W.F0 W.H0 F H σ ρ ∧ OutS c W.W D W.F0 W.H0 F (f ρ)
def lift {α : Type} (o : Out α) (ρ : Rho) (k : α → SO) : SO := match o with
  | .ok a => k a
  | .exc x => .exc x ρ
  | .bad => .bad
@[simp] theorem lift_ok {α : Type} (a : α) (ρ : Rho) (k : α → SO) : lift (.ok a) ρ k = k a := rfl
@[simp] theorem lift_exc {α : Type} (x : Xn) (ρ : Rho) (k : α → SO) : lift (.exc x : Out α) ρ k = .exc x ρ := rfl
@[simp] theorem lift_bad {α : Type} (ρ : Rho) (k : α → SO) : lift (.bad : Out α) ρ k = .bad := rfl
def sNext : SF := .nx
def sSeq (f g : SF) : SF := fun ρ => match f ρ with
  | .nx ρ' => g ρ'
  | o => o
def sIf (t : Rho → Out Bool) (f g : SF) : SF := fun ρ => lift (t ρ) ρ fun b => if b = true then f ρ else g ρ
def sRet (f : Rho → Out D) : SF := fun ρ => lift (f ρ) ρ .rt
def sRetO (f : Rho → Out D) : SF := fun ρ => lift (f ρ) ρ .ro
def sRetN : SF := fun _ => .rt .non
def sDrop (f : Rho → Out D) : SF := fun ρ => lift (f ρ) ρ fun _ => .nx ρ
def sBrk : SF := .bk
def sCont : SF := .ct
def sNever : SF := fun _ => .bad
def sRaise (n : Str) : SF := fun ρ => .exc ⟨n, none⟩ ρ
def sSetO (i : Nat) (f : Rho → Out D) : SF := fun ρ => lift (f ρ) ρ fun d => .nx (ρ.set i (.own d))
/-- targets -/
abbrev TF := D → Rho → Option Rho
def gN (i : Nat) : TF := fun d ρ => some (ρ.set i (.val d))
abbrev TFs := List D → Rho → Option Rho
def gNl : TFs := fun ds ρ => if ds.isEmpty then some ρ else none
def gCn (t : TF) (u : TFs) : TFs := fun ds ρ => match ds with
  | d :: r => (t d ρ).bind fun ρ' => u r ρ'
  | [] => none
def gTp (u : TFs) : TF := fun d ρ => match d with
  | .tup ds => u ds ρ
  | _ => none
def oS (o : Option Rho) (k : Rho → SO) : SO := match o with
  | some ρ => k ρ
  | none => .bad
@[simp] theorem oS_some (ρ : Rho) (k : Rho → SO) : oS (some ρ) k = k ρ := rfl
@[simp] theorem oS_none (k : Rho → SO) : oS none k = .bad := rfl
def sAsg (t : TF) (f : Rho → Out D) : SF := fun ρ => lift (f ρ) ρ fun d => oS (t d ρ) .nx
/-- a, b = x, y -/
def sPar (i j : Nat) (a : Rho → Out (List D)) : SF := fun ρ => lift (a ρ) ρ fun ds => match ds with
  | [d, e] => .nx ((ρ.set i (.val d)).set j (.val e))
  | _ => .bad
def loopS (b : D → SF) : List D → SF
  | [], ρ => .nx ρ
  | d :: ds, ρ => match b d ρ with
    | .nx ρ' => loopS b ds ρ'
    | .ct ρ' => loopS b ds ρ'
    | .bk ρ' => .nx ρ'
    | o => o
def sFor (it : Rho → Out (List D)) (t : TF) (b : SF) : SF := fun ρ => lift (it ρ) ρ fun ds => loopS (fun d ρ => oS (t d ρ) b) ds ρ
def whileS (t : Rho → Out Bool) (b : SF) : Nat → SF
  | 0, _ => .bad
  | n + 1, ρ => lift (t ρ) ρ fun k => if k = true then (match b ρ with
    | .nx ρ' => whileS t b n ρ'
    | .ct ρ' => whileS t b n ρ'
    | .bk ρ' => .nx ρ'
    | o => o) else .nx ρ
def sWhile (fuel : Rho → Nat) (t : Rho → Out Bool) (b : SF) : SF := fun ρ => whileS t b (fuel ρ) ρ

section
variable {X : Cx} {c : CC} {W : WW} {k : Nat} {σ : L2.St} {F0 H0 F H : Hp} {Q : VK} {pos : Pos} {D : Ends}
theorem OutS.mono {F1 : Hp} {o : SO} (h : OutS c W.W D W.F0 W.H0 F o) (e : Ex F F1) : OutS c W.W D W.F0 W.H0 F1 o := by
  cases o with
  | nx ρ => exact fun σ F H a S => h σ F H (e.trans a) S
  | bk ρ => exact fun σ F H a S => h σ F H (e.trans a) S
  | ct ρ => exact fun σ F H a S => h σ F H (e.trans a) S
  | exc x ρ => exact fun σ F H C dx a S => h σ F H C dx (e.trans a) S
  | rt d => exact h
  | ro d => exact h
  | bad => exact h
theorem OutP.lift {α : Type} {o : Out α} {ρ : Rho} {g : α → SO} (S : StR c W.F0 W.H0 F H σ ρ) (h : OutS c W.W D W.F0 W.H0 F (lift o ρ g)) : OutP c W.W σ F H (fun a F1 H1 => OutS c W.W D W.F0 W.H0 F1 (g a)) o := by
  cases o with
  | ok a => exact fun F1 H1 gr => OutS.mono h gr.ff
  | exc x => exact fun F1 H1 C dx gr hx => h σ F1 H1 C dx gr.ff (S.grow gr) hx
  | bad => exact h
theorem s_nil : PSs X [] (tS c W sNext) := PSs.imp pss_nil fun D σ H ⟨F, ρ, S, h⟩ => h σ F H (Ex.refl _) S
theorem tSeq_of {f g : SF} {H : Hp} (q : tS c W (sSeq f g) D σ H) : tSeq (tS c W f) (tS c W g) D σ H := by
  obtain ⟨F, ρ, S, h⟩ := q
  refine ⟨F, ρ, S, ?_⟩
  unfold sSeq at h
  cases e : f ρ with
  | nx ρ' => rw [e] at h; exact fun σ' F' H' a S' => ⟨F', ρ', S', OutS.mono h a⟩
  | rt d => rw [e] at h; exact h
  | ro d => rw [e] at h; exact h
  | bk d => rw [e] at h; exact h
  | ct d => rw [e] at h; exact h
  | exc x d => rw [e] at h; exact h
  | bad => rw [e] at h; exact h
theorem s_cons {st : Stmt} {rest : List Stmt} {f g : SF} (h1 : PS X st (tS c W f)) (h2 : PSs X rest (tS c W g)) : PSs X (st :: rest) (tS c W (sSeq f g)) := PSs.imp (pss_cons h1 h2) fun _ _ _ q => tSeq_of q
theorem s_one {st : Stmt} {f : SF} (h1 : PS X st (tS c W f)) : PSs X [st] (tS c W f) := pss_one h1
theorem s_pass : PS X (.Pass pos) (tS c W sNext) := PS.imp ps_pass fun D σ H ⟨F, ρ, S, h⟩ => h σ F H (Ex.refl _) S
theorem s_brk : PS X (.Break pos) (tS c W sBrk) := PS.imp ps_break fun D σ H ⟨F, ρ, S, h⟩ => h σ F H (Ex.refl _) S
theorem s_cont : PS X (.Continue pos) (tS c W sCont) := PS.imp ps_continue fun D σ H ⟨F, ρ, S, h⟩ => h σ F H (Ex.refl _) S
theorem s_never {st : Stmt} : PS X st (tS c W sNever) := PS.imp ps_never fun D σ H ⟨F, ρ, S, h⟩ => h
theorem ss_never {st : List Stmt} : PSs X st (tS c W sNever) := PSs.imp pss_never fun D σ H ⟨F, ρ, S, h⟩ => h
theorem s_if {t : Expr} {a b : List Stmt} {ft : Rho → Out Bool} {f g : SF} (ht : PT X t (tT c W ft)) (ha : PSs X a (tS c W f)) (hb : PSs X b (tS c W g)) : PS X (.If t a b pos) (tS c W (sIf ft f g)) :=
  PS.imp (ps_if ht ha hb) fun D σ H ⟨F, ρ, S, h⟩ => ⟨F, ρ, S, (OutP.lift S h).imp fun b F1 H1 G1 q => by
    cases b with
    | true => rw [if_pos rfl]; rw [if_pos rfl] at q; exact ⟨F1, ρ, S.grow G1, q⟩
    | false => rw [if_neg Bool.false_ne_true]; rw [if_neg Bool.false_ne_true] at q; exact ⟨F1, ρ, S.grow G1, q⟩⟩
theorem s_ret {e : Expr} {f : Rho → Out BD.D} (h : PE X e (tD c W f)) : PS X (.Return (some e) pos) (tS c W (sRet f)) :=
  PS.imp (ps_ret h) fun D σ H ⟨F, ρ, S, h⟩ => ⟨F, ρ, S, (OutP.lift S h).imp fun d F1 H1 G1 q v rv => q F1 H1 (S.gr.trans G1) v rv⟩
theorem s_retO {e : Expr} {f : Rho → Out BD.D} (h : PE X e (tO c W f)) : PS X (.Return (some e) pos) (tS c W (sRetO f)) :=
  PS.imp (ps_ret h) fun D σ H ⟨F, ρ, S, h⟩ => ⟨F, ρ, S, (OutP.lift S h).imp fun d F1 H1 G1 q p hp hf ho => q F1 H1 (S.gr.trans G1) p hp (hf.back S.gr.hh) ho⟩
theorem s_retN : PS X (.Return none pos) (tS c W sRetN) := PS.imp ps_retN fun D σ H ⟨F, ρ, S, h⟩ => h F H S.gr _ rfl
theorem s_expr {e : Expr} {f : Rho → Out BD.D} (h : PE X e (tD c W f)) (hs : swapsWith e none pos.line X.env = pure false := by rfl) : PS X (.Expr e pos) (tS c W (sDrop f)) :=
  PS.imp (ps_expr h hs) fun D σ H ⟨F, ρ, S, h⟩ => ⟨F, ρ, S, (OutP.lift S h).imp fun d F1 H1 G1 q v rv => q σ F1 H1 (Ex.refl _) (S.grow G1)⟩
theorem s_doc {x j p2} : PS X (.Expr (.Constant (.str x) j pos) p2) (tS c W sNext) := PS.imp ps_doc fun D σ H ⟨F, ρ, S, h⟩ => h σ F H (Ex.refl _) S
/-! ### targets -/
def tG (c : CC) (W : WW) (js : List Nat) (t : TF) : TG := fun v σ H Q => ∃ F ρ d, StR c W.F0 W.H0 F H σ ρ ∧ Rep c F d v ∧ ∃ ρ', t d ρ = some ρ' ∧ ∀ σ', StR c W.F0 W.H0 F H σ' ρ' → σ'.length = σ.length → (∀ j, j ∉ js → σ'[j]? = σ[j]?) → Q σ' H
def tGs (c : CC) (W : WW) (js : List Nat) (t : TFs) : TGs := fun vs σ H Q => ∃ F ρ ds, StR c W.F0 W.H0 F H σ ρ ∧ Reps c F ds vs ∧ ∃ ρ', t ds ρ = some ρ' ∧ ∀ σ', StR c W.F0 W.H0 F H σ' ρ' → σ'.length = σ.length → (∀ j, j ∉ js → σ'[j]? = σ[j]?) → Q σ' H
theorem PG.imp {tg : Expr} {t t' : TG} (h : PG X tg t) (k : ∀ v σ H Q, t' v σ H Q → t v σ H Q) : PG X tg t' := ⟨fun pins s σ H v u Q I r q => h.run pins s σ H v u Q I r (k v σ H Q q)⟩
theorem PGs.imp {tg : List Expr} {t t' : TGs} (h : PGs X tg t) (k : ∀ v σ H Q, t' v σ H Q → t v σ H Q) : PGs X tg t' := ⟨fun pins s σ H v u Q I r q => h.run pins s σ H v u Q I r (k v σ H Q q)⟩
theorem g_name {i : Nat} {x : Str} (hN : X.N.Nodup) (hi : X.N[i]? = some x := by rfl) (hx : Loc X.env.scope x := by first | exact Or.inl rfl | exact Or.inr rfl) (hf : X.fn x = true ∨ X.env.scope.names.lookup x = some .local := by first | exact .inl rfl | exact .inr rfl) : PG X (.Name x pos) (tG c W [i] (gN i)) :=
  PG.imp (pg_name hN hi hx hf) fun v σ H Q ⟨F, ρ, d, S, r, ρ', e, q⟩ => by
    cases e
    exact q _ (S.setV r) List.length_set fun j hj => List.getElem?_set_ne (fun z => hj (by simp [z]))
theorem g_nil : PGs X [] (tGs c W [] gNl) := PGs.imp pgs_nil fun vs σ H Q ⟨F, ρ, ds, S, r, ρ', e, q⟩ => by
  cases ds with
  | nil => cases e; exact ⟨r, q σ S rfl fun _ _ => rfl⟩
  | cons _ _ => cases e
theorem g_cons {e : Expr} {es : List Expr} {js ks : List Nat} {t : TF} {u : TFs} (h1 : PG X e (tG c W js t)) (h2 : PGs X es (tGs c W ks u)) (hs : (assignEach (e :: es) X.env).map (·.2) = assign e X.env :: (assignEach es X.env).map (·.2) := by rfl) : PGs X (e :: es) (tGs c W (js ++ ks) (gCn t u)) :=
  PGs.imp (pgs_cons h1 h2 hs) fun vs σ H Q ⟨F, ρ, ds, S, r, ρ', e, q⟩ => by
    cases ds with
    | nil => cases e
    | cons d ds =>
      obtain ⟨v, rr, e1, e2, e3⟩ := r
      obtain ⟨ρ1, q1, q2⟩ := Option.bind_eq_some_iff.mp (show (t d ρ).bind (fun ρ' => u ds ρ') = some ρ' from e)
      exact ⟨v, rr, e1, F, ρ, d, S, e2, ρ1, q1, fun σ1 S1 l1 k1 => ⟨F, ρ1, ds, S1, e3, ρ', q2, fun σ2 S2 l2 k2 => q σ2 S2 (l2.trans l1) fun j hj => (k2 j fun z => hj (List.mem_append_right _ z)).trans (k1 j fun z => hj (List.mem_append_left _ z))⟩⟩
theorem g_tup {es : List Expr} {kk : Nat} {js : List Nat} {u : TFs} {n : Nat} (hK : X.K = c.K) (hc : X.calm = true) (h : PGs X es (tGs c W js u)) (hu : ∀ ds ρ ρ', u ds ρ = some ρ' → ds.length = n)
    (hn : (assignEach es X.env).length = n := by rfl) (hst : (assignEach es X.env).findIdx? (·.1) = none := by rfl) : PG X (.Tuple es kk pos) (tG c W js (gTp u)) :=
  PG.imp (pg_tup hc h hn hst) fun v σ H Q ⟨F, ρ, d, S, r, ρ', e, q⟩ => by
    unfold gTp at e
    split at e
    · obtain ⟨a, vs, rfl, h1, h2⟩ := r
      exact ⟨a, vs, rfl, by rw [hK]; exact S.bs.fh.r.sqT h1, by rw [← h2.length]; exact hu _ _ _ e, F, ρ, _, S, h2, ρ', e, q⟩
    · cases e
theorem gCn_len {t : TF} {u : TFs} {n : Nat} (h : ∀ ds ρ ρ', u ds ρ = some ρ' → ds.length = n) : ∀ ds ρ ρ', gCn t u ds ρ = some ρ' → ds.length = n + 1 := fun ds ρ ρ' e => by
  unfold gCn at e
  split at e
  · obtain ⟨ρ1, q1, q2⟩ := Option.bind_eq_some_iff.mp e
    rw [List.length_cons, h _ _ _ q2]
  · cases e
theorem gNl_len : ∀ ds ρ ρ', gNl ds ρ = some ρ' → ds.length = 0 := fun ds ρ ρ' e => by
  unfold gNl at e
  split at e
  · rename_i h; cases ds with
    | nil => rfl
    | cons _ _ => cases h
  · cases e
theorem s_asg {tg e : Expr} {f : Rho → Out BD.D} {js : List Nat} {t : TF} (he : PE X e (tD c W f)) (hg : PG X tg (tG c W js t)) (hs : swapsWithSole [tg] e pos.line X.env = pure false := by rfl) (hw : swappedStores [tg] e X.env = pure none := by rfl)
    (h1 : (assignEach [tg] X.env).map (·.2) = [assign tg X.env] := by rfl) : PS X (.Assign [tg] e pos) (tS c W (sAsg t f)) :=
  PS.imp (ps_asg he hg hs hw h1) fun D σ H ⟨F, ρ, S, h⟩ => ⟨F, ρ, S, (OutP.lift S h).imp fun d F1 H1 G1 q v rv => by
    cases e : t d ρ with
    | none => rw [e] at q; exact False.elim q
    | some ρ' =>
      rw [e] at q
      exact ⟨F1, ρ, d, S.grow G1, rv, ρ', e, fun σ' S' _ _ => q σ' F1 H1 (Ex.refl _) S'⟩⟩
theorem s_set {i : Nat} {x : Str} {e : Expr} {f : Rho → Out BD.D} {pos' : Pos} (O : Ok X c W k) (he : PE X e (tD c W f)) (hi : X.N[i]? = some x := by rfl) (hx : Loc X.env.scope x := by first | exact Or.inl rfl | exact Or.inr rfl) (hs : swapsWith e (some (.Name x pos')) pos.line X.env = pure false := by rfl)
    (hf : X.fn x = true ∨ X.env.scope.names.lookup x = some .local := by first | exact .inl rfl | exact .inr rfl) : PS X (.Assign [.Name x pos'] e pos) (tS c W (sAsg (gN i) f)) :=
  PS.imp (ps_set O.nd hi hx he hs hf) fun D σ H ⟨F, ρ, S, h⟩ => ⟨F, ρ, S, (OutP.lift S h).imp fun d F1 H1 G1 q v rv => q _ F1 H1 (Ex.refl _) ((S.grow G1).setV rv)⟩
/-- a new list, a new dict to a name, open -/
theorem s_setO {i : Nat} {x : Str} {e : Expr} {f : Rho → Out BD.D} {pos' : Pos} (O : Ok X c W k) (he : PE X e (tO c W f)) (hi : X.N[i]? = some x := by rfl) (hx : Loc X.env.scope x := by first | exact Or.inl rfl | exact Or.inr rfl) (hs : swapsWith e (some (.Name x pos')) pos.line X.env = pure false := by rfl)
    (hf : X.fn x = true ∨ X.env.scope.names.lookup x = some .local := by first | exact .inl rfl | exact .inr rfl) : PS X (.Assign [.Name x pos'] e pos) (tS c W (sSetO i f)) :=
  PS.imp (ps_set O.nd hi hx he hs hf) fun D σ H ⟨F, ρ, S, h⟩ => ⟨F, ρ, S, (OutP.lift S h).imp fun d F1 H1 G1 q p hp hf ho => by
    have S1 := S.grow G1
    refine q _ F1 H1 (Ex.refl _) (S1.setO hp (hf.back S.gr.hh) ho fun j e hj hz => ?_)
    obtain ⟨r, k1, k2, k3, k4⟩ := S.own j e hj
    rw [hz] at k1
    cases k1
    obtain ⟨o, e1, e2⟩ := k4.there
    obtain ⟨ps, z⟩ := hf o e1
    exact e2 ps z⟩
theorem s_par {i j : Nat} {x y : Str} {a b : Expr} {f : Rho → Out (List BD.D)} {px py pt : Pos} {kt k2 pt2} (O : Ok X c W k) (hij : i ≠ j) (ha : PA X [a, b] (tA c W f))
    (hw : swappedStores [.Tuple [.Name x px, .Name y py] kt pt] (.Tuple [a, b] k2 pt2) X.env = pure (some [x, y])) (hi : X.N[i]? = some x := by rfl) (hj : X.N[j]? = some y := by rfl)
    (hx : X.env.scope.names.lookup x = some .local := by rfl) (hy : X.env.scope.names.lookup y = some .local := by rfl)
    (hs : swapsWithSole [.Tuple [.Name x px, .Name y py] kt pt] (.Tuple [a, b] k2 pt2) pos.line X.env = pure false := by rfl) :
    PS X (.Assign [.Tuple [.Name x px, .Name y py] kt pt] (.Tuple [a, b] k2 pt2) pos) (tS c W (sPar i j f)) :=
  PS.imp (ps_par O.calm O.nd hi hj hij hx hy ha hw hs) fun D σ H ⟨F, ρ, S, h⟩ => ⟨F, ρ, S, (OutP.lift S h).imp fun ds F1 H1 G1 q vs rs => by
    split at q
    · obtain ⟨v, u, rfl, rv, ru⟩ := Reps.of2 rs
      exact ⟨v, u, rfl, q _ F1 H1 (Ex.refl _) (((S.grow G1).setV rv).setV ru)⟩
    · exact False.elim q⟩
/-! ### raise -/
theorem s_raise {n m : Str} {C : Addr} {j : Nat} {p p2 p3 : Pos} {bmB : List Value} {B newId initId : String} (O : Ok X c W k) (Fb : ExcBaseFacts B newId initId bmB) (q : PySem.W.excIn c.K C bmB newId = true) (gC : c.mg n = some (.ref C)) (kC : PySem.W.keepIn c.K (.ref C) = true)
    (h1 : PySem.W.subIn c.K (.ref C) (.type "BaseException") = some true) (h2 : PySem.W.typeIn c.K (.ref C) = some (.type "type")) (hg : Gl X n := by rfl) (hdb : (n == ("__debug__" : Str)) = false := by decide) :
    PS X (.Raise (some (.Call (.Name n p) [.Constant (.str m) j p2] [] p3)) none pos) (tS c W (sRaise n)) := by
  rw [← O.K] at q kC h1 h2
  rw [← O.mg] at gC
  refine PS.imp (ps_raise O.calm O.tk (pmk_own Fb q gC kC (raises_own h1 h2) hg hdb)) fun D σ H ⟨F, ρ, S, h⟩ => h σ F H C none (Ex.refl _) S ⟨by rw [← O.mg]; exact gC, rfl⟩
/-! ### while -/
theorem s_while {t : Expr} {body : List Stmt} {ft : Rho → Out Bool} {f : SF} (fuel : Rho → Nat) (hp : PassesOwn (model X.prog X.w) X.A X.env X.xe) (ht : PT X t (tT c W ft)) (hb : PSs X body (tS c W f)) : PS X (.While t body [] pos) (tS c W (sWhile fuel ft f)) :=
  PS.imp (ps_while hp ht hb) fun D σ H ⟨F, ρ, S, h⟩ => by
    refine ⟨fun n σ H => ∃ F ρ, StR c W.F0 W.H0 F H σ ρ ∧ OutS c W.W D W.F0 W.H0 F (whileS ft f n ρ), ⟨fuel ρ, F, ρ, S, h⟩, fun n σ1 H1 ⟨F1, ρ1, S1, h1⟩ => ?_⟩
    cases n with
    | zero => exact False.elim h1
    | succ n =>
      refine ⟨F1, ρ1, S1, (OutP.lift S1 h1).imp fun b F2 H2 G2 q => ?_⟩
      cases b with
      | false => rw [if_neg Bool.false_ne_true]; rw [if_neg Bool.false_ne_true] at q; exact q σ1 F2 H2 (Ex.refl _) (S1.grow G2)
      | true =>
        rw [if_pos rfl]
        rw [if_pos rfl] at q
        refine ⟨fun σ H => ∃ F ρ, StR c W.F0 W.H0 F H σ ρ ∧ OutS c W.W D W.F0 W.H0 F (whileS ft f n ρ), fun σ' H' w => ⟨n, Nat.lt_succ_self n, w⟩, F2, ρ1, S1.grow G2, ?_⟩
        cases e : f ρ1 with
        | nx ρ' => rw [e] at q; exact fun σ' F' H' a S' => ⟨F', ρ', S', OutS.mono q a⟩
        | ct ρ' => rw [e] at q; exact fun σ' F' H' a S' => ⟨F', ρ', S', OutS.mono q a⟩
        | bk ρ' => rw [e] at q; exact q
        | rt d => rw [e] at q; exact q
        | ro d => rw [e] at q; exact q
        | exc x d => rw [e] at q; exact q
        | bad => rw [e] at q; exact q
/-! ### for -/
/-- what an iterator yields while the frozen heap F stands -/
def WkJ (c : CC) (J : It) (F : Hp) (ds : List BD.D) : Prop := ∀ F' H', Ex F F' → Bs c F' H' →
  (∀ i d, ds[i]? = some d → J.go i H' ∧ ∀ x H2, J.yld i H' x H2 → ∃ F2, Grow c F' H' F2 H2 ∧ Rep c F2 d x) ∧ ∀ i, ds.length ≤ i → J.stop i H'
def tI (c : CC) (W : WW) (it : Rho → Out (List BD.D)) : TI := fun σ H R => ∃ F ρ, StR c W.F0 W.H0 F H σ ρ ∧ OutP c W.W σ F H (fun ds F1 H1 => ∀ J, WkJ c J F1 ds → R J H1) (it ρ)
theorem PI.imp {tg it : Expr} {t t' : TI} (h : PI X tg it t) (k : ∀ σ H R, t' σ H R → t σ H R) : PI X tg it t' := ⟨fun pins s σ H R I q => h.run pins s σ H R I (k σ H R q)⟩
theorem s_for {tg it : Expr} {body : List Stmt} {fi : Rho → Out (List BD.D)} {js : List Nat} {t : TF} {f : SF} (hp : PassesOwn (model X.prog X.w) X.A X.env X.xe) (hc : X.calm = true) (hi : PI X tg it (tI c W fi)) (hg : PG X tg (tG c W js t)) (hb : PSs X body (tS c W f))
    (hs : ∀ x, foldedSetIterable it X.env x = pure x := by intro _; rfl) : PS X (.For tg it body [] pos) (tS c W (sFor fi t f)) :=
  PS.imp (ps_for hp hc hi hg hb hs) fun D σ H ⟨F, ρ, S, h⟩ => by
    refine ⟨F, ρ, S, (OutP.lift S h).imp fun ds F1 H1 G1 q J wk => ?_⟩
    refine ⟨fun i m σ H => ∃ F ρ, Ex F1 F ∧ StR c W.F0 W.H0 F H σ ρ ∧ OutS c W.W D W.F0 W.H0 F (loopS (fun d ρ => oS (t d ρ) f) (ds.drop i) ρ) ∧ m = ds.length - i, ⟨_, F1, ρ, Ex.refl _, S.grow G1, q, rfl⟩, fun i m σ2 H2 ⟨F2, ρ2, ex, S2, h2, hm⟩ => ?_⟩
    obtain ⟨w1, w2⟩ := wk F2 H2 ex S2.bs
    by_cases hl : i < ds.length
    · refine .inr ⟨(w1 i ds[i] (List.getElem?_eq_getElem hl)).1, ?_⟩
      refine ⟨fun σ H => ∃ F ρ, Ex F1 F ∧ StR c W.F0 W.H0 F H σ ρ ∧ OutS c W.W D W.F0 W.H0 F (loopS (fun d ρ => oS (t d ρ) f) (ds.drop (i + 1)) ρ), fun σ' H' ⟨F', ρ', a, b, e⟩ => ⟨m - 1, by omega, F', ρ', a, b, e, by omega⟩, fun x H3 y => ?_⟩
      obtain ⟨F3, G3, r3⟩ := (w1 i ds[i] (List.getElem?_eq_getElem hl)).2 x H3 y
      rw [List.drop_eq_getElem_cons hl] at h2
      have h2 : OutS c W.W D W.F0 W.H0 F2 (match oS (t ds[i] ρ2) f with | .nx ρ' => loopS (fun d ρ => oS (t d ρ) f) (ds.drop (i + 1)) ρ' | .ct ρ' => loopS (fun d ρ => oS (t d ρ) f) (ds.drop (i + 1)) ρ' | .bk ρ' => .nx ρ' | o => o) := h2
      cases et : t ds[i] ρ2 with
      | none => rw [et] at h2; exact False.elim h2
      | some ρ3 =>
        rw [et] at h2
        refine ⟨F3, ρ2, ds[i], S2.grow G3, r3, ρ3, et, fun σ4 S4 _ _ => ⟨F3, ρ3, S4, ?_⟩⟩
        have e3 : Ex F1 F3 := ex.trans G3.ff
        rw [oS_some] at h2
        have h2 := OutS.mono h2 G3.ff
        cases ef : f ρ3 with
        | nx ρ' => rw [ef] at h2; exact fun σ' F' H' a S' => ⟨F', ρ', e3.trans a, S', OutS.mono h2 a⟩
        | ct ρ' => rw [ef] at h2; exact fun σ' F' H' a S' => ⟨F', ρ', e3.trans a, S', OutS.mono h2 a⟩
        | bk ρ' => rw [ef] at h2; exact h2
        | rt d => rw [ef] at h2; exact h2
        | ro d => rw [ef] at h2; exact h2
        | exc x d => rw [ef] at h2; exact h2
        | bad => rw [ef] at h2; exact h2
    · exact .inl ⟨w2 i (by omega), by
        rw [List.drop_eq_nil_of_le (by omega)] at h2
        exact h2 σ2 F2 H2 (Ex.refl _) S2⟩
end
end BD
set_option Elab.async false
set_option maxRecDepth 100000
set_option maxHeartbeats 4000000
/-! The layer BD: what is walked, comprehensions, open lists and dicts, defs. -/
namespace BD
open PySem PySem.Spec PyProof.Rows L2 LamX

def itemsL : D → Out (List D)
  | .lst ds => .ok ds
  | .scr ns => .ok (ns.map D.int)
  | _ => .bad
@[simp] theorem itemsL_lst (ds : List D) : itemsL (.lst ds) = .ok ds := rfl
def itemsT : D → Out (List D)
  | .tup ds => .ok ds
  | _ => .bad
@[simp] theorem itemsT_tup (ds : List D) : itemsT (.tup ds) = .ok ds := rfl
def itL (f : Rho → Out D) : Rho → Out (List D) := fun ρ => (f ρ).bind itemsL
def itT (f : Rho → Out D) : Rho → Out (List D) := fun ρ => (f ρ).bind itemsT
def rng1 : List D → Out (List D)
  | [.int n] => if n ≤ 1000000 ∧ -1000000 ≤ n then .ok ((List.range n.toNat).map fun i => .int (i : Nat)) else .bad
  | _ => .bad
def rng2 : List D → Out (List D)
  | [.int a, .int n] => if n ≤ 1000000000000 ∧ -1000000000000 ≤ n ∧ a ≤ 1000000000000 ∧ -1000000000000 ≤ a then .ok ((List.range (n - a).toNat).map fun i => .int (a + (i : Nat))) else .bad
  | _ => .bad
def enumD : List D → Nat → List D
  | [], _ => []
  | d :: ds, i => .tup [.int (i : Nat), d] :: enumD ds (i + 1)
def enm : List D → Out (List D)
  | [.lst ds] => .ok (enumD ds 0)
  | [.scr ns] => .ok (enumD (ns.map D.int) 0)
  | _ => .bad
def zipD : List D → List D → List D
  | d :: ds, e :: es => .tup [d, e] :: zipD ds es
  | _, _ => []
def zpL : List D → Out (List D)
  | [.lst ds, .lst es] => .ok (zipD ds es)
  | [.tup ds, .tup es] => .ok (zipD ds es)
  | _ => .bad
def itA (g : List D → Out (List D)) (a : Rho → Out (List D)) : Rho → Out (List D) := fun ρ => (a ρ).bind g
theorem enumD_get : ∀ (ds : List D) (k i : Nat) (d : D), (enumD ds k)[i]? = some d → ∃ e, ds[i]? = some e ∧ d = .tup [.int ((k + i : Nat) : Int), e]
  | [], k, i, d, h => by simp [enumD] at h
  | x :: ds, k, 0, d, h => by simp [enumD] at h; exact ⟨x, rfl, h.symm⟩
  | x :: ds, k, i + 1, d, h => by
    obtain ⟨e, h1, h2⟩ := enumD_get ds (k + 1) i d (by simpa [enumD] using h)
    exact ⟨e, by simpa using h1, by rw [h2]; congr 4; omega⟩
theorem enumD_len : ∀ (ds : List D) (k : Nat), (enumD ds k).length = ds.length
  | [], k => rfl
  | x :: ds, k => by simp [enumD, enumD_len ds (k + 1)]
theorem zipD_get : ∀ (ds es : List D) (i : Nat) (d : D), (zipD ds es)[i]? = some d → ∃ a b, ds[i]? = some a ∧ es[i]? = some b ∧ d = .tup [a, b]
  | [], es, i, d, h => by simp [zipD] at h
  | x :: ds, [], i, d, h => by simp [zipD] at h
  | x :: ds, y :: es, 0, d, h => by simp [zipD] at h; exact ⟨x, y, rfl, rfl, h.symm⟩
  | x :: ds, y :: es, i + 1, d, h => by
    obtain ⟨a, b, h1, h2, h3⟩ := zipD_get ds es i d (by simpa [zipD] using h)
    exact ⟨a, b, by simpa using h1, by simpa using h2, h3⟩
theorem zipD_len : ∀ (ds es : List D), (zipD ds es).length = min ds.length es.length
  | [], es => by simp [zipD]
  | x :: ds, [] => by simp [zipD]
  | x :: ds, y :: es => by simp [zipD, zipD_len ds es]
section
variable {X : Cx} {c : CC} {W : WW} {k : Nat} {σ : L2.St} {F0 H0 F H : Hp} {Q : VK} {pos : Pos}
theorem wk_list {a : Addr} {vs : List V} {ds : List D} (h : SqL c.K F a vs) (r : Reps c F ds vs) : WkJ c (Itl c.K a) F ds := fun F' H' ex b => by
  have hq : SqL c.K H' a vs := (ex.trans b.fh).r.sqL h
  have r' : Reps c F' ds vs := r.mono ex.r
  refine ⟨fun i d hd => ?_, fun i hi => ⟨vs, hq, by rw [← r.length]; exact hi⟩⟩
  obtain ⟨v, h1, h2⟩ := r'.get hd
  refine ⟨⟨vs, v, hq, h1⟩, fun x H2 ⟨e1, e2⟩ => ⟨F', ?_, ?_⟩⟩
  · rw [e1]; exact b.refl
  · have := e2 vs hq
    rw [h1] at this
    cases this
    exact h2
theorem wk_tup {a : Addr} {vs : List V} {ds : List D} (h : SqT c.K F a vs) (r : Reps c F ds vs) : WkJ c (Itt c.K a) F ds := fun F' H' ex b => by
  have hq : SqT c.K H' a vs := (ex.trans b.fh).r.sqT h
  have r' : Reps c F' ds vs := r.mono ex.r
  refine ⟨fun i d hd => ?_, fun i hi => ⟨vs, hq, by rw [← r.length]; exact hi⟩⟩
  obtain ⟨v, h1, h2⟩ := r'.get hd
  refine ⟨⟨vs, v, hq, h1⟩, fun x H2 ⟨e1, e2⟩ => ⟨F', ?_, ?_⟩⟩
  · rw [e1]; exact b.refl
  · have := e2 vs hq
    rw [h1] at this
    cases this
    exact h2
theorem wk_rng {lo : Int} {n : Nat} {ds : List D} (h : ds = (List.range n).map fun i => D.int (lo + (i : Nat))) : WkJ c (Itr lo n) F ds := fun F' H' ex b => by
  subst h
  refine ⟨fun i d hd => ?_, fun i hi => by show n ≤ i; simpa using hi⟩
  rw [List.getElem?_map] at hd
  obtain ⟨j, h1, h2⟩ := Option.map_eq_some_iff.mp hd
  obtain ⟨h3, h4⟩ := List.getElem?_eq_some_iff.mp h1
  simp at h3 h4
  subst h4
  refine ⟨h3, fun x H2 ⟨e1, e2⟩ => ⟨F', ?_, ?_⟩⟩
  · rw [e1]; exact b.refl
  · rw [← h2]; exact e2
theorem wk_enum {a : Addr} {vs : List V} {ds : List D} (h : SqL c.K F a vs) (r : Reps c F ds vs) : WkJ c (Ite c.K a) F (enumD ds 0) := fun F' H' ex b => by
  have hq : SqL c.K H' a vs := (ex.trans b.fh).r.sqL h
  have r' : Reps c F' ds vs := r.mono ex.r
  refine ⟨fun i d hd => ?_, fun i hi => ⟨vs, hq, by rw [← r.length]; rw [enumD_len] at hi; exact hi⟩⟩
  obtain ⟨e, hd', rfl⟩ := enumD_get ds 0 i d hd
  obtain ⟨v, h1, h2⟩ := r'.get hd'
  refine ⟨⟨vs, v, hq, h1⟩, fun x H2 ⟨T, y, e1, e2, e3, e4⟩ => ?_⟩
  have := e4 vs hq
  rw [h1] at this
  cases this
  subst e1 e3
  refine ⟨upd F' T (.tup [.int (i : Nat), v]), b.new e2 (fun ps z => nomatch z), T, _, rfl, SqT.of upd_same, ?_⟩
  exact ⟨_, _, rfl, by rw [Nat.zero_add]; exact rfl, _, _, rfl, h2.mono (ex_new (b.fnone e2)).r, rfl⟩
theorem wk_zip {a a' : Addr} {vs vs' : List V} {ds es : List D} (h : SqL c.K F a vs) (r : Reps c F ds vs) (h' : SqL c.K F a' vs') (r' : Reps c F es vs') : WkJ c (Itz c.K a a') F (zipD ds es) := fun F' H' ex b => by
  have hq : SqL c.K H' a vs := (ex.trans b.fh).r.sqL h
  have hq' : SqL c.K H' a' vs' := (ex.trans b.fh).r.sqL h'
  have q : Reps c F' ds vs := r.mono ex.r
  have q' : Reps c F' es vs' := r'.mono ex.r
  refine ⟨fun i d hd => ?_, fun i hi => ⟨vs, vs', hq, hq', by rw [← r.length, ← r'.length]; rw [zipD_len] at hi; omega⟩⟩
  obtain ⟨x, y, hx, hy, rfl⟩ := zipD_get ds es i d hd
  obtain ⟨v, h1, h2⟩ := q.get hx
  obtain ⟨v', h1', h2'⟩ := q'.get hy
  refine ⟨⟨vs, vs', v, v', hq, hq', h1, h1'⟩, fun x H2 ⟨T, u, u', e1, e2, e3, e4, e5⟩ => ?_⟩
  have z := e4 vs hq
  rw [h1] at z
  cases z
  have z := e5 vs' hq'
  rw [h1'] at z
  cases z
  subst e1 e3
  refine ⟨upd F' T (.tup [v, v']), b.new e2 (fun ps z => nomatch z), T, _, rfl, SqT.of upd_same, ?_⟩
  exact ⟨_, _, rfl, h2.mono (ex_new (b.fnone e2)).r, _, _, rfl, h2'.mono (ex_new (b.fnone e2)).r, rfl⟩
theorem wk_zipT {a a' : Addr} {vs vs' : List V} {ds es : List D} (h : SqT c.K F a vs) (r : Reps c F ds vs) (h' : SqT c.K F a' vs') (r' : Reps c F es vs') : WkJ c (RZ.ItzT c.K a a') F (zipD ds es) := fun F' H' ex b => by
  have hq : SqT c.K H' a vs := (ex.trans b.fh).r.sqT h
  have hq' : SqT c.K H' a' vs' := (ex.trans b.fh).r.sqT h'
  have q : Reps c F' ds vs := r.mono ex.r
  have q' : Reps c F' es vs' := r'.mono ex.r
  refine ⟨fun i d hd => ?_, fun i hi => ⟨vs, vs', hq, hq', by rw [← r.length, ← r'.length]; rw [zipD_len] at hi; omega⟩⟩
  obtain ⟨x, y, hx, hy, rfl⟩ := zipD_get ds es i d hd
  obtain ⟨v, h1, h2⟩ := q.get hx
  obtain ⟨v', h1', h2'⟩ := q'.get hy
  refine ⟨⟨vs, vs', v, v', hq, hq', h1, h1'⟩, fun x H2 ⟨T, u, u', e1, e2, e3, e4, e5⟩ => ?_⟩
  have z := e4 vs hq
  rw [h1] at z
  cases z
  have z := e5 vs' hq'
  rw [h1'] at z
  cases z
  subst e1 e3
  refine ⟨upd F' T (.tup [v, v']), b.new e2 (fun ps z => nomatch z), T, _, rfl, SqT.of upd_same, ?_⟩
  exact ⟨_, _, rfl, h2.mono (ex_new (b.fnone e2)).r, _, _, rfl, h2'.mono (ex_new (b.fnone e2)).r, rfl⟩
variable {tg : Expr}
theorem i_list {e : Expr} {f : Rho → Out D} (hK : X.K = c.K) (h : PE X e (tD c W f)) : PI X tg e (tI c W (itL f)) :=
  PI.imp (pi_list h) fun σ H R ⟨F, ρ, S, q⟩ => ⟨F, ρ, S, (OutP.bind q).imp fun d F1 H1 G1 q1 v rv => by
    cases d with
    | lst ds =>
      obtain ⟨a, vs, rfl, h1, h2⟩ := rv
      exact ⟨a, rfl, ⟨vs, SqL.of (G1.fh _ _ h1)⟩, q1 F1 H1 G1.toBs.refl _ (by rw [hK]; exact wk_list (SqL.of h1) h2)⟩
    | scr ns =>
      obtain ⟨a, rfl, h1⟩ := rv
      exact ⟨a, rfl, ⟨_, by rw [hK]; exact G1.fh.r.sqL h1⟩, q1 F1 H1 G1.toBs.refl _ (by rw [hK]; exact wk_list h1 (reps_ints _))⟩
    | _ => exact False.elim q1⟩
theorem i_tup {e : Expr} {f : Rho → Out D} (hK : X.K = c.K) (h : PE X e (tD c W f)) : PI X tg e (tI c W (itT f)) :=
  PI.imp (pi_tup h) fun σ H R ⟨F, ρ, S, q⟩ => ⟨F, ρ, S, (OutP.bind q).imp fun d F1 H1 G1 q1 v rv => by
    cases d with
    | tup ds =>
      obtain ⟨a, vs, rfl, h1, h2⟩ := rv
      exact ⟨a, rfl, ⟨vs, by rw [hK]; exact G1.fh.r.sqT h1⟩, q1 F1 H1 G1.toBs.refl _ (by rw [hK]; exact wk_tup h1 h2)⟩
    | _ => exact False.elim q1⟩
theorem i_rng1 {a : Expr} {f : Rho → Out (List D)} {p : Pos} (hm : X.mg "range" = none) (ha : PA X [a] (tA c W f)) (hg : Gl X "range" := by rfl) (hs : starEach [a] X.env = [(false, eval a X.env)] := by rfl) : PI X tg (.Call (.Name "range" p) [a] [] pos) (tI c W (itA rng1 f)) :=
  PI.imp (pi_range1 hg hm ha hs) fun σ H R ⟨F, ρ, S, q⟩ => ⟨F, ρ, S, (OutP.bind q).imp fun ds F1 H1 G1 q1 vs rs => by
    unfold rng1 at q1
    split at q1
    · split at q1
      · obtain ⟨v, rfl, rv⟩ := Reps.of1 rs
        cases rv
        exact ⟨_, rfl, by omega, by omega, q1 F1 H1 G1.toBs.refl _ (wk_rng (by simp))⟩
      · exact False.elim q1
    · exact False.elim q1⟩
theorem i_rng2 {a b : Expr} {f : Rho → Out (List D)} {p : Pos} (hm : X.mg "range" = none) (ha : PA X [a, b] (tA c W f)) (hg : Gl X "range" := by rfl) (hs : starEach [a, b] X.env = [(false, eval a X.env), (false, eval b X.env)] := by rfl) (hs2 : starEach [b] X.env = [(false, eval b X.env)] := by rfl) :
    PI X tg (.Call (.Name "range" p) [a, b] [] pos) (tI c W (itA rng2 f)) :=
  PI.imp (pi_range2 hg hm ha hs hs2) fun σ H R ⟨F, ρ, S, q⟩ => ⟨F, ρ, S, (OutP.bind q).imp fun ds F1 H1 G1 q1 vs rs => by
    unfold rng2 at q1
    split at q1
    · split at q1
      · obtain ⟨v, u, rfl, rv, ru⟩ := Reps.of2 rs
        cases rv
        cases ru
        exact ⟨_, _, rfl, ⟨by omega, by omega, by omega, by omega⟩, q1 F1 H1 G1.toBs.refl _ (wk_rng rfl)⟩
      · exact False.elim q1
    · exact False.elim q1⟩
theorem i_enum {e : Expr} {f : Rho → Out (List D)} {p tpos : Pos} {elts : List Expr} {kk : Nat} (hK : X.K = c.K) (hm : X.mg "enumerate" = none) (ha : PA X [e] (tA c W f)) (hg : Gl X "enumerate" := by rfl) (hs : starEach [e] X.env = [(false, eval e X.env)] := by rfl) :
    PI X (.Tuple elts kk tpos) (.Call (.Name "enumerate" p) [e] [] pos) (tI c W (itA enm f)) :=
  PI.imp (pi_enum hg hm ha hs) fun σ H R ⟨F, ρ, S, q⟩ => ⟨F, ρ, S, (OutP.bind q).imp fun ds F1 H1 G1 q1 vs rs => by
    unfold enm at q1
    split at q1
    · obtain ⟨v, rfl, rv⟩ := Reps.of1 rs
      obtain ⟨a, vs, rfl, h1, h2⟩ := rv
      exact ⟨a, vs, rfl, SqL.of (G1.fh _ _ h1), q1 F1 H1 G1.toBs.refl _ (by rw [hK]; exact wk_enum (SqL.of h1) h2)⟩
    · obtain ⟨v, rfl, rv⟩ := Reps.of1 rs
      obtain ⟨a, rfl, h1⟩ := rv
      exact ⟨a, _, rfl, by rw [hK]; exact G1.fh.r.sqL h1, q1 F1 H1 G1.toBs.refl _ (by rw [hK]; exact wk_enum h1 (reps_ints _))⟩
    · exact False.elim q1⟩
theorem i_zip {e e2 : Expr} {f : Rho → Out (List D)} {p tpos : Pos} {elts : List Expr} {kk : Nat} (hK : X.K = c.K) (hm : X.mg "zip" = none) (ha : PA X [e, e2] (tA c W f)) (hg : Gl X "zip" := by rfl)
    (hs : starEach [e, e2] X.env = (false, eval e X.env) :: starEach [e2] X.env := by rfl) (hpl : (backTo pos (starEach [e2] X.env)).any (·.1) = false := by rfl) :
    PI X (.Tuple elts kk tpos) (.Call (.Name "zip" p) [e, e2] [] pos) (tI c W (itA zpL f)) :=
  PI.imp (RZ.pi_zipA hg hm ha hs hpl) fun σ H R ⟨F, ρ, S, q⟩ => ⟨F, ρ, S, (OutP.bind q).imp fun ds F1 H1 G1 q1 vs rs => by
    unfold zpL at q1
    split at q1
    · obtain ⟨v, u, rfl, rv, ru⟩ := Reps.of2 rs
      obtain ⟨a, vs, rfl, h1, h2⟩ := rv
      obtain ⟨a', vs', rfl, h1', h2'⟩ := ru
      exact ⟨a, a', vs, vs', rfl, .inl ⟨SqL.of (G1.fh _ _ h1), SqL.of (G1.fh _ _ h1'), q1 F1 H1 G1.toBs.refl _ (by rw [hK]; exact wk_zip (SqL.of h1) h2 (SqL.of h1') h2')⟩⟩
    · obtain ⟨v, u, rfl, rv, ru⟩ := Reps.of2 rs
      obtain ⟨a, vs, rfl, h1, h2⟩ := rv
      obtain ⟨a', vs', rfl, h1', h2'⟩ := ru
      exact ⟨a, a', vs, vs', rfl, .inr ⟨by rw [hK]; exact G1.fh.r.sqT h1, by rw [hK]; exact G1.fh.r.sqT h1', q1 F1 H1 G1.toBs.refl _ (by rw [hK]; exact wk_zipT h1 h2 h1' h2')⟩⟩
    · exact False.elim q1⟩
end

/-! ### comprehensions -/
def Out.ne {α : Type} : Out α → Out α
  | .ok a => .ok a
  | _ => .bad
@[simp] theorem Out.ne_ok {α : Type} (a : α) : (Out.ok a).ne = .ok a := rfl
@[simp] theorem Out.ne_bad {α : Type} : (Out.bad : Out α).ne = .bad := rfl
@[simp] theorem Out.ne_exc {α : Type} (x : Xn) : (Out.exc x : Out α).ne = .bad := rfl
def lcS (t : TF) (b : Rho → Out Bool) (e : Rho → Out D) (ρ : Rho) : List D → Out (List D)
  | [] => .ok []
  | d :: ds => match t d ρ with
    | none => .bad
    | some ρ1 => (b ρ1).ne.bind fun k => if k = true then (e ρ1).ne.bind fun y => (lcS t b e ρ ds).bind fun ys => .ok (y :: ys) else lcS t b e ρ ds
def eLc (vs : List Nat) (it : Rho → Out (List D)) (t : TF) (b : Rho → Out Bool) (e : Rho → Out D) : Rho → Out D := fun ρ => (it ρ).bind fun ds => if ds.length ≤ 100000 then (lcS t b e (wipeR ρ vs) ds).bind fun ys => .ok (.lst ys) else .bad
abbrev WW.no (W : WW) : WW := { W with W := fun _ _ _ _ => False }
def bYes : Rho → Out Bool := fun _ => .ok true
theorem wipe_out : ∀ (vs : List Nat) (σ : L2.St) (i : Nat), i ∉ vs → (L2.wipe σ vs)[i]? = σ[i]?
  | [], _, _, _ => rfl
  | v :: vs, σ, i, h => by
    unfold L2.wipe
    rw [List.getElem?_set_ne (fun z => h (by simp [z]))]
    exact wipe_out vs σ i fun z => h (List.mem_cons_of_mem _ z)
theorem wipe_in : ∀ (vs : List Nat) (σ : L2.St) (i : Nat), i ∈ vs → i < σ.length → (L2.wipe σ vs)[i]? = some none
  | v :: vs, σ, i, h, hl => by
    unfold L2.wipe
    by_cases e : v = i
    · subst e
      rw [List.getElem?_set_self (by rw [L2.wipe_length]; exact hl)]
    · rw [List.getElem?_set_ne e]
      exact wipe_in vs σ i ((List.mem_cons.mp h).elim (fun z => (e z.symm).elim) id) hl
theorem wipe_eq {vs : List Nat} {σ σ' : L2.St} (hl : σ'.length = σ.length) (h : ∀ j, j ∉ vs → σ'[j]? = σ[j]?) : L2.wipe σ' vs = L2.wipe σ vs := by
  apply List.ext_getElem?
  intro i
  by_cases hi : i ∈ vs
  · by_cases hn : i < σ.length
    · rw [wipe_in vs σ' i hi (by omega), wipe_in vs σ i hi hn]
    · rw [List.getElem?_eq_none (by rw [L2.wipe_length]; omega), List.getElem?_eq_none (by rw [L2.wipe_length]; omega)]
  · rw [wipe_out vs σ' i hi, wipe_out vs σ i hi, h i hi]
theorem wipe_wipe {vs : List Nat} {σ : L2.St} : L2.wipe (L2.wipe σ vs) vs = L2.wipe σ vs := wipe_eq (L2.wipe_length _ _) fun j hj => wipe_out vs σ j hj
theorem tabs_upd {T : List (Addr × Str)} {H : Hp} {p : Addr} {o o' : HO} (t : Tabs T H) (hp : H p = some o) (n1 : ∀ ps, o ≠ .tbl ps) (n2 : ∀ φ, o ≠ .ext φ) : Tabs T (upd H p o') := fun q hq => by
  obtain ⟨ps, h1, h2, h3⟩ := t q hq
  refine ⟨ps, by rw [upd_ne (fun z => by rw [z, hp] at h1; exact n1 ps (Option.some.inj h1))]; exact h1, h2, fun pos cv hc => ?_⟩
  obtain ⟨cc, e1, e2⟩ := h3 pos cv hc
  exact ⟨cc, e1, by rw [upd_ne (fun z => by rw [z, hp] at e2; exact n2 _ (Option.some.inj e2))]; exact e2⟩
/-- an open object is written -/
theorem Grow.mutO {c : CC} {F0 H0 F H : Hp} {p : Addr} {o o' : HO} (g : Grow c F0 H0 F H) (hf : Fresh H0 p) (fp : F p = none) (hp : H p = some o) (n1 : ∀ ps, o ≠ .tbl ps) (n2 : ∀ φ, o ≠ .ext φ) : Grow c F0 H0 F (upd H p o') :=
  ⟨⟨fun a u h => by rw [upd_ne (ne_of_none h fp)]; exact g.fh _ _ h, g.nt, tabs_upd g.tb hp n1 n2⟩, g.ff, fun a u h n => by
    rw [upd_ne (fun z => by rw [z] at h; obtain ⟨ps, e⟩ := hf _ h; exact n ps e)]
    exact g.hh _ _ h n, g.nw⟩
section
variable {X : Cx} {c : CC} {W : WW} {k : Nat} {σ : L2.St} {F0 H0 F H : Hp} {Q : VK} {pos : Pos}
theorem tLc_of {fi : Rho → Out (List D)} {js vs : List Nat} {t : TF} {b : Rho → Out Bool} {e : Rho → Out D} (hj : ∀ j ∈ js, j ∈ vs) (q : tO c W (eLc vs fi t b e) σ H Q) : tLc (tI c W fi) (tG c W.no js t) (tT c W.no b) (tD c W.no e) vs σ H Q := by
  obtain ⟨F, ρ, S, q⟩ := q
  refine ⟨F, ρ, S, (OutP.bind q).imp fun ds F1 H1 G1 q1 J wk Dl hD => ?_⟩
  split at q1
  · rename_i hlen
    cases el : lcS t b e (wipeR ρ vs) ds with
    | exc x =>
      -- a comprehension's step lets nothing out
      exfalso
      clear q q1 wk G1 S hlen
      revert el
      induction ds with
      | nil => intro el; cases el
      | cons d ds ih =>
        intro el
        unfold lcS at el
        split at el
        · cases el
        · rename_i ρ1 _
          cases hb : b ρ1 with
          | ok k =>
            rw [hb] at el
            cases k with
            | false => exact ih el
            | true =>
              have el : ((e ρ1).ne.bind fun y => (lcS t b e (wipeR ρ vs) ds).bind fun ys => .ok (y :: ys)) = .exc x := el
              cases he : e ρ1 with
              | ok y =>
                rw [he] at el
                cases hr : lcS t b e (wipeR ρ vs) ds with
                | ok ys => rw [hr] at el; cases el
                | exc z => rw [hr] at el; cases el; exact ih hr
                | bad => rw [hr] at el; cases el
              | exc z => rw [he] at el; cases el
              | bad => rw [he] at el; cases el
          | exc z => rw [hb] at el; cases el
          | bad => rw [hb] at el; cases el
    | bad => rw [el] at q1; exact False.elim q1
    | ok ys =>
      rw [el] at q1
      have S1 := (S.grow G1).wipe vs
      have fD : F1 Dl = none := G1.toBs.fnone hD
      refine ⟨fun i m H' => ∃ F2 acc done rest, Grow c F1 H1 F2 H' ∧ F2 Dl = none ∧ H' Dl = some (.lst acc) ∧ Reps c F2 done acc ∧ done.length ≤ i ∧ lcS t b e (wipeR ρ vs) (ds.drop i) = .ok rest ∧ ys = done ++ rest ∧ m = ds.length - i,
        ⟨_, F1, [], [], ys, G1.toBs.newO hD, fD, upd_same, rfl, Nat.le_refl _, el, rfl, rfl⟩, fun i m H2 ⟨F2, acc, done, rest, G2, fD2, hD2, r2, l2, e2, y2, m2⟩ => ?_⟩
      obtain ⟨w1, w2⟩ := wk F2 H2 G2.ff G2.toBs
      by_cases hl : i < ds.length
      · refine .inr ⟨(w1 i ds[i] (List.getElem?_eq_getElem hl)).1, fun H' => ∃ F2 acc done rest, Grow c F1 H1 F2 H' ∧ F2 Dl = none ∧ H' Dl = some (.lst acc) ∧ Reps c F2 done acc ∧ done.length ≤ i + 1 ∧ lcS t b e (wipeR ρ vs) (ds.drop (i + 1)) = .ok rest ∧ ys = done ++ rest,
          fun H' ⟨F', acc, done, rest, a1, a2, a3, a4, a5, a6, a7⟩ => ⟨m - 1, by omega, F', acc, done, rest, a1, a2, a3, a4, a5, a6, a7, by omega⟩, fun x H3 y => ?_⟩
        obtain ⟨F3, G3, r3⟩ := (w1 i ds[i] (List.getElem?_eq_getElem hl)).2 x H3 y
        have nD : ∀ {F' H' : Hp}, Grow c F2 H2 F' H' → F' Dl = none ∧ H' Dl = some (.lst acc) := fun {F' H'} g => by
          refine ⟨?_, g.hh _ _ hD2 fun ps z => nomatch z⟩
          cases z : F' Dl with
          | none => rfl
          | some u =>
            rcases g.nw _ _ z with z | z
            · rw [fD2] at z; cases z
            · obtain ⟨ps, z⟩ := z _ hD2; cases z
        rw [List.drop_eq_getElem_cons hl] at e2
        unfold lcS at e2
        split at e2
        · cases e2
        · rename_i ρ1 et
          refine ⟨F3, wipeR ρ vs, ds[i], (S1.grow G2).grow G3, r3, ρ1, et, fun σ2 S2 ls ks => ⟨(wipe_eq ls fun j h => ks j fun z => h (hj j z)).trans wipe_wipe, F3, ρ1, S2, ?_⟩⟩
          cases hb : b ρ1 with
          | exc z => rw [hb] at e2; cases e2
          | bad => rw [hb] at e2; cases e2
          | ok kk =>
            rw [hb] at e2
            intro F4 H4 G4
            cases kk with
            | false =>
              rw [if_neg Bool.false_ne_true]
              have g := G3.trans G4
              obtain ⟨z1, z2⟩ := nD g
              exact ⟨F4, acc, done, rest, G2.trans g, z1, z2, g.reps r2, by omega, e2, y2⟩
            | true =>
              rw [if_pos rfl]
              have e2 : ((e ρ1).ne.bind fun y => (lcS t b e (wipeR ρ vs) (ds.drop (i + 1))).bind fun ys => .ok (y :: ys)) = .ok rest := e2
              refine ⟨F4, ρ1, S2.grow G4, ?_⟩
              cases he : e ρ1 with
              | exc z => rw [he] at e2; cases e2
              | bad => rw [he] at e2; cases e2
              | ok y =>
                rw [he] at e2
                intro F5 H5 G5 v rv
                have g := (G3.trans G4).trans G5
                obtain ⟨z1, z2⟩ := nD g
                have la : acc.length ≤ 100000 := by have := r2.length; omega
                refine ⟨acc, z2, by rw [sizeLine_eq]; omega, ?_⟩
                cases hr : lcS t b e (wipeR ρ vs) (ds.drop (i + 1)) with
                | exc z => rw [hr] at e2; cases e2
                | bad => rw [hr] at e2; cases e2
                | ok rest' =>
                  rw [hr] at e2
                  cases e2
                  refine ⟨F5, acc ++ [v], done ++ [y], rest', (G2.trans g).mutO (.of hD) z1 z2 (fun ps z => nomatch z) (fun φ z => nomatch z), z1, upd_same, (g.reps r2).append (Reps.one rv), by simp; omega, rfl, by rw [y2]; simp⟩
      · refine .inl ⟨w2 i (by omega), ?_⟩
        rw [List.drop_eq_nil_of_le (by omega)] at e2
        cases e2
        rw [List.append_nil] at y2
        subst y2
        exact q1 F2 H2 G2 Dl fD2 ((Fresh.of hD).back G1.hh) ⟨acc, hD2, r2⟩
  · exact False.elim q1
/-- the context of a comprehension's block -/
theorem Ok.blk {s : Shared} {H : Hp} {scope : Scope} {cenv : Env} {fp : List Addr} (O : Ok X c W k) : Ok (X.blk s H scope cenv fp) c W.no k := ⟨O.K, O.mg, O.calm, L2.takes0, O.rm, O.nd⟩
theorem o_lc {elt tg iter : Expr} {ifs : List Expr} {scope : Scope} {own : List (Str × Nat)} {js : List Nat} {fi : Rho → Out (List D)} {t : TF} {b : Rho → Out Bool} {e : Rho → Out D} (O : Ok X c W k) (ok : BlkOk X.N X.env.scope scope own) (hj : ∀ j ∈ js, j ∈ own.map (·.2)) (hi : PI X tg iter (tI c W fi))
    (hg : ∀ (s : Shared) (H : Hp) (C : Addr) (cl : List (Str × Addr)) (fp : List Addr), Ok (X.blk s H scope (compEnvC scope cl C X.env) fp) c W.no k → PG (X.blk s H scope (compEnvC scope cl C X.env) fp) tg (tG c W.no js t)) (ht : ∀ (s : Shared) (H : Hp) (C : Addr) (cl : List (Str × Addr)) (fp : List Addr), Ok (X.blk s H scope (compEnvC scope cl C X.env) fp) c W.no k → PTs (X.blk s H scope (compEnvC scope cl C X.env) fp) ifs (tT c W.no b))
    (he : ∀ (s : Shared) (H : Hp) (C : Addr) (cl : List (Str × Addr)) (fp : List Addr), Ok (X.blk s H scope (compEnvC scope cl C X.env) fp) c W.no k → PE (X.blk s H scope (compEnvC scope cl C X.env) fp) elt (tD c W.no e)) (hs : ∀ x, foldedSetIterable iter X.env x = pure x := by intro _; rfl) :
    PE X (.ListComp elt [⟨tg, iter, ifs, 0⟩] scope pos) (tO c W (eLc (own.map (·.2)) fi t b e)) :=
  PE.imp (pe_lc O.calm O.nd hi ok (fun s H C cl fp => hg s H C cl fp O.blk) (fun s H C cl fp => ht s H C cl fp O.blk) (fun s H C cl fp => he s H C cl fp O.blk) hs) fun σ H Q q => tLc_of hj q
theorem PTs.imp {cs : List Expr} {t t' : TT} (h : PTs X cs t) (k : ∀ σ H Q, t' σ H Q → t σ H Q) : PTs X cs t' := ⟨fun pins s σ H Q I q => h.run pins s σ H Q I (k σ H Q q)⟩
theorem ts_nil : PTs X [] (tT c W bYes) := PTs.imp pts_nil fun σ H Q ⟨F, ρ, S, q⟩ => q F H S.bs.refl
theorem ts_one {a : Expr} {f : Rho → Out Bool} (h : PT X a (tT c W f)) : PTs X [a] (tT c W f) := pts_one h
/-- y = [.. for ..] on one line -/
theorem s_setLcO {i : Nat} {y : Str} {py spos : Pos} {elt tg iter : Expr} {ifs : List Expr} {scope : Scope} {own : List (Str × Nat)} {js : List Nat} {fi : Rho → Out (List D)} {t : TF} {b : Rho → Out Bool} {e : Rho → Out D} (O : Ok X c W k) (ok : BlkOk X.N X.env.scope scope own) (hj : ∀ j ∈ js, j ∈ own.map (·.2)) (hi : PI X tg iter (tI c W fi))
    (hg : ∀ (s : Shared) (H : Hp) (C : Addr) (cl : List (Str × Addr)) (fp : List Addr), Ok (X.blk s H scope (compEnvC scope cl C X.env) fp) c W.no k → PG (X.blk s H scope (compEnvC scope cl C X.env) fp) tg (tG c W.no js t)) (ht : ∀ (s : Shared) (H : Hp) (C : Addr) (cl : List (Str × Addr)) (fp : List Addr), Ok (X.blk s H scope (compEnvC scope cl C X.env) fp) c W.no k → PTs (X.blk s H scope (compEnvC scope cl C X.env) fp) ifs (tT c W.no b))
    (he : ∀ (s : Shared) (H : Hp) (C : Addr) (cl : List (Str × Addr)) (fp : List Addr), Ok (X.blk s H scope (compEnvC scope cl C X.env) fp) c W.no k → PE (X.blk s H scope (compEnvC scope cl C X.env) fp) elt (tD c W.no e)) (hsw : swapsWith (.ListComp elt [⟨tg, iter, ifs, 0⟩] scope pos) (some (.Name y py)) spos.line X.env = pure true) (hs : ∀ x, foldedSetIterable iter X.env x = pure x := by intro _; rfl)
    (hy : X.N[i]? = some y := by rfl) (hyl : X.env.scope.names.lookup y = some .local := by rfl) :
    PS X (.Assign [.Name y py] (.ListComp elt [⟨tg, iter, ifs, 0⟩] scope pos) spos) (tS c W (sSetO i (eLc (own.map (·.2)) fi t b e))) :=
  PS.imp (ps_setLc O.calm O.nd hy hyl hsw hi ok (fun s H C cl fp => hg s H C cl fp O.blk) (fun s H C cl fp => ht s H C cl fp O.blk) (fun s H C cl fp => he s H C cl fp O.blk) hs) fun D σ H ⟨F, ρ, S, h⟩ => tLc_of hj ⟨F, ρ, S, (OutP.lift S h).imp fun d F1 H1 G1 q p hp hf ho => by
    have S1 := S.grow G1
    refine q _ F1 H1 (Ex.refl _) (S1.setO hp (hf.back S.gr.hh) ho fun j e hj hz => ?_)
    obtain ⟨r, k1, k2, k3, k4⟩ := S.own j e hj
    rw [hz] at k1
    cases k1
    obtain ⟨o, e1, e2⟩ := k4.there
    obtain ⟨ps, z⟩ := hf o e1
    exact e2 ps z⟩
theorem s_setLc {i : Nat} {y : Str} {py spos : Pos} {elt tg iter : Expr} {ifs : List Expr} {scope : Scope} {own : List (Str × Nat)} {js : List Nat} {fi : Rho → Out (List D)} {t : TF} {b : Rho → Out Bool} {e : Rho → Out D} (O : Ok X c W k) (ok : BlkOk X.N X.env.scope scope own) (hj : ∀ j ∈ js, j ∈ own.map (·.2)) (hi : PI X tg iter (tI c W fi))
    (hg : ∀ (s : Shared) (H : Hp) (C : Addr) (cl : List (Str × Addr)) (fp : List Addr), Ok (X.blk s H scope (compEnvC scope cl C X.env) fp) c W.no k → PG (X.blk s H scope (compEnvC scope cl C X.env) fp) tg (tG c W.no js t)) (ht : ∀ (s : Shared) (H : Hp) (C : Addr) (cl : List (Str × Addr)) (fp : List Addr), Ok (X.blk s H scope (compEnvC scope cl C X.env) fp) c W.no k → PTs (X.blk s H scope (compEnvC scope cl C X.env) fp) ifs (tT c W.no b))
    (he : ∀ (s : Shared) (H : Hp) (C : Addr) (cl : List (Str × Addr)) (fp : List Addr), Ok (X.blk s H scope (compEnvC scope cl C X.env) fp) c W.no k → PE (X.blk s H scope (compEnvC scope cl C X.env) fp) elt (tD c W.no e)) (hsw : swapsWith (.ListComp elt [⟨tg, iter, ifs, 0⟩] scope pos) (some (.Name y py)) spos.line X.env = pure true) (hs : ∀ x, foldedSetIterable iter X.env x = pure x := by intro _; rfl)
    (hy : X.N[i]? = some y := by rfl) (hyl : X.env.scope.names.lookup y = some .local := by rfl) :
    PS X (.Assign [.Name y py] (.ListComp elt [⟨tg, iter, ifs, 0⟩] scope pos) spos) (tS c W (sAsg (gN i) (eLc (own.map (·.2)) fi t b e))) :=
  PS.imp (ps_setLc O.calm O.nd hy hyl hsw hi ok (fun s H C cl fp => hg s H C cl fp O.blk) (fun s H C cl fp => ht s H C cl fp O.blk) (fun s H C cl fp => he s H C cl fp O.blk) hs) fun D σ H ⟨F, ρ, S, h⟩ => tLc_of hj (tO.val ⟨F, ρ, S, (OutP.lift S h).imp fun d F1 H1 G1 q v rv => q _ F1 H1 (Ex.refl _) ((S.grow G1).setV rv)⟩)
end
end BD
set_option Elab.async false
set_option maxRecDepth 100000
set_option maxHeartbeats 4000000
/-! The layer BD: open lists, defs. -/
namespace BD
open PySem PySem.Spec PyProof.Rows L2 LamX

def ownL (ρ : Rho) (i : Nat) (k : List D → SO) : SO := match ρ[i]? with
  | some (.own (.lst ds)) => k ds
  | _ => .bad
def ownD (ρ : Rho) (i : Nat) (k : List Str → List D → SO) : SO := match ρ[i]? with
  | some (.own (.dic ks ds)) => k ks ds
  | _ => .bad
/-- x.append(e) -/
def sApp (i : Nat) (f : Rho → Out D) : SF := fun ρ => ownL ρ i fun ds => lift (f ρ) ρ fun d => if ds.length ≤ 100000 then .nx (ρ.set i (.own (.lst (ds ++ [d])))) else .bad
/-- x.extend(e), x += e -/
def sExt (i : Nat) (f : Rho → Out D) : SF := fun ρ => ownL ρ i fun ds => lift (f ρ) ρ fun d => match d with
  | .lst es => if ds.length + es.length ≤ 100000 then .nx (ρ.set i (.own (.lst (ds ++ es)))) else .bad
  | _ => .bad
/-- target = x.pop() -/
def sPop (t : TF) (i : Nat) : SF := fun ρ => ownL ρ i fun ds => match ds.getLast? with
  | some d => oS (t d (ρ.set i (.own (.lst ds.dropLast)))) .nx
  | none => .bad
def sFrz (i : Nat) : SF := fun ρ => match ρ[i]? with
  | some (.own d) => .nx (ρ.set i (.val d))
  | _ => .bad
/-- return x, x open -/
def sRetOw (i : Nat) : SF := fun ρ => match ρ[i]? with
  | some (.own d) => .ro d
  | _ => .bad
/-- x != [], x == [] of an open list -/
def tNeO (i : Nat) : Rho → Out Bool := fun ρ => match ρ[i]? with
  | some (.own (.lst ds)) => .ok (!ds.isEmpty)
  | _ => .bad
section
variable {X : Cx} {c : CC} {W : WW} {k : Nat} {σ : L2.St} {F0 H0 F H : Hp} {Q : VK} {pos : Pos} {ρ : Rho}
theorem StR.mutO {i : Nat} {d d' : D} {p : Addr} {o o' : HO} (S : StR c F0 H0 F H σ ρ) (hi : ρ[i]? = some (.own d)) (hs : σ[i]? = some (some (.ref p))) (hp : H p = some o) (n1 : ∀ ps, o ≠ .tbl ps) (n2 : ∀ φ, o ≠ .ext φ) (ho : OwnAt c F (upd H p o') p d') :
    StR c F0 H0 F (upd H p o') σ (ρ.set i (.own d')) := by
  obtain ⟨p', a1, a2, a3, a4⟩ := S.own i d hi
  rw [hs] at a1
  cases a1
  have hlt : i < ρ.length := (List.getElem?_eq_some_iff.mp hi).1
  refine ⟨S.gr.mutO a3 a2 hp n1 n2, by rw [List.length_set]; exact S.len, fun j e q => ?_, fun j e q => ?_, fun j l e f r q1 q2 q3 q4 => ?_⟩
  · by_cases hj : i = j
    · subst hj
      rw [List.getElem?_set_self hlt] at q
      cases q
    · rw [List.getElem?_set_ne hj] at q
      exact S.val j e q
  · by_cases hj : i = j
    · subst hj
      rw [List.getElem?_set_self hlt] at q
      cases q
      exact ⟨p, hs, a2, a3, ho⟩
    · rw [List.getElem?_set_ne hj] at q
      obtain ⟨r, b1, b2, b3, b4⟩ := S.own j e q
      have hrp : r ≠ p := fun z => hj (S.dis i j d e p hi q hs (by rw [← z]; exact b1))
      refine ⟨r, b1, b2, b3, ?_⟩
      cases e with
      | lst ds => obtain ⟨vs, z1, z2⟩ := b4; exact ⟨vs, by rw [upd_ne hrp]; exact z1, z2⟩
      | dic ks ds => obtain ⟨vs, z1, z2, z3⟩ := b4; exact ⟨vs, by rw [upd_ne hrp]; exact z1, z2, z3⟩
      | _ => exact False.elim b4
  · have nz : ∀ (j : Nat) e, (ρ.set i (.own d'))[j]? = some (.own e) → ∃ e', ρ[j]? = some (.own e') := fun j e q => by
      by_cases hj : i = j
      · subst hj; exact ⟨d, hi⟩
      · rw [List.getElem?_set_ne hj] at q; exact ⟨e, q⟩
    obtain ⟨e', z1⟩ := nz j e q1
    obtain ⟨f', z2⟩ := nz l f q2
    exact S.dis j l e' f' r z1 z2 q3 q4
/-- an open list in its slot -/
theorem StR.ownL {i : Nat} {ds : List D} (S : StR c F0 H0 F H σ ρ) (hi : ρ[i]? = some (.own (.lst ds))) : ∃ p vs, σ[i]? = some (some (.ref p)) ∧ H p = some (.lst vs) ∧ Reps c F ds vs := by
  obtain ⟨p, h1, h2, h3, vs, h4, h5⟩ := S.own i _ hi
  exact ⟨p, vs, h1, h4, h5⟩
theorem ownL_ok {i : Nat} {g : List D → SO} {D' : Ends} (h : OutS c W.W D' W.F0 W.H0 F (ownL ρ i g)) : ∃ ds, ρ[i]? = some (.own (.lst ds)) ∧ OutS c W.W D' W.F0 W.H0 F (g ds) := by
  unfold ownL at h
  split at h
  · exact ⟨_, by assumption, h⟩
  · exact False.elim h
/-- own slots, behind an expression -/
theorem ownL_then {i : Nat} {g : List D → SO} {D' : Ends} (S : StR c W.F0 W.H0 F H σ ρ) (h : OutS c W.W D' W.F0 W.H0 F (BD.ownL ρ i g)) : ∃ p vs ds, ρ[i]? = some (.own (.lst ds)) ∧ σ[i]? = some (some (.ref p)) ∧ H p = some (.lst vs) ∧ OutS c W.W D' W.F0 W.H0 F (g ds) := by
  obtain ⟨ds, e, h⟩ := ownL_ok h
  obtain ⟨p, vs, h1, h2, h3⟩ := S.ownL e
  exact ⟨p, vs, ds, e, h1, h2, h⟩
theorem StR.ownL' {i : Nat} {ds : List D} {p : Addr} (S : StR c F0 H0 F H σ ρ) (hi : ρ[i]? = some (.own (.lst ds))) (hs : σ[i]? = some (some (.ref p))) : ∃ vs, H p = some (.lst vs) ∧ Reps c F ds vs := by
  obtain ⟨p', vs, h1, h2, h3⟩ := S.ownL hi
  rw [hs] at h1
  cases h1
  exact ⟨vs, h2, h3⟩
theorem app_of {i : Nat} {f : Rho → Out BD.D} {D' : Ends} (hK : X.K = c.K) (q : tS c W (sApp i f) D' σ H) : tDrop (tBM X.K "list" rAppend (tVar i) (tCons (tD c W f) tNil)) D' σ H := by
  obtain ⟨F, ρ, S, h⟩ := q
  obtain ⟨p, vs, ds, e, h1, h2, h⟩ := ownL_then S h
  refine ⟨.ref p, h1, .inl ⟨rfl, vs, SqL.of h2⟩, F, ρ, S, (OutP.lift S h).imp fun d F1 H1 G1 q v rv => ?_⟩
  have S1 := S.grow G1
  obtain ⟨us, k1, k2⟩ := S1.ownL' e h1
  split at q
  · rename_i hl
    refine ⟨p, us, v, rfl, rfl, k1, by rw [sizeLine_eq, ← k2.length]; omega, ?_⟩
    exact q σ F1 _ (Ex.refl _) (S1.mutO e h1 k1 (fun ps z => nomatch z) (fun φ z => nomatch z) ⟨_, upd_same, k2.append (Reps.one rv)⟩)
  · exact False.elim q
theorem ext_of {i : Nat} {f : Rho → Out BD.D} {D' : Ends} (hK : X.K = c.K) (q : tS c W (sExt i f) D' σ H) : tDrop (tBM X.K "list" rExtend (tVar i) (tCons (tD c W f) tNil)) D' σ H := by
  obtain ⟨F, ρ, S, h⟩ := q
  obtain ⟨p, vs, ds, e, h1, h2, h⟩ := ownL_then S h
  refine ⟨.ref p, h1, .inl ⟨rfl, vs, SqL.of h2⟩, F, ρ, S, (OutP.lift S h).imp fun d F1 H1 G1 q v rv => ?_⟩
  have S1 := S.grow G1
  obtain ⟨us, k1, k2⟩ := S1.ownL' e h1
  split at q
  · split at q
    · rename_i es hl
      obtain ⟨b, zs, rfl, z1, z2⟩ := rv
      refine ⟨p, b, us, zs, rfl, rfl, k1, G1.fh _ _ z1, by rw [sizeLine_eq, ← k2.length, ← z2.length]; omega, ?_⟩
      exact q σ F1 _ (Ex.refl _) (S1.mutO e h1 k1 (fun ps z => nomatch z) (fun φ z => nomatch z) ⟨_, upd_same, k2.append z2⟩)
    · exact False.elim q
  · exact False.elim q
theorem set_same {i : Nat} {v : Option V} (h : σ[i]? = some v) : σ.set i v = σ := by
  apply List.ext_getElem?
  intro j
  by_cases hj : i = j
  · subst hj
    have hl := (List.getElem?_eq_some_iff.mp h).1
    rw [List.getElem?_set_self hl, h]
  · rw [List.getElem?_set_ne hj]
theorem aug_of {i : Nat} {f : Rho → Out BD.D} {D' : Ends} (q : tS c W (sExt i f) D' σ H) : tAug i (tD c W f) rExt2 D' σ H := by
  obtain ⟨F, ρ, S, h⟩ := q
  obtain ⟨p, vs, ds, e, h1, h2, h⟩ := ownL_then S h
  refine ⟨.ref p, h1, F, ρ, S, (OutP.lift S h).imp fun d F1 H1 G1 q v rv => ?_⟩
  have S1 := S.grow G1
  obtain ⟨us, k1, k2⟩ := S1.ownL' e h1
  split at q
  · split at q
    · rename_i es hl
      obtain ⟨b, zs, rfl, z1, z2⟩ := rv
      refine ⟨p, b, us, zs, rfl, rfl, k1, G1.fh _ _ z1, by rw [sizeLine_eq, ← k2.length, ← z2.length]; omega, ?_⟩
      show D'.nx (σ.set i (some (.ref p))) _
      rw [set_same h1]
      exact q σ F1 _ (Ex.refl _) (S1.mutO e h1 k1 (fun ps z => nomatch z) (fun φ z => nomatch z) ⟨_, upd_same, k2.append z2⟩)
    · exact False.elim q
  · exact False.elim q
section
variable {i : Nat} {x : Str} {e : Expr} {f : Rho → Out BD.D} {p1 apos cpos : Pos}
theorem s_app (O : Ok X c W k) (he : PE X e (tD c W f)) (hN : X.N[i]? = some x := by rfl) (hv : Vis X.env.scope x := by first | exact Or.inl rfl | exact Or.inr (Or.inl rfl)) (hd : (x == ("__debug__" : Str)) = false := by decide) (hcd : (x == ("__classdict__" : Str)) = false := by decide)
    (hst : starEach [e] X.env = (false, eval e X.env) :: starEach [] X.env := by rfl)
    (hbase : attributeBase (.Name x p1) "append" X.env (eval (.Name x p1) X.env) = eval (.Name x p1) X.env := by rfl)
    (hfew : ((backTo cpos (starEach [e] X.env)).all (fun x => !x.1) && (backToKw cpos (keywordEach [] X.env)).all (fun x => x.1.isSome) && decide ([e].length + ([] : List Keyword).length + (if ([] : List Keyword).isEmpty then 0 else 1) < 30)) = true := by rfl)
    (hline : (apos.endLine == cpos.line) = true := by rfl) (hpl : (backTo cpos (starEach [] X.env)).any (·.1) = false := by rfl)
    (hs : swapsWith (.Call (.Attribute (.Name x p1) "append" apos) [e] [] cpos) none pos.line X.env = pure false := by rfl) :
    PS X (.Expr (.Call (.Attribute (.Name x p1) "append" apos) [e] [] cpos) pos) (tS c W (sApp i f)) :=
  PS.imp (ps_expr (pe_bm PySem.F.plainAttrs_list PySem.F.slot_list_append PySem.F.type_list_append mt_append (pe_var hN hv hd hcd) (pa_cons he pa_nil hst) hbase hfew hline hst hpl) hs) fun D' σ H q => app_of O.K q
theorem s_ext (O : Ok X c W k) (he : PE X e (tD c W f)) (hN : X.N[i]? = some x := by rfl) (hv : Vis X.env.scope x := by first | exact Or.inl rfl | exact Or.inr (Or.inl rfl)) (hd : (x == ("__debug__" : Str)) = false := by decide) (hcd : (x == ("__classdict__" : Str)) = false := by decide)
    (hst : starEach [e] X.env = (false, eval e X.env) :: starEach [] X.env := by rfl)
    (hbase : attributeBase (.Name x p1) "extend" X.env (eval (.Name x p1) X.env) = eval (.Name x p1) X.env := by rfl)
    (hfew : ((backTo cpos (starEach [e] X.env)).all (fun x => !x.1) && (backToKw cpos (keywordEach [] X.env)).all (fun x => x.1.isSome) && decide ([e].length + ([] : List Keyword).length + (if ([] : List Keyword).isEmpty then 0 else 1) < 30)) = true := by rfl)
    (hline : (apos.endLine == cpos.line) = true := by rfl) (hpl : (backTo cpos (starEach [] X.env)).any (·.1) = false := by rfl)
    (hs : swapsWith (.Call (.Attribute (.Name x p1) "extend" apos) [e] [] cpos) none pos.line X.env = pure false := by rfl) :
    PS X (.Expr (.Call (.Attribute (.Name x p1) "extend" apos) [e] [] cpos) pos) (tS c W (sExt i f)) :=
  PS.imp (ps_expr (pe_bm PySem.F.plainAttrs_list PySem.F.slot_list_extend PySem.F.type_list_extend mt_extend (pe_var hN hv hd hcd) (pa_cons he pa_nil hst) hbase hfew hline hst hpl) hs) fun D' σ H q => ext_of O.K q
/-- x += e -/
theorem s_augL (O : Ok X c W k) (he : PE X e (tD c W f)) (hi : X.N[i]? = some x := by rfl) (hx : Loc X.env.scope x := by first | exact Or.inl rfl | exact Or.inr rfl)
    (hf : X.fn x = true ∨ X.env.scope.names.lookup x = some .local := by first | exact .inl rfl | exact .inr rfl) : PS X (.AugAssign (.Name x p1) .Add e pos) (tS c W (sExt i f)) :=
  PS.imp (ps_aug O.nd hi hx he (ti := rExt2) iop_ext hf) fun D' σ H q => aug_of q
end
theorem pop_of {i : Nat} {t : TF} {js : List Nat} {D' : Ends} (hK : X.K = c.K) (q : tS c W (sPop t i) D' σ H) : tAsg (tBM0 X.K "list" rPop (tVar i)) (tG c W js t) D' σ H := by
  obtain ⟨F, ρ, S, h⟩ := q
  obtain ⟨p, vs, ds, e, h1, h2, h⟩ := ownL_then S h
  obtain ⟨us, k1, k2⟩ := S.ownL' e h1
  split at h
  · rename_i d hd
    have hl : ds[ds.length - 1]? = some d := by rw [← List.getLast?_eq_getElem?]; exact hd
    obtain ⟨v, z1, z2⟩ := k2.get hl
    refine ⟨.ref p, h1, .inl ⟨rfl, vs, SqL.of h2⟩, p, us, v, rfl, rfl, k1, by rw [← k2.length]; exact z1, ?_⟩
    have S1 : StR c W.F0 W.H0 F (upd H p (.lst us.dropLast)) σ (ρ.set i (.own (.lst ds.dropLast))) := S.mutO e h1 k1 (fun ps z => nomatch z) (fun φ z => nomatch z) ⟨_, upd_same, by
      rw [List.dropLast_eq_take, List.dropLast_eq_take, ← k2.length]; exact k2.take _⟩
    cases et : t d (ρ.set i (.own (.lst ds.dropLast))) with
    | none => rw [et] at h; exact False.elim h
    | some ρ' =>
      rw [et] at h
      exact ⟨F, _, d, S1, z2, ρ', et, fun σ' S' _ _ => h σ' F _ (Ex.refl _) S'⟩
  · exact False.elim h
theorem s_pop {i : Nat} {x : Str} {tg : Expr} {t : TF} {js : List Nat} {p1 apos cpos : Pos} (O : Ok X c W k) (hg : PG X tg (tG c W js t)) (hN : X.N[i]? = some x := by rfl) (hv : Vis X.env.scope x := by first | exact Or.inl rfl | exact Or.inr (Or.inl rfl)) (hd : (x == ("__debug__" : Str)) = false := by decide) (hcd : (x == ("__classdict__" : Str)) = false := by decide)
    (hbase : attributeBase (.Name x p1) "pop" X.env (eval (.Name x p1) X.env) = eval (.Name x p1) X.env := by rfl) (hline : (apos.endLine == cpos.line) = true := by rfl)
    (hs : swapsWithSole [tg] (.Call (.Attribute (.Name x p1) "pop" apos) [] [] cpos) pos.line X.env = pure false := by rfl) (hw : swappedStores [tg] (.Call (.Attribute (.Name x p1) "pop" apos) [] [] cpos) X.env = pure none := by rfl)
    (h1 : (assignEach [tg] X.env).map (·.2) = [assign tg X.env] := by rfl) : PS X (.Assign [tg] (.Call (.Attribute (.Name x p1) "pop" apos) [] [] cpos) pos) (tS c W (sPop t i)) :=
  PS.imp (ps_asg (pe_bm0 PySem.F.plainAttrs_list PySem.F.slot_list_pop PySem.F.type_list_pop mt_pop (pe_var hN hv hd hcd) hbase hline) hg hs hw h1) fun D' σ H q => pop_of O.K q
/-- an open one is frozen ahead of a statement -/
theorem ss_frz {i : Nat} {sts : List Stmt} {f : SF} (h : PSs X sts (tS c W f)) : PSs X sts (tS c W (sSeq (sFrz i) f)) := PSs.imp h fun D' σ H ⟨F, ρ, S, q⟩ => by
  unfold sSeq sFrz at q
  cases e : ρ[i]? with
  | none => rw [e] at q; exact False.elim q
  | some s =>
    rw [e] at q
    cases s with
    | em => exact False.elim q
    | val d => exact False.elim q
    | own d =>
      obtain ⟨F1, ex, S1⟩ := S.frz e
      exact ⟨F1, _, S1, OutS.mono q ex⟩
theorem s_retOw {i : Nat} {x : Str} {p1 : Pos} (hN : X.N[i]? = some x := by rfl) (hv : Vis X.env.scope x := by first | exact Or.inl rfl | exact Or.inr (Or.inl rfl)) (hd : (x == ("__debug__" : Str)) = false := by decide) (hcd : (x == ("__classdict__" : Str)) = false := by decide) :
    PS X (.Return (some (.Name x p1)) pos) (tS c W (sRetOw i)) := PS.imp (ps_ret (pe_var hN hv hd hcd)) fun D' σ H ⟨F, ρ, S, q⟩ => by
  unfold sRetOw at q
  split at q
  · rename_i d e
    obtain ⟨p, h1, h2, h3, h4⟩ := S.own i d e
    exact ⟨_, h1, q F H S.gr p h2 h3 h4⟩
  · exact False.elim q
/-! ### a def by its body -/
def startR (n : Nat) (ds : List D) : Rho := ds.map .val ++ List.replicate (n - ds.length) .em
def finS : SO → Out D
  | .nx _ => .ok .non
  | .rt d => .ok d
  | .ro d => .ok d
  | .exc x _ => .exc x
  | _ => .bad
@[simp] theorem finS_rt (d : D) : finS (.rt d) = .ok d := rfl
@[simp] theorem finS_ro (d : D) : finS (.ro d) = .ok d := rfl
@[simp] theorem finS_nx (ρ : Rho) : finS (.nx ρ) = .ok .non := rfl
@[simp] theorem finS_exc (x : Xn) (ρ : Rho) : finS (.exc x ρ) = .exc x := rfl
theorem start_str {ds : List D} {vs : List V} {N : List Str} (b : Bs c F H) (r : Reps c F ds vs) : StR c F H F H (L2.start N vs) (startR N.length ds) where
  gr := b.refl
  len := by unfold L2.start startR; rw [List.length_append, List.length_append, List.length_map, List.length_map, List.length_replicate, List.length_replicate, r.length]
  val := fun i d e => by
    unfold startR at e
    unfold L2.start
    by_cases hi : i < ds.length
    · rw [List.getElem?_append_left (by rw [List.length_map]; exact hi), List.getElem?_map] at e
      obtain ⟨d', e1, e2⟩ := Option.map_eq_some_iff.mp e
      cases e2
      obtain ⟨v, k1, k2⟩ := r.get e1
      refine ⟨v, ?_, k2⟩
      rw [List.getElem?_append_left (by rw [List.length_map, ← r.length]; exact hi), List.getElem?_map, k1] <;> rfl
    · rw [List.getElem?_append_right (by rw [List.length_map]; omega), List.getElem?_replicate] at e
      split at e <;> cases e
  own := fun i d e => by
    unfold startR at e
    by_cases hi : i < ds.length
    · rw [List.getElem?_append_left (by rw [List.length_map]; exact hi), List.getElem?_map] at e
      obtain ⟨d', e1, e2⟩ := Option.map_eq_some_iff.mp e
      cases e2
    · rw [List.getElem?_append_right (by rw [List.length_map]; omega), List.getElem?_replicate] at e
      split at e <;> cases e
  dis := fun i j d e p q => by
    unfold startR at q
    by_cases hi : i < ds.length
    · rw [List.getElem?_append_left (by rw [List.length_map]; exact hi), List.getElem?_map] at q
      obtain ⟨d', e1, e2⟩ := Option.map_eq_some_iff.mp q
      cases e2
    · rw [List.getElem?_append_right (by rw [List.length_map]; omega), List.getElem?_replicate] at q
      split at q <;> cases q
end
/-- the context of a def's body -/
abbrev BX (P : Program) (w : World) (c : CC) (base : Heap) (N : List Str) (x : Str) (st : Stmt) (fa : Addr) (cdv : Value) (A : Around) (outer : List Env) (s : Shared) (H : Hp) (E : XK) : Cx :=
  cxOf (L2.CX P w) P w c.K c.mg base N x (defScope st) fa cdv A outer s H E
theorem fnD {P : Program} {w : World} {c : CC} {base : Heap} {x : Str} {st : Stmt} {fa : Addr} {fd : FuncData} {N ps : List Str} {k : Nat} {f : List D → Out D} {sem : SF} (Fn : L2.Fun c.K x x st fa fd) (S : FnScope N ps (defScope st)) (ar : Ar ps.length f)
    (body : ∀ (cdv : Value) (A : Around) (outer : List Env) (s : Shared) (H : Hp) (E : XK) (W : WW), Ok (BX P w c base N x st fa cdv A outer s H E) c W k → PassesOwn (model P w) (BX P w c base N x st fa cdv A outer s H E).A (BX P w c base N x st fa cdv A outer s H E).env (BX P w c base N x st fa cdv A outer s H E).xe →
      PSs (BX P w c base N x st fa cdv A outer s H E) (defBody st) (tS c W sem))
    (eq : ∀ ds, f ds ≠ .bad → finS (sem (startR N.length ds)) = f ds) : FnOk P w c.K c.mg base (L2.CX P w) (k + 1) fa fd ps (SpD c f) := by
  have ln : ∀ vs H Q E, SpD c f vs H Q E → vs.length = ps.length := fun vs H Q E ⟨F, ds, b, r, h⟩ => by
    rw [← r.length]
    refine ar ds fun z => ?_
    rw [z] at h
    exact h
  refine Fn.okX S ln fun cdv A outer s H vs Q E hr hsp => ?_
  obtain ⟨F, ds, b, r, h⟩ := hsp
  have W : WW := ⟨fun cls d _ H => E cls d H, F, H⟩
  refine ⟨_, body cdv A outer s H E ⟨fun cls d _ H => E cls d H, F, H⟩ ⟨rfl, rfl, rfl, takes_of rfl rfl rfl rfl, hr, S.nd⟩ (passes_of rfl), F, startR N.length ds, start_str b r, ?_⟩
  have hne : f ds ≠ .bad := fun z => by rw [z] at h; exact h
  rw [← eq ds hne] at h
  revert h
  cases sem (startR N.length ds) with
  | nx ρ => exact fun h σ F' H' _ S' => h F' H' S'.gr _ rfl
  | rt d => exact fun h F' H' g v rv => h F' H' g v rv
  | ro d =>
      intro h F' H' g p hp hf ho
      obtain ⟨o, e1, e2, e3, e4⟩ := ho.freeze g.toBs hp
      refine h (upd F' p o) H' ⟨e3, g.ff.trans (ex_new hp), g.hh, fun a u q => ?_⟩ _ e4
      by_cases z : a = p
      · rw [z]; exact .inr hf
      · rw [upd_ne z] at q; exact g.nw _ _ q
  | exc x ρ => exact fun h σ F' H' C dx _ S' hx => h F' H' C dx S'.gr hx
  | bk ρ => exact fun h => False.elim h
  | ct ρ => exact fun h => False.elim h
  | bad => exact fun h => False.elim h
theorem cal_of {P : Program} {w : World} {c : CC} {base : Heap} {x : Str} {st : Stmt} {fa : Addr} {fd : FuncData} {N ps : List Str} {k : Nat} {f : List D → Out D} {sem : SF} (Fn : L2.Fun c.K x x st fa fd) (hm : c.mg x = some (.ref fa)) (hb : Binds c.K fd ps []) (S : FnScope N ps (defScope st)) (ar : Ar ps.length f)
    (body : ∀ (cdv : Value) (A : Around) (outer : List Env) (s : Shared) (H : Hp) (E : XK) (W : WW), Ok (BX P w c base N x st fa cdv A outer s H E) c W k → PassesOwn (model P w) (BX P w c base N x st fa cdv A outer s H E).A (BX P w c base N x st fa cdv A outer s H E).env (BX P w c base N x st fa cdv A outer s H E).xe →
      PSs (BX P w c base N x st fa cdv A outer s H E) (defBody st) (tS c W sem))
    (eq : ∀ ds, f ds ≠ .bad → finS (sem (startR N.length ds)) = f ds) : Cal P w c base (k + 1) x f := ⟨fa, fd, ps, fnD Fn S ar body eq, hm, Fn.kp, hb⟩

/-! ### sep.join(list of texts) -/
def strsOf : List D → Option (List Str)
  | [] => some []
  | .str x :: r => (strsOf r).map (x :: ·)
  | _ => none
section
variable {X : Cx} {c : CC} {W : WW} {k : Nat} {σ : L2.St} {F H : Hp} {Q : VK} {pos : Pos}
theorem strsOf_rep : ∀ {ds : List D} {ns : List Str} {vs : List V}, strsOf ds = some ns → Reps c F ds vs → vs = ns.map V.str
  | [], ns, vs, e, h => by cases e; exact h
  | .str i :: r, ns, vs, e, ⟨v, u, e1, e2, e3⟩ => by
    obtain ⟨ms, q1, q2⟩ := Option.map_eq_some_iff.mp e
    subst q2
    rw [e1, strsOf_rep q1 e3, show v = _ from e2]
    rfl
def dJoin (a : Str) : D → Option D
  | .lst ds => (match strsOf ds with
    | some ys => if (ys.map (·.length)).sum + ys.length * a.length ≤ 1000000 then some (.str (Txt.join a ys)) else none
    | none => none)
  | _ => none
/-- a text's method with one argument -/
def eStr1 (g : Str → D → Option D) (f h : Rho → Out D) : Rho → Out D := fun ρ => (f ρ).bind fun d => match d with
  | .str a => (h ρ).bind fun b => ofO (g a b)
  | _ => .bad
theorem tM1_of {r : V → List V → Hp → VK → Prop} {g : Str → D → Option D} (L : ∀ (F H : Hp) (a : Str) (b d : D) (y : V) (Q : VK), Bs c F H → Rep c F b y → g a b = some d → Goes c F H Q d → r (.str a) [y] H Q) {f h : Rho → Out D} (q : tD c W (eStr1 g f h) σ H Q) : tM1 r (tD c W f) (tD c W h) σ H Q := by
  obtain ⟨F, ρ, S, q⟩ := q
  refine ⟨F, ρ, S, (OutP.bind q).imp fun d F1 H1 G1 q1 x rx => ?_⟩
  split at q1
  · rename_i a
    cases rx
    refine ⟨⟨a, rfl⟩, F1, ρ, S.grow G1, (OutP.bind q1).imp fun b F2 H2 G2 q2 y ry => ?_⟩
    obtain ⟨d, e, go⟩ := OutP.goes q2
    exact L F2 H2 a b d y Q G2.toBs ry e go
  · exact False.elim q1
theorem d_join {o e : Expr} {f h : Rho → Out D} {apos : Pos} (hK : X.K = c.K) (ho : PE X o (tD c W f)) (he : PE X e (tD c W h)) (hs : starEach [e] X.env = [(false, eval e X.env)] := by rfl) (hbase : attributeBase o "join" X.env (eval o X.env) = eval o X.env := by rfl) (hline : (apos.endLine == pos.line) = true := by rfl) :
    PE X (.Call (.Attribute o "join" apos) [e] [] pos) (tD c W (eStr1 dJoin f h)) :=
  PE.imp (pe_join ho he hs hbase hline) fun σ H Q q => tM1_of (fun F H a b d y Q B ry e go => by
    unfold dJoin at e
    split at e
    · split at e
      · split at e
        · rename_i ys hy hl
          cases e
          obtain ⟨p, vs, rfl, h1, h2⟩ := ry
          have hv := strsOf_rep hy h2
          subst hv
          exact ⟨a, p, ys, rfl, rfl, .inl (SqL.of (B.fh _ _ h1)), by omega, go.at B rfl⟩
        · cases e
      · cases e
    · cases e) q
end
end BD
set_option Elab.async false
set_option maxRecDepth 100000
set_option maxHeartbeats 4000000
/-! The layer BD: exceptions kept, truth of values, the rest. -/
namespace BD
open PySem PySem.Spec PyProof.Rows L2 LamX

section
variable {X : Cx} {c : CC} {W : WW} {k : Nat} {σ : L2.St} {F0 H0 F H : Hp} {Q : VK} {pos : Pos} {ρ : Rho}
theorem d_one {op} {a : Expr} {f : Rho → Out D} (h : PE X a (tD c W f)) : PE X (.BoolOp op [a] pos) (tD c W f) := pe_one h
theorem d_orV {a b : Expr} {rest : List Expr} {f g : Rho → Out D} (hK : X.K = c.K) (ha : PE X a (tD c W f)) (hb : PE X (.BoolOp .Or (b :: rest) pos) (tD c W g)) : PE X (.BoolOp .Or (a :: b :: rest) pos) (tD c W (eOrV f g)) :=
  PE.imp (pe_orT ha hb) fun σ H Q ⟨F, ρ, S, q⟩ => ⟨F, ρ, S, (OutP.bind q).imp fun d F1 H1 G1 q1 x rx => by
    cases e : truD d with
    | none => rw [e] at q1; exact False.elim q1
    | some b =>
      rw [e] at q1
      refine ⟨b, by rw [hK]; exact TruV.of G1.toBs rx e, ?_⟩
      have q2 := OutP.bind q1 F1 H1 G1.toBs.refl
      cases b with
      | true => rw [if_pos rfl]; rw [if_pos rfl] at q2; exact q2 F1 H1 G1.toBs.refl x rx
      | false => rw [if_neg Bool.false_ne_true]; rw [if_neg Bool.false_ne_true] at q2; exact ⟨F1, ρ, S.grow G1, q2⟩⟩
theorem d_andV {a b : Expr} {rest : List Expr} {f g : Rho → Out D} (hK : X.K = c.K) (ha : PE X a (tD c W f)) (hb : PE X (.BoolOp .And (b :: rest) pos) (tD c W g)) : PE X (.BoolOp .And (a :: b :: rest) pos) (tD c W (eAndV f g)) :=
  PE.imp (pe_andT ha hb) fun σ H Q ⟨F, ρ, S, q⟩ => ⟨F, ρ, S, (OutP.bind q).imp fun d F1 H1 G1 q1 x rx => by
    cases e : truD d with
    | none => rw [e] at q1; exact False.elim q1
    | some b =>
      rw [e] at q1
      refine ⟨b, by rw [hK]; exact TruV.of G1.toBs rx e, ?_⟩
      have q2 := OutP.bind q1 F1 H1 G1.toBs.refl
      cases b with
      | false => rw [if_neg Bool.false_ne_true]; rw [if_neg Bool.false_ne_true] at q2; exact q2 F1 H1 G1.toBs.refl x rx
      | true => rw [if_pos rfl]; rw [if_pos rfl] at q2; exact ⟨F1, ρ, S.grow G1, q2⟩⟩
def eNotV (f : Rho → Out D) : Rho → Out D := fun ρ => (f ρ).bind fun d => (ofO (truD d)).bind fun b => .ok (.bl (!b))
theorem d_notV {a : Expr} {f : Rho → Out D} (hK : X.K = c.K) (ha : PE X a (tD c W f)) : PE X (.UnaryOp .Not a pos) (tD c W (eNotV f)) :=
  PE.imp (pe_notT ha) fun σ H Q ⟨F, ρ, S, q⟩ => ⟨F, ρ, S, (OutP.bind q).imp fun d F1 H1 G1 q1 x rx => by
    cases e : truD d with
    | none => rw [e] at q1; exact False.elim q1
    | some b =>
      rw [e] at q1
      exact ⟨b, by rw [hK]; exact TruV.of G1.toBs rx e, q1 F1 H1 G1.toBs.refl _ rfl⟩⟩
theorem o_dnew : PE X (.Dict [] [] pos) (tO c W (eC (.dic [] []))) := PE.imp pe_dnewK fun σ H Q ⟨F, ρ, S, q⟩ p hp => q F _ (S.bs.newO hp) p (S.bs.fnone hp) (.of hp) ⟨[], upd_same, rfl, rfl⟩
theorem d_dnew : PE X (.Dict [] [] pos) (tD c W (eC (.dic [] []))) := d_own o_dnew
theorem L_isB : RLaw c rIsB dIsB := fun F H x y a b d Q B rx ry e go => by
  unfold dIsB at e
  split at e
  · cases e
    exact ⟨_, _, rx, ry, go.at B rfl⟩
  · cases e
theorem L_notB : RLaw c rNotB dNotB := fun F H x y a b d Q B rx ry e go => by
  unfold dNotB at e
  split at e
  · cases e
    exact ⟨_, _, rx, ry, go.at B rfl⟩
  · cases e
/-! ### an exception is kept: it is an object of the heap from then on -/
theorem inv_track {pins : List (Addr × Obj)} {s : Shared} {a : Addr} {oe : Obj} {vs : Array Value} {cls : Value} {d : Option Addr} (I : Inv X pins σ H s) (ha : s.heap.get? a = some oe) (hz : Zc cls d oe) (hd : oe.data = .fields vs) (na : H a = none) (nL : a ≠ X.env.locals) (new : X.s_0.heap.get? a = none)
    (np : ∀ p ∈ X.pn ++ pins, p.1 ≠ a) : Inv X pins σ (upd H a (ExcO a cls d)) s := by
  have nu : ∀ b u, H b = some u → b ≠ a := fun b u e => ne_of_none e na
  refine ⟨I.ok, I.os, I.bare, ⟨I.base.keep, I.base.slot, fun b o e n hx => ?_, I.base.there, fun b xs e => ?_, fun b o u e => ?_, fun b ps e => ?_⟩, I.loc, I.cell, ?_, fun x cc e => ?_, fun p hp => ?_, fun b u e => ?_, I.len⟩
  · rw [upd_ne (fun z => by rw [z, new] at e; cases e)]
    exact I.base.free b o e n hx
  · have := I.base.tups b xs e
    rw [upd_ne (nu _ _ this)]; exact this
  · have := I.base.frzs b o u e
    rw [upd_ne (nu _ _ this)]; exact this
  · obtain ⟨more, h⟩ := I.base.tbls b ps e
    exact ⟨more, by rw [upd_ne (nu _ _ h)]; exact h⟩
  · rw [upd_ne (Ne.symm nL)]; exact I.free
  · obtain ⟨v, o, ho, hv⟩ := I.cell x cc e
    rw [upd_ne (fun z => by rw [z, ha] at ho; cases ho; rw [hd] at hv; cases hv)]
    exact I.freeC x cc e
  · obtain ⟨e, n, r⟩ := I.pin p hp
    exact ⟨e, by rw [upd_ne (np p hp)]; exact n, r⟩
  · by_cases hb : b = a
    · subst hb
      rw [upd_same] at e
      cases e
      exact ⟨⟨oe, vs, ha, hz, hd⟩, ⟨oe, ha⟩, fun h1 h2 ⟨o, vs, q1, q2, q3⟩ st => ⟨o, vs, st o q1, q2, q3⟩⟩
    · rw [upd_ne hb] at e
      exact (I.hok b u e).stay (fun _ _ _ q => q) (fun e' q => by rw [upd_ne (nu _ _ q)]; exact q) fun e' xs q => by rw [upd_ne (nu _ _ q)]; exact q
/-- the suite's context, nothing pinned for the exception -/
theorem inv_suiteT {pins : List (Addr × Obj)} {s : Shared} (I : Inv X pins σ H s) (a : Addr) : Inv (X.suite a (X.pn ++ pins)) [] σ H s :=
  ⟨I.ok.suite _ _, I.os, I.bare, I.base, I.loc, I.cell, I.free, I.freeC, fun p hp => I.pin p (by rw [List.append_nil] at hp; exact hp), I.hok, I.len⟩
theorem inv_unsuiteT {pins pn' : List (Addr × Obj)} {s : Shared} {a : Addr} (I : Inv (X.suite a (X.pn ++ pins)) pn' σ H s) (ok : X.Ok) : Inv X pins σ H s :=
  ⟨ok, I.os, I.bare, I.base, I.loc, I.cell, I.free, I.freeC, fun p hp => I.pin p (List.mem_append_left _ hp), I.hok, I.len⟩
/-- what 'except c as n: y = n' wishes of an exception of the body; i is n's slot, j y's -/
def wKeep (K : PySem.W.Frag) (cv : Value) (i j : Nat) (Wout : WX) (D : Ends) : WX := fun cls d σ H =>
  ∃ b, PySem.W.exmOne K cls cv = some b ∧ (b = true → ∀ a, H a = none → D.nx (((σ.set i (some (.ref a))).set j (some (.ref a))).set i none) (upd H a (ExcO a cls d))) ∧ (b = false → Wout cls d σ H)
theorem ps_try_keep {x n y : Str} {cv : Value} {i j : Nat} {body : List Stmt} {np p1 p2 p3 pos' : Pos} {tb : WX → TS} {Wout : WX} (hs : X.stack = X.env :: X.outer) (hf : X.env.frame = some X.env.locals) (hex : X.ex = []) (hN : X.N.Nodup) (hi : X.N[i]? = some n) (hj : X.N[j]? = some y) (hln : X.env.kindOf n = some .local) (hly : X.env.kindOf y = some .local)
    (hc : Names X x cv) (tk : Takes X Wout)
    (hb : ∀ (W : WX) (pn : List (Addr × Obj)) (xe : Value → Shared → Prop), Takes (X.tr pn xe) W → PassesOwn (model X.prog X.w) X.A X.env xe → PSs (X.tr pn xe) body (tb W)) (hdn : (n == ("__debug__" : Str)) = false := by decide) (hcn : (n == ("__classdict__" : Str)) = false := by decide)
    (hsw : ∀ a pn, swapsWith (.Name n p2) (some (.Name y p1)) p3.line (X.suite a pn).env = pure false := by intro _ _; rfl) :
    PS X (.Try body [.ExceptHandler (some (.Name x np)) (some n) [.Assign [.Name y p1] (.Name n p2) p3] pos'] [] [] pos) (fun D σ H => tb (wKeep X.K cv i j Wout D) D σ H) := by
  refine ⟨fun pins s σ H D I h => ?_⟩
  have ok := I.ok
  have hfr : X.A.frames = some (X.env :: X.outer) := by rw [ok.frames, hs]
  have hloc : Loc X.env.scope n := .inl hln
  refine wpAny_Try_except ?_
  refine wpAny_mono ((hb (wKeep X.K cv i j Wout D) (X.pn ++ pins) (fun e s₁ => wpAny (model X.prog X.w) X.A (noteFrame e X.env) (fun _ s₂ => wpAny (model X.prog X.w) X.A (setFlight e none) (fun _ s₃ =>
    wpAny (model X.prog X.w) X.A (handleBy e X.env [.ExceptHandler (some (.Name x np)) (some n) [.Assign [.Name y p1] (.Name n p2) p3] pos']) (SP X pins D) X.xe s₃) X.xe s₂) X.xe s₁) (fun u s' xx => ?_) PassesOwn.looking).run [] s σ H D (I.toTry _) h) (fun f s1 hsp => ?_) (fun e s1 he => he)
  · obtain ⟨a, B, sI, pins', σ', H', cls, d, rfl, J', nb, up, sky, na, os, ag, b, hb1, hyes, hno⟩ := xx
    have J : Inv X pins σ' H' sI := J'.ofTry ok
    have sky' : Sky B (X.env :: X.outer) a (Zc cls d) X.env.locals s'.heap := by rw [← hs]; exact sky
    show wpAny (model X.prog X.w) X.A (noteFrame (.ref a) X.env) _ _ _
    refine Sky.land Zc.steady hfr hf sky' fun h3 fl3 up3 => ?_
    have J3 : Inv X pins σ' H' { s' with heap := h3 } := J.landed nb fl3.1 (up.trans up3) os ag
    obtain ⟨oe3, vs3, he3, hz3, hd3⟩ := fl3.there
    have notFr : ∀ {h : Heap} {o : Obj} {vs : Array Value}, h.FunFrames B (X.env :: X.outer) → h.get? a = some o → o.data = .fields vs → a ∉ frs (X.env :: X.outer) := fun {h o vs} ff e dd hm => by
      obtain ⟨_, o', e', hnf⟩ := ff.mem hm
      rw [e] at e'; cases e'
      exact hnf _ dd
    have nfr := notFr fl3.2.2.1 he3 hd3
    have nL : a ≠ X.env.locals := fun z => nfr (List.mem_filterMap.mpr ⟨X.env, List.mem_cons_self, by rw [hf, z]⟩)
    have nF : a ∉ X.fs := fun hm => by
      obtain ⟨e, he, q⟩ := List.mem_filterMap.mp hm
      exact nfr (List.mem_filterMap.mpr ⟨e, List.mem_cons_of_mem _ he, q⟩)
    have nI : sI.heap.get? a = none := by
      cases q : sI.heap.get? a with
      | none => rfl
      | some o =>
        have z := nb a o q (by rw [hs]; exact nfr)
        rw [fl3.2.1] at z; cases z
    have n0 : X.s_0.heap.get? a = none := by
      cases q : X.s_0.heap.get? a with
      | none => rfl
      | some o =>
        · obtain ⟨o', z⟩ := J.base.there a o q (by rw [hex]; simp)
          rw [nI] at z; cases z
    have npin : ∀ p ∈ X.pn ++ pins, p.1 ≠ a := fun p hp z => by
      have := (J.pin p hp).1
      rw [z, nI] at this; cases this
    have S3 := J3.suite he3 hd3 na nL nF
    refine wpAny_handleBy_cons (codeAny_handlers_test ?_) (by intro q; cases q)
    have LT : PySem.W.Looks (model X.prog X.w) h3 (typeOf (.ref a)) cls := fun A Q E s k q => wpAny_typeOf_ref (k _ _ he3) (by rw [hz3.1]; exact q)
    have LM := PySem.W.exm_one (M := model X.prog X.w) (J3.kIn) LT hb1
    have test : ∀ {Q : Value → Shared → Prop} {E : Value → Shared → Prop}, Q cv { s' with heap := h3 } → wpAny (model X.prog X.w) (X.A.mark (some (.ref a))) (eval (.Name x np) X.env) Q E { s' with heap := h3 } := fun {Q E} q => by
      obtain ⟨hg, hdbg, hm | ⟨hm, hv, hnn⟩⟩ := hc
      · exact ld_glob (X := X.suite a ((a, oe3) :: (X.pn ++ pins))) S3 hg hm q hdbg
      · exact ld_blt (X := X.suite a ((a, oe3) :: (X.pn ++ pins))) S3 hg hm hv q hnn hdbg
    refine test (LM.here ?_)
    cases b with
    | true =>
      refine codeAny_handlers_suite_as ?_
      refine HandSPX.lands_againZ fl3 fun h4 fl4 up4 => ?_
      have J4 : Inv X pins σ' H' { s' with heap := h4 } := J.landed nb fl4.1 ((up.trans up3).trans up4) os ag
      obtain ⟨oe4, vs4, he4, hz4, hd4⟩ := fl4.there
      have S4 := inv_suiteT (inv_track J4 he4 hz4 hd4 na nL n0 npin) a
      refine store_ok (X := X.suite a (X.pn ++ pins)) (v := .ref a) S4 hN hi hloc rfl (fun s5 S5 => ?_) (.inr hln)
      have run : PSs (X.suite a (X.pn ++ pins)) [.Assign [.Name y p1] (.Name n p2) p3] (tAsg (tVar i) (gName j)) := pss_one (ps_set (X := X.suite a (X.pn ++ pins)) hN hj (.inl hly) (pe_var (X := X.suite a (X.pn ++ pins)) hi (.inl hln) hdn hcn) (hsw a _) (.inr hly))
      have hlt : i < σ'.length := by rw [J.len]; exact (List.getElem?_eq_some_iff.mp hi).1
      refine wpAny_mono (run.run [] s5 _ _ ⟨fun σ6 H6 => D.nx (σ6.set i none) H6, D.rt, fun _ _ => False, fun _ _ => False⟩ S5 ⟨.ref a, List.getElem?_set_self hlt, hyes rfl a na⟩) (fun f s6 hsp => ?_) (fun _ _ z => False.elim z)
      have end_ : ∀ {σ6 : L2.St} {H6 : Hp} {Q : Shared → Prop}, Inv (X.suite a (X.pn ++ pins)) [] σ6 H6 s6 → (∀ s7, Inv X pins (σ6.set i none) H6 s7 → Q s7) →
          wpAny (model X.prog X.w) X.A (do bindName X.env n .none; unbindBehindTheSuite X.env n pos') (fun _ s7 => Q s7) X.xe s6 := fun {σ6 H6 Q} S6 hq => gone_ok (inv_unsuiteT S6 ok) hN hi hln hq
      cases f with
      | next =>
        obtain ⟨σ6, H6, S6, q6⟩ := hsp
        exact end_ S6 fun s7 J7 => ⟨_, _, J7, q6⟩
      | brk => obtain ⟨σ6, H6, S6, q6⟩ := hsp; exact False.elim q6
      | cont => obtain ⟨σ6, H6, S6, q6⟩ := hsp; exact False.elim q6
      | ret u =>
        obtain ⟨v6, σ6, H6, S6, r6, q6⟩ := hsp
        exact end_ S6 fun s7 J7 => ⟨_, _, _, J7, r6, q6⟩
    | false =>
      show wpAny _ X.A (handleBy (.ref a) X.env []) _ _ _
      refine wpAny_handleBy_nil ?_
      obtain ⟨k1, k2, k3, oe, vs, T, oT, ts', he, hz, hd, h1, hr⟩ := id fl3
      unfold PySem.passOn
      refine wpAny_bind (wpAny_field he hd h1 ?_)
      rw [if_neg (show ¬ ((Value.ref T == Value.none) = true) from by simp)]
      have fin : wpAny (model X.prog X.w) X.A (setFlight (.ref a) X.env.frame) (fun _ s4 => wpAny (model X.prog X.w) X.A (throw (.ref a) : Sem Flow) (SP X pins D) X.xe s4) X.xe { s' with heap := h3 } := by
        rw [hf]
        refine HandSPX.setFlight_upZ fl3 fun h4 hh4 up4 => wpAny_throw (tk _ _ ?_)
        exact ⟨a, B, sI, pins, σ', H', cls, d, rfl, J, nb, (up.trans up3).trans up4, .inr (.inr (by rw [hs]; exact hh4)), na, os, ag, hno rfl⟩
      first
        | exact wpAny_bind (wpAny_pure (wpAny_bind fin))
        | exact wpAny_bind fin
  · cases f with
    | next =>
      obtain ⟨σ', H', J', q⟩ := hsp
      exact wpAny_execs_nil ⟨σ', H', J'.ofTry ok, q⟩
    | brk =>
      obtain ⟨σ', H', J', q⟩ := hsp
      exact ⟨σ', H', J'.ofTry ok, q⟩
    | cont =>
      obtain ⟨σ', H', J', q⟩ := hsp
      exact ⟨σ', H', J'.ofTry ok, q⟩
    | ret u =>
      obtain ⟨v, σ', H', J', r, q⟩ := hsp
      exact ⟨v, σ', H', J'.ofTry ok, r, q⟩
/-- the slots are as many as the names -/
theorem takes_len {Wx : WX} (t : Takes X Wx) : Takes X (fun cls d σ H => σ.length = X.N.length → Wx cls d σ H) := fun u s' ⟨a, B, sI, pins, σ, H, cls, d, e, I, r1, r2, r3, r4, r5, r6, w⟩ =>
  t u s' ⟨a, B, sI, pins, σ, H, cls, d, e, I, r1, r2, r3, r4, r5, r6, w I.len⟩
end

/-! ### told(lambda: e): try: found = deed(), except C as e: caught = e, return found if caught is None else word(caught) -/
def toldO (isB : Str → Bool) (fw : List D → Out D) : Out D → Out D
  | .ok d => .ok d
  | .exc x => if isB x.c = true then (fw [.exn x.c x.nm]).ne else .bad
  | .bad => .bad
def eTold (isB : Str → Bool) (fw : List D → Out D) (fb : Rho → Out D) : Rho → Out D := fun ρ => toldO isB fw (fb ρ)
/-- the reading of such a def, of what its lambda tells -/
def TTd (c : CC) (isB : Str → Bool) (fw : List D → Out D) : (XK → Hp → VK → Prop) → Hp → VK → Prop := fun tl H Q => ∃ F o, Bs c F H ∧
  (∀ (E : XK) (HZ FZ : Hp) (Q' : VK), Grow c F H FZ HZ → OutP c (fun cls d _ H => E cls d H) [] FZ HZ (fun d F' H' => ∀ v, Rep c F' d v → Q' v H') o → tl E HZ Q') ∧
  OutP c (fun _ _ _ _ => False) [] F H (fun d F' H' => ∀ v, Rep c F' d v → Q v H') (toldO isB fw o)
theorem toldO_ne {isB : Str → Bool} {fw : List D → Out D} {o : Out D} (x : Xn) : toldO isB fw o ≠ .exc x := fun h => by
  cases o with
  | ok d => cases h
  | bad => cases h
  | exc y =>
    have h : (if isB y.c = true then (fw [.exn y.c y.nm]).ne else .bad) = .exc x := h
    split at h
    · cases e : fw [.exn y.c y.nm] with
      | ok d => rw [e] at h; cases h
      | bad => rw [e] at h; cases h
      | exc z => rw [e] at h; cases h
    · cases h
theorem OutP.noexc {α : Type} {c : CC} {W1 W2 : WX} {σ1 σ2 : L2.St} {F H : Hp} {P : α → Hp → Hp → Prop} {o : Out α} (h : OutP c W1 σ1 F H P o) (n : ∀ x, o ≠ .exc x) : OutP c W2 σ2 F H P o := by
  cases o with
  | ok a => exact h
  | exc x => exact (n x rfl).elim
  | bad => exact h
section
variable {X : Cx} {c : CC} {k : Nat} {q0 q1 q2 q3 q4 q5 q6 q7 q8 q9 q10 q11 q12 q13 q14 q15 q16 q17 q18 q19 q20 q21 q22 q23 q24 : Pos}
theorem told_gives {x word cls deed found caught e q : Str} {sg : Scope} {g CB : Addr} {cdg : Value} {isB : Str → Bool} {fw : List D → Out D} (hK : X.K = c.K) (hmg : X.mg = c.mg) (hr : Room (k + 1) X.A) (Cw : Cal X.prog X.w c X.base k word fw)
    (Sg : FnScope [deed, found, caught, e] [deed] sg) (l0 : sg.names.lookup deed = some .local) (l1 : sg.names.lookup found = some .local) (l2 : sg.names.lookup caught = some .local) (l3 : sg.names.lookup e = some .local) (hgc : sg.names.lookup cls = some .globalImplicit) (hgw : sg.names.lookup word = some .globalImplicit)
    (hmc : c.mg cls = some (.ref CB)) (hB : ∀ n C, c.mg n = some (.ref C) → isB n = true → PySem.W.exmOne c.K (.ref C) (.ref CB) = some true)
    (hnd : [found, caught, e, cls, word].all (fun y => !(y == ("__debug__" : Str)) && !(y == ("__classdict__" : Str))) = true)
    (w1 : ∀ env : Env, swapsWith (.Constant .none 0 q1) (some (.Name found q0)) q2.line env = pure false) (w2 : ∀ env : Env, swapsWith (.Constant .none 0 q4) (some (.Name caught q3)) q5.line env = pure false)
    (w3 : ∀ env : Env, swapsWith (.Call (.Name deed q7) [] [] q8) (some (.Name found q6)) q9.line env = pure false) (w4 : ∀ env : Env, swapsWith (.Name e q12) (some (.Name caught q11)) q13.line env = pure false)
    (hpl : ∀ env : Env, (backTo q22 (starEach [] env)).any (·.1) = false) (he1 : ∀ env : Env, starEach [.Name caught q21] env = (false, eval (.Name caught q21) env) :: starEach [] env) :
    GivesTo X [deed, found, caught, e] x sg g cdg [.Assign [.Name found q0] (.Constant .none 0 q1) q2, .Assign [.Name caught q3] (.Constant .none 0 q4) q5,
   .Try [.Assign [.Name found q6] (.Call (.Name deed q7) [] [] q8) q9] [.ExceptHandler (some (.Name cls q10)) (some e) [.Assign [.Name caught q11] (.Name e q12) q13] q14] [] [] q15,
   .Return (some (.IfExp (.Compare (.Name caught q16) [.Is] [.Constant .none 0 q17] q18) (.Name found q19) (.Call (.Name word q20) [.Name caught q21] [] q22) q23)) q24] deed q (TTd c isB fw) := by
  intro f c' s H Q tl act hc hT
  obtain ⟨F, o, B, htl, hfin⟩ := hT
  simp only [List.all_cons, List.all_nil, Bool.and_true, Bool.and_eq_true, Bool.not_eq_true'] at hnd
  obtain ⟨⟨n1, m1⟩, ⟨n2, m2⟩, ⟨n3, m3⟩, ⟨n4, _⟩, ⟨n5, _⟩⟩ := hnd
  let X' : Cx := (cxOf C8.CX0 X.prog X.w X.K X.mg X.base [deed, found, caught, e] x sg g cdg X.A X.stack s H C8.E0).nox
  let Wt : WW := ⟨fun _ _ _ _ => False, F, H⟩
  have O : Ok X' c Wt k := ⟨hK, hmg, rfl, L2.takes0, hr.deeper _, Sg.nd⟩
  have tF : PS X' (.Assign [.Name found q0] (.Constant .none 0 q1) q2) (tS c Wt (sAsg (gN 1) (eC .non))) := s_set O d_non (hx := .inl l1) (hs := w1 _) (hf := .inl rfl)
  have tC' : PS X' (.Assign [.Name caught q3] (.Constant .none 0 q4) q5) (tS c Wt (sAsg (gN 2) (eC .non))) := s_set O d_non (hx := .inl l2) (hs := w2 _) (hf := .inl rfl)
  have tR : PS X' (.Return (some (.IfExp (.Compare (.Name caught q16) [.Is] [.Constant .none 0 q17] q18) (.Name found q19) (.Call (.Name word q20) [.Name caught q21] [] q22) q23)) q24) (tS c Wt (sRet (eIf (tV (eOp dIsN (eVar 2) (eC .non))) (eVar 1) (eCall fw (aCons (eVar 2) aNil))))) :=
    s_ret (d_if (t_cmp op_isN L_isN (by rfl) (d_var (i := 2) (hv := .inl l2) (hd := n2) (hcd := m2)) d_non) (d_var (i := 1) (hv := .inl l1) (hd := n1) (hcd := m1))
      (d_call O Cw (Nat.le_refl _) (a_cons (d_var (i := 2) (hv := .inl l2) (hd := n2) (hcd := m2)) a_nil (he1 _)) (hg := hgw) (hdb := n5) (he := he1 _) (hpl := hpl _)))
  have hTry := ps_try_keep (X := X') (i := 3) (j := 2) (cv := .ref CB) (body := [.Assign [.Name found q6] (.Call (.Name deed q7) [] [] q8) q9]) (np := q10) (p1 := q11) (p2 := q12) (p3 := q13) (pos' := q14) (pos := q15)
    (tb := fun W D σ H => ∃ Ech : XK, (∀ cls d σ' H', Ech cls d H' → σ'.length = 4 → W cls d σ' H') ∧ σ[0]? = some (some (.ref f)) ∧ H c' = some (CodeO c' q) ∧ tl Ech H fun v H1 => D.nx (σ.set 1 (some v)) H1)
    rfl rfl rfl Sg.nd rfl rfl l3 l2 ⟨hgc, n4, .inl (by rw [← hmg] at hmc; exact hmc)⟩ (L2.takes0)
    (fun W pn xe tk _ => ⟨fun pins s' σ H' D I ⟨Ech, hW, h1, h2, h3⟩ => by
      have hp := act (fun cls d σ H => σ.length = 4 → W cls d σ H) pn xe Ech q7 q8 (takes_len tk) hW
      exact (pss_one (ps_set (X := X'.tr pn xe) (i := 1) (pos := q9) (pos' := q6) Sg.nd rfl (.inl l1) hp (w3 _) (.inl rfl))).run pins s' σ H' D I ⟨h1, h2, h3⟩⟩) n3 m3 (fun _ _ => w4 _)
  refine ⟨_, pss_cons tF (pss_cons tC' (pss_cons hTry (pss_one tR))), ?_⟩
  have S0 : StR c F H F H (L2.start [deed, found, caught, e] [.ref f]) (startR 4 [.op (.ref f)]) := start_str (N := [deed, found, caught, e]) B (Reps.one rfl)
  refine ⟨F, _, S0, fun σ1 F1 H1 ex1 S1 => ⟨F1, _, S1, fun σ2 F2 H2 ex2 S2 => ?_⟩⟩
  have s0 : σ2[0]? = some (some (.ref f)) := by
    obtain ⟨v, h1, h2⟩ := S2.val 0 (.op (.ref f)) rfl
    rw [h1, show v = .ref f from h2]
  refine ⟨fun cls d H' => ∀ σ' : L2.St, σ'.length = 4 → wKeep X'.K (.ref CB) 3 2 (fun _ _ _ _ => False) _ cls d σ' H', fun cls d σ' H' h => h σ', s0, S2.gr.hh _ _ hc codeO_ne, htl _ H2 F2 _ S2.gr ?_⟩
  cases o with
  | bad => exact False.elim hfin
  | ok d =>
    intro F3 H3 G3 v rv
    have S3 : StR c F H F3 H3 (σ2.set 1 (some v)) _ := (S2.grow G3).setV (i := 1) rv
    refine ⟨F3, _, S3, fun F4 H4 G4 u ru => ?_⟩
    exact hfin F4 H4 G4 u ru
  | exc xx =>
    have hfin' : OutP c (fun _ _ _ _ => False) [] F H (fun d F' H' => ∀ v, Rep c F' d v → Q v H') (if isB xx.c = true then (fw [.exn xx.c xx.nm]).ne else .bad) := hfin
    by_cases hb : isB xx.c = true
    · rw [if_pos hb] at hfin'
      intro F3 H3 C dx G3 hx σ' hl
      refine ⟨true, by rw [show X'.K = c.K from hK]; exact hB _ _ hx.1 hb, fun _ a na => ?_, fun z => Bool.noConfusion z⟩
      have G4 := G3.toBs.new (o := ExcO a (.ref C) dx) na (fun ps z => by unfold ExcO at z; cases z)
      have rE : Rep c (upd F3 a (ExcO a (.ref C) dx)) (.exn xx.c xx.nm) (.ref a) := ⟨a, C, dx, rfl, ⟨hx.1, G4.ff.r.nm hx.2⟩, upd_same⟩
      have S4 : StR c F H (upd F3 a (ExcO a (.ref C) dx)) (upd H3 a (ExcO a (.ref C) dx)) (((σ'.set 3 (some (.ref a))).set 2 (some (.ref a))).set 3 none) [.em, .em, .val (.exn xx.c xx.nm), .em] := by
        refine ⟨(S2.gr.trans G3).trans G4, by simp [hl], fun i d e => ?_, fun i d e => ?_, fun i j d e p q1 => ?_⟩
        · match i, e with
          | 0, e => cases e
          | 1, e => cases e
          | 2, e =>
            cases e
            refine ⟨.ref a, ?_, rE⟩
            rw [List.getElem?_set_ne (by decide), List.getElem?_set_self (by rw [List.length_set]; omega)]
          | 3, e => cases e
          | i + 4, e => cases e
        · match i, e with
          | 0, e => cases e
          | 1, e => cases e
          | 2, e => cases e
          | 3, e => cases e
          | i + 4, e => cases e
        · match i, q1 with
          | 0, e => cases e
          | 1, e => cases e
          | 2, e => cases e
          | 3, e => cases e
          | i + 4, e => cases e
      refine ⟨_, _, S4, ?_⟩
      cases ef : fw [.exn xx.c xx.nm] with
      | bad => rw [ef] at hfin'; exact False.elim hfin'
      | exc z => rw [ef] at hfin'; exact False.elim hfin'
      | ok d' =>
        rw [ef] at hfin'
        have e1 : sRet (eIf (tV (eOp dIsN (eVar 2) (eC .non))) (eVar 1) (eCall fw (aCons (eVar 2) aNil))) [.em, .em, .val (.exn xx.c xx.nm), .em] = .rt d' := by
          show lift (fw [.exn xx.c xx.nm]) _ .rt = _
          rw [ef] <;> rfl
        rw [e1]
        exact fun F5 H5 G5 u ru => hfin' F5 H5 G5 u ru
    · rw [if_neg hb] at hfin'
      exact False.elim hfin'
end
/-- a def that tells what its lambda does -/
structure Told (P : Program) (w : World) (c : CC) (base : Heap) (k : Nat) (x : Str) (isB : Str → Bool) (fw : List D → Out D) : Prop where
  ex : ∃ (g : Addr) (pg : Arguments) (bg : List Stmt) (sg : Scope) (dV kV doc pm cdv ct oc : Value) (an od : Option Addr) (osl : Array (Option Value)) (Ng : List Str) (a : Str),
    c.mg x = some (.ref g) ∧ PySem.W.keepIn c.K (.ref g) = true ∧ c.K.lookup g = some ⟨oc, od, .func (PySem.W.fnOf x x pg bg sg dV kV doc pm an cdv ct), osl⟩ ∧ PySem.W.codeIn c.K cdv x = true ∧ L2.Binds c.K (PySem.W.fnOf x x pg bg sg dV kV doc pm an cdv ct) [a] [] ∧
    FnScope Ng [a] sg ∧ Ng[0]? = some a ∧ Vis sg a ∧ (a == ("__debug__" : Str)) = false ∧ (a == ("__classdict__" : Str)) = false ∧
    ∀ (X : Cx) (q : Str), X.K = c.K → X.mg = c.mg → X.prog = P → X.w = w → X.base = base → Room (k + 1) X.A → GivesTo X Ng x sg g cdv bg a q (TTd c isB fw)
section
variable {X : Cx} {c : CC} {W : WW} {k k' kl : Nat}
theorem d_told {x : Str} {isB : Str → Bool} {fw : List D → Out D} {cc P : Addr} {params : Arguments} {body : Expr} {scope : Scope} {fb : Rho → Out D} {p lpos pos : Pos} (O : Ok X c W k') (Td : Told X.prog X.w c X.base k x isB fw) (hk : k + 1 ≤ k') (hkl : kl + 2 ≤ k')
    (TB : TabB X.base c.mg cc P) (hcode : X.env.code = .ref cc) (hmT : (P, X.env.qual ++ "<lambda>") ∈ c.T) (hu : ∀ p ∈ c.T, p.1 = P → p.2 = X.env.qual ++ "<lambda>")
    (hbody : ∀ (A : Around) (outer : List Env) (s : Shared) (H : Hp) (E : XK) (f c' : Addr), Ok (lamCx X A outer s H E scope f c') c ⟨fun cls d _ H => E cls d H, W.F0, W.H0⟩ kl → PE (lamCx X A outer s H E scope f c') body (tD c ⟨fun cls d _ H => E cls d H, W.F0, W.H0⟩ fb))
    (L : LamS X.env.scope scope) (hdef : defaultsOf params X.env = ([], []) := by rfl)
    (hbind : ∀ (q : Str) (cl : List (Str × Addr)) (pm cv ctv : Value), bindArgs (PySem.W.kla_fn "<lambda>" q params body scope cl pm cv ctv) ⟨[], []⟩ = pure [] := by intros; rfl)
    (hg : Gl X x := by rfl) (hdb : (x == ("__debug__" : Str)) = false := by decide) : PE X (.Call (.Name x p) [.Lambda params body scope lpos] [] pos) (tD c W (eTold isB fw fb)) := by
  obtain ⟨g, pg, bg, sg, dV, kV, doc, pm, cdv, ct, oc, an, od, osl, Ng, a, h1, h2, h3, h4, h5, h6, h7, h8, h9, h10, h11⟩ := Td.ex
  rw [← O.K] at h2 h3 h4 h5
  rw [← O.mg] at h1 TB
  refine PE.imp (pe_lamcall (k := kl) (T := c.T) (t := fun E => tD c ⟨fun cls d _ H => E cls d H, W.F0, W.H0⟩ fb) hg h1 h2 h3 h4 h5 h6 h7 h8 (h11 X _ O.K O.mg rfl rfl rfl (O.rm.mono hk)) TB hcode hmT hu (O.rm.mono hkl) L hdef hbind
    (fun A outer s H E f c' hr => hbody A outer s H E f c' ⟨O.K, O.mg, rfl, takes_of rfl rfl rfl rfl, hr, O.nd⟩) hdb h9 h10) fun σ H Q ⟨F, ρ, S, h⟩ => ?_
  refine ⟨S.bs.tb, fun H1 ex T1 => ?_⟩
  have G1 : Grow c F H F H1 := ⟨⟨fun a u e => ex a u (S.bs.fh a u e) fun ps z => S.bs.nt a ps (by rw [e, z]), S.bs.nt, T1⟩, Ex.refl _, ex, fun _ _ e => .inl e⟩
  refine ⟨F, fb ρ, G1.toBs, fun E HZ FZ Q' G h' => ⟨FZ, ρ, (S.grow G1).grow G, ?_⟩, (OutP.grow h G1).noexc fun x => toldO_ne x⟩
  revert h'
  cases fb ρ with
  | ok d => exact fun h => h
  | exc x => exact fun h => h
  | bad => exact fun h => h
end
/-! ### isinstance of a kept exception -/
/-- the class at C of a name n is (is not) what the class value u names -/
def dIsx (f : Str → Option Bool) : D → Option D
  | .exn n none => (f n).map .bl
  | _ => none
section
variable {X : Cx} {c : CC} {W : WW} {k : Nat} {σ : L2.St} {F H : Hp} {Q : VK} {pos : Pos}
theorem rep_exn {n : Str} {nm : Option Str} {v : V} (B : Bs c F H) (r : Rep c F (.exn n nm) v) : ∃ a C dx, v = .ref a ∧ c.mg n = some (.ref C) ∧ NmAt F dx nm ∧ H a = some (ExcO a (.ref C) dx) := by
  obtain ⟨a, C, dx, e, ⟨e1, e2⟩, e3⟩ := r
  exact ⟨a, C, dx, e, e1, e2, B.fh _ _ e3⟩
def rIsX (K : PySem.W.Frag) : List V → Hp → VK → Prop := fun xs H Q => ∃ (a C : Addr) (cv : V) (u : Value) (b : Bool), xs = [.ref a, cv] ∧ (∀ z, RelV cv z → z = u) ∧ H a = some (ExcO a (.ref C) none) ∧ ExcC K C ∧ PySem.W.kitOne K (.ref C) u = some b ∧ Q (.bl b) H
theorem call_isX (hK : X.K = c.K) : CallR X (.builtin "isinstance") (rIsX c.K) := by
  rw [← hK]
  intro pins s σ H xs us Q I r h
  obtain ⟨a, D, cv, u0, b, rfl, hcv, ho, EC, e, q⟩ := h
  obtain ⟨u1, u2, rfl, rx, rt⟩ := vals2 r
  cases rx
  cases hcv _ rt
  obtain ⟨⟨oe, vs, hget, hz, hv⟩, _, _⟩ := I.hok a _ ho
  have J : PySem.W.InstAt s.heap a oe D none := by
    obtain ⟨oc, od, oda, osl⟩ := oe
    obtain ⟨h1, h2⟩ := hz
    dsimp only at h1 h2 hv
    subst h1 h2 hv
    exact ⟨hget, rfl, rfl, trivial⟩
  exact PySem.W.kia_one (PySem.W.handS_kitx_exc EC.hg EC.hk EC.hs EC.hd EC.ha EC.hn EC.ht EC.hm) I.kIn J e (fun z => nomatch z) fun tk => ⟨.bl b, H, I.tok tk, rfl, q⟩
/-- isinstance(e, C), e a kept exception; C's value: a class of one's own, a built-in one -/
theorem d_isx {x : Str} {e : Expr} {p p2 : Pos} {f : Rho → Out D} {g : Str → Option Bool} {cv : V} {u : Value} (hK : X.K = c.K) (hm : X.mg "isinstance" = none) (hcls : PE X (.Name x p2) (tC cv)) (hcv : ∀ z, RelV cv z → z = u)
    (hx : ∀ n b C, g n = some b → c.mg n = some (.ref C) → ExcC c.K C ∧ PySem.W.kitOne c.K (.ref C) u = some b) (he : PE X e (tD c W f))
    (hg : Gl X "isinstance" := by rfl) (hs : starEach [e, .Name x p2] X.env = (false, eval e X.env) :: starEach [.Name x p2] X.env := by rfl) (hs2 : starEach [.Name x p2] X.env = (false, eval (.Name x p2) X.env) :: starEach [] X.env := by rfl) (hpl : (backTo pos (starEach [.Name x p2] X.env)).any (·.1) = false := by rfl) :
    PE X (.Call (.Name "isinstance" p) [e, .Name x p2] [] pos) (tD c W (eU (dIsx fun n => g n) f)) := by
  have ha : PA X [e, .Name x p2] (tCons (tD c W f) (tCons (tC cv) tNil)) := pa_cons he (pa_cons hcls pa_nil hs2) hs
  refine PE.imp (pe_callB (call_isX hK) hg hm (by decide +kernel) ha (by decide) (by decide) hs hpl) fun σ H Q ⟨F, ρ, S, q⟩ => ⟨F, ρ, S, (OutP.bind q).imp fun d F1 H1 G1 q1 v rv => ?_⟩
  obtain ⟨d', e1, go⟩ := OutP.goes q1
  unfold dIsx at e1
  split at e1
  · rename_i n
    obtain ⟨b, e2, e3⟩ := Option.map_eq_some_iff.mp e1
    subst e3
    obtain ⟨a, C, dx, rfl, h1, h2, h3⟩ := rep_exn G1.toBs rv
    have h2 : dx = none := h2
    subst h2
    obtain ⟨k1, k2⟩ := hx n b C e2 h1
    exact ⟨a, C, cv, u, b, rfl, hcv, h3, k1, k2, go.at G1.toBs rfl⟩
  · cases e1
end
end BD
set_option Elab.async false
set_option maxRecDepth 100000
set_option maxHeartbeats 4000000
/-! The layer BD: the end of a law. -/
namespace BD
open PySem PySem.Spec PyProof.Rows L2 LamX

/-- fuel by the int in a slot -/
def fuelI (i : Nat) : Rho → Nat := fun ρ => match ρ[i]? with
  | some (.val (.int n)) => n.toNat + 1
  | _ => 0
def dNeg : D → Option D
  | .int i => some (.int (-i))
  | _ => none
theorem d_neg {X : Cx} {c : CC} {W : WW} {pos : Pos} {a : Expr} {f : Rho → Out D} (ha : PE X a (tD c W f)) : PE X (.UnaryOp .USub a pos) (tD c W (eU dNeg f)) :=
  PE.imp (pe_un un_neg ha) fun σ H Q ⟨F, ρ, S, q⟩ => ⟨F, ρ, S, (OutP.bind q).imp fun d F1 H1 G1 q1 x rx => by
    obtain ⟨e, e1, go⟩ := OutP.goes q1
    unfold dNeg at e1
    split at e1
    · cases e1
      exact ⟨_, rx, go.at G1.toBs rfl⟩
    · cases e1⟩
/-- what a body's walk tells of its arguments -/
def run (n : Nat) (s : SF) (ds : List D) : Out D := finS (s (startR n ds))
theorem eq1 {n : Nat} {s : SF} (ds : List D) (h : ap1 (fun a => run n s [a]) ds ≠ .bad) : run n s ds = ap1 (fun a => run n s [a]) ds := match ds, h with
  | [], h => (h rfl).elim
  | [_], _ => rfl
  | _ :: _ :: _, h => (h rfl).elim
theorem eq2 {n : Nat} {s : SF} (ds : List D) (h : ap2 (fun a b => run n s [a, b]) ds ≠ .bad) : run n s ds = ap2 (fun a b => run n s [a, b]) ds := match ds, h with
  | [], h => (h rfl).elim
  | [_], h => (h rfl).elim
  | [_, _], _ => rfl
  | _ :: _ :: _ :: _, h => (h rfl).elim
theorem eq3 {n : Nat} {s : SF} (ds : List D) (h : ap3 (fun a b d => run n s [a, b, d]) ds ≠ .bad) : run n s ds = ap3 (fun a b d => run n s [a, b, d]) ds := match ds, h with
  | [], h => (h rfl).elim
  | [_], h => (h rfl).elim
  | [_, _], h => (h rfl).elim
  | [_, _, _], _ => rfl
  | _ :: _ :: _ :: _ :: _, h => (h rfl).elim
theorem eq4 {n : Nat} {s : SF} (ds : List D) (h : ap4 (fun a b d e => run n s [a, b, d, e]) ds ≠ .bad) : run n s ds = ap4 (fun a b d e => run n s [a, b, d, e]) ds := match ds, h with
  | [], h => (h rfl).elim
  | [_], h => (h rfl).elim
  | [_, _], h => (h rfl).elim
  | [_, _, _], h => (h rfl).elim
  | [_, _, _, _], _ => rfl
  | _ :: _ :: _ :: _ :: _ :: _, h => (h rfl).elim
theorem eq5 {n : Nat} {s : SF} (ds : List D) (h : ap5 (fun a b d e f => run n s [a, b, d, e, f]) ds ≠ .bad) : run n s ds = ap5 (fun a b d e f => run n s [a, b, d, e, f]) ds := match ds, h with
  | [], h => (h rfl).elim
  | [_], h => (h rfl).elim
  | [_, _], h => (h rfl).elim
  | [_, _, _], h => (h rfl).elim
  | [_, _, _, _], h => (h rfl).elim
  | [_, _, _, _, _], _ => rfl
  | _ :: _ :: _ :: _ :: _ :: _ :: _, h => (h rfl).elim
theorem eq6 {n : Nat} {s : SF} (ds : List D) (h : ap6 (fun a b d e f g => run n s [a, b, d, e, f, g]) ds ≠ .bad) : run n s ds = ap6 (fun a b d e f g => run n s [a, b, d, e, f, g]) ds := match ds, h with
  | [], h => (h rfl).elim
  | [_], h => (h rfl).elim
  | [_, _], h => (h rfl).elim
  | [_, _, _], h => (h rfl).elim
  | [_, _, _, _], h => (h rfl).elim
  | [_, _, _, _, _], h => (h rfl).elim
  | [_, _, _, _, _, _], _ => rfl
  | _ :: _ :: _ :: _ :: _ :: _ :: _ :: _, h => (h rfl).elim
theorem eq0 {n : Nat} {s : SF} (ds : List D) (h : ap0 (run n s []) ds ≠ .bad) : run n s ds = ap0 (run n s []) ds := match ds, h with
  | [], _ => rfl
  | _ :: _, h => (h rfl).elim
/-- a def of the module -/
structure Df (c : CC) (x : Str) (st : Stmt) : Prop where
  ex : ∃ fa fd, L2.Fun c.K x x st fa fd ∧ c.mg x = some (.ref fa)
/-- a def that makes lambdas: its code object, its table -/
structure LamT (c : CC) (base : Heap) (x : Str) : Prop where
  ex : ∃ cc P, (∀ (fa : Addr) (oc : Value) (od : Option Addr) (fd : FuncData) (osl : Array (Option Value)), c.mg x = some (.ref fa) → c.K.lookup fa = some ⟨oc, od, .func fd, osl⟩ → fd.code = .ref cc) ∧ TabB base c.mg cc P ∧ (P, (x ++ ".<locals>.") ++ "<lambda>") ∈ c.T ∧ ∀ p ∈ c.T, p.1 = P → p.2 = (x ++ ".<locals>.") ++ "<lambda>"
section
variable {P : Program} {w : World} {c : CC} {base : Heap} {x : Str} {st : Stmt} {fa : Addr} {fd : FuncData} {N ps : List Str} {k : Nat} {f : List D → Out D} {sem : SF}
theorem sp_len (ar : Ar ps.length f) : ∀ vs H Q E, SpD c f vs H Q E → vs.length = ps.length := fun vs H Q E ⟨F, ds, b, r, h⟩ => by
  rw [← r.length]
  refine ar ds fun z => ?_
  rw [z] at h
  exact h
theorem tS_end {ds : List D} {vs : List V} {F H : Hp} {Q : VK} {E : XK} (b : Bs c F H) (r : Reps c F ds vs) (eq : f ds ≠ .bad → finS (sem (startR N.length ds)) = f ds)
    (h : OutP c (fun cls d _ H' => E cls d H') [] F H (fun d F' H' => ∀ v, Rep c F' d v → Q v H') (f ds)) : tS c ⟨fun cls d _ H => E cls d H, F, H⟩ sem { nx := fun _ H' => Q .non H', rt := Q } (L2.start N vs) H := by
  refine ⟨F, startR N.length ds, start_str b r, ?_⟩
  have hne : f ds ≠ .bad := fun z => by rw [z] at h; exact h
  rw [← eq hne] at h
  revert h
  cases sem (startR N.length ds) with
  | nx ρ => exact fun h σ F' H' _ S' => h F' H' S'.gr _ rfl
  | rt d => exact fun h F' H' g v rv => h F' H' g v rv
  | ro d =>
      intro h F' H' g p hp hf ho
      obtain ⟨o, e1, e2, e3, e4⟩ := ho.freeze g.toBs hp
      refine h (upd F' p o) H' ⟨e3, g.ff.trans (ex_new hp), g.hh, fun a u q => ?_⟩ _ e4
      by_cases z : a = p
      · rw [z]; exact .inr hf
      · rw [upd_ne z] at q; exact g.nw _ _ q
  | exc x ρ => exact fun h σ F' H' C dx _ S' hx => h F' H' C dx S'.gr hx
  | bk ρ => exact fun h => False.elim h
  | ct ρ => exact fun h => False.elim h
  | bad => exact fun h => False.elim h
theorem cal_ofL (Fn : L2.Fun c.K x x st fa fd) (hm : c.mg x = some (.ref fa)) (hb : Binds c.K fd ps []) (S : FnScope N ps (defScope st)) (ar : Ar ps.length f) (LT : LamT c base x)
    (body : ∀ (cc TP : Addr) (A : Around) (outer : List Env) (s : Shared) (H : Hp) (E : XK) (W : WW), TabB base c.mg cc TP → (TP, (x ++ ".<locals>.") ++ "<lambda>") ∈ c.T → (∀ p ∈ c.T, p.1 = TP → p.2 = (x ++ ".<locals>.") ++ "<lambda>") →
      Ok (BX P w c base N x st fa (.ref cc) A outer s H E) c W k → PassesOwn (model P w) (BX P w c base N x st fa (.ref cc) A outer s H E).A (BX P w c base N x st fa (.ref cc) A outer s H E).env (BX P w c base N x st fa (.ref cc) A outer s H E).xe →
      PSs (BX P w c base N x st fa (.ref cc) A outer s H E) (defBody st) (tS c W sem))
    (eq : ∀ ds, f ds ≠ .bad → finS (sem (startR N.length ds)) = f ds) : Cal P w c base (k + 1) x f := by
  refine ⟨fa, fd, ps, ?_, hm, Fn.kp, hb⟩
  obtain ⟨cc, TP, hcc, TB, hmT, hu⟩ := LT.ex
  obtain ⟨oc, od, kV, doc, pm, an, cdv, ct, osl, rfl, lk, hcd⟩ := Fn.ex
  obtain rfl : cdv = .ref cc := hcc fa oc od _ osl hm lk
  refine fn_of lk hcd S (sp_len ar) fun A outer s H vs Q E hr hsp => ?_
  obtain ⟨F, ds, b, r, h⟩ := hsp
  exact ⟨_, body cc TP A outer s H E ⟨fun cls d _ H => E cls d H, F, H⟩ TB hmT hu ⟨rfl, rfl, rfl, takes_of rfl rfl rfl rfl, hr, S.nd⟩ (passes_of rfl), tS_end b r (eq ds) h⟩
end
/-- an exception's class that may be raised -/
structure RX (c : CC) (n : Str) (C : Addr) : Prop where
  q : PySem.W.excIn c.K C [.type "ValueError", .type "Exception", .type "BaseException", .type "object"] "ValueError.__new__" = true
  g : c.mg n = some (.ref C)
  k : PySem.W.keepIn c.K (.ref C) = true
  h1 : PySem.W.subIn c.K (.ref C) (.type "BaseException") = some true
  h2 : PySem.W.typeIn c.K (.ref C) = some (.type "type")
/-- the law's end -/
structure LawEnd (l : PySem.W.OpenLaw) (w : World) (K : PySem.W.Frag) (k : Nat) (x : Str) (mg : Str → Option Value) (fa : Addr) (h : Heap) : Prop where
  ex : ∃ (fd : FuncData) (cs : List (Addr × Addr)) (qs : List Str) (f : List D → Out D), (∀ p ∈ cs, h.get? p.2 = some { cls := .none, data := .fields #[] }) ∧ (∀ p ∈ cs, K.lookup p.2 = none) ∧ (∀ p ∈ cs, PySem.W.CodeHd h p.1 p.2) ∧ (∀ (s : Shared) (u : Value), BindsTo s fd ⟨[u], []⟩ [(x, u)]) ∧
    (∀ base : Heap, K.In base → base.Ns mainGlobals mg → (∀ p ∈ cs, TabB base mg p.1 p.2) → FnOk l.prog w K mg base (L2.CX l.prog w) k fa fd [x] (SpD ⟨K, mg, (cs.map (·.2)).zip qs⟩ f)) ∧ ∀ ns : List Int, ns.length ≤ 63 → f [.scr ns] = .ok (.bl true)
theorem tabs_start {cs : List (Addr × Addr)} {qs : List Str} {H : Hp} (h : ∀ p ∈ cs, H p.2 = some (.tbl #[])) : Tabs ((cs.map (·.2)).zip qs) H := fun p hp => by
  have := (List.of_mem_zip hp).1
  obtain ⟨q, hq, e⟩ := List.mem_map.mp this
  exact TabS.nil (by rw [← e]; exact h q hq)
theorem walk_mine {l : PySem.W.OpenLaw} {k : Nat} {q : Program} {loose : List Str} {XP : (Str → Option Value) → Heap → Prop} {YP : World → Heap → Prop} {d : DefRec} {K : Params → PySem.W.Frag} {x : Str}
    (hn : l.most = some 63) (hdf : d.params.defaults = []) (hr : Room k callerA) (hY : ∀ (w : World) (h : Heap), YP w h → (K w.params).In h)
    (F : ∀ (w : World) (mg : Str → Option Value) (fa : Addr) (h : Heap), (K w.params).In h → h.Ns mainGlobals mg → mg d.name = some (.ref fa) →
      (∀ (x : Str) (c P : Addr) (dd : DefRec), (recsOf q).find? (fun e => e.name == x) = some dd → PySem.W.tabIn (K w.params) x = some (c, P) → PySem.W.CodeHd h c P ∧ h.get? P = some { cls := .none, data := .fields #[] }) → LawEnd l w (K w.params) k x mg fa h) :
    PySem.W.WalkO q loose XP YP l.row.toRowW d [] (fun f vs => PySem.call f vs) := by
  refine Att.attach_callB hn hdf fun w s₀ s₁ mg mb fa o pm cd doc a vs ns G Y ho hd hcd hmg hobj hints hlen hbits hg => ?_
  have KX := hY w _ Y
  obtain ⟨fd, cs, qs, f, hT, nT, C, hb, hF, hf⟩ := (F w mg fa _ KX G.T.g hmg fun x c P dd hr ht => PySem.W.tab_of G.T KX hr ht).ex
  refine law_callTs KX G.T.g G.T.b G.T.builtins G.T.nolimit hg hT nT C G.T.bmain hobj hints (Nat.le_trans hlen (by decide)) hr hF hb (fun H hH hS => ?_) fun H e s' h => ?_
  · refine ⟨fun b => match H b with | some (.tbl _) => none | o => o, [.scr ns], ⟨fun b u e => ?_, fun b ps e => ?_, tabs_start hH⟩, Reps.one ⟨a, rfl, ?_⟩, ?_⟩
    · cases q : H b with
      | none => simp [q] at e
      | some o => cases o <;> simp [q] at e <;> first | exact e | (rw [← e])
    · cases q : H b with
      | none => simp [q] at e
      | some o => cases o <;> simp [q] at e
    · rcases hS with h | h
      · left
        rcases h with h | ⟨o, h⟩
        · left; simp [h]
        · right; exact ⟨o, by simp [h]⟩
      · exact .inr h
    · rw [hf ns hlen]
      exact fun F' H' G v rv => rv
  · obtain ⟨_, _, _, _, _, _, _, _, _, _, _, _, z⟩ := h
    exact z.elim
end BD
set_option Elab.async false
set_option maxRecDepth 100000
set_option maxHeartbeats 4000000
/-! The layer BD: what the top has written, fact by fact. -/
namespace BD
open PySem PySem.Spec PyProof.Rows L2 LamX
def clsA (c : CC) (n : Str) : Addr := match c.mg n with
  | some (.ref a) => a
  | _ => 0
theorem clsA_of {c : CC} {n : Str} {C : Addr} (h : c.mg n = some (.ref C)) : clsA c n = C := by unfold clsA; rw [h]
section
variable {h : Heap} {K : PySem.W.Frag} {mg : Str → Option Value} {T : List (Addr × Str)}
theorem top_none {n : Str} (X : K.In h) (G : h.Ns mainGlobals mg) (e : PySem.W.nsIn K mainGlobals n = some none) : (CC.mk K mg T).mg n = none := PySem.W.mg_none_of X G e
theorem top_cls {n : Str} {C : Addr} (X : K.In h) (G : h.Ns mainGlobals mg) (e : PySem.W.nsIn K mainGlobals n = some (some (.ref C))) : (CC.mk K mg T).mg n = some (.ref (clsA ⟨K, mg, T⟩ n)) := by
  have := PySem.W.mg_of X G e
  rw [clsA_of (c := ⟨K, mg, T⟩) this]
  exact this
theorem top_RX {n : Str} {C : Addr} (X : K.In h) (G : h.Ns mainGlobals mg) (e : PySem.W.nsIn K mainGlobals n = some (some (.ref C))) (q : PySem.W.excIn K C [.type "ValueError", .type "Exception", .type "BaseException", .type "object"] "ValueError.__new__" = true)
    (k : PySem.W.keepIn K (.ref C) = true) (h1 : PySem.W.subIn K (.ref C) (.type "BaseException") = some true) (h2 : PySem.W.typeIn K (.ref C) = some (.type "type")) : RX ⟨K, mg, T⟩ n (clsA ⟨K, mg, T⟩ n) := by
  have g := PySem.W.mg_of X G e
  rw [clsA_of (c := ⟨K, mg, T⟩) g]
  exact ⟨q, g, k, h1, h2⟩
/-- a class's exceptions that may be kept -/
structure XCls (K : PySem.W.Frag) (mg : Str → Option Value) (n : Str) (C : Addr) : Prop where
  g : mg n = some (.ref C)
  x : ExcC K C
theorem top_xcls {n : Str} {C : Addr} (X : K.In h) (G : h.Ns mainGlobals mg) (e : PySem.W.nsIn K mainGlobals n = some (some (.ref C)))
    (hg : PySem.W.findIn K (.ref C) "__getattribute__" = some (some (.builtin "BaseException.__getattribute__"))) (hk : PySem.W.findIn K (.ref C) "__getattr__" = some none) (hs : PySem.W.subIn K (.ref C) (.type "BaseException") = some true) (hd : PySem.W.hasDictIn K C = true)
    (ha : PySem.W.findIn K (.ref C) "__class__" = some (some (.builtin "object.__class__"))) (hn : PySem.W.specialIn K (.builtin "object.__class__") "__get__" = some (some (.builtin "getset_descriptor.__get__"))) (ht : PySem.W.takesIn K (.builtin "object.__class__") = some true)
    (hm : PySem.W.mroIn K C (.type "object") = some true) : XCls K mg n C := ⟨PySem.W.mg_of X G e, hg, hk, hs, hd, ha, hn, ht, hm⟩
/-- kitOne of each -/
inductive Kits (K : PySem.W.Frag) (mg : Str → Option Value) (u : Value) (f : Str → Bool) : List Str → Prop where
  | nil : Kits K mg u f []
  | cons {n : Str} {C : Addr} {ns : List Str} {b : Bool} : XCls K mg n C → PySem.W.kitOne K (.ref C) u = some b → f n = b → Kits K mg u f ns → Kits K mg u f (n :: ns)
theorem Kits.get {u : Value} {f : Str → Bool} {ns : List Str} (k : Kits K mg u f ns) : ∀ (n : Str) (C : Addr), n ∈ ns → mg n = some (.ref C) → ExcC K C ∧ PySem.W.kitOne K (.ref C) u = some (f n) := by
  induction k with
  | nil => intro n C hn; exact absurd hn List.not_mem_nil
  | cons a b e _ ih =>
    intro n C hn hm
    rcases List.mem_cons.mp hn with z | z
    · subst z
      have := a.g.symm.trans hm
      cases this
      exact ⟨a.x, b.trans (by rw [e])⟩
    · exact ih n C z hm
theorem Kits.isx {u : Value} {f : Str → Bool} {ns : List Str} {g : Str → Option Bool} (k : Kits K mg u f ns) (hg : ∀ n b, g n = some b → n ∈ ns ∧ f n = b) (n : Str) (b : Bool) (C : Addr) (h : g n = some b) (hm : (CC.mk K mg T).mg n = some (.ref C)) : ExcC K C ∧ PySem.W.kitOne K (.ref C) u = some b := by
  obtain ⟨a, e⟩ := hg n b h
  rw [← e]
  exact k.get n C a hm
theorem kit_ref {C D : Addr} {b : Bool} (ic : PySem.W.isClsIn K D = true) (ht : PySem.W.typeIn K (.ref D) = some (.type "type")) (hs : PySem.W.subIn K (.ref C) (.ref D) = some b) (he : C = D → b = true) : PySem.W.kitOne K (.ref C) (.ref D) = some b := by
  unfold PySem.W.kitOne
  by_cases e : C = D
  · subst e
    rw [if_pos (by simp), he rfl]
  · rw [if_neg (by simpa using e)]
    unfold PySem.W.kitCls
    have ic' : (PySem.W.clsIn K D).isSome = true := ic
    simp [ic', ht, hs]
theorem kit_typ {C : Addr} {T : String} {b : Bool} (hm : PySem.W.kitMeta T = true) (hs : PySem.W.subIn K (.ref C) (.type T) = some b) : PySem.W.kitOne K (.ref C) (.type T) = some b := by
  unfold PySem.W.kitOne
  rw [if_neg (by simp)]
  unfold PySem.W.kitCls
  simp [hm, hs]
theorem xm_ref {C D : Addr} {b : Bool} (hb : PySem.W.subIn K (.ref D) (.type "BaseException") = some true) (ic : PySem.W.isClsIn K D = true) (ht : PySem.W.typeIn K (.ref D) = some (.type "type")) (hs : PySem.W.subIn K (.ref C) (.ref D) = some b) : PySem.W.exmOne K (.ref C) (.ref D) = some b := by
  unfold PySem.W.exmOne
  have ic' : (PySem.W.clsIn K D).isSome = true := ic
  unfold PySem.W.kitCls
  simp [hb, ic', ht, hs]
theorem tab_in {x : Str} {f cc P : Addr} {st : Stmt} {e2 : Value} {od2 : Option Addr} {vs : Array Value} {sl2 : Array (Option Value)} {oc : Value} {od an : Option Addr} {osl : Array (Option Value)} {kV doc pm ct : Value} (a : PySem.W.nsIn K mainGlobals x = some (some (.ref f)))
    (l : K.lookup f = some ⟨oc, od, .func (PySem.W.fnOf x x (defArgs st) (defBody st) (defScope st) .none kV doc pm an (.ref cc) ct), osl⟩) (l2 : K.lookup cc = some ⟨e2, od2, .fields vs, sl2⟩) (v : (vs[11]? : Option Value) = some (.ref P)) : PySem.W.tabIn K x = some (cc, P) := by
  unfold PySem.W.tabIn
  rw [a]
  dsimp only
  rw [l]
  dsimp only [PySem.W.fnOf]
  rw [l2]
  dsimp only
  rw [v]
/-- exmOne of each -/
inductive Exms (K : PySem.W.Frag) (mg : Str → Option Value) (u : Value) : List Str → Prop where
  | nil : Exms K mg u []
  | cons {n : Str} {C : Addr} {ns : List Str} : XCls K mg n C → PySem.W.exmOne K (.ref C) u = some true → Exms K mg u ns → Exms K mg u (n :: ns)
theorem Exms.get {u : Value} {ns : List Str} (k : Exms K mg u ns) : ∀ (n : Str) (C : Addr), n ∈ ns → mg n = some (.ref C) → PySem.W.exmOne K (.ref C) u = some true := by
  induction k with
  | nil => intro n C hn; exact absurd hn List.not_mem_nil
  | cons a b _ ih =>
    intro n C hn hm
    rcases List.mem_cons.mp hn with z | z
    · subst z
      have := a.g.symm.trans hm
      cases this
      exact b
    · exact ih n C z hm
/-- a def as the top has written it -/
structure Top1 (K : PySem.W.Frag) (mg : Str → Option Value) (x : Str) (st : Stmt) (f : Addr) : Prop where
  ex : ∃ (oc : Value) (od an : Option Addr) (osl : Array (Option Value)) (kV doc pm cdv ct : Value), K.lookup f = some ⟨oc, od, .func (PySem.W.fnOf x x (defArgs st) (defBody st) (defScope st) .none kV doc pm an cdv ct), osl⟩ ∧ PySem.W.codeIn K cdv x = true
  k : PySem.W.keepIn K (.ref f) = true
  g : mg x = some (.ref f)
theorem top_def {x : Str} {st : Stmt} {f : Addr} {oc : Value} {od an : Option Addr} {osl : Array (Option Value)} {kV doc pm cdv ct : Value} (X : K.In h) (G : h.Ns mainGlobals mg) (a : PySem.W.nsIn K mainGlobals x = some (some (.ref f)))
    (l : K.lookup f = some ⟨oc, od, .func (PySem.W.fnOf x x (defArgs st) (defBody st) (defScope st) .none kV doc pm an cdv ct), osl⟩) (c : PySem.W.codeIn K cdv x = true) (k : PySem.W.keepIn K (.ref f) = true) : Top1 K mg x st f :=
  ⟨⟨oc, od, an, osl, kV, doc, pm, cdv, ct, l, c⟩, k, PySem.W.mg_of X G a⟩
theorem Top1.df {x : Str} {st : Stmt} {f : Addr} (t : Top1 K mg x st f) : Df ⟨K, mg, T⟩ x st := by
  obtain ⟨oc, od, an, osl, kV, doc, pm, cdv, ct, l, c⟩ := t.ex
  exact ⟨f, _, fun_mk l c t.k, t.g⟩
/-- a def's table -/
structure Top2 (K : PySem.W.Frag) (mg : Str → Option Value) (h : Heap) (x : Str) (cc P : Addr) : Prop where
  cd : ∀ (fa : Addr) (oc : Value) (od : Option Addr) (fd : FuncData) (osl : Array (Option Value)), mg x = some (.ref fa) → K.lookup fa = some ⟨oc, od, .func fd, osl⟩ → fd.code = .ref cc
  hd : PySem.W.CodeHd h cc P
  e : h.get? P = some { cls := .none, data := .fields #[] }
  nl : K.lookup P = none
theorem top_tab {q : Program} {x : Str} {cc P : Addr} {dd : DefRec} (X : K.In h) (G : h.Ns mainGlobals mg)
    (tf : ∀ (x : Str) (c P : Addr) (dd : DefRec), (recsOf q).find? (fun e => e.name == x) = some dd → PySem.W.tabIn K x = some (c, P) → PySem.W.CodeHd h c P ∧ h.get? P = some { cls := .none, data := .fields #[] })
    (ht : PySem.W.tabIn K x = some (cc, P)) (hr : (recsOf q).find? (fun e => e.name == x) = some dd) (nl : K.lookup P = none) : Top2 K mg h x cc P :=
  ⟨fun fa oc od fd osl hm l => PySem.W.law_code X G ht hm (X _ _ l) rfl, (tf x cc P dd hr ht).1, (tf x cc P dd hr ht).2, nl⟩
theorem Top2.lam {base : Heap} {x : Str} {cc P : Addr} (t : Top2 K mg h x cc P) (B : TabB base mg cc P) (m : (P, (x ++ ".<locals>.") ++ "<lambda>") ∈ T) (u : ∀ p ∈ T, p.1 = P → p.2 = (x ++ ".<locals>.") ++ "<lambda>") : LamT ⟨K, mg, T⟩ base x :=
  ⟨cc, P, t.cd, B, m, u⟩
theorem zip_uniq : ∀ {ps : List Addr} {qs : List Str}, ps.Nodup → ∀ (q : Addr × Str), q ∈ ps.zip qs → ∀ p ∈ ps.zip qs, p.1 = q.1 → p.2 = q.2
  | [], _, _, q, hq, _, _, _ => by simp at hq
  | a :: as, [], _, q, hq, _, _, _ => by simp at hq
  | a :: as, b :: bs, nd, q, hq, p, hp, e => by
    obtain ⟨na, nd'⟩ := List.nodup_cons.mp nd
    rw [List.zip_cons_cons] at hq hp
    rcases List.mem_cons.mp hq with z | z
    · rcases List.mem_cons.mp hp with y | y
      · rw [z, y]
      · exact absurd (by rw [z] at e; have := (List.of_mem_zip y).1; rw [e] at this; exact this) na
    · rcases List.mem_cons.mp hp with y | y
      · exact absurd (by rw [y] at e; have := (List.of_mem_zip z).1; rw [← e] at this; exact this) na
      · exact zip_uniq nd' q z p y e
section
variable {α : Type} {R : α → Prop}
theorem all0 : ∀ p ∈ ([] : List α), R p := fun p h => absurd h List.not_mem_nil
theorem allC {a : α} {as : List α} (h : R a) (k : ∀ p ∈ as, R p) : ∀ p ∈ a :: as, R p := fun p hp => by
  rcases List.mem_cons.mp hp with z | z
  · rw [z]; exact h
  · exact k p z
theorem all1 {a : α} (h : R a) : ∀ p ∈ [a], R p := allC h all0
theorem all2 {a b : α} (h : R a) (k : R b) : ∀ p ∈ [a, b], R p := allC h (all1 k)
theorem all3 {a b d : α} (h : R a) (k : R b) (m : R d) : ∀ p ∈ [a, b, d], R p := allC h (all2 k m)
theorem all4 {a b d e : α} (h : R a) (k : R b) (m : R d) (n : R e) : ∀ p ∈ [a, b, d, e], R p := allC h (all3 k m n)
theorem all5 {a b d e f : α} (h : R a) (k : R b) (m : R d) (n : R e) (o : R f) : ∀ p ∈ [a, b, d, e, f], R p := allC h (all4 k m n o)
theorem all6 {a b d e f g : α} (h : R a) (k : R b) (m : R d) (n : R e) (o : R f) (p : R g) : ∀ p ∈ [a, b, d, e, f, g], R p := allC h (all5 k m n o p)
theorem all7 {a b d e f g i : α} (h : R a) (k : R b) (m : R d) (n : R e) (o : R f) (p : R g) (q : R i) : ∀ p ∈ [a, b, d, e, f, g, i], R p := allC h (all6 k m n o p q)
end
end
end BD
set_option Elab.async false
set_option maxRecDepth 100000
set_option maxHeartbeats 4000000
/-! The layer BD: the words' values, for simp. -/
namespace BD
open PySem PySem.Spec PyProof.Rows L2 LamX
section
variable {f g h : Rho → Out D} {t u : Rho → Out Bool} {a : Rho → Out (List D)} {p q : SF} {ρ : Rho}
@[simp] theorem v_eVar (i : Nat) : eVar i ρ = match ρ[i]? with | some (.val d) => .ok d | _ => .bad := rfl
@[simp] theorem v_eC (d : D) : eC d ρ = .ok d := rfl
@[simp] theorem v_eOp (k : D → D → Option D) : eOp k f g ρ = (f ρ).bind fun x => (g ρ).bind fun y => ofO (k x y) := rfl
@[simp] theorem v_eU (k : D → Option D) : eU k f ρ = (f ρ).bind fun x => ofO (k x) := rfl
@[simp] theorem v_eN (k : List D → Option D) : eN k a ρ = (a ρ).bind fun x => ofO (k x) := rfl
@[simp] theorem v_aNil : aNil ρ = .ok [] := rfl
@[simp] theorem v_aCons : aCons f a ρ = (f ρ).bind fun d => (a ρ).bind fun ds => .ok (d :: ds) := rfl
@[simp] theorem v_tV : tV f ρ = (f ρ).bind toB := rfl
@[simp] theorem v_tAn : tAn t u ρ = (t ρ).bind fun b => if b = true then u ρ else .ok false := rfl
@[simp] theorem v_tOrr : tOrr t u ρ = (t ρ).bind fun b => if b = true then .ok true else u ρ := rfl
@[simp] theorem v_tNo : tNo t ρ = (t ρ).bind fun b => .ok (!b) := rfl
@[simp] theorem v_eIf : eIf t f g ρ = (t ρ).bind fun b => if b = true then f ρ else g ρ := rfl
@[simp] theorem v_tTru : tTru f ρ = (f ρ).bind fun d => ofO (truD d) := rfl
@[simp] theorem v_eOrV : eOrV f g ρ = (f ρ).bind fun d => (ofO (truD d)).bind fun b => if b = true then .ok d else g ρ := rfl
@[simp] theorem v_eAndV : eAndV f g ρ = (f ρ).bind fun d => (ofO (truD d)).bind fun b => if b = true then g ρ else .ok d := rfl
@[simp] theorem v_eNotV : eNotV f ρ = (f ρ).bind fun d => (ofO (truD d)).bind fun b => .ok (.bl (!b)) := rfl
@[simp] theorem v_eChain (k l : D → D → Option D) : eChain k l f g h ρ = (f ρ).bind fun a => (g ρ).bind fun b => (ofO (k a b)).bind fun d => (toB d).bind fun j => if j = true then (h ρ).bind fun e => ofO (l b e) else .ok (.bl false) := rfl
@[simp] theorem v_eTup : eTup a ρ = (a ρ).bind fun ds => if ds.length ≤ 1000 then .ok (.tup ds) else .bad := rfl
@[simp] theorem v_eLst : eLst a ρ = (a ρ).bind fun ds => if ds.length ≤ 1000 then .ok (.lst ds) else .bad := rfl
@[simp] theorem v_eCall (k : List D → Out D) : eCall k a ρ = (a ρ).bind k := rfl
@[simp] theorem v_eSl (k : D → Option Int → Option Int → Option D) (lo hi : Rho → Out (Option Int)) : eSl k f lo hi ρ = (f ρ).bind fun d => (lo ρ).bind fun l => (hi ρ).bind fun h => ofO (k d l h) := rfl
@[simp] theorem v_oNo : oNo ρ = .ok none := rfl
@[simp] theorem v_oSo : oSo f ρ = (f ρ).bind toI := rfl
@[simp] theorem v_toI_int (i : Int) : toI (.int i) = .ok (some i) := rfl
@[simp] theorem v_eTold (k : Str → Bool) (l : List D → Out D) : eTold k l f ρ = toldO k l (f ρ) := rfl
@[simp] theorem v_toldO_ok (k : Str → Bool) (l : List D → Out D) (d : D) : toldO k l (.ok d) = .ok d := rfl
@[simp] theorem v_toldO_exc (k : Str → Bool) (l : List D → Out D) (x : Xn) : toldO k l (.exc x) = if k x.c = true then (l [.exn x.c x.nm]).ne else .bad := rfl
@[simp] theorem v_toldO_bad (k : Str → Bool) (l : List D → Out D) : toldO k l .bad = .bad := rfl
@[simp] theorem v_eLc (vs : List Nat) (it : Rho → Out (List D)) (t : TF) (b : Rho → Out Bool) (e : Rho → Out D) : eLc vs it t b e ρ = (it ρ).bind fun ds => if ds.length ≤ 100000 then (lcS t b e (wipeR ρ vs) ds).bind fun ys => .ok (.lst ys) else .bad := rfl
@[simp] theorem v_bYes : bYes ρ = .ok true := rfl
@[simp] theorem v_eStr1 (k : Str → D → Option D) : eStr1 k f g ρ = (f ρ).bind fun d => match d with | .str a => (g ρ).bind fun b => ofO (k a b) | _ => .bad := rfl
@[simp] theorem v_sNext : sNext ρ = .nx ρ := rfl
@[simp] theorem v_sSeq : sSeq p q ρ = match p ρ with | .nx ρ' => q ρ' | o => o := rfl
@[simp] theorem v_sIf : sIf t p q ρ = lift (t ρ) ρ fun b => if b = true then p ρ else q ρ := rfl
@[simp] theorem v_sRet : sRet f ρ = lift (f ρ) ρ .rt := rfl
@[simp] theorem v_sRetO : sRetO f ρ = lift (f ρ) ρ .ro := rfl
@[simp] theorem v_sRetN : sRetN ρ = .rt .non := rfl
@[simp] theorem v_sDrop : sDrop f ρ = lift (f ρ) ρ fun _ => .nx ρ := rfl
@[simp] theorem v_sBrk : sBrk ρ = .bk ρ := rfl
@[simp] theorem v_sCont : sCont ρ = .ct ρ := rfl
@[simp] theorem v_sNever : sNever ρ = .bad := rfl
@[simp] theorem v_sRaise (n : Str) : sRaise n ρ = .exc ⟨n, none⟩ ρ := rfl
@[simp] theorem v_sSetO (i : Nat) : sSetO i f ρ = lift (f ρ) ρ fun d => .nx (ρ.set i (.own d)) := rfl
@[simp] theorem v_gN (i : Nat) (d : D) : gN i d ρ = some (ρ.set i (.val d)) := rfl
@[simp] theorem v_gNl (ds : List D) : gNl ds ρ = if ds.isEmpty then some ρ else none := rfl
@[simp] theorem v_gCn_cons (t : TF) (u : TFs) (d : D) (ds : List D) : gCn t u (d :: ds) ρ = (t d ρ).bind fun ρ' => u ds ρ' := rfl
@[simp] theorem v_gCn_nil (t : TF) (u : TFs) : gCn t u [] ρ = none := rfl
@[simp] theorem v_gTp (u : TFs) (ds : List D) : gTp u (.tup ds) ρ = u ds ρ := rfl
@[simp] theorem v_sAsg (k : TF) : sAsg k f ρ = lift (f ρ) ρ fun d => oS (k d ρ) .nx := rfl
@[simp] theorem v_sPar (i j : Nat) : sPar i j a ρ = lift (a ρ) ρ fun ds => match ds with | [d, e] => .nx ((ρ.set i (.val d)).set j (.val e)) | _ => .bad := rfl
@[simp] theorem v_sFor (k : Rho → Out (List D)) (l : TF) : sFor k l p ρ = lift (k ρ) ρ fun ds => loopS (fun d ρ => oS (l d ρ) p) ds ρ := rfl
@[simp] theorem v_itL : itL f ρ = (f ρ).bind itemsL := rfl
@[simp] theorem v_itT : itT f ρ = (f ρ).bind itemsT := rfl
@[simp] theorem v_itA (k : List D → Out (List D)) : itA k a ρ = (a ρ).bind k := rfl
@[simp] theorem v_sApp (i : Nat) : sApp i f ρ = ownL ρ i fun ds => lift (f ρ) ρ fun d => if ds.length ≤ 100000 then .nx (ρ.set i (.own (.lst (ds ++ [d])))) else .bad := rfl
@[simp] theorem v_sExt (i : Nat) : sExt i f ρ = ownL ρ i fun ds => lift (f ρ) ρ fun d => match d with | .lst es => if ds.length + es.length ≤ 100000 then .nx (ρ.set i (.own (.lst (ds ++ es)))) else .bad | _ => .bad := rfl
@[simp] theorem v_sPop (k : TF) (i : Nat) : sPop k i ρ = ownL ρ i fun ds => match ds.getLast? with | some d => oS (k d (ρ.set i (.own (.lst ds.dropLast)))) .nx | none => .bad := rfl
@[simp] theorem v_sFrz (i : Nat) : sFrz i ρ = match ρ[i]? with | some (.own d) => .nx (ρ.set i (.val d)) | _ => .bad := rfl
@[simp] theorem v_sRetOw (i : Nat) : sRetOw i ρ = match ρ[i]? with | some (.own d) => .ro d | _ => .bad := rfl
@[simp] theorem v_tNeO (i : Nat) : tNeO i ρ = match ρ[i]? with | some (.own (.lst ds)) => .ok (!ds.isEmpty) | _ => .bad := rfl
@[simp] theorem v_ownL (i : Nat) (k : List D → SO) : ownL ρ i k = match ρ[i]? with | some (.own (.lst ds)) => k ds | _ => .bad := rfl
@[simp] theorem v_run (n : Nat) (ds : List D) : run n p ds = finS (p (startR n ds)) := rfl
@[simp] theorem v_startR (n : Nat) (ds : List D) : startR n ds = ds.map .val ++ List.replicate (n - ds.length) .em := rfl
@[simp] theorem v_loop_nil (k : D → SF) : loopS k [] ρ = .nx ρ := rfl
@[simp] theorem v_add (i j : Int) : dAdd (.int i) (.int j) = some (.int (i + j)) := rfl
@[simp] theorem v_sub (i j : Int) : dSub (.int i) (.int j) = some (.int (i - j)) := rfl
@[simp] theorem v_mod (i j : Int) : dMod (.int i) (.int j) = if 0 < j then some (.int (i % j)) else none := rfl
@[simp] theorem v_div (i j : Int) : dDiv (.int i) (.int j) = if CDivW i j then some (.int (i / j)) else none := rfl
@[simp] theorem v_mul (i j : Int) : dMul (.int i) (.int j) = if mulOk i j then some (.int (i * j)) else none := rfl
@[simp] theorem v_lt (i j : Int) : dLt (.int i) (.int j) = some (.bl (decide (i < j))) := rfl
@[simp] theorem v_le (i j : Int) : dLe (.int i) (.int j) = some (.bl (decide (i ≤ j))) := rfl
@[simp] theorem v_gt (i j : Int) : dGt (.int i) (.int j) = some (.bl (decide (j < i))) := rfl
@[simp] theorem v_ge (i j : Int) : dGe (.int i) (.int j) = some (.bl (decide (j ≤ i))) := rfl
theorem abs_cast (t : Int) : (if t < 0 then -t else t) = (t.natAbs : Int) := by split <;> omega
@[simp] theorem v_abs (i : Int) : dAbs [.int i] = some (.int (i.natAbs : Int)) := by rw [← abs_cast]; rfl
@[simp] theorem v_intI (i : Int) : dInt [.int i] = some (.int i) := rfl
@[simp] theorem v_intB (b : Bool) : dInt [.bl b] = some (.int (if b then 1 else 0)) := rfl
@[simp] theorem v_addL (xs ys : List D) : dAdd (.lst xs) (.lst ys) = if xs.length + ys.length ≤ 100000 then some (.lst (xs ++ ys)) else none := rfl
@[simp] theorem v_ixT (ds : List D) (i : Int) : dIx (.tup ds) (.int i) = atI ds i := rfl
@[simp] theorem v_ixL (ds : List D) (i : Int) : dIx (.lst ds) (.int i) = atI ds i := rfl
@[simp] theorem v_lenT (ds : List D) : dLen [.tup ds] = some (.int ds.length) := rfl
@[simp] theorem v_lenL (ds : List D) : dLen [.lst ds] = some (.int ds.length) := rfl
@[simp] theorem v_truNon : truD .non = some false := rfl
@[simp] theorem v_truBl (b : Bool) : truD (.bl b) = some b := rfl
@[simp] theorem v_truInt (i : Int) : truD (.int i) = some (i != 0) := rfl
@[simp] theorem v_truTup (ds : List D) : truD (.tup ds) = some (!ds.isEmpty) := rfl
@[simp] theorem v_truLst (ds : List D) : truD (.lst ds) = some (!ds.isEmpty) := rfl
@[simp] theorem v_isi_non (n : String)  : dIsi n (.non) = some (.bl (isiS "NoneType" n)) := rfl
@[simp] theorem v_isi_bl (n : String) (b : Bool) : dIsi n (.bl b) = some (.bl (isiS "bool" n)) := rfl
@[simp] theorem v_isi_int (n : String) (b : Int) : dIsi n (.int b) = some (.bl (isiS "int" n)) := rfl
@[simp] theorem v_isi_str (n : String) (b : Str) : dIsi n (.str b) = some (.bl (isiS "str" n)) := rfl
@[simp] theorem v_isi_tup (n : String) (b : List D) : dIsi n (.tup b) = some (.bl (isiS "tuple" n)) := rfl
@[simp] theorem v_isi_lst (n : String) (b : List D) : dIsi n (.lst b) = some (.bl (isiS "list" n)) := rfl
@[simp] theorem v_isi_dic (n : String) (b : List Str) (d : List D) : dIsi n (.dic b d) = some (.bl (isiS "dict" n)) := rfl
@[simp] theorem v_isN (a : D) : dIsN a .non = some (.bl (isNon a)) := rfl
@[simp] theorem v_notN (a : D) : dNotN a .non = some (.bl (!isNon a)) := rfl
@[simp] theorem v_isB (a b : Bool) : dIsB (.bl a) (.bl b) = some (.bl (decide (a = b))) := rfl
@[simp] theorem v_notB (a b : Bool) : dNotB (.bl a) (.bl b) = some (.bl (!decide (a = b))) := rfl
@[simp] theorem v_ap0 (k : Out D) : ap0 k [] = k := rfl
@[simp] theorem v_ap1 (k : D → Out D) (x0 : D) : ap1 k [x0] = k x0 := rfl
@[simp] theorem v_ap2 (k : D → D → Out D) (x0 x1 : D) : ap2 k [x0, x1] = k x0 x1 := rfl
@[simp] theorem v_ap3 (k : D → D → D → Out D) (x0 x1 x2 : D) : ap3 k [x0, x1, x2] = k x0 x1 x2 := rfl
@[simp] theorem v_ap4 (k : D → D → D → D → Out D) (x0 x1 x2 x3 : D) : ap4 k [x0, x1, x2, x3] = k x0 x1 x2 x3 := rfl
@[simp] theorem v_ap5 (k : D → D → D → D → D → Out D) (x0 x1 x2 x3 x4 : D) : ap5 k [x0, x1, x2, x3, x4] = k x0 x1 x2 x3 x4 := rfl
@[simp] theorem v_ap6 (k : D → D → D → D → D → D → Out D) (x0 x1 x2 x3 x4 x5 : D) : ap6 k [x0, x1, x2, x3, x4, x5] = k x0 x1 x2 x3 x4 x5 := rfl
@[simp] theorem v_sllL (ds : List D) (l h : Option Int) : dSlL (.lst ds) l h = some (.lst (cutD ds l h)) := rfl
@[simp] theorem v_sllS (ns : List Int) (l h : Option Int) : dSlL (.scr ns) l h = some (.lst (cutD (ns.map D.int) l h)) := rfl
@[simp] theorem v_enmL (ds : List D) : enm [.lst ds] = .ok (enumD ds 0) := rfl
@[simp] theorem v_zpLL (ds es : List D) : zpL [.lst ds, .lst es] = .ok (zipD ds es) := rfl
@[simp] theorem v_zpLT (ds es : List D) : zpL [.tup ds, .tup es] = .ok (zipD ds es) := rfl
@[simp] theorem v_zip_cons (d e : D) (ds es : List D) : zipD (d :: ds) (e :: es) = .tup [d, e] :: zipD ds es := rfl
@[simp] theorem v_zip_nil (es : List D) : zipD [] es = [] := rfl
theorem v_rng1 (n : Int) : rng1 [.int n] = if n ≤ 1000000 ∧ -1000000 ≤ n then .ok ((List.range n.toNat).map fun i => .int (i : Nat)) else .bad := rfl
@[simp] theorem v_rng2 (a n : Int) : rng2 [.int a, .int n] = if n ≤ 1000000000000 ∧ -1000000000000 ≤ n ∧ a ≤ 1000000000000 ∧ -1000000000000 ≤ a then .ok ((List.range (n - a).toNat).map fun i => .int (a + (i : Nat))) else .bad := rfl
@[simp] theorem v_neg (i : Int) : dNeg (.int i) = some (.int (-i)) := rfl
@[simp] theorem v_loop_cons (k : D → SF) (d : D) (ds : List D) (ρ : Rho) : loopS k (d :: ds) ρ = match k d ρ with
    | .nx ρ' => loopS k ds ρ'
    | .ct ρ' => loopS k ds ρ'
    | .bk ρ' => .nx ρ'
    | o => o := rfl
theorem atI_nn {α : Type} (xs : List α) (i : Int) (h0 : 0 ≤ i) (h : i < xs.length) : atI xs i = xs[i.toNat]? := by
  unfold atI ixN
  rw [if_pos h0, if_pos h]
  rfl
@[simp] theorem v_at0 {α : Type} (x : α) (xs : List α) : atI (x :: xs) 0 = some x := by rw [atI_nn _ _ (by omega) (by simp)]; rfl
@[simp] theorem v_at1 {α : Type} (x y : α) (xs : List α) : atI (x :: y :: xs) 1 = some y := by rw [atI_nn _ _ (by omega) (by simp; omega)]; rfl
@[simp] theorem v_at2 {α : Type} (x y z : α) (xs : List α) : atI (x :: y :: z :: xs) 2 = some z := by rw [atI_nn _ _ (by omega) (by simp; omega)]; rfl
@[simp] theorem v_at3 {α : Type} (x y z u : α) (xs : List α) : atI (x :: y :: z :: u :: xs) 3 = some u := by rw [atI_nn _ _ (by omega) (by simp; omega)]; rfl
@[simp] theorem v_pow (i j : Int) : dPow (.int i) (.int j) = if CPow i j then some (.int (i ^ j.toNat)) else none := rfl
@[simp] theorem v_cpow (i j : Int) : CPow i j ↔ 0 ≤ j ∧ j ≤ 1000000 ∧ i.natAbs < 18446744073709551616 := Iff.rfl
theorem atI_mem {α : Type} (xs : List α) (i : Int) (h0 : 0 ≤ i) (h : i < xs.length) : ∃ x, x ∈ xs ∧ atI xs i = some x := by
  rw [atI_nn xs i h0 h]
  have : i.toNat < xs.length := by omega
  exact ⟨xs[i.toNat], List.getElem_mem this, List.getElem?_eq_getElem this⟩
@[simp] theorem v_rng2c : rng1 [.int 2] = .ok [.int 0, .int 1] := rfl
theorem v_eqSS {x y : Str} (hx : PyData.strOk x = true) (hy : PyData.strOk y = true) : dEq (.str x) (.str y) = some (.bl (x == y)) := by
  unfold dEq
  rw [if_pos ⟨hx, hy, Nat.zero_le _, Nat.zero_le _⟩]
  rfl
theorem v_neSS {x y : Str} (hx : PyData.strOk x = true) (hy : PyData.strOk y = true) : dNe (.str x) (.str y) = some (.bl (!(x == y))) := by
  unfold dNe
  rw [if_pos ⟨hx, hy, Nat.zero_le _, Nat.zero_le _⟩]
  rfl
theorem eqS {x y : Str} {b : Bool} (h : (PyData.strOk x && PyData.strOk y && ((x == y) == b)) = true) : dEq (.str x) (.str y) = some (.bl b) := by
  simp only [Bool.and_eq_true, beq_iff_eq] at h
  obtain ⟨⟨h1, h2⟩, h3⟩ := h
  rw [v_eqSS h1 h2, ← h3]
theorem neS {x y : Str} {b : Bool} (h : (PyData.strOk x && PyData.strOk y && ((!(x == y)) == b)) = true) : dNe (.str x) (.str y) = some (.bl b) := by
  simp only [Bool.and_eq_true, beq_iff_eq] at h
  obtain ⟨⟨h1, h2⟩, h3⟩ := h
  rw [v_neSS h1 h2, ← h3]
theorem v_cmp2 {a b : D} (h : cmpOk a b) : dEq a b = some (.bl (a.eqv b)) := if_pos h
theorem v_ncmp2 {a b : D} (h : cmpOk a b) : dNe a b = some (.bl (!a.eqv b)) := if_pos h
@[simp] theorem v_eqII (i j : Int) : dEq (.int i) (.int j) = some (.bl (i == j)) := if_pos ⟨rfl, rfl, by simp [D.dep], by simp [D.dep]⟩
@[simp] theorem v_neII (i j : Int) : dNe (.int i) (.int j) = some (.bl (!(i == j))) := if_pos ⟨rfl, rfl, by simp [D.dep], by simp [D.dep]⟩
@[simp] theorem isi_NoneType_int : isiS "NoneType" "int" = false := by decide
@[simp] theorem isi_NoneType_bool : isiS "NoneType" "bool" = false := by decide
@[simp] theorem isi_NoneType_str : isiS "NoneType" "str" = false := by decide
@[simp] theorem isi_NoneType_tuple : isiS "NoneType" "tuple" = false := by decide
@[simp] theorem isi_NoneType_list : isiS "NoneType" "list" = false := by decide
@[simp] theorem isi_NoneType_dict : isiS "NoneType" "dict" = false := by decide
@[simp] theorem isi_bool_int : isiS "bool" "int" = true := by decide
@[simp] theorem isi_bool_bool : isiS "bool" "bool" = true := by decide
@[simp] theorem isi_bool_str : isiS "bool" "str" = false := by decide
@[simp] theorem isi_bool_tuple : isiS "bool" "tuple" = false := by decide
@[simp] theorem isi_bool_list : isiS "bool" "list" = false := by decide
@[simp] theorem isi_bool_dict : isiS "bool" "dict" = false := by decide
@[simp] theorem isi_int_int : isiS "int" "int" = true := by decide
@[simp] theorem isi_int_bool : isiS "int" "bool" = false := by decide
@[simp] theorem isi_int_str : isiS "int" "str" = false := by decide
@[simp] theorem isi_int_tuple : isiS "int" "tuple" = false := by decide
@[simp] theorem isi_int_list : isiS "int" "list" = false := by decide
@[simp] theorem isi_int_dict : isiS "int" "dict" = false := by decide
@[simp] theorem isi_str_int : isiS "str" "int" = false := by decide
@[simp] theorem isi_str_bool : isiS "str" "bool" = false := by decide
@[simp] theorem isi_str_str : isiS "str" "str" = true := by decide
@[simp] theorem isi_str_tuple : isiS "str" "tuple" = false := by decide
@[simp] theorem isi_str_list : isiS "str" "list" = false := by decide
@[simp] theorem isi_str_dict : isiS "str" "dict" = false := by decide
@[simp] theorem isi_tuple_int : isiS "tuple" "int" = false := by decide
@[simp] theorem isi_tuple_bool : isiS "tuple" "bool" = false := by decide
@[simp] theorem isi_tuple_str : isiS "tuple" "str" = false := by decide
@[simp] theorem isi_tuple_tuple : isiS "tuple" "tuple" = true := by decide
@[simp] theorem isi_tuple_list : isiS "tuple" "list" = false := by decide
@[simp] theorem isi_tuple_dict : isiS "tuple" "dict" = false := by decide
@[simp] theorem isi_list_int : isiS "list" "int" = false := by decide
@[simp] theorem isi_list_bool : isiS "list" "bool" = false := by decide
@[simp] theorem isi_list_str : isiS "list" "str" = false := by decide
@[simp] theorem isi_list_tuple : isiS "list" "tuple" = false := by decide
@[simp] theorem isi_list_list : isiS "list" "list" = true := by decide
@[simp] theorem isi_list_dict : isiS "list" "dict" = false := by decide
@[simp] theorem isi_dict_int : isiS "dict" "int" = false := by decide
@[simp] theorem isi_dict_bool : isiS "dict" "bool" = false := by decide
@[simp] theorem isi_dict_str : isiS "dict" "str" = false := by decide
@[simp] theorem isi_dict_tuple : isiS "dict" "tuple" = false := by decide
@[simp] theorem isi_dict_list : isiS "dict" "list" = false := by decide
@[simp] theorem isi_dict_dict : isiS "dict" "dict" = true := by decide
end
end BD
set_option Elab.async false
set_option maxRecDepth 100000
set_option maxHeartbeats 4000000
/-! The layer BD: sizes, the greatest common part, fractions in lowest terms. -/
namespace BD
open PySem PySem.Spec PyProof.Rows L2 LamX
/-- i is below 2^n -/
def Sz (n : Nat) (i : Int) : Prop := i.natAbs < 2 ^ n
theorem Sz.mono {m n : Nat} {i : Int} (h : Sz m i) (k : m ≤ n) : Sz n i := Nat.lt_of_lt_of_le h (Nat.pow_le_pow_right (by decide) k)
theorem Sz.neg {n : Nat} {i : Int} (h : Sz n i) : Sz n (-i) := by unfold Sz; rw [Int.natAbs_neg]; exact h
theorem Sz.mul {m n : Nat} {i j : Int} (h : Sz m i) (k : Sz n j) : Sz (m + n) (i * j) := by
  unfold Sz at *
  rw [Int.natAbs_mul, Nat.pow_add]
  exact Nat.mul_lt_mul'' h k
theorem Sz.add {n : Nat} {i j : Int} (h : Sz n i) (k : Sz n j) : Sz (n + 1) (i + j) := by
  unfold Sz at *
  have := Int.natAbs_add_le i j
  rw [Nat.pow_succ]
  omega
theorem Sz.sub {n : Nat} {i j : Int} (h : Sz n i) (k : Sz n j) : Sz (n + 1) (i - j) := by
  unfold Sz at *
  have := Int.natAbs_sub_le i j
  rw [Nat.pow_succ]
  omega
theorem Sz.div {n : Nat} {i : Int} (h : Sz n i) (j : Int) : Sz n (i / j) := Nat.lt_of_le_of_lt (Int.natAbs_ediv_le_natAbs i j) h
theorem Sz.log {n : Nat} {i : Int} (hn : 0 < n) (h : Sz n i) : i.natAbs.log2 < n := by
  by_cases e : i.natAbs = 0
  · rw [e]
    exact hn
  · exact (Nat.log2_lt e).mpr h
theorem Sz.of {n : Nat} {i : Int} (h1 : -(2 ^ n : Nat) < i) (h2 : i < (2 ^ n : Nat)) : Sz n i := by unfold Sz; omega
theorem mulOk_sz {m n : Nat} {i j : Int} (h : Sz m i) (k : Sz n j) (hm : 0 < m := by decide) (hn : 0 < n := by decide) (hs : m + n ≤ 100000 := by decide) : mulOk i j := by
  right
  have h1 := h.log hm
  have h2 := k.log hn
  show _ < 1000000
  omega
theorem mulOk_r {i j : Int} (h1 : -18446744073709551616 < j) (h2 : j < 18446744073709551616) : mulOk i j := .inl (.inr ⟨by simpa using h1, by simpa using h2⟩)
theorem mulOk_l {i j : Int} (h1 : -18446744073709551616 < i) (h2 : i < 18446744073709551616) : mulOk i j := .inl (.inl ⟨by simpa using h1, by simpa using h2⟩)
theorem divOk_sz {m : Nat} {i j : Int} (h0 : 0 < j) (h : Sz m j) (hm : 0 < m := by decide) (hs : m ≤ 8000 := by decide) : CDivW i j := ⟨h0, by have := h.log hm; omega⟩
theorem divOk_lit {i j : Int} (h0 : 0 < j) (h : j < 18446744073709551616) : CDivW i j := divOk_sz (m := 64) h0 (Sz.of (by omega) (by simpa using h))
theorem sz_cell {i : Int} {n : Nat} (h0 : 0 ≤ i) (h : i < 2 ^ 31) (hn : 31 ≤ n := by decide) : Sz n i := Sz.mono (m := 31) (by unfold Sz; omega) hn
/-! fractions -/
abbrev pr (x y : Int) : D := .tup [.int x, .int y]
def nT (t b : Int) : Int := (if b < 0 then -t else t) / (Int.gcd t b : Int)
def nB (t b : Int) : Int := (if b < 0 then -b else b) / (Int.gcd t b : Int)
abbrev nrm (t b : Int) : D := pr (nT t b) (nB t b)
theorem gcd_pos {t b : Int} (h : b ≠ 0) : (0 : Int) < (Int.gcd t b : Int) := by
  have := Int.gcd_pos_of_ne_zero_right t h
  omega
theorem nB_pos {t b : Int} (h : b ≠ 0) : 0 < nB t b := by
  unfold nB
  refine Int.ediv_pos_of_pos_of_dvd (by split <;> omega) (by omega) ?_
  split
  · exact (Int.dvd_neg).mpr (Int.gcd_dvd_right t b)
  · exact Int.gcd_dvd_right t b
theorem nGcd {t b : Int} (h : b ≠ 0) : Int.gcd (nT t b) (nB t b) = 1 := by
  have hg := Int.gcd_pos_of_ne_zero_right t h
  have key : ∀ x y : Int, x.natAbs = t.natAbs → y.natAbs = b.natAbs → (Int.gcd t b : Int) ∣ x → (Int.gcd t b : Int) ∣ y → Int.gcd (x / (Int.gcd t b : Int)) (y / (Int.gcd t b : Int)) = 1 := fun x y hx hy dx dy => by
    have e1 := Int.natAbs_ediv_of_dvd dx
    have e2 := Int.natAbs_ediv_of_dvd dy
    show Nat.gcd _ _ = 1
    rw [e1, e2, hx, hy, Int.natAbs_natCast]
    exact Nat.coprime_div_gcd_div_gcd hg
  unfold nT nB
  have d1 := Int.gcd_dvd_left t b
  have d2 := Int.gcd_dvd_right t b
  split
  · exact key _ _ (Int.natAbs_neg t) (Int.natAbs_neg b) ((Int.dvd_neg).mpr d1) ((Int.dvd_neg).mpr d2)
  · exact key _ _ rfl rfl d1 d2
theorem gcd_scale (t b c : Int) (hc : 0 < c) : (Int.gcd (t * c) (b * c) : Int) = (Int.gcd t b : Int) * c := by
  rw [Int.gcd_mul_right]
  have : (c.natAbs : Int) = c := by omega
  rw [Int.natCast_mul, this]
theorem neg_scale {b c : Int} (hc : 0 < c) : b * c < 0 ↔ b < 0 := by
  constructor
  · intro h
    by_cases e : b < 0
    · exact e
    · have := Int.mul_nonneg (by omega : 0 ≤ b) (by omega : 0 ≤ c)
      omega
  · intro h
    exact Int.mul_neg_of_neg_of_pos h hc
theorem nT_scale {t b c : Int} (hc : 0 < c) : nT (t * c) (b * c) = nT t b := by
  unfold nT
  rw [gcd_scale t b c hc]
  have e : (if b * c < 0 then -(t * c) else t * c) = (if b < 0 then -t else t) * c := by
    by_cases h : b < 0
    · rw [if_pos h, if_pos ((neg_scale hc).mpr h), Int.neg_mul]
    · rw [if_neg h, if_neg (fun z => h ((neg_scale hc).mp z))]
  rw [e, Int.mul_ediv_mul_of_pos_left _ _ hc]
theorem nB_scale {t b c : Int} (hc : 0 < c) : nB (t * c) (b * c) = nB t b := by
  unfold nB
  rw [gcd_scale t b c hc]
  have e : (if b * c < 0 then -(b * c) else b * c) = (if b < 0 then -b else b) * c := by
    by_cases h : b < 0
    · rw [if_pos h, if_pos ((neg_scale hc).mpr h), Int.neg_mul]
    · rw [if_neg h, if_neg (fun z => h ((neg_scale hc).mp z))]
  rw [e, Int.mul_ediv_mul_of_pos_left _ _ hc]
theorem nT_sz {n : Nat} {t : Int} (b : Int) (h : Sz n t) : Sz n (nT t b) := by
  unfold nT
  refine Sz.div ?_ _
  split
  · exact h.neg
  · exact h
theorem nB_sz {n : Nat} (t : Int) {b : Int} (h : Sz n b) : Sz n (nB t b) := by
  unfold nB
  refine Sz.div ?_ _
  split
  · exact h.neg
  · exact h
theorem gcd_sz {n : Nat} (t : Int) {b : Int} (hb : b ≠ 0) (h : Sz n b) : Sz n (Int.gcd t b : Int) := by
  unfold Sz at *
  rw [Int.natAbs_natCast]
  have : (Int.gcd t b) ≤ b.natAbs := Nat.gcd_le_right _ (by omega)
  omega
/-! the loop -/
theorem while_gcd : ∀ (fuel m n : Nat), n < fuel → ∀ r : Rho, whileS (tV (eOp dGt (eVar 1) (eC (.int 0)))) (sPar 0 1 (aCons (eVar 1) (aCons (eOp dMod (eVar 0) (eVar 1)) aNil))) fuel (.val (.int m) :: .val (.int n) :: r) = .nx (.val (.int (Nat.gcd m n : Nat)) :: .val (.int 0) :: r)
  | 0, _, _, h, _ => absurd h (Nat.not_lt_zero _)
  | fuel + 1, m, n, h, r => by
    unfold whileS
    by_cases e : n = 0
    · subst e
      simp
    · have hp : 0 < n := Nat.pos_of_ne_zero e
      have hl : m % n < fuel := by have := Nat.mod_lt m hp; omega
      have ih := while_gcd fuel n (m % n) hl r
      rw [Int.natCast_emod] at ih
      simp only [v_tV, v_eOp, v_eVar, v_eC, v_gt, v_sPar, v_aCons, v_aNil, List.getElem?_cons_zero, List.getElem?_cons_succ, Out.bind_ok, ofO_some, toB_bl, lift_ok, decide_eq_true (show (0 : Int) < (n : Int) by omega), if_true, v_mod, List.set_cons_zero, List.set_cons_succ, if_pos (show (0 : Int) < (n : Int) by omega)]
      rw [ih, Nat.gcd_comm m n, Nat.gcd_rec n m, Nat.gcd_comm]
end BD
namespace BD
open PySem PySem.Spec PyProof.Rows L2 LamX
@[simp] theorem v_sWhile (fu : Rho → Nat) (t : Rho → Out Bool) (p : SF) (ρ : Rho) : sWhile fu t p ρ = whileS t p (fu ρ) ρ := rfl
@[simp] theorem v_fuelI (i : Nat) (ρ : Rho) : fuelI i ρ = match ρ[i]? with
  | some (.val (.int n)) => n.toNat + 1
  | _ => 0 := rfl
theorem while_gcd' (m n : Nat) (r : Rho) : whileS (tV (eOp dGt (eVar 1) (eC (.int 0)))) (sPar 0 1 (aCons (eVar 1) (aCons (eOp dMod (eVar 0) (eVar 1)) aNil))) (n + 1) (.val (.int m) :: .val (.int n) :: r) = .nx (.val (.int (Nat.gcd m n : Nat)) :: .val (.int 0) :: r) := while_gcd _ m n (Nat.lt_succ_self n) r
theorem cmp_pr (x y z u : Int) : cmpOk (pr x y) (pr z u) := ⟨by simp [D.lay, lays], by simp [D.lay, lays], by simp [D.dep, deps], by simp [D.dep, deps]⟩
def mixV (a k : Int) : Int := (a * (48271 + 2 * k * k) + 69621 * k + 11) % 2147483647 * 69621 % 2147483629
theorem mixV_nn (a k : Int) : 0 ≤ mixV a k := Int.emod_nonneg _ (by decide)
theorem mixV_lt (a k : Int) : mixV a k < 2147483629 := Int.emod_lt_of_pos _ (by decide)
theorem mix_ok (a k : Int) (h0 : 0 ≤ k) (h1 : k ≤ 1048576) : mulOk 2 k ∧ mulOk (2 * k) k ∧ mulOk a (48271 + 2 * k * k) ∧ mulOk 69621 k := by
  have b : k * k ≤ 1048576 * 1048576 := Int.mul_le_mul h1 h1 h0 (by decide)
  have b0 : 0 ≤ k * k := Int.mul_nonneg h0 h0
  exact ⟨mulOk_l (by decide) (by decide), mulOk_r (by omega) (by omega), mulOk_r (by rw [Int.mul_assoc]; omega) (by rw [Int.mul_assoc]; omega), mulOk_l (by decide) (by decide)⟩
theorem ne_pr (x y z u : Int) : dNe (pr x y) (pr z u) = some (.bl (!(x == z && y == u))) := by
  unfold dNe
  rw [if_pos (cmp_pr x y z u)]
  simp [D.eqv, eqvs]
theorem eq_pr (x y z u : Int) : dEq (pr x y) (pr z u) = some (.bl (x == z && y == u)) := by
  unfold dEq
  rw [if_pos (cmp_pr x y z u)]
  simp [D.eqv, eqvs]
theorem ne_prS (x y : Int) {s : Str} (h : PyData.strOk s = true) : dNe (pr x y) (.str s) = some (.bl true) := by
  unfold dNe
  rw [if_pos ⟨by simp [D.lay, lays], h, by simp [D.dep, deps], by simp [D.dep]⟩]
  simp [D.eqv]
theorem cut_ints (ns : List Int) (lo hi : Option Int) : ∃ is : List Int, cutD (ns.map D.int) lo hi = is.map D.int ∧ is.length ≤ ns.length := by
  refine ⟨(ns.drop (HT.sIx (ns.map D.int).length 0 lo)).take (HT.sIx (ns.map D.int).length (ns.map D.int).length hi - HT.sIx (ns.map D.int).length 0 lo), ?_, ?_⟩
  · unfold cutD
    rw [List.map_take, List.map_drop]
  · rw [List.length_take, List.length_drop]
    omega
theorem enter1 (i : Nat) (d : D) (ρ : Rho) (f : SF) : oS (gN i d ρ) f = f (ρ.set i (.val d)) := rfl
theorem enter2 (i j : Nat) (d e : D) (ρ : Rho) (f : SF) : oS (gTp (gCn (gN i) (gCn (gN j) gNl)) (.tup [d, e]) ρ) f = f ((ρ.set i (.val d)).set j (.val e)) := rfl
/-- a loop that keeps I from turn to turn -/
theorem loop_inv {b : D → SF} {α : Type} {m : Nat → α → D} (I : Rho → Prop) (hb : ∀ k x ρ, I ρ → k ≤ 1000 → ∃ ρ', b (m k x) ρ = .nx ρ' ∧ I ρ') : ∀ (xs : List α) (n : Nat) (ρ : Rho), I ρ → n + xs.length ≤ 1000 → ∀ es, es = (xs.zipIdx n).map (fun p => m p.2 p.1) → ∃ ρ', loopS b es ρ = .nx ρ' ∧ I ρ'
  | [], n, ρ, h, _, _, rfl => ⟨ρ, rfl, h⟩
  | x :: xs, n, ρ, h, hl, _, rfl => by
    obtain ⟨ρ1, e1, h1⟩ := hb n x ρ h (by simp at hl; omega)
    obtain ⟨ρ2, e2, h2⟩ := loop_inv I hb xs (n + 1) ρ1 h1 (by simp at hl ⊢; omega) _ rfl
    refine ⟨ρ2, ?_, h2⟩
    simp only [List.zipIdx_cons, List.map_cons, v_loop_cons, e1]
    exact e2
theorem enum_zip : ∀ (xs : List D) (n : Nat), enumD xs n = (xs.zipIdx n).map fun p => D.tup [.int (p.2 : Nat), p.1]
  | [], _ => rfl
  | x :: xs, n => by simp [enumD, List.zipIdx_cons, enum_zip xs (n + 1)]
/-- over enumerate(ints) -/
theorem loop_enum {b : D → SF} (I : Rho → Prop) (hb : ∀ (k : Nat) (x : Int) ρ, I ρ → k ≤ 1000 → ∃ ρ', b (.tup [.int k, .int x]) ρ = .nx ρ' ∧ I ρ') (is : List Int) (hl : is.length ≤ 1000) (ρ : Rho) (h : I ρ) : ∃ ρ', loopS b (enumD (is.map D.int) 0) ρ = .nx ρ' ∧ I ρ' := by
  refine loop_inv (m := fun k (x : Int) => .tup [.int (k : Nat), .int x]) I hb is 0 ρ h (by omega) _ ?_
  rw [enum_zip, List.zipIdx_map, List.map_map]
  rfl
theorem gcd_abs_neg (t b : Int) : Nat.gcd t.natAbs (-b).natAbs = Int.gcd t b := by rw [Int.natAbs_neg]; rfl
end BD
set_option Elab.async false
set_option maxRecDepth 100000
set_option maxHeartbeats 4000000
/-! The layer BD: a tuple backwards; the module's numbers. -/
namespace BD
open PySem PySem.Spec PyProof.Rows L2 LamX
section
open HT
variable {prog : Program} {w : World} {A : Around} {E : Value → Shared → Prop} {s : Shared}
theorem adjust_rev (n : Nat) : Builtin.Slice.sliceAdjust none none (-1) (n : Int) = ((n : Int) - 1, -1) := by
  unfold Builtin.Slice.sliceAdjust
  simp
theorem places_rev (n : Nat) : Builtin.Slice.slicePlaces ((n : Int) - 1) (-1) (-1) = n := by
  unfold Builtin.Slice.slicePlaces
  simp
  omega
theorem fm_congr {α β : Type} {f g : α → Option β} : ∀ (l : List α), (∀ a ∈ l, f a = g a) → l.filterMap f = l.filterMap g
  | [], _ => rfl
  | a :: l, h => by
    rw [List.filterMap_cons, List.filterMap_cons, h a List.mem_cons_self, fm_congr l fun b hb => h b (List.mem_cons_of_mem _ hb)]
theorem pick_rev (xs : Array Value) : ((List.range xs.size).filterMap fun (m : Nat) => xs[((xs.size : Int) - 1 + (m : Int) * (-1)).toNat]?).toArray = xs.toList.reverse.toArray := by
  have h := PySem.W.krv_all xs
  rw [← h, ← List.filterMap_reverse, ← PySem.W.krv_range, List.filterMap_map]
  refine congrArg List.toArray (fm_congr _ fun m hm => ?_)
  have : ((xs.size : Int) - 1 + (m : Int) * (-1)).toNat = xs.size - 1 - m := by have := List.mem_range.mp hm; omega
  rw [this]
  rfl
theorem getItem_tuple_rev {t sl : Addr} {items : Array Value} {u : Tok} {Q : Value → Shared → Prop} (ht : IsTup s.heap t items) (hs : s.heap.IsSliceOf sl .none .none (.int (-1) u))
    (h : Q (.ref s.heap.objs.size) { s with heap := s.heap.push { cls := .type "tuple", data := .seq items.toList.reverse.toArray } }) (hsz : items.size ≤ sizeLine) : wpAny (model prog w) A (getItem (.ref t) (.ref sl)) Q E s := by
  have htake : sizeOk (.seq items.toList.reverse.toArray) := by
    show items.toList.reverse.toArray.size ≤ sizeLine
    rw [List.size_toArray, List.length_reverse, Array.length_toList]
    omega
  obtain ⟨os, hos, hcs, hds⟩ := id hs
  have hTs : s.TypeIs (.ref sl) "slice" := ⟨os, hos, hcs⟩
  unfold getItem
  try with_reducible refine wpAny_holding ?_
  first | refine wpAny_bind (wpAny_pure ?_) | skip
  refine wpAny_bind (wpAny_sequenceKey ht.typeIs (by decide) ?_)
  refine wpAny_bind (wpAny_callSpecial?_slot (name := Str.ofString "__getitem__") ht.typeIs PyProof.Rows.slot_tuple_getitem
    (wpAny_call_entry PyProof.Rows.slot_tuple_getitem ht.typeIs entry_tuple_getitem ?_ (args_tuple_getitem _ _)))
  show wpAny _ _ (Builtin.Tuple.tupleItemsOf (.ref t) >>= _) _ _ s
  refine wpAny_bind (tupleItemsOf_ ht ?_)
  refine wpAny_bind (wpAny_typeOf hTs ?_)
  rw [if_pos (by decide)]
  refine wpAny_bind ?_
  unfold Builtin.Slice.sliceApplied Builtin.Slice.sliceFields
  refine wpAny_bind (wpAny_bind (wpAny_field hos hds (x := .none) rfl (wpAny_bind (wpAny_field hos hds (x := .none) rfl (wpAny_bind (wpAny_field hos hds (x := .int (-1) u) rfl (wpAny_pure ?_)))))))
  refine wpAny_bind (slicePart_int ?_)
  show wpAny _ _ (if ((-1 : Int) == 0) = true then _ else _) _ _ s
  rw [if_neg (by decide)]
  refine wpAny_bind (slicePart_none (wpAny_bind (slicePart_none (wpAny_bind (wpAny_pure ?_)))))
  show wpAny _ _ (match Builtin.Slice.sliceAdjust none none (-1) (items.size : Int) with | (lo, hi) => pure (lo, (-1 : Int), Builtin.Slice.slicePlaces lo hi (-1))) _ _ s
  rw [adjust_rev]
  show wpAny _ _ (pure (((items.size : Int) - 1), (-1 : Int), Builtin.Slice.slicePlaces ((items.size : Int) - 1) (-1) (-1))) _ _ s
  rw [places_rev]
  refine wpAny_pure ?_
  have hno : ¬ ((((items.size : Int) - 1) == 0 && (-1 : Int) == 1 && items.size == items.size) = true) := by
    intro q
    rw [Bool.and_eq_true, Bool.and_eq_true] at q
    exact absurd q.1.2 (by decide)
  show wpAny _ _ (if (((items.size : Int) - 1) == 0 && (-1 : Int) == 1 && items.size == items.size) = true then _ else _) _ _ s
  rw [if_neg hno, pick_rev]
  first
    | exact wpAny_bind (m := Builtin.Tuple.tupleExact _) (wpAny_newObj_type (wpAny_pure ⟨_, rfl, wpAny_pure h⟩) htake)
    | exact wpAny_bind (m := Builtin.Tuple.tupleExact _) (wpAny_newObj_type (wpAny_bind (wpAny_pure (wpAny_pure ⟨_, rfl, wpAny_pure h⟩))) htake)
    | exact wpAny_bind (wpAny_bind (m := Builtin.Tuple.tupleExact _) (wpAny_newObj_type (wpAny_pure (wpAny_pure ⟨_, rfl, wpAny_pure h⟩)) htake))
    | exact wpAny_bind (wpAny_bind (m := Builtin.Tuple.tupleExact _) (wpAny_newObj_type (wpAny_pure ⟨_, rfl, wpAny_pure h⟩) htake))
end
section
variable {X : Cx} {c : CC} {W : WW} {k : Nat} {σ : L2.St} {F H : Hp} {Q : VK} {pos : Pos}
theorem reps_reverse : ∀ {ds : List D} {vs : List V}, Reps c F ds vs → Reps c F ds.reverse vs.reverse
  | [], _, h => by rw [show _ = _ from h]; exact rfl
  | d :: ds, _, ⟨v, r, e1, e2, e3⟩ => by
    rw [e1, List.reverse_cons, List.reverse_cons]
    exact (reps_reverse e3).append (Reps.one e2)
def dRevT : D → Option D
  | .tup ds => some (.tup ds.reverse)
  | _ => none
@[simp] theorem v_revT (ds : List D) : dRevT (.tup ds) = some (.tup ds.reverse) := rfl
theorem d_revT {e : Expr} {f : Rho → Out D} {j : Nat} {p1 p2 p3 : Pos} (hK : X.K = c.K) (he : PE X e (tD c W f)) : PE X (.Subscript e (.Slice none none (some (.UnaryOp .USub (.Constant (.int 1) j p1) p2)) p3) pos) (tD c W (eU dRevT f)) := by
  refine ⟨fun pins s σ H Q I h => ?_⟩
  obtain ⟨F, ρ, S, h⟩ := h
  have h0 : tD c W f σ H fun x H1 => ∃ F1, ∃ ds : List D, Bs c F1 H1 ∧ Rep c F1 (.tup ds) x ∧ Goes c F1 H1 Q (.tup ds.reverse) := ⟨F, ρ, S, (OutP.bind h).imp fun d F1 H1 G1 q1 x rx => by
    obtain ⟨d', e1, go⟩ := OutP.goes q1
    unfold dRevT at e1
    split at e1
    · cases e1
      exact ⟨F1, _, G1.toBs, rx, go⟩
    · cases e1⟩
  refine Subscript_ (thn (he.run pins s σ H _ I h0) fun v s1 ⟨x, H1, I1, r1, F1, ds, B1, rx, go⟩ => ?_)
  obtain ⟨a, vs, rfl, h1, h2⟩ := rx
  cases r1
  have hst : PO X (some (.UnaryOp .USub (.Constant (.int 1) j p1) p2)) (tPart (tUn (rU fun i => .int (-i)) (tC (.int 1)))) := po_some (pe_un un_neg pe_int)
  refine wpAny_Slice (thn (po_none.run pins s1 σ H1 (fun o H2 => o = none ∧ H2 = H1) I1 ⟨rfl, rfl⟩) fun vl s2 ⟨l, H2, I2, pl, el, e2⟩ => ?_)
  subst el e2
  refine thn (po_none.run pins s2 σ H2 (fun o H3 => o = none ∧ H3 = H2) I2 ⟨rfl, rfl⟩) fun vu s3 ⟨u, H3, I3, pu, eu, e3⟩ => ?_
  subst eu e3
  refine thn (hst.run pins s3 σ H3 (fun o H4 => o = some (-1) ∧ H4 = H3) I3 ⟨1, rfl, -1, rfl, rfl, rfl⟩) fun vs' s4 ⟨o, H4, I4, ps, eo, e4⟩ => ?_
  subst eo e4
  cases pl
  cases pu
  cases ps with
  | int _ tk =>
    have I5 : L2.Inv X pins σ H4 { s4 with heap := s4.heap.push { cls := .type "slice", data := .fields #[.none, .none, .int (-1) tk] } } := I4.kept (t' := s4.toks) fun b ob q => Heap.get?_push_of_some _ q
    have h1 : SqT X.K H4 a vs := by rw [hK]; exact B1.fh.r.sqT h1
    obtain ⟨its, r, ht, hz⟩ := I5.tuple h1
    have hlen : its.toArray.size = vs.length := by rw [List.size_toArray]; exact r.length.symm
    show wpAny (model X.prog X.w) X.A (subscriptTail e (.Slice none none (some (.UnaryOp .USub (.Constant (.int 1) j p1) p2)) p3) (.ref a) (.ref s4.heap.objs.size)) (EP X pins σ Q) X.xe { s4 with heap := s4.heap.push { cls := .type "slice", data := .fields #[.none, .none, .int (-1) tk] } }
    refine tail_any (ops := [.ref a, .ref s4.heap.objs.size]) ht.typeIs (PyProof.Rows.slot_tuple_getitem.lookup) ?_ (by with_unfolding_all rfl)
    refine getItem_tuple_rev ht (Heap.IsSliceOf.new _ .none .none (.int (-1) tk)) ?_ (by rw [hlen]; exact hz)
    refine ⟨.ref _, _, I5.laid (t' := s4.toks) (o := .tup vs.reverse) (fun b ob q => Heap.get?_push_of_some _ q) (Nat.le_refl _) ?_, rfl, go.new B1 (I5.hok.fresh (Nat.le_refl _)) (fun ps z => nomatch z) ⟨_, _, rfl, SqT.of upd_same, (reps_reverse h2).mono (ex_new (B1.fnone (I5.hok.fresh (Nat.le_refl _)))).r⟩⟩
    exact ⟨by rw [List.length_reverse]; exact hz, _, r.reverse, IsTup.new _ _⟩
/-! ### the module's numbers -/
def mgI (c : CC) (x : Str) (i : Int) : Prop := ∃ t, c.mg x = some (.int i t)
theorem d_gI {x : Str} {i : Int} (hm : mgI c x i) (O : Ok X c W k) (hg : Gl X x := by rfl) (hd : (x == ("__debug__" : Str)) = false := by decide) : PE X (.Name x pos) (tD c W (eC (.int i))) := by
  obtain ⟨t, h⟩ := hm
  exact d_glob (v := .int i) (by rw [O.mg]; exact h) ⟨t, rfl⟩ (fun _ => rfl) hg hd
theorem top_mgI {K : PySem.W.Frag} {mg : Str → Option Value} {h : Heap} {x : Str} {i : Int} {t : Tok} {T : List (Addr × Str)} (X : K.In h) (G : h.Ns mainGlobals mg) (e : PySem.W.nsIn K mainGlobals x = some (some (.int i t))) : mgI ⟨K, mg, T⟩ x i := ⟨t, PySem.W.mg_of X G e⟩
end
end BD
namespace BD
open PySem PySem.Spec PyProof.Rows L2 LamX
theorem eqD {a b : D} {v : Bool} (h : (a.lay && b.lay && decide (a.dep ≤ 60) && decide (b.dep ≤ 60) && (a.eqv b == v)) = true) : dEq a b = some (.bl v) := by
  simp only [Bool.and_eq_true, beq_iff_eq, decide_eq_true_eq] at h
  obtain ⟨⟨⟨⟨h1, h2⟩, h3⟩, h4⟩, h5⟩ := h
  unfold dEq
  rw [if_pos ⟨h1, h2, h3, h4⟩, h5]
theorem neD {a b : D} {v : Bool} (h : (a.lay && b.lay && decide (a.dep ≤ 60) && decide (b.dep ≤ 60) && ((!a.eqv b) == v)) = true) : dNe a b = some (.bl v) := by
  simp only [Bool.and_eq_true, beq_iff_eq, decide_eq_true_eq] at h
  obtain ⟨⟨⟨⟨h1, h2⟩, h3⟩, h4⟩, h5⟩ := h
  unfold dNe
  rw [if_pos ⟨h1, h2, h3, h4⟩, h5]
theorem mod6 {k : Int} (h0 : 0 ≤ k) (h : k < 6) : k = 0 ∨ k = 1 ∨ k = 2 ∨ k = 3 ∨ k = 4 ∨ k = 5 := by omega
end BD
set_option Elab.async false
set_option maxRecDepth 100000
set_option maxHeartbeats 4000000
/-! The layer BD: fractions as values. -/
namespace BD
open PySem PySem.Spec PyProof.Rows L2 LamX
/-- x/y is T/B -/
structure Val (B T x y : Int) : Prop where
  p : 0 < y
  e : x * B = y * T
theorem Val.lt0 {B T S x y z u : Int} (hB : 0 < B) (h : Val B T x y) (k : Val B S z u) (l : T < S) : x * u < z * y := by
  have e : (x * u - z * y) * B = (T - S) * (y * u) := by have := h.e; have := k.e; grind
  have hp := Int.mul_pos h.p k.p
  apply Int.lt_of_not_ge
  intro c
  have h1 : 0 ≤ (x * u - z * y) * B := Int.mul_nonneg (by omega) (by omega)
  have h2 : (T - S) * (y * u) < 0 := Int.mul_neg_of_neg_of_pos (by omega) hp
  omega
theorem Val.eq0 {B T x y z u : Int} (hB : 0 < B) (h : Val B T x y) (k : Val B T z u) : x * u = z * y := by
  have e : (x * u - z * y) * B = 0 := by have := h.e; have := k.e; grind
  rcases Int.mul_eq_zero.mp e with h | h <;> omega
theorem Val.lt {B T S x y z u : Int} (hB : 0 < B) (h : Val B T x y) (k : Val B S z u) : x * u < z * y ↔ T < S := by
  refine ⟨fun l => ?_, h.lt0 hB k⟩
  apply Int.lt_of_not_ge
  intro c
  rcases Int.lt_or_eq_of_le c with c | c
  · have := k.lt0 hB h c; omega
  · subst c; have := h.eq0 hB k; omega
theorem Val.div {B T x y : Int} (hB : 0 < B) (h : Val B T x y) : x / y = T / B := by
  rw [← Int.mul_ediv_mul_of_pos_left x y hB, h.e, Int.mul_ediv_mul_of_pos T B h.p]
theorem Val.neg {B T x y : Int} (h : Val B T x y) : Val B (-T) (-x) y := ⟨h.p, by have := h.e; grind⟩
theorem nrm_cross (t : Int) {b : Int} (hb : b ≠ 0) : nT t b * b = nB t b * t := by
  have g0 := gcd_pos (t := t) hb
  have d1 := Int.gcd_dvd_left t b
  have d2 := Int.gcd_dvd_right t b
  unfold nT nB
  generalize (Int.gcd t b : Int) = G at *
  obtain ⟨t', rfl⟩ := d1
  obtain ⟨b', rfl⟩ := d2
  by_cases h : G * b' < 0
  · rw [if_pos h, if_pos h, ← Int.mul_neg, ← Int.mul_neg, Int.mul_ediv_cancel_left _ (by omega), Int.mul_ediv_cancel_left _ (by omega)]
    grind
  · rw [if_neg h, if_neg h, Int.mul_ediv_cancel_left _ (by omega), Int.mul_ediv_cancel_left _ (by omega)]
    grind
theorem nrm_val {t b B T : Int} (hb : b ≠ 0) (h : t * B = b * T) : Val B T (nT t b) (nB t b) := by
  refine ⟨nB_pos hb, ?_⟩
  have e := nrm_cross t hb
  have : (nT t b * B - nB t b * T) * b = 0 := by grind
  rcases Int.mul_eq_zero.mp this with h | h
  · omega
  · exact absurd h hb
/-- what compared tells -/
def cmpZ (T S : Int) : Int := (if S < T then 1 else 0) - (if T < S then 1 else 0)
theorem Val.cmp {B T S x y z u : Int} (hB : 0 < B) (h : Val B T x y) (k : Val B S z u) : ((if z * y < x * u then 1 else 0) - (if x * u < z * y then 1 else 0) : Int) = cmpZ T S := by
  unfold cmpZ
  simp only [h.lt hB k, k.lt hB h]
theorem cmpZ_lt {T S : Int} : cmpZ T S < 0 ↔ T < S := by unfold cmpZ; split <;> split <;> omega
theorem cmpZ_gt {T S : Int} : 0 < cmpZ T S ↔ S < T := by unfold cmpZ; split <;> split <;> omega
theorem min_scale {g a b : Int} (h : 0 < g) : min (g * a) (g * b) = g * min a b := by
  by_cases c : a ≤ b
  · have := Int.mul_le_mul_of_nonneg_left c (by omega : 0 ≤ g)
    rw [Int.min_eq_left c, Int.min_eq_left this]
  · have := Int.mul_le_mul_of_nonneg_left (by omega : b ≤ a) (by omega : 0 ≤ g)
    rw [Int.min_eq_right this, Int.min_eq_right (by omega)]
theorem max_scale {g a b : Int} (h : 0 < g) : max (g * a) (g * b) = g * max a b := by
  by_cases c : a ≤ b
  · have := Int.mul_le_mul_of_nonneg_left c (by omega : 0 ≤ g)
    rw [Int.max_eq_right c, Int.max_eq_right this]
  · have := Int.mul_le_mul_of_nonneg_left (by omega : b ≤ a) (by omega : 0 ≤ g)
    rw [Int.max_eq_left this, Int.max_eq_left (by omega)]
@[simp] theorem v_minL (n : Int) (ns : List Int) : dMinL [.lst ((n :: ns).map D.int)] = some (.int (ns.foldl min n)) := by
  unfold dMinL
  have : ∀ ms : List Int, intsOf (ms.map D.int) = some ms := by
    intro ms; induction ms with
    | nil => rfl
    | cons m ms ih => simp [intsOf, ih]
  simp only [this]
theorem minL4 (a b c d : Int) : dMinL [.lst [.int a, .int b, .int c, .int d]] = some (.int (min a (min b (min c d)))) := by
  show some (D.int (min (min (min a b) c) d)) = _
  congr 2; omega
theorem maxL4 (a b c d : Int) : dMaxL [.lst [.int a, .int b, .int c, .int d]] = some (.int (max a (max b (max c d)))) := by
  show some (D.int (max (max (max a b) c) d)) = _
  congr 2; omega
theorem minL2 (a b : Int) : dMinL [.lst [.int a, .int b]] = some (.int (min a b)) := rfl
theorem maxL2 (a b : Int) : dMaxL [.lst [.int a, .int b]] = some (.int (max a b)) := rfl
theorem min2 (a b : Int) : dMin2 [.int a, .int b] = some (.int (min a b)) := by
  show some (D.int (if b < a then b else a)) = _
  congr 2; split <;> omega
theorem max2 (a b : Int) : dMax2 [.int a, .int b] = some (.int (max a b)) := by
  show some (D.int (if b > a then b else a)) = _
  congr 2; split <;> omega
theorem Sz.min {n : Nat} {i j : Int} (h : Sz n i) (k : Sz n j) : Sz n (Min.min i j) := by unfold Sz at *; omega
theorem Sz.max {n : Nat} {i j : Int} (h : Sz n i) (k : Sz n j) : Sz n (Max.max i j) := by unfold Sz at *; omega
theorem loop_range0 {b : D → SF} {n : Nat} (I : Nat → Rho → Prop) (hb : ∀ (i : Nat) ρ, I i ρ → i < n → ∃ ρ', b (.int (i : Nat)) ρ = .nx ρ' ∧ I (i + 1) ρ') : ∀ (m j : Nat) (ρ : Rho), j + m = n → I j ρ → ∃ ρ', loopS b ((List.range' j m).map fun i => D.int (i : Nat)) ρ = .nx ρ' ∧ I n ρ'
  | 0, j, ρ, e, h => ⟨ρ, rfl, by rw [← e]; exact h⟩
  | m + 1, j, ρ, e, h => by
    obtain ⟨ρ1, e1, h1⟩ := hb j ρ h (by omega)
    obtain ⟨ρ2, e2, h2⟩ := loop_range0 I hb m (j + 1) ρ1 (by omega) h1
    refine ⟨ρ2, ?_, h2⟩
    rw [List.range'_succ, List.map_cons, v_loop_cons, e1]
    exact e2
/-- for i in range(n) -/
theorem loop_range {b : D → SF} {n : Nat} (I : Nat → Rho → Prop) (hb : ∀ (i : Nat) ρ, I i ρ → i < n → ∃ ρ', b (.int (i : Nat)) ρ = .nx ρ' ∧ I (i + 1) ρ') (ρ : Rho) (h : I 0 ρ) : ∃ ρ', loopS b ((List.range n).map fun i => D.int (i : Nat)) ρ = .nx ρ' ∧ I n ρ' := by
  rw [List.range_eq_range']
  exact loop_range0 I hb n 0 ρ (by omega) h
theorem rng1_nat (n : Nat) (h : n ≤ 1000000) : rng1 [.int (n : Int)] = .ok ((List.range n).map fun i => D.int (i : Nat)) := by
  rw [v_rng1, if_pos (by omega), Int.toNat_natCast]
@[simp] theorem v_lc_nil (t : TF) (b : Rho → Out Bool) (e : Rho → Out D) (ρ : Rho) : lcS t b e ρ [] = .ok [] := rfl
@[simp] theorem v_lc_cons (t : TF) (b : Rho → Out Bool) (e : Rho → Out D) (ρ : Rho) (d : D) (ds : List D) : lcS t b e ρ (d :: ds) = match t d ρ with
    | none => .bad
    | some ρ1 => (b ρ1).ne.bind fun k => if k = true then (e ρ1).ne.bind fun y => (lcS t b e ρ ds).bind fun ys => .ok (y :: ys) else lcS t b e ρ ds := rfl
@[simp] theorem v_wipe_nil (ρ : Rho) : wipeR ρ [] = ρ := rfl
@[simp] theorem v_wipe_cons (ρ : Rho) (v : Nat) (vs : List Nat) : wipeR ρ (v :: vs) = (wipeR ρ vs).set v .em := rfl
@[simp] theorem v_addT (a b : D) (as bs : List D) : dAdd (.tup (a :: as)) (.tup (b :: bs)) = if (a :: as).length + (b :: bs).length ≤ 100000 then some (.tup ((a :: as) ++ (b :: bs))) else none := by
  show (if _ then _ else _) = _
  simp
@[simp] theorem v_band (i j : Int) : dBand (.int i) (.int j) = some (.int (Builtin.bitAnd i j)) := rfl
theorem Sz.pow {n : Nat} {a : Int} (h : Sz n a) (i : Nat) : Sz (n * i + 1) (a ^ i) := by
  unfold Sz at *
  rw [Int.natAbs_pow, Nat.pow_succ, Nat.pow_mul]
  have h1 := Nat.pow_le_pow_left (Nat.le_of_lt h) i
  have h2 : 0 < (2 ^ n) ^ i := Nat.pow_pos (Nat.pow_pos (by decide))
  omega
theorem Val.cancel {g A T x y : Int} (hg : 0 < g) (h : Val (A * g) (g * T) x y) : Val A T x y := by
  refine ⟨h.p, ?_⟩
  have e := h.e
  have : (x * A - y * T) * g = 0 := by grind
  rcases Int.mul_eq_zero.mp this with h | h <;> omega
theorem band1 : ∀ n : Nat, n ≤ 8 → (Builtin.bitAnd (n : Int) 1 == 0) = decide ((n : Int) % 2 = 0) := by decide +kernel
end BD
set_option Elab.async false
set_option maxRecDepth 100000
set_option maxHeartbeats 4000000
/-! The layer BD: what lies between two ends, its products, its powers. -/
namespace BD
section
variable {y z U V a0 a1 c0 c1 : Int}
theorem lin_lo (hy : 0 < y) (h0 : a0 * y ≤ U) (h1 : U ≤ a1 * y) (V : Int) : y * min (a0 * V) (a1 * V) ≤ U * V := by
  by_cases h : 0 ≤ V
  · have k := Int.mul_le_mul_of_nonneg_right h0 h
    have m := Int.mul_le_mul_of_nonneg_left (Int.min_le_left (a0 * V) (a1 * V)) (Int.le_of_lt hy)
    have e : y * (a0 * V) = a0 * y * V := by grind
    omega
  · have k := Int.mul_le_mul_of_nonpos_right h1 (by omega : V ≤ 0)
    have m := Int.mul_le_mul_of_nonneg_left (Int.min_le_right (a0 * V) (a1 * V)) (Int.le_of_lt hy)
    have e : y * (a1 * V) = a1 * y * V := by grind
    omega
theorem lin_hi (hy : 0 < y) (h0 : a0 * y ≤ U) (h1 : U ≤ a1 * y) (V : Int) : U * V ≤ y * max (a0 * V) (a1 * V) := by
  by_cases h : 0 ≤ V
  · have k := Int.mul_le_mul_of_nonneg_right h1 h
    have m := Int.mul_le_mul_of_nonneg_left (Int.le_max_right (a0 * V) (a1 * V)) (Int.le_of_lt hy)
    have e : y * (a1 * V) = a1 * y * V := by grind
    omega
  · have k := Int.mul_le_mul_of_nonpos_right h0 (by omega : V ≤ 0)
    have m := Int.mul_le_mul_of_nonneg_left (Int.le_max_left (a0 * V) (a1 * V)) (Int.le_of_lt hy)
    have e : y * (a0 * V) = a0 * y * V := by grind
    omega
theorem bil_lo (hy : 0 < y) (hz : 0 < z) (h0 : a0 * y ≤ U) (h1 : U ≤ a1 * y) (k0 : c0 * z ≤ V) (k1 : V ≤ c1 * z) : min (a0 * c0) (min (a0 * c1) (min (a1 * c0) (a1 * c1))) * (y * z) ≤ U * V := by
  have l1 := lin_lo hy h0 h1 V
  have l2 := lin_lo hz k0 k1 a0
  have l3 := lin_lo hz k0 k1 a1
  rw [Int.mul_comm c0 a0, Int.mul_comm c1 a0, Int.mul_comm V a0] at l2
  rw [Int.mul_comm c0 a1, Int.mul_comm c1 a1, Int.mul_comm V a1] at l3
  have m2 := Int.mul_le_mul_of_nonneg_left (show min (a0 * c0) (min (a0 * c1) (min (a1 * c0) (a1 * c1))) ≤ min (a0 * c0) (a0 * c1) by omega) (Int.le_of_lt hz)
  have m3 := Int.mul_le_mul_of_nonneg_left (show min (a0 * c0) (min (a0 * c1) (min (a1 * c0) (a1 * c1))) ≤ min (a1 * c0) (a1 * c1) by omega) (Int.le_of_lt hz)
  generalize min (a0 * c0) (min (a0 * c1) (min (a1 * c0) (a1 * c1))) = m at *
  have m4 := Int.mul_le_mul_of_nonneg_left (show z * m ≤ min (a0 * V) (a1 * V) by omega) (Int.le_of_lt hy)
  have e : m * (y * z) = y * (z * m) := by grind
  omega
theorem bil_hi (hy : 0 < y) (hz : 0 < z) (h0 : a0 * y ≤ U) (h1 : U ≤ a1 * y) (k0 : c0 * z ≤ V) (k1 : V ≤ c1 * z) : U * V ≤ max (a0 * c0) (max (a0 * c1) (max (a1 * c0) (a1 * c1))) * (y * z) := by
  have l1 := lin_hi hy h0 h1 V
  have l2 := lin_hi hz k0 k1 a0
  have l3 := lin_hi hz k0 k1 a1
  rw [Int.mul_comm c0 a0, Int.mul_comm c1 a0, Int.mul_comm V a0] at l2
  rw [Int.mul_comm c0 a1, Int.mul_comm c1 a1, Int.mul_comm V a1] at l3
  have m2 := Int.mul_le_mul_of_nonneg_left (show max (a0 * c0) (a0 * c1) ≤ max (a0 * c0) (max (a0 * c1) (max (a1 * c0) (a1 * c1))) by omega) (Int.le_of_lt hz)
  have m3 := Int.mul_le_mul_of_nonneg_left (show max (a1 * c0) (a1 * c1) ≤ max (a0 * c0) (max (a0 * c1) (max (a1 * c0) (a1 * c1))) by omega) (Int.le_of_lt hz)
  generalize max (a0 * c0) (max (a0 * c1) (max (a1 * c0) (a1 * c1))) = m at *
  have m4 := Int.mul_le_mul_of_nonneg_left (show max (a0 * V) (a1 * V) ≤ z * m by omega) (Int.le_of_lt hy)
  have e : m * (y * z) = y * (z * m) := by grind
  omega
end
/-! powers -/
theorem pow_nn {s : Int} (h : 0 ≤ s) : ∀ n : Nat, 0 ≤ s ^ n
  | 0 => by simp
  | n + 1 => by rw [Int.pow_succ]; exact Int.mul_nonneg (pow_nn h n) h
theorem pow_mono {s t : Int} (h0 : 0 ≤ s) (h : s ≤ t) : ∀ n : Nat, s ^ n ≤ t ^ n
  | 0 => by simp
  | n + 1 => by
    rw [Int.pow_succ, Int.pow_succ]
    exact Int.mul_le_mul (pow_mono h0 h n) h h0 (pow_nn (by omega) n)
theorem neg_pow_odd {t : Int} (m : Nat) : (-t) ^ (2 * m + 1) = -(t ^ (2 * m + 1)) := by
  have e : (-t) ^ (2 * m) = t ^ (2 * m) := by
    rw [Int.pow_mul, Int.pow_mul]
    congr 1
    rw [Int.pow_succ, Int.pow_succ, Int.pow_succ, Int.pow_succ]
    simp [Int.neg_mul_neg]
  rw [Int.pow_succ, Int.pow_succ, e, Int.mul_neg]
theorem neg_pow_even {t : Int} (m : Nat) : (-t) ^ (2 * m) = t ^ (2 * m) := by
  rw [Int.pow_mul, Int.pow_mul]
  congr 1
  rw [Int.pow_succ, Int.pow_succ, Int.pow_succ, Int.pow_succ]
  simp [Int.neg_mul_neg]
theorem odd_mono {s t : Int} (h : s ≤ t) (m : Nat) : s ^ (2 * m + 1) ≤ t ^ (2 * m + 1) := by
  by_cases h0 : 0 ≤ s
  · exact pow_mono h0 h _
  · by_cases h1 : 0 ≤ t
    · have a := pow_nn h1 (2 * m + 1)
      have b := pow_nn (show 0 ≤ -s by omega) (2 * m + 1)
      rw [neg_pow_odd] at b
      omega
    · have c := pow_mono (show 0 ≤ -t by omega) (show -t ≤ -s by omega) (2 * m + 1)
      rw [neg_pow_odd, neg_pow_odd] at c
      omega
theorem even_abs {t : Int} (m : Nat) : t ^ (2 * m) = (t.natAbs : Int) ^ (2 * m) := by
  by_cases h : 0 ≤ t
  · rw [show (t.natAbs : Int) = t by omega]
  · rw [show (t.natAbs : Int) = -t by omega, neg_pow_even]
theorem even_nn {t : Int} (m : Nat) : 0 ≤ t ^ (2 * m) := by rw [even_abs]; exact pow_nn (by omega) _
section
variable {y U a0 a1 : Int}
theorem pow_lo (hy : 0 < y) (h0 : a0 * y ≤ U) (h1 : U ≤ a1 * y) (n : Nat) : (if (n : Int) % 2 = 0 ∧ a0 ≤ 0 ∧ 0 ≤ a1 then 0 else min (a0 ^ n) (a1 ^ n)) * y ^ n ≤ U ^ n := by
  by_cases e : n % 2 = 0
  · obtain ⟨m, rfl⟩ : ∃ m, n = 2 * m := ⟨n / 2, by omega⟩
    by_cases s : a0 ≤ 0 ∧ 0 ≤ a1
    · rw [if_pos ⟨by omega, s.1, s.2⟩, Int.zero_mul]
      exact even_nn m
    · rw [if_neg (fun z => s z.2)]
      by_cases p : 0 < a0
      · have q : 0 ≤ a0 * y := Int.mul_nonneg (by omega) (by omega)
        have k := pow_mono q h0 (2 * m)
        rw [Int.mul_pow] at k
        have := Int.mul_le_mul_of_nonneg_right (Int.min_le_left (a0 ^ (2 * m)) (a1 ^ (2 * m))) (pow_nn (show 0 ≤ y by omega) (2 * m))
        omega
      · have q : 0 ≤ (-a1) * y := Int.mul_nonneg (by omega) (by omega)
        have k := pow_mono q (show (-a1) * y ≤ -U by rw [Int.neg_mul]; omega) (2 * m)
        rw [Int.mul_pow, neg_pow_even, neg_pow_even] at k
        have := Int.mul_le_mul_of_nonneg_right (Int.min_le_right (a0 ^ (2 * m)) (a1 ^ (2 * m))) (pow_nn (show 0 ≤ y by omega) (2 * m))
        omega
  · obtain ⟨m, rfl⟩ : ∃ m, n = 2 * m + 1 := ⟨n / 2, by omega⟩
    rw [if_neg (fun z => by omega)]
    have k := odd_mono h0 m
    rw [Int.mul_pow] at k
    have := Int.mul_le_mul_of_nonneg_right (Int.min_le_left (a0 ^ (2 * m + 1)) (a1 ^ (2 * m + 1))) (pow_nn (show 0 ≤ y by omega) (2 * m + 1))
    omega
theorem pow_hi (hy : 0 < y) (h0 : a0 * y ≤ U) (h1 : U ≤ a1 * y) (n : Nat) : U ^ n ≤ max (a0 ^ n) (a1 ^ n) * y ^ n := by
  by_cases e : n % 2 = 0
  · obtain ⟨m, rfl⟩ : ∃ m, n = 2 * m := ⟨n / 2, by omega⟩
    by_cases p : 0 ≤ U
    · have k := pow_mono p h1 (2 * m)
      rw [Int.mul_pow] at k
      have := Int.mul_le_mul_of_nonneg_right (Int.le_max_right (a0 ^ (2 * m)) (a1 ^ (2 * m))) (pow_nn (show 0 ≤ y by omega) (2 * m))
      omega
    · have k := pow_mono (show 0 ≤ -U by omega) (show -U ≤ (-a0) * y by rw [Int.neg_mul]; omega) (2 * m)
      rw [Int.mul_pow, neg_pow_even, neg_pow_even] at k
      have := Int.mul_le_mul_of_nonneg_right (Int.le_max_left (a0 ^ (2 * m)) (a1 ^ (2 * m))) (pow_nn (show 0 ≤ y by omega) (2 * m))
      omega
  · obtain ⟨m, rfl⟩ : ∃ m, n = 2 * m + 1 := ⟨n / 2, by omega⟩
    have k := odd_mono h1 m
    rw [Int.mul_pow] at k
    have := Int.mul_le_mul_of_nonneg_right (Int.le_max_right (a0 ^ (2 * m + 1)) (a1 ^ (2 * m + 1))) (pow_nn (show 0 ≤ y by omega) (2 * m + 1))
    omega
end
end BD
set_option Elab.async false
set_option maxRecDepth 100000
set_option maxHeartbeats 4000000
namespace BD.k04
open PySem PySem.Spec PyProof.Rows L2 LamX BD
def isX (cls n : Str) : Option Bool := if n ∈ ([] : List Str) then some (n == cls || cls == "BoundError" || cls == "ValueError") else none
def isB (n : Str) : Bool := decide (n ∈ ([] : List Str))
def s_is_whole : SF := (sRet (eAndV (eU (dIsi "int") (eVar 0)) (eNotV (eU (dIsi "bool") (eVar 0)))))
def f_is_whole (a0 : D) : Out D := run 1 s_is_whole [a0]
def s_common : SF := (sSeq (sWhile (fuelI 1) (tV (eOp dGt (eVar 1) (eC (.int 0)))) (sPar 0 1 (aCons (eVar 1) (aCons (eOp dMod (eVar 0) (eVar 1)) aNil)))) (sRet (eVar 0)))
def f_common (a0 a1 : D) : Out D := run 2 s_common [a0, a1]
def s_fraction : SF := (sSeq (sIf (tOrr (tNo (tTru (eCall (ap1 f_is_whole) (aCons (eVar 0) aNil)))) (tOrr (tNo (tTru (eCall (ap1 f_is_whole) (aCons (eVar 1) aNil)))) (tV (eOp dEq (eVar 1) (eC (.int 0)))))) (sRaise "BadFraction") sNext) (sSeq (sIf (tV (eOp dLt (eVar 1) (eC (.int 0)))) (sPar 0 1 (aCons (eOp dSub (eC (.int 0)) (eVar 0)) (aCons (eOp dSub (eC (.int 0)) (eVar 1)) aNil))) sNext) (sSeq (sAsg (gN 2) (eCall (ap2 f_common) (aCons (eN dAbs (aCons (eVar 0) aNil)) (aCons (eVar 1) aNil)))) (sRet (eTup (aCons (eOp dDiv (eVar 0) (eVar 2)) (aCons (eOp dDiv (eVar 1) (eVar 2)) aNil)))))))
def f_fraction (a0 a1 : D) : Out D := run 3 s_fraction [a0, a1]
def s_multiplied : SF := (sRet (eCall (ap2 f_fraction) (aCons (eOp dMul (eOp dIx (eVar 0) (eC (.int 0))) (eOp dIx (eVar 1) (eC (.int 0)))) (aCons (eOp dMul (eOp dIx (eVar 0) (eC (.int 1))) (eOp dIx (eVar 1) (eC (.int 1)))) aNil))))
def f_multiplied (a0 a1 : D) : Out D := run 2 s_multiplied [a0, a1]
def s_compared : SF := (sSeq (sAsg (gN 2) (eOp dMul (eOp dIx (eVar 0) (eC (.int 0))) (eOp dIx (eVar 1) (eC (.int 1))))) (sSeq (sAsg (gN 3) (eOp dMul (eOp dIx (eVar 1) (eC (.int 0))) (eOp dIx (eVar 0) (eC (.int 1))))) (sRet (eOp dSub (eN dInt (aCons (eOp dGt (eVar 2) (eVar 3)) aNil)) (eN dInt (aCons (eOp dLt (eVar 2) (eVar 3)) aNil))))))
def f_compared (a0 a1 : D) : Out D := run 4 s_compared [a0, a1]
def s_floor_of : SF := (sRet (eOp dDiv (eOp dIx (eVar 0) (eC (.int 0))) (eOp dIx (eVar 0) (eC (.int 1)))))
def f_floor_of (a0 : D) : Out D := run 1 s_floor_of [a0]
def s_ceiling_of : SF := (sRet (eOp dSub (eC (.int 0)) (eOp dDiv (eOp dSub (eC (.int 0)) (eOp dIx (eVar 0) (eC (.int 0)))) (eOp dIx (eVar 0) (eC (.int 1))))))
def f_ceiling_of (a0 : D) : Out D := run 1 s_ceiling_of [a0]
def s_need_grid : SF := (sIf (tOrr (tNo (tTru (eCall (ap1 f_is_whole) (aCons (eVar 0) aNil)))) (tNo (tV (eChain dLe dLe (eC (.int 1)) (eVar 0) (eC (.int 1000000000)))))) (sRaise "BadGrid") sNext)
def f_need_grid (a0 : D) : Out D := run 1 s_need_grid [a0]
def s_need_stretch : SF := (sSeq (sIf (tOrr (tNo (tTru (eU (dIsi "tuple") (eVar 0)))) (tOrr (tV (eOp dNe (eN dLen (aCons (eVar 0) aNil)) (eC (.int 2)))) (tOrr (tNo (tTru (eCall (ap1 f_is_whole) (aCons (eOp dIx (eVar 0) (eC (.int 0))) aNil)))) (tNo (tTru (eCall (ap1 f_is_whole) (aCons (eOp dIx (eVar 0) (eC (.int 1))) aNil))))))) (sRaise "BadStretch") sNext) (sSeq (sIf (tV (eOp dGt (eOp dIx (eVar 0) (eC (.int 0))) (eOp dIx (eVar 0) (eC (.int 1))))) (sRaise "BadStretch") sNext) (sRet (eVar 0))))
def f_need_stretch (a0 : D) : Out D := run 1 s_need_stretch [a0]
def s_need_two : SF := (sSeq (sDrop (eCall (ap1 f_need_grid) (aCons (eVar 0) aNil))) (sSeq (sDrop (eCall (ap1 f_need_stretch) (aCons (eVar 1) aNil))) (sDrop (eCall (ap1 f_need_stretch) (aCons (eVar 2) aNil)))))
def f_need_two (a0 a1 a2 : D) : Out D := run 3 s_need_two [a0, a1, a2]
def s_outward : SF := (sRet (eTup (aCons (eCall (ap1 f_floor_of) (aCons (eVar 0) aNil)) (aCons (eCall (ap1 f_ceiling_of) (aCons (eVar 1) aNil)) aNil))))
def f_outward (a0 a1 : D) : Out D := run 2 s_outward [a0, a1]
def s_plus : SF := (sSeq (sDrop (eCall (ap3 f_need_two) (aCons (eVar 0) (aCons (eVar 1) (aCons (eVar 2) aNil))))) (sRet (eTup (aCons (eOp dAdd (eOp dIx (eVar 1) (eC (.int 0))) (eOp dIx (eVar 2) (eC (.int 0)))) (aCons (eOp dAdd (eOp dIx (eVar 1) (eC (.int 1))) (eOp dIx (eVar 2) (eC (.int 1)))) aNil)))))
def f_plus (a0 a1 a2 : D) : Out D := run 3 s_plus [a0, a1, a2]
def s_minus : SF := (sSeq (sDrop (eCall (ap3 f_need_two) (aCons (eVar 0) (aCons (eVar 1) (aCons (eVar 2) aNil))))) (sRet (eTup (aCons (eOp dSub (eOp dIx (eVar 1) (eC (.int 0))) (eOp dIx (eVar 2) (eC (.int 1)))) (aCons (eOp dSub (eOp dIx (eVar 1) (eC (.int 1))) (eOp dIx (eVar 2) (eC (.int 0)))) aNil)))))
def f_minus (a0 a1 a2 : D) : Out D := run 3 s_minus [a0, a1, a2]
def s_times : SF := (sSeq (sDrop (eCall (ap3 f_need_two) (aCons (eVar 0) (aCons (eVar 1) (aCons (eVar 2) aNil))))) (sSeq (sAsg (gN 3) (eLst (aCons (eOp dMul (eOp dIx (eVar 1) (eC (.int 0))) (eOp dIx (eVar 2) (eC (.int 0)))) (aCons (eOp dMul (eOp dIx (eVar 1) (eC (.int 0))) (eOp dIx (eVar 2) (eC (.int 1)))) (aCons (eOp dMul (eOp dIx (eVar 1) (eC (.int 1))) (eOp dIx (eVar 2) (eC (.int 0)))) (aCons (eOp dMul (eOp dIx (eVar 1) (eC (.int 1))) (eOp dIx (eVar 2) (eC (.int 1)))) aNil)))))) (sRet (eCall (ap2 f_outward) (aCons (eTup (aCons (eN dMinL (aCons (eVar 3) aNil)) (aCons (eVar 0) aNil))) (aCons (eTup (aCons (eN dMaxL (aCons (eVar 3) aNil)) (aCons (eVar 0) aNil))) aNil))))))
def f_times (a0 a1 a2 : D) : Out D := run 4 s_times [a0, a1, a2]
def s_over_b0 : SF := (sSeq (sIf (tV (eOp dLt (eCall (ap2 f_compared) (aCons (eVar 8) (aCons (eVar 6) aNil))) (eC (.int 0)))) (sAsg (gN 6) (eVar 8)) sNext) (sIf (tV (eOp dGt (eCall (ap2 f_compared) (aCons (eVar 8) (aCons (eVar 7) aNil))) (eC (.int 0)))) (sAsg (gN 7) (eVar 8)) sNext))
def s_over : SF := (sSeq (sDrop (eCall (ap3 f_need_two) (aCons (eVar 0) (aCons (eVar 1) (aCons (eVar 2) aNil))))) (sSeq (sIf (tV (eChain dLe dLe (eOp dIx (eVar 2) (eC (.int 0))) (eC (.int 0)) (eOp dIx (eVar 2) (eC (.int 1))))) (sRaise "ByNought") sNext) (sSeq (sAsg (gN 3) (eLc [4, 5] (itA zpL (aCons (eOp dAdd (eVar 1) (eVar 1)) (aCons (eOp dAdd (eVar 2) (eU dRevT (eVar 2))) aNil))) (gTp (gCn (gN 4) (gCn (gN 5) gNl))) bYes (eCall (ap2 f_fraction) (aCons (eOp dMul (eVar 0) (eVar 4)) (aCons (eVar 5) aNil))))) (sSeq (sAsg (gN 6) (eOp dIx (eVar 3) (eC (.int 0)))) (sSeq (sAsg (gN 7) (eOp dIx (eVar 3) (eC (.int 0)))) (sSeq (sFor (itL (eVar 3)) (gN 8) s_over_b0) (sRet (eCall (ap2 f_outward) (aCons (eVar 6) (aCons (eVar 7) aNil))))))))))
def f_over (a0 a1 a2 : D) : Out D := run 9 s_over [a0, a1, a2]
def s_least : SF := (sSeq (sDrop (eCall (ap3 f_need_two) (aCons (eVar 0) (aCons (eVar 1) (aCons (eVar 2) aNil))))) (sRet (eTup (aCons (eN dMin2 (aCons (eOp dIx (eVar 1) (eC (.int 0))) (aCons (eOp dIx (eVar 2) (eC (.int 0))) aNil))) (aCons (eN dMin2 (aCons (eOp dIx (eVar 1) (eC (.int 1))) (aCons (eOp dIx (eVar 2) (eC (.int 1))) aNil))) aNil)))))
def f_least (a0 a1 a2 : D) : Out D := run 3 s_least [a0, a1, a2]
def s_most : SF := (sSeq (sDrop (eCall (ap3 f_need_two) (aCons (eVar 0) (aCons (eVar 1) (aCons (eVar 2) aNil))))) (sRet (eTup (aCons (eN dMax2 (aCons (eOp dIx (eVar 1) (eC (.int 0))) (aCons (eOp dIx (eVar 2) (eC (.int 0))) aNil))) (aCons (eN dMax2 (aCons (eOp dIx (eVar 1) (eC (.int 1))) (aCons (eOp dIx (eVar 2) (eC (.int 1))) aNil))) aNil)))))
def f_most (a0 a1 a2 : D) : Out D := run 3 s_most [a0, a1, a2]
def s_raised_b0 : SF := (sAsg (gN 3) (eCall (ap2 f_multiplied) (aCons (eVar 3) (aCons (eCall (ap2 f_fraction) (aCons (eVar 0) (aCons (eVar 1) aNil))) aNil))))
def s_raised : SF := (sSeq (sAsg (gN 3) (eTup (aCons (eVar 1) (aCons (eC (.int 1)) aNil)))) (sSeq (sFor (itA rng1 (aCons (eVar 2) aNil)) (gN 4) s_raised_b0) (sRet (eVar 3))))
def f_raised (a0 a1 a2 : D) : Out D := run 5 s_raised [a0, a1, a2]
def s_power : SF := (sSeq (sDrop (eCall (ap1 f_need_grid) (aCons (eVar 0) aNil))) (sSeq (sDrop (eCall (ap1 f_need_stretch) (aCons (eVar 1) aNil))) (sSeq (sIf (tOrr (tNo (tTru (eCall (ap1 f_is_whole) (aCons (eVar 2) aNil)))) (tNo (tV (eChain dLe dLe (eC (.int 0)) (eVar 2) (eC (.int 8)))))) (sRaise "BadCount") sNext) (sSeq (sAsg (gN 3) (eCall (ap3 f_raised) (aCons (eOp dIx (eVar 1) (eC (.int 0))) (aCons (eVar 0) (aCons (eVar 2) aNil))))) (sSeq (sAsg (gN 4) (eCall (ap3 f_raised) (aCons (eOp dIx (eVar 1) (eC (.int 1))) (aCons (eVar 0) (aCons (eVar 2) aNil))))) (sSeq (sIf (tV (eOp dGt (eCall (ap2 f_compared) (aCons (eVar 3) (aCons (eVar 4) aNil))) (eC (.int 0)))) (sPar 3 4 (aCons (eVar 4) (aCons (eVar 3) aNil))) sNext) (sSeq (sIf (tAn (tV (eOp dGt (eVar 2) (eC (.int 0)))) (tAn (tV (eOp dEq (eOp dBand (eVar 2) (eC (.int 1))) (eC (.int 0)))) (tV (eChain dLe dLe (eOp dIx (eVar 1) (eC (.int 0))) (eC (.int 0)) (eOp dIx (eVar 1) (eC (.int 1))))))) (sAsg (gN 3) (eTup (aCons (eC (.int 0)) (aCons (eC (.int 1)) aNil)))) sNext) (sRet (eCall (ap2 f_outward) (aCons (eVar 3) (aCons (eVar 4) aNil)))))))))))
def f_power (a0 a1 a2 : D) : Out D := run 5 s_power [a0, a1, a2]
def s__law_mixed : SF := (sRet (eOp dMod (eOp dMul (eOp dMod (eOp dAdd (eOp dAdd (eOp dMul (eVar 0) (eOp dAdd (eC (.int 48271)) (eOp dMul (eOp dMul (eC (.int 2)) (eVar 1)) (eVar 1)))) (eOp dMul (eC (.int 69621)) (eVar 1))) (eC (.int 11))) (eC (.int 2147483647))) (eC (.int 69621))) (eC (.int 2147483629))))
def f__law_mixed (a0 a1 : D) : Out D := run 2 s__law_mixed [a0, a1]
def s__law_number : SF := (sSeq (sAsg (gN 1) (eCall (ap2 f__law_mixed) (aCons (eVar 0) (aCons (eC (.int 31)) aNil)))) (sSeq (sAsg (gN 2) (eOp dMod (eOp dAdd (eOp dAdd (eOp dMul (eVar 1) (eOp dPow (eC (.int 10)) (eC (.int 21)))) (eOp dMul (eCall (ap2 f__law_mixed) (aCons (eVar 0) (aCons (eC (.int 32)) aNil))) (eOp dPow (eC (.int 10)) (eC (.int 10))))) (eCall (ap2 f__law_mixed) (aCons (eVar 0) (aCons (eC (.int 33)) aNil)))) (eOp dPow (eC (.int 10)) (eC (.int 30))))) (sSeq (sAsg (gN 3) (eLst (aCons (eOp dSub (eOp dMod (eVar 1) (eC (.int 41))) (eC (.int 20))) (aCons (eOp dSub (eOp dMod (eVar 1) (eC (.int 2001))) (eC (.int 1000))) (aCons (eVar 2) (aCons (eOp dSub (eC (.int 0)) (eVar 2)) (aCons (eOp dSub (eOp dMod (eVar 1) (eC (.int 3))) (eC (.int 1))) (aCons (eVar 1) aNil)))))))) (sRet (eOp dIx (eVar 3) (eOp dMod (eCall (ap2 f__law_mixed) (aCons (eVar 0) (aCons (eC (.int 34)) aNil))) (eC (.int 6))))))))
def f__law_number (a0 : D) : Out D := run 4 s__law_number [a0]
def s__law_grid : SF := (sSeq (sAsg (gN 1) (eCall (ap2 f__law_mixed) (aCons (eVar 0) (aCons (eC (.int 35)) aNil)))) (sRet (eOp dIx (eLst (aCons (eC (.int 1)) (aCons (eC (.int 2)) (aCons (eC (.int 10)) (aCons (eC (.int 1000)) (aCons (eOp dPow (eC (.int 10)) (eC (.int 9))) (aCons (eOp dAdd (eC (.int 1)) (eOp dMod (eOp dDiv (eVar 1) (eC (.int 6))) (eOp dPow (eC (.int 10)) (eC (.int 9))))) aNil))))))) (eOp dMod (eVar 1) (eC (.int 6))))))
def f__law_grid (a0 : D) : Out D := run 2 s__law_grid [a0]
def s__law_stretch : SF := (sSeq (sAsg (gN 1) (eCall (ap1 f__law_number) (aCons (eCall (ap2 f__law_mixed) (aCons (eVar 0) (aCons (eC (.int 36)) aNil))) aNil))) (sSeq (sAsg (gN 2) (eCall (ap2 f__law_mixed) (aCons (eVar 0) (aCons (eC (.int 37)) aNil)))) (sSeq (sAsg (gN 3) (eLst (aCons (eC (.int 0)) (aCons (eC (.int 1)) (aCons (eOp dMod (eOp dDiv (eVar 2) (eC (.int 6))) (eC (.int 40))) (aCons (eOp dMod (eOp dDiv (eVar 2) (eC (.int 6))) (eOp dPow (eC (.int 10)) (eC (.int 6)))) (aCons (eN dAbs (aCons (eCall (ap1 f__law_number) (aCons (eCall (ap2 f__law_mixed) (aCons (eVar 0) (aCons (eC (.int 38)) aNil))) aNil)) aNil)) (aCons (eOp dMul (eC (.int 2)) (eN dAbs (aCons (eVar 1) aNil))) aNil)))))))) (sRet (eTup (aCons (eVar 1) (aCons (eOp dAdd (eVar 1) (eOp dIx (eVar 3) (eOp dMod (eVar 2) (eC (.int 6))))) aNil)))))))
def f__law_stretch (a0 : D) : Out D := run 4 s__law_stretch [a0]
def s__law_inside : SF := (sSeq (sAsg (gN 3) (eCall (ap2 f__law_mixed) (aCons (eVar 0) (aCons (eC (.int 61)) aNil)))) (sSeq (sAsg (gN 4) (eOp dIx (eLst (aCons (eC (.int 1)) (aCons (eC (.int 2)) (aCons (eC (.int 7)) (aCons (eOp dAdd (eC (.int 1)) (eOp dMod (eOp dDiv (eVar 3) (eC (.int 5))) (eC (.int 1000)))) aNil))))) (eOp dMod (eVar 3) (eC (.int 4))))) (sSeq (sAsg (gN 5) (eOp dIx (eLst (aCons (eC (.int 0)) (aCons (eVar 4) (aCons (eOp dMod (eOp dDiv (eVar 3) (eC (.int 40))) (eOp dAdd (eVar 4) (eC (.int 1)))) (aCons (eOp dMod (eOp dDiv (eVar 3) (eC (.int 70))) (eOp dAdd (eVar 4) (eC (.int 1)))) aNil))))) (eOp dMod (eOp dDiv (eVar 3) (eC (.int 4))) (eC (.int 4))))) (sRet (eTup (aCons (eOp dAdd (eOp dMul (eOp dIx (eVar 2) (eC (.int 0))) (eVar 4)) (eOp dMul (eVar 5) (eOp dSub (eOp dIx (eVar 2) (eC (.int 1))) (eOp dIx (eVar 2) (eC (.int 0)))))) (aCons (eOp dMul (eVar 4) (eVar 1)) aNil)))))))
def f__law_inside (a0 a1 a2 : D) : Out D := run 6 s__law_inside [a0, a1, a2]
def s__law_worth_b0 : SF := (sAsg (gN 6) (eTup (aCons (eOp dMul (eOp dIx (eVar 6) (eC (.int 0))) (eOp dIx (eVar 1) (eC (.int 0)))) (aCons (eOp dMul (eOp dIx (eVar 6) (eC (.int 1))) (eOp dIx (eVar 1) (eC (.int 1)))) aNil))))
def s__law_worth : SF := (sSeq (sIf (tV (eOp dEq (eVar 0) (eC (.int 0)))) (sRet (eTup (aCons (eOp dAdd (eOp dMul (eOp dIx (eVar 1) (eC (.int 0))) (eOp dIx (eVar 2) (eC (.int 1)))) (eOp dMul (eOp dIx (eVar 2) (eC (.int 0))) (eOp dIx (eVar 1) (eC (.int 1))))) (aCons (eOp dMul (eOp dIx (eVar 1) (eC (.int 1))) (eOp dIx (eVar 2) (eC (.int 1)))) aNil)))) sNext) (sSeq (sIf (tV (eOp dEq (eVar 0) (eC (.int 1)))) (sRet (eTup (aCons (eOp dSub (eOp dMul (eOp dIx (eVar 1) (eC (.int 0))) (eOp dIx (eVar 2) (eC (.int 1)))) (eOp dMul (eOp dIx (eVar 2) (eC (.int 0))) (eOp dIx (eVar 1) (eC (.int 1))))) (aCons (eOp dMul (eOp dIx (eVar 1) (eC (.int 1))) (eOp dIx (eVar 2) (eC (.int 1)))) aNil)))) sNext) (sSeq (sIf (tV (eOp dEq (eVar 0) (eC (.int 2)))) (sRet (eTup (aCons (eOp dMul (eOp dIx (eVar 1) (eC (.int 0))) (eOp dIx (eVar 2) (eC (.int 0)))) (aCons (eOp dMul (eOp dIx (eVar 1) (eC (.int 1))) (eOp dIx (eVar 2) (eC (.int 1)))) aNil)))) sNext) (sSeq (sIf (tV (eOp dEq (eVar 0) (eC (.int 3)))) (sSeq (sAsg (gN 4) (eOp dSub (eC (.int 1)) (eOp dMul (eC (.int 2)) (eN dInt (aCons (eOp dLt (eOp dIx (eVar 2) (eC (.int 0))) (eC (.int 0))) aNil))))) (sRet (eTup (aCons (eOp dMul (eOp dMul (eVar 4) (eOp dIx (eVar 1) (eC (.int 0)))) (eOp dIx (eVar 2) (eC (.int 1)))) (aCons (eOp dMul (eOp dMul (eVar 4) (eOp dIx (eVar 1) (eC (.int 1)))) (eOp dIx (eVar 2) (eC (.int 0)))) aNil))))) sNext) (sSeq (sIf (tV (eOp dLt (eVar 0) (eC (.int 6)))) (sSeq (sAsg (gN 5) (eOp dLt (eOp dMul (eOp dIx (eVar 1) (eC (.int 0))) (eOp dIx (eVar 2) (eC (.int 1)))) (eOp dMul (eOp dIx (eVar 2) (eC (.int 0))) (eOp dIx (eVar 1) (eC (.int 1)))))) (sRet (eIf (tV (eOp dEq (eVar 5) (eOp dEq (eVar 0) (eC (.int 4))))) (eVar 1) (eVar 2)))) sNext) (sSeq (sAsg (gN 6) (eTup (aCons (eC (.int 1)) (aCons (eC (.int 1)) aNil)))) (sSeq (sFor (itA rng1 (aCons (eVar 3) aNil)) (gN 7) s__law_worth_b0) (sRet (eVar 6)))))))))
def f__law_worth (a0 a1 a2 a3 : D) : Out D := run 8 s__law_worth [a0, a1, a2, a3]
def s__law_found : SF := (sSeq (sIf (tV (eOp dEq (eVar 0) (eC (.int 0)))) (sRet (eCall (ap3 f_plus) (aCons (eVar 1) (aCons (eVar 2) (aCons (eVar 3) aNil))))) sNext) (sSeq (sIf (tV (eOp dEq (eVar 0) (eC (.int 1)))) (sRet (eCall (ap3 f_minus) (aCons (eVar 1) (aCons (eVar 2) (aCons (eVar 3) aNil))))) sNext) (sSeq (sIf (tV (eOp dEq (eVar 0) (eC (.int 2)))) (sRet (eCall (ap3 f_times) (aCons (eVar 1) (aCons (eVar 2) (aCons (eVar 3) aNil))))) sNext) (sSeq (sIf (tV (eOp dEq (eVar 0) (eC (.int 3)))) (sRet (eCall (ap3 f_over) (aCons (eVar 1) (aCons (eVar 2) (aCons (eVar 3) aNil))))) sNext) (sSeq (sIf (tV (eOp dEq (eVar 0) (eC (.int 4)))) (sRet (eCall (ap3 f_least) (aCons (eVar 1) (aCons (eVar 2) (aCons (eVar 3) aNil))))) sNext) (sSeq (sIf (tV (eOp dEq (eVar 0) (eC (.int 5)))) (sRet (eCall (ap3 f_most) (aCons (eVar 1) (aCons (eVar 2) (aCons (eVar 3) aNil))))) sNext) (sRet (eCall (ap3 f_power) (aCons (eVar 1) (aCons (eVar 2) (aCons (eVar 4) aNil)))))))))))
def f__law_found (a0 a1 a2 a3 a4 : D) : Out D := run 5 s__law_found [a0, a1, a2, a3, a4]
def s__law_ends : SF := (sSeq (sAsg (gN 2) (eLst (aCons (eTup (aCons (eOp dIx (eVar 1) (eC (.int 0))) (aCons (eVar 0) aNil))) (aCons (eTup (aCons (eOp dIx (eVar 1) (eC (.int 1))) (aCons (eVar 0) aNil))) aNil)))) (sRet (eOp dAdd (eVar 2) (eOp dMul (eLst (aCons (eTup (aCons (eC (.int 0)) (aCons (eC (.int 1)) aNil))) aNil)) (eN dInt (aCons (eChain dLe dLe (eOp dIx (eVar 1) (eC (.int 0))) (eC (.int 0)) (eOp dIx (eVar 1) (eC (.int 1)))) aNil))))))
def f__law_ends (a0 a1 : D) : Out D := run 3 s__law_ends [a0, a1]
def s__law_lies : SF := (sRet (eChain dLe dLe (eOp dMul (eOp dIx (eVar 1) (eC (.int 0))) (eOp dIx (eVar 2) (eC (.int 1)))) (eOp dMul (eOp dIx (eVar 2) (eC (.int 0))) (eVar 0)) (eOp dMul (eOp dIx (eVar 1) (eC (.int 1))) (eOp dIx (eVar 2) (eC (.int 1))))))
def f__law_lies (a0 a1 a2 : D) : Out D := run 3 s__law_lies [a0, a1, a2]
def s__law_is_tight_b0 : SF := (sIf (tOrr (tV (eOp dNe (eVar 0) (eC (.int 3)))) (tV (eOp dNe (eOp dIx (eVar 9) (eC (.int 0))) (eC (.int 0))))) (sSeq (sAsg (gN 10) (eCall (ap4 f__law_worth) (aCons (eVar 0) (aCons (eVar 8) (aCons (eVar 9) (aCons (eVar 5) aNil)))))) (sSeq (sAsg (gN 6) (eOrV (eVar 6) (eOp dLt (eOp dMul (eOp dIx (eVar 10) (eC (.int 0))) (eVar 1)) (eOp dMul (eOp dAdd (eOp dIx (eVar 2) (eC (.int 0))) (eC (.int 1))) (eOp dIx (eVar 10) (eC (.int 1))))))) (sAsg (gN 7) (eOrV (eVar 7) (eOp dGt (eOp dMul (eOp dIx (eVar 10) (eC (.int 0))) (eVar 1)) (eOp dMul (eOp dSub (eOp dIx (eVar 2) (eC (.int 1))) (eC (.int 1))) (eOp dIx (eVar 10) (eC (.int 1))))))))) sNext)
def s__law_is_tight_b1 : SF := (sFor (itL (eCall (ap2 f__law_ends) (aCons (eVar 1) (aCons (eVar 4) aNil)))) (gN 9) s__law_is_tight_b0)
def s__law_is_tight : SF := (sSeq (sAsg (gTp (gCn (gN 6) (gCn (gN 7) gNl))) (eTup (aCons (eC (.bl false)) (aCons (eC (.bl false)) aNil)))) (sSeq (sFor (itL (eCall (ap2 f__law_ends) (aCons (eVar 1) (aCons (eVar 3) aNil)))) (gN 8) s__law_is_tight_b1) (sRet (eAndV (eVar 6) (eVar 7)))))
def f__law_is_tight (a0 a1 a2 a3 a4 a5 : D) : Out D := run 11 s__law_is_tight [a0, a1, a2, a3, a4, a5]
def s_law_b0 : SF := (sSeq (sAsg (gN 11) (eCall (ap3 f__law_inside) (aCons (eCall (ap2 f__law_mixed) (aCons (eVar 4) (aCons (eOp dAdd (eC (.int 4)) (eVar 10)) aNil))) (aCons (eVar 5) (aCons (eVar 6) aNil))))) (sSeq (sAsg (gN 12) (eCall (ap3 f__law_inside) (aCons (eCall (ap2 f__law_mixed) (aCons (eVar 4) (aCons (eOp dAdd (eC (.int 8)) (eVar 10)) aNil))) (aCons (eVar 5) (aCons (eVar 1) aNil))))) (sIf (tNo (tTru (eCall (ap3 f__law_lies) (aCons (eVar 5) (aCons (eVar 9) (aCons (eCall (ap4 f__law_worth) (aCons (eVar 8) (aCons (eVar 11) (aCons (eVar 12) (aCons (eVar 7) aNil))))) aNil)))))) (sRet (eC (.bl false))) sNext)))
def s_law_b1 : SF := (sIf (tOrr (tV (eOp dNe (eVar 8) (eC (.int 3)))) (tNo (tV (eChain dLe dLe (eOp dIx (eVar 1) (eC (.int 0))) (eC (.int 0)) (eOp dIx (eVar 1) (eC (.int 1))))))) (sSeq (sAsg (gN 9) (eCall (ap5 f__law_found) (aCons (eVar 8) (aCons (eVar 5) (aCons (eVar 6) (aCons (eVar 1) (aCons (eVar 7) aNil))))))) (sSeq (sFor (itA rng1 (aCons (eC (.int 3)) aNil)) (gN 10) s_law_b0) (sIf (tNo (tTru (eCall (ap6 f__law_is_tight) (aCons (eVar 8) (aCons (eVar 5) (aCons (eVar 9) (aCons (eVar 6) (aCons (eVar 1) (aCons (eVar 7) aNil))))))))) (sRet (eC (.bl false))) sNext))) sNext)
def s_law_b2 : SF := (sSeq (sAsg (gN 4) (eCall (ap2 f__law_mixed) (aCons (eVar 3) (aCons (eVar 2) aNil)))) (sSeq (sAsg (gN 5) (eCall (ap1 f__law_grid) (aCons (eCall (ap2 f__law_mixed) (aCons (eVar 4) (aCons (eC (.int 1)) aNil))) aNil))) (sSeq (sAsg (gN 6) (eCall (ap1 f__law_stretch) (aCons (eCall (ap2 f__law_mixed) (aCons (eVar 4) (aCons (eC (.int 2)) aNil))) aNil))) (sSeq (sAsg (gN 7) (eOp dMod (eCall (ap2 f__law_mixed) (aCons (eVar 4) (aCons (eC (.int 3)) aNil))) (eC (.int 9)))) (sSeq (sFor (itA rng1 (aCons (eC (.int 7)) aNil)) (gN 8) s_law_b1) (sAsg (gN 1) (eVar 6)))))))
def s_law : SF := (sSeq (sAsg (gN 1) (eTup (aCons (eC (.int 2)) (aCons (eC (.int 9)) aNil)))) (sSeq (sFor (itA enm (aCons (eOp dAdd (eSl dSlL (eVar 0) oNo (oSo (eC (.int 63)))) (eLst (aCons (eC (.int 4)) aNil))) aNil)) (gTp (gCn (gN 2) (gCn (gN 3) gNl))) s_law_b2) (sRet (eC (.bl true)))))
def f_law (a0 : D) : Out D := run 13 s_law [a0]
end BD.k04
set_option Elab.async false
set_option maxRecDepth 100000
set_option maxHeartbeats 4000000
namespace BD.k04
open PySem PySem.Spec PyProof.Rows L2 LamX BD
/-! printed by gen.py -/
def topS (i : Nat) : Stmt := PySem.Challenge.pw_boundsums_k04_whole_no_value_lost.main.body.getD i (.Pass ⟨0, 0, 0, 0⟩)
abbrev S_is_whole : Stmt := topS 8
abbrev S_common : Stmt := topS 9
abbrev S_fraction : Stmt := topS 10
abbrev S_multiplied : Stmt := topS 11
abbrev S_compared : Stmt := topS 12
abbrev S_floor_of : Stmt := topS 13
abbrev S_ceiling_of : Stmt := topS 14
abbrev S_need_grid : Stmt := topS 18
abbrev S_need_stretch : Stmt := topS 19
abbrev S_need_two : Stmt := topS 20
abbrev S_outward : Stmt := topS 21
abbrev S_plus : Stmt := topS 22
abbrev S_minus : Stmt := topS 23
abbrev S_times : Stmt := topS 24
abbrev S_over : Stmt := topS 25
abbrev S_least : Stmt := topS 26
abbrev S_most : Stmt := topS 27
abbrev S_raised : Stmt := topS 28
abbrev S_power : Stmt := topS 29
abbrev S__law_mixed : Stmt := topS 32
abbrev S__law_number : Stmt := topS 33
abbrev S__law_grid : Stmt := topS 34
abbrev S__law_stretch : Stmt := topS 35
abbrev S__law_inside : Stmt := topS 36
abbrev S__law_worth : Stmt := topS 37
abbrev S__law_found : Stmt := topS 38
abbrev S__law_ends : Stmt := topS 39
abbrev S__law_lies : Stmt := topS 40
abbrev S__law_is_tight : Stmt := topS 41
abbrev S_law : Stmt := topS 42
section
structure Bt (c : CC) : Prop where
  b_abs : c.mg "abs" = none
  b_bool : c.mg "bool" = none
  b_enumerate : c.mg "enumerate" = none
  b_int : c.mg "int" = none
  b_isinstance : c.mg "isinstance" = none
  b_len : c.mg "len" = none
  b_max : c.mg "max" = none
  b_min : c.mg "min" = none
  b_range : c.mg "range" = none
  b_tuple : c.mg "tuple" = none
  b_zip : c.mg "zip" = none
  m_MOST_GRID : mgI c "MOST_GRID" 1000000000
  m_MOST_POWER : mgI c "MOST_POWER" 8
  r_BadCount : RX c "BadCount" (clsA c "BadCount")
  r_BadFraction : RX c "BadFraction" (clsA c "BadFraction")
  r_BadGrid : RX c "BadGrid" (clsA c "BadGrid")
  r_BadStretch : RX c "BadStretch" (clsA c "BadStretch")
  r_ByNought : RX c "ByNought" (clsA c "ByNought")
variable {P : Program} {w : World} {c : CC} {base : Heap}
theorem sc_is_whole : FnScope ["thing"] ["thing"] (defScope S_is_whole) := ⟨rfl, rfl, rfl, by decide +kernel, rfl, by decide +kernel, by decide +kernel⟩
theorem k_is_whole (T : Bt c) (Df : Df c "is_whole" S_is_whole)  : Cal P w c base 1 "is_whole" (ap1 f_is_whole) := by
  obtain ⟨fa, fd, F, hm⟩ := Df.ex
  exact cal_of (sem := s_is_whole) F hm (F.binds (ps := ["thing"]) fun _ _ _ _ _ _ us hl => match us, hl with | [_], _ => rfl) sc_is_whole ar1 (fun cdv A outer s H E W O hp => by exact (s_one (s_ret (d_andV O.K (d_isi O.K (by decide) T.b_isinstance T.b_int (by decide +kernel) (d_var (i := 0))) (d_one (d_notV O.K (d_isi O.K (by decide) T.b_isinstance T.b_bool (by decide +kernel) (d_var (i := 0))))))))) fun ds h => eq1 ds h
theorem sc_common : FnScope ["one", "other"] ["one", "other"] (defScope S_common) := ⟨rfl, rfl, rfl, by decide +kernel, rfl, by decide +kernel, by decide +kernel⟩
theorem k_common (T : Bt c) (Df : Df c "common" S_common)  : Cal P w c base 1 "common" (ap2 f_common) := by
  obtain ⟨fa, fd, F, hm⟩ := Df.ex
  exact cal_of (sem := s_common) F hm (F.binds (ps := ["one", "other"]) fun _ _ _ _ _ _ us hl => match us, hl with | [_, _], _ => rfl) sc_common ar2 (fun cdv A outer s H E W O hp => by exact (s_cons (s_while (fuelI 1) hp (t_cmp op_gt L_gt (nomark _) (d_var (i := 1)) d_int) (s_one (s_par (i := 0) (j := 1) O (by decide) (a_cons (d_var (i := 1)) (a_cons (d_op op_mod L_mod (d_var (i := 0)) (d_var (i := 1))) a_nil)) (by rfl)))) (s_one (s_ret (d_var (i := 0)))))) fun ds h => eq2 ds h
theorem sc_fraction : FnScope ["top", "bottom", "part"] ["top", "bottom"] (defScope S_fraction) := ⟨rfl, rfl, rfl, by decide +kernel, rfl, by decide +kernel, by decide +kernel⟩
theorem k_fraction (T : Bt c) (Df : Df c "fraction" S_fraction) (C_common : Cal P w c base 1 "common" (ap2 f_common)) (C_is_whole : Cal P w c base 1 "is_whole" (ap1 f_is_whole)) : Cal P w c base 2 "fraction" (ap2 f_fraction) := by
  obtain ⟨fa, fd, F, hm⟩ := Df.ex
  exact cal_of (sem := s_fraction) F hm (F.binds (ps := ["top", "bottom"]) fun _ _ _ _ _ _ us hl => match us, hl with | [_, _], _ => rfl) sc_fraction ar2 (fun cdv A outer s H E W O hp => by exact (s_cons (s_if (t_w (w_or (t_not (t_tru O.K (d_call O C_is_whole (by decide) (a_cons (d_var (i := 0)) a_nil)))) (w_or (t_not (t_tru O.K (d_call O C_is_whole (by decide) (a_cons (d_var (i := 1)) a_nil)))) (w_or1 (t_cmp (O_eq O.K O.rm) L_eq (nomark _) (d_var (i := 1)) d_int))))) (s_one (s_raise O PySem.F.excBase_ValueError T.r_BadFraction.q T.r_BadFraction.g T.r_BadFraction.k T.r_BadFraction.h1 T.r_BadFraction.h2)) s_nil) (s_cons (s_if (t_cmp op_lt L_lt (nomark _) (d_var (i := 1)) d_int) (s_one (s_par (i := 0) (j := 1) O (by decide) (a_cons (d_op op_sub L_sub d_int (d_var (i := 0))) (a_cons (d_op op_sub L_sub d_int (d_var (i := 1))) a_nil)) (by rfl))) s_nil) (s_cons (s_set (i := 2) O (d_call O C_common (by decide) (a_cons (d_callB call_abs L_abs T.b_abs (by decide +kernel) (a_cons (d_var (i := 0)) a_nil)) (a_cons (d_var (i := 1)) a_nil)))) (s_one (s_ret (d_tup (a_cons (d_op op_fdivW L_div (d_var (i := 0)) (d_var (i := 2))) (a_cons (d_op op_fdivW L_div (d_var (i := 1)) (d_var (i := 2))) a_nil))))))))) fun ds h => eq2 ds h
theorem sc_multiplied : FnScope ["p", "q"] ["p", "q"] (defScope S_multiplied) := ⟨rfl, rfl, rfl, by decide +kernel, rfl, by decide +kernel, by decide +kernel⟩
theorem k_multiplied (T : Bt c) (Df : Df c "multiplied" S_multiplied) (C_fraction : Cal P w c base 2 "fraction" (ap2 f_fraction)) : Cal P w c base 3 "multiplied" (ap2 f_multiplied) := by
  obtain ⟨fa, fd, F, hm⟩ := Df.ex
  exact cal_of (sem := s_multiplied) F hm (F.binds (ps := ["p", "q"]) fun _ _ _ _ _ _ us hl => match us, hl with | [_, _], _ => rfl) sc_multiplied ar2 (fun cdv A outer s H E W O hp => by exact (s_one (s_ret (d_call O C_fraction (by decide) (a_cons (d_op O_mul L_mul (d_ix O.K (d_var (i := 0)) d_int) (d_ix O.K (d_var (i := 1)) d_int)) (a_cons (d_op O_mul L_mul (d_ix O.K (d_var (i := 0)) d_int) (d_ix O.K (d_var (i := 1)) d_int)) a_nil)))))) fun ds h => eq2 ds h
theorem sc_compared : FnScope ["p", "q", "one", "other"] ["p", "q"] (defScope S_compared) := ⟨rfl, rfl, rfl, by decide +kernel, rfl, by decide +kernel, by decide +kernel⟩
theorem k_compared (T : Bt c) (Df : Df c "compared" S_compared)  : Cal P w c base 1 "compared" (ap2 f_compared) := by
  obtain ⟨fa, fd, F, hm⟩ := Df.ex
  exact cal_of (sem := s_compared) F hm (F.binds (ps := ["p", "q"]) fun _ _ _ _ _ _ us hl => match us, hl with | [_, _], _ => rfl) sc_compared ar2 (fun cdv A outer s H E W O hp => by exact (s_cons (s_set (i := 2) O (d_op O_mul L_mul (d_ix O.K (d_var (i := 0)) d_int) (d_ix O.K (d_var (i := 1)) d_int))) (s_cons (s_set (i := 3) O (d_op O_mul L_mul (d_ix O.K (d_var (i := 1)) d_int) (d_ix O.K (d_var (i := 0)) d_int))) (s_one (s_ret (d_op op_sub L_sub (d_callTy call_int1 L_int T.b_int (by decide +kernel) (a_cons (d_cmp op_gt L_gt (nomark _) (d_var (i := 2)) (d_var (i := 3))) a_nil)) (d_callTy call_int1 L_int T.b_int (by decide +kernel) (a_cons (d_cmp op_lt L_lt (nomark _) (d_var (i := 2)) (d_var (i := 3))) a_nil)))))))) fun ds h => eq2 ds h
theorem sc_floor_of : FnScope ["p"] ["p"] (defScope S_floor_of) := ⟨rfl, rfl, rfl, by decide +kernel, rfl, by decide +kernel, by decide +kernel⟩
theorem k_floor_of (T : Bt c) (Df : Df c "floor_of" S_floor_of)  : Cal P w c base 1 "floor_of" (ap1 f_floor_of) := by
  obtain ⟨fa, fd, F, hm⟩ := Df.ex
  exact cal_of (sem := s_floor_of) F hm (F.binds (ps := ["p"]) fun _ _ _ _ _ _ us hl => match us, hl with | [_], _ => rfl) sc_floor_of ar1 (fun cdv A outer s H E W O hp => by exact (s_one (s_ret (d_op op_fdivW L_div (d_ix O.K (d_var (i := 0)) d_int) (d_ix O.K (d_var (i := 0)) d_int))))) fun ds h => eq1 ds h
theorem sc_ceiling_of : FnScope ["p"] ["p"] (defScope S_ceiling_of) := ⟨rfl, rfl, rfl, by decide +kernel, rfl, by decide +kernel, by decide +kernel⟩
theorem k_ceiling_of (T : Bt c) (Df : Df c "ceiling_of" S_ceiling_of)  : Cal P w c base 1 "ceiling_of" (ap1 f_ceiling_of) := by
  obtain ⟨fa, fd, F, hm⟩ := Df.ex
  exact cal_of (sem := s_ceiling_of) F hm (F.binds (ps := ["p"]) fun _ _ _ _ _ _ us hl => match us, hl with | [_], _ => rfl) sc_ceiling_of ar1 (fun cdv A outer s H E W O hp => by exact (s_one (s_ret (d_op op_sub L_sub d_int (d_op op_fdivW L_div (d_op op_sub L_sub d_int (d_ix O.K (d_var (i := 0)) d_int)) (d_ix O.K (d_var (i := 0)) d_int)))))) fun ds h => eq1 ds h
theorem sc_need_grid : FnScope ["grid"] ["grid"] (defScope S_need_grid) := ⟨rfl, rfl, rfl, by decide +kernel, rfl, by decide +kernel, by decide +kernel⟩
theorem k_need_grid (T : Bt c) (Df : Df c "need_grid" S_need_grid) (C_is_whole : Cal P w c base 1 "is_whole" (ap1 f_is_whole)) : Cal P w c base 2 "need_grid" (ap1 f_need_grid) := by
  obtain ⟨fa, fd, F, hm⟩ := Df.ex
  exact cal_of (sem := s_need_grid) F hm (F.binds (ps := ["grid"]) fun _ _ _ _ _ _ us hl => match us, hl with | [_], _ => rfl) sc_need_grid ar1 (fun cdv A outer s H E W O hp => by exact (s_one (s_if (t_w (w_or (t_not (t_tru O.K (d_call O C_is_whole (by decide) (a_cons (d_var (i := 0)) a_nil)))) (w_or1 (t_not (t_chain op_le L_le op_le L_le d_int (d_var (i := 0)) (d_gI T.m_MOST_GRID O)))))) (s_one (s_raise O PySem.F.excBase_ValueError T.r_BadGrid.q T.r_BadGrid.g T.r_BadGrid.k T.r_BadGrid.h1 T.r_BadGrid.h2)) s_nil))) fun ds h => eq1 ds h
theorem sc_need_stretch : FnScope ["thing"] ["thing"] (defScope S_need_stretch) := ⟨rfl, rfl, rfl, by decide +kernel, rfl, by decide +kernel, by decide +kernel⟩
theorem k_need_stretch (T : Bt c) (Df : Df c "need_stretch" S_need_stretch) (C_is_whole : Cal P w c base 1 "is_whole" (ap1 f_is_whole)) : Cal P w c base 2 "need_stretch" (ap1 f_need_stretch) := by
  obtain ⟨fa, fd, F, hm⟩ := Df.ex
  exact cal_of (sem := s_need_stretch) F hm (F.binds (ps := ["thing"]) fun _ _ _ _ _ _ us hl => match us, hl with | [_], _ => rfl) sc_need_stretch ar1 (fun cdv A outer s H E W O hp => by exact (s_cons (s_if (t_w (w_or (t_not (t_tru O.K (d_isi O.K (by decide) T.b_isinstance T.b_tuple (by decide +kernel) (d_var (i := 0))))) (w_or (t_cmp (O_ne O.K O.rm) L_ne (nomark _) (d_callB (C_len O.K) L_len T.b_len (by decide +kernel) (a_cons (d_var (i := 0)) a_nil)) d_int) (w_or (t_not (t_tru O.K (d_call O C_is_whole (by decide) (a_cons (d_ix O.K (d_var (i := 0)) d_int) a_nil)))) (w_or1 (t_not (t_tru O.K (d_call O C_is_whole (by decide) (a_cons (d_ix O.K (d_var (i := 0)) d_int) a_nil))))))))) (s_one (s_raise O PySem.F.excBase_ValueError T.r_BadStretch.q T.r_BadStretch.g T.r_BadStretch.k T.r_BadStretch.h1 T.r_BadStretch.h2)) s_nil) (s_cons (s_if (t_cmp op_gt L_gt (nomark _) (d_ix O.K (d_var (i := 0)) d_int) (d_ix O.K (d_var (i := 0)) d_int)) (s_one (s_raise O PySem.F.excBase_ValueError T.r_BadStretch.q T.r_BadStretch.g T.r_BadStretch.k T.r_BadStretch.h1 T.r_BadStretch.h2)) s_nil) (s_one (s_ret (d_var (i := 0))))))) fun ds h => eq1 ds h
theorem sc_need_two : FnScope ["grid", "one", "other"] ["grid", "one", "other"] (defScope S_need_two) := ⟨rfl, rfl, rfl, by decide +kernel, rfl, by decide +kernel, by decide +kernel⟩
theorem k_need_two (T : Bt c) (Df : Df c "need_two" S_need_two) (C_need_grid : Cal P w c base 2 "need_grid" (ap1 f_need_grid)) (C_need_stretch : Cal P w c base 2 "need_stretch" (ap1 f_need_stretch)) : Cal P w c base 3 "need_two" (ap3 f_need_two) := by
  obtain ⟨fa, fd, F, hm⟩ := Df.ex
  exact cal_of (sem := s_need_two) F hm (F.binds (ps := ["grid", "one", "other"]) fun _ _ _ _ _ _ us hl => match us, hl with | [_, _, _], _ => rfl) sc_need_two ar3 (fun cdv A outer s H E W O hp => by exact (s_cons (s_expr (d_call O C_need_grid (by decide) (a_cons (d_var (i := 0)) a_nil))) (s_cons (s_expr (d_call O C_need_stretch (by decide) (a_cons (d_var (i := 1)) a_nil))) (s_one (s_expr (d_call O C_need_stretch (by decide) (a_cons (d_var (i := 2)) a_nil))))))) fun ds h => eq3 ds h
theorem sc_outward : FnScope ["low", "high"] ["low", "high"] (defScope S_outward) := ⟨rfl, rfl, rfl, by decide +kernel, rfl, by decide +kernel, by decide +kernel⟩
theorem k_outward (T : Bt c) (Df : Df c "outward" S_outward) (C_ceiling_of : Cal P w c base 1 "ceiling_of" (ap1 f_ceiling_of)) (C_floor_of : Cal P w c base 1 "floor_of" (ap1 f_floor_of)) : Cal P w c base 2 "outward" (ap2 f_outward) := by
  obtain ⟨fa, fd, F, hm⟩ := Df.ex
  exact cal_of (sem := s_outward) F hm (F.binds (ps := ["low", "high"]) fun _ _ _ _ _ _ us hl => match us, hl with | [_, _], _ => rfl) sc_outward ar2 (fun cdv A outer s H E W O hp => by exact (s_one (s_ret (d_tup (a_cons (d_call O C_floor_of (by decide) (a_cons (d_var (i := 0)) a_nil)) (a_cons (d_call O C_ceiling_of (by decide) (a_cons (d_var (i := 1)) a_nil)) a_nil)))))) fun ds h => eq2 ds h
theorem sc_plus : FnScope ["grid", "one", "other"] ["grid", "one", "other"] (defScope S_plus) := ⟨rfl, rfl, rfl, by decide +kernel, rfl, by decide +kernel, by decide +kernel⟩
theorem k_plus (T : Bt c) (Df : Df c "plus" S_plus) (C_need_two : Cal P w c base 3 "need_two" (ap3 f_need_two)) : Cal P w c base 4 "plus" (ap3 f_plus) := by
  obtain ⟨fa, fd, F, hm⟩ := Df.ex
  exact cal_of (sem := s_plus) F hm (F.binds (ps := ["grid", "one", "other"]) fun _ _ _ _ _ _ us hl => match us, hl with | [_, _, _], _ => rfl) sc_plus ar3 (fun cdv A outer s H E W O hp => by exact (s_cons (s_expr (d_call O C_need_two (by decide) (a_cons (d_var (i := 0)) (a_cons (d_var (i := 1)) (a_cons (d_var (i := 2)) a_nil))))) (s_one (s_ret (d_tup (a_cons (d_op (O_add O.K) L_add (d_ix O.K (d_var (i := 1)) d_int) (d_ix O.K (d_var (i := 2)) d_int)) (a_cons (d_op (O_add O.K) L_add (d_ix O.K (d_var (i := 1)) d_int) (d_ix O.K (d_var (i := 2)) d_int)) a_nil))))))) fun ds h => eq3 ds h
theorem sc_minus : FnScope ["grid", "one", "other"] ["grid", "one", "other"] (defScope S_minus) := ⟨rfl, rfl, rfl, by decide +kernel, rfl, by decide +kernel, by decide +kernel⟩
theorem k_minus (T : Bt c) (Df : Df c "minus" S_minus) (C_need_two : Cal P w c base 3 "need_two" (ap3 f_need_two)) : Cal P w c base 4 "minus" (ap3 f_minus) := by
  obtain ⟨fa, fd, F, hm⟩ := Df.ex
  exact cal_of (sem := s_minus) F hm (F.binds (ps := ["grid", "one", "other"]) fun _ _ _ _ _ _ us hl => match us, hl with | [_, _, _], _ => rfl) sc_minus ar3 (fun cdv A outer s H E W O hp => by exact (s_cons (s_expr (d_call O C_need_two (by decide) (a_cons (d_var (i := 0)) (a_cons (d_var (i := 1)) (a_cons (d_var (i := 2)) a_nil))))) (s_one (s_ret (d_tup (a_cons (d_op op_sub L_sub (d_ix O.K (d_var (i := 1)) d_int) (d_ix O.K (d_var (i := 2)) d_int)) (a_cons (d_op op_sub L_sub (d_ix O.K (d_var (i := 1)) d_int) (d_ix O.K (d_var (i := 2)) d_int)) a_nil))))))) fun ds h => eq3 ds h
theorem sc_times : FnScope ["grid", "one", "other", "some"] ["grid", "one", "other"] (defScope S_times) := ⟨rfl, rfl, rfl, by decide +kernel, rfl, by decide +kernel, by decide +kernel⟩
theorem k_times (T : Bt c) (Df : Df c "times" S_times) (C_need_two : Cal P w c base 3 "need_two" (ap3 f_need_two)) (C_outward : Cal P w c base 2 "outward" (ap2 f_outward)) : Cal P w c base 4 "times" (ap3 f_times) := by
  obtain ⟨fa, fd, F, hm⟩ := Df.ex
  exact cal_of (sem := s_times) F hm (F.binds (ps := ["grid", "one", "other"]) fun _ _ _ _ _ _ us hl => match us, hl with | [_, _, _], _ => rfl) sc_times ar3 (fun cdv A outer s H E W O hp => by exact (s_cons (s_expr (d_call O C_need_two (by decide) (a_cons (d_var (i := 0)) (a_cons (d_var (i := 1)) (a_cons (d_var (i := 2)) a_nil))))) (s_cons (s_set (i := 3) O (d_own (o_lst (a_cons (d_op O_mul L_mul (d_ix O.K (d_var (i := 1)) d_int) (d_ix O.K (d_var (i := 2)) d_int)) (a_cons (d_op O_mul L_mul (d_ix O.K (d_var (i := 1)) d_int) (d_ix O.K (d_var (i := 2)) d_int)) (a_cons (d_op O_mul L_mul (d_ix O.K (d_var (i := 1)) d_int) (d_ix O.K (d_var (i := 2)) d_int)) (a_cons (d_op O_mul L_mul (d_ix O.K (d_var (i := 1)) d_int) (d_ix O.K (d_var (i := 2)) d_int)) a_nil))))))) (s_one (s_ret (d_call O C_outward (by decide) (a_cons (d_tup (a_cons (d_callB (C_minL O.K O.calm) L_minL T.b_min (by decide +kernel) (a_cons (d_var (i := 3)) a_nil)) (a_cons (d_var (i := 0)) a_nil))) (a_cons (d_tup (a_cons (d_callB (C_maxL O.K O.calm) L_maxL T.b_max (by decide +kernel) (a_cons (d_var (i := 3)) a_nil)) (a_cons (d_var (i := 0)) a_nil))) a_nil)))))))) fun ds h => eq3 ds h
theorem sc_over : FnScope ["grid", "one", "other", "some", "top", "bottom", "low", "high", "steps"] ["grid", "one", "other"] (defScope S_over) := ⟨rfl, rfl, rfl, by decide +kernel, rfl, by decide +kernel, by decide +kernel⟩
theorem k_over (T : Bt c) (Df : Df c "over" S_over) (C_compared : Cal P w c base 1 "compared" (ap2 f_compared)) (C_fraction : Cal P w c base 2 "fraction" (ap2 f_fraction)) (C_need_two : Cal P w c base 3 "need_two" (ap3 f_need_two)) (C_outward : Cal P w c base 2 "outward" (ap2 f_outward)) : Cal P w c base 4 "over" (ap3 f_over) := by
  obtain ⟨fa, fd, F, hm⟩ := Df.ex
  exact cal_of (sem := s_over) F hm (F.binds (ps := ["grid", "one", "other"]) fun _ _ _ _ _ _ us hl => match us, hl with | [_, _, _], _ => rfl) sc_over ar3 (fun cdv A outer s H E W O hp => by exact (s_cons (s_expr (d_call O C_need_two (by decide) (a_cons (d_var (i := 0)) (a_cons (d_var (i := 1)) (a_cons (d_var (i := 2)) a_nil))))) (s_cons (s_if (t_chain op_le L_le op_le L_le (d_ix O.K (d_var (i := 2)) d_int) d_int (d_ix O.K (d_var (i := 2)) d_int)) (s_one (s_raise O PySem.F.excBase_ValueError T.r_ByNought.q T.r_ByNought.g T.r_ByNought.k T.r_ByNought.h1 T.r_ByNought.h2)) s_nil) (s_cons (s_setLc (i := 3) O (own := [("top", 4), ("bottom", 5)]) (js := [4, 5]) (blkOk_by (by show blkC ["grid", "one", "other", "some", "top", "bottom", "low", "high", "steps"] (defScope S_over) _ _ = true; decide +kernel)) (by decide) (i_zip O.K T.b_zip (a_cons (d_op (O_add O.K) L_add (d_var (i := 1)) (d_var (i := 1))) (a_cons (d_op (O_add O.K) L_add (d_var (i := 2)) (d_revT O.K (d_var (i := 2)))) a_nil))) (fun s H C cl fp O => by exact (g_tup O.K O.calm (g_cons (g_name (i := 4) O.nd) (g_cons (g_name (i := 5) O.nd) g_nil)) (gCn_len (gCn_len gNl_len)))) (fun s H C cl fp O => by exact ts_nil) (fun s H C cl fp O => by exact (d_call O C_fraction (by decide) (a_cons (d_op O_mul L_mul (d_var (i := 0)) (d_var (i := 4))) (a_cons (d_var (i := 5)) a_nil)))) (hsw := sw_true rfl rfl rfl (by decide +kernel))) (s_cons (s_set (i := 6) O (d_ix O.K (d_var (i := 3)) d_int)) (s_cons (s_set (i := 7) O (d_ix O.K (d_var (i := 3)) d_int)) (s_cons (s_for hp O.calm (i_list O.K (d_var (i := 3))) (g_name (i := 8) O.nd) (s_cons (s_if (t_cmp op_lt L_lt (nomark _) (d_call O C_compared (by decide) (a_cons (d_var (i := 8)) (a_cons (d_var (i := 6)) a_nil))) d_int) (s_one (s_set (i := 6) O (d_var (i := 8)))) s_nil) (s_one (s_if (t_cmp op_gt L_gt (nomark _) (d_call O C_compared (by decide) (a_cons (d_var (i := 8)) (a_cons (d_var (i := 7)) a_nil))) d_int) (s_one (s_set (i := 7) O (d_var (i := 8)))) s_nil)))) (s_one (s_ret (d_call O C_outward (by decide) (a_cons (d_var (i := 6)) (a_cons (d_var (i := 7)) a_nil)))))))))))) fun ds h => eq3 ds h
theorem sc_least : FnScope ["grid", "one", "other"] ["grid", "one", "other"] (defScope S_least) := ⟨rfl, rfl, rfl, by decide +kernel, rfl, by decide +kernel, by decide +kernel⟩
theorem k_least (T : Bt c) (Df : Df c "least" S_least) (C_need_two : Cal P w c base 3 "need_two" (ap3 f_need_two)) : Cal P w c base 4 "least" (ap3 f_least) := by
  obtain ⟨fa, fd, F, hm⟩ := Df.ex
  exact cal_of (sem := s_least) F hm (F.binds (ps := ["grid", "one", "other"]) fun _ _ _ _ _ _ us hl => match us, hl with | [_, _, _], _ => rfl) sc_least ar3 (fun cdv A outer s H E W O hp => by exact (s_cons (s_expr (d_call O C_need_two (by decide) (a_cons (d_var (i := 0)) (a_cons (d_var (i := 1)) (a_cons (d_var (i := 2)) a_nil))))) (s_one (s_ret (d_tup (a_cons (d_callB (call_min2 O.calm) L_min2 T.b_min (by decide +kernel) (a_cons (d_ix O.K (d_var (i := 1)) d_int) (a_cons (d_ix O.K (d_var (i := 2)) d_int) a_nil))) (a_cons (d_callB (call_min2 O.calm) L_min2 T.b_min (by decide +kernel) (a_cons (d_ix O.K (d_var (i := 1)) d_int) (a_cons (d_ix O.K (d_var (i := 2)) d_int) a_nil))) a_nil))))))) fun ds h => eq3 ds h
theorem sc_most : FnScope ["grid", "one", "other"] ["grid", "one", "other"] (defScope S_most) := ⟨rfl, rfl, rfl, by decide +kernel, rfl, by decide +kernel, by decide +kernel⟩
theorem k_most (T : Bt c) (Df : Df c "most" S_most) (C_need_two : Cal P w c base 3 "need_two" (ap3 f_need_two)) : Cal P w c base 4 "most" (ap3 f_most) := by
  obtain ⟨fa, fd, F, hm⟩ := Df.ex
  exact cal_of (sem := s_most) F hm (F.binds (ps := ["grid", "one", "other"]) fun _ _ _ _ _ _ us hl => match us, hl with | [_, _, _], _ => rfl) sc_most ar3 (fun cdv A outer s H E W O hp => by exact (s_cons (s_expr (d_call O C_need_two (by decide) (a_cons (d_var (i := 0)) (a_cons (d_var (i := 1)) (a_cons (d_var (i := 2)) a_nil))))) (s_one (s_ret (d_tup (a_cons (d_callB (call_max2 O.calm) L_max2 T.b_max (by decide +kernel) (a_cons (d_ix O.K (d_var (i := 1)) d_int) (a_cons (d_ix O.K (d_var (i := 2)) d_int) a_nil))) (a_cons (d_callB (call_max2 O.calm) L_max2 T.b_max (by decide +kernel) (a_cons (d_ix O.K (d_var (i := 1)) d_int) (a_cons (d_ix O.K (d_var (i := 2)) d_int) a_nil))) a_nil))))))) fun ds h => eq3 ds h
theorem sc_raised : FnScope ["steps", "grid", "count", "found", "turn"] ["steps", "grid", "count"] (defScope S_raised) := ⟨rfl, rfl, rfl, by decide +kernel, rfl, by decide +kernel, by decide +kernel⟩
theorem k_raised (T : Bt c) (Df : Df c "raised" S_raised) (C_fraction : Cal P w c base 2 "fraction" (ap2 f_fraction)) (C_multiplied : Cal P w c base 3 "multiplied" (ap2 f_multiplied)) : Cal P w c base 4 "raised" (ap3 f_raised) := by
  obtain ⟨fa, fd, F, hm⟩ := Df.ex
  exact cal_of (sem := s_raised) F hm (F.binds (ps := ["steps", "grid", "count"]) fun _ _ _ _ _ _ us hl => match us, hl with | [_, _, _], _ => rfl) sc_raised ar3 (fun cdv A outer s H E W O hp => by exact (s_cons (s_set (i := 3) O (d_tup (a_cons (d_var (i := 1)) (a_cons d_int a_nil)))) (s_cons (s_for hp O.calm (i_rng1 T.b_range (a_cons (d_var (i := 2)) a_nil)) (g_name (i := 4) O.nd) (s_one (s_set (i := 3) O (d_call O C_multiplied (by decide) (a_cons (d_var (i := 3)) (a_cons (d_call O C_fraction (by decide) (a_cons (d_var (i := 0)) (a_cons (d_var (i := 1)) a_nil))) a_nil)))))) (s_one (s_ret (d_var (i := 3))))))) fun ds h => eq3 ds h
theorem sc_power : FnScope ["grid", "one", "count", "low", "high"] ["grid", "one", "count"] (defScope S_power) := ⟨rfl, rfl, rfl, by decide +kernel, rfl, by decide +kernel, by decide +kernel⟩
theorem k_power (T : Bt c) (Df : Df c "power" S_power) (C_compared : Cal P w c base 1 "compared" (ap2 f_compared)) (C_is_whole : Cal P w c base 1 "is_whole" (ap1 f_is_whole)) (C_need_grid : Cal P w c base 2 "need_grid" (ap1 f_need_grid)) (C_need_stretch : Cal P w c base 2 "need_stretch" (ap1 f_need_stretch)) (C_outward : Cal P w c base 2 "outward" (ap2 f_outward)) (C_raised : Cal P w c base 4 "raised" (ap3 f_raised)) : Cal P w c base 5 "power" (ap3 f_power) := by
  obtain ⟨fa, fd, F, hm⟩ := Df.ex
  exact cal_of (sem := s_power) F hm (F.binds (ps := ["grid", "one", "count"]) fun _ _ _ _ _ _ us hl => match us, hl with | [_, _, _], _ => rfl) sc_power ar3 (fun cdv A outer s H E W O hp => by exact (s_cons (s_expr (d_call O C_need_grid (by decide) (a_cons (d_var (i := 0)) a_nil))) (s_cons (s_expr (d_call O C_need_stretch (by decide) (a_cons (d_var (i := 1)) a_nil))) (s_cons (s_if (t_w (w_or (t_not (t_tru O.K (d_call O C_is_whole (by decide) (a_cons (d_var (i := 2)) a_nil)))) (w_or1 (t_not (t_chain op_le L_le op_le L_le d_int (d_var (i := 2)) (d_gI T.m_MOST_POWER O)))))) (s_one (s_raise O PySem.F.excBase_ValueError T.r_BadCount.q T.r_BadCount.g T.r_BadCount.k T.r_BadCount.h1 T.r_BadCount.h2)) s_nil) (s_cons (s_set (i := 3) O (d_call O C_raised (by decide) (a_cons (d_ix O.K (d_var (i := 1)) d_int) (a_cons (d_var (i := 0)) (a_cons (d_var (i := 2)) a_nil))))) (s_cons (s_set (i := 4) O (d_call O C_raised (by decide) (a_cons (d_ix O.K (d_var (i := 1)) d_int) (a_cons (d_var (i := 0)) (a_cons (d_var (i := 2)) a_nil))))) (s_cons (s_if (t_cmp op_gt L_gt (nomark _) (d_call O C_compared (by decide) (a_cons (d_var (i := 3)) (a_cons (d_var (i := 4)) a_nil))) d_int) (s_one (s_par (i := 3) (j := 4) O (by decide) (a_cons (d_var (i := 4)) (a_cons (d_var (i := 3)) a_nil)) (by rfl))) s_nil) (s_cons (s_if (t_w (w_and (t_cmp op_gt L_gt (nomark _) (d_var (i := 2)) d_int) (w_and (t_cmp (O_eq O.K O.rm) L_eq (nomark _) (d_op op_and L_band (d_var (i := 2)) d_int) d_int) (w_and1 (t_chain op_le L_le op_le L_le (d_ix O.K (d_var (i := 1)) d_int) d_int (d_ix O.K (d_var (i := 1)) d_int)))))) (s_one (s_set (i := 3) O (d_tup (a_cons d_int (a_cons d_int a_nil))))) s_nil) (s_one (s_ret (d_call O C_outward (by decide) (a_cons (d_var (i := 3)) (a_cons (d_var (i := 4)) a_nil))))))))))))) fun ds h => eq3 ds h
theorem sc__law_mixed : FnScope ["_law_cell", "_law_k"] ["_law_cell", "_law_k"] (defScope S__law_mixed) := ⟨rfl, rfl, rfl, by decide +kernel, rfl, by decide +kernel, by decide +kernel⟩
theorem k__law_mixed (T : Bt c) (Df : Df c "_law_mixed" S__law_mixed)  : Cal P w c base 1 "_law_mixed" (ap2 f__law_mixed) := by
  obtain ⟨fa, fd, F, hm⟩ := Df.ex
  exact cal_of (sem := s__law_mixed) F hm (F.binds (ps := ["_law_cell", "_law_k"]) fun _ _ _ _ _ _ us hl => match us, hl with | [_, _], _ => rfl) sc__law_mixed ar2 (fun cdv A outer s H E W O hp => by exact (s_one (s_ret (d_op op_mod L_mod (d_op O_mul L_mul (d_op op_mod L_mod (d_op (O_add O.K) L_add (d_op (O_add O.K) L_add (d_op O_mul L_mul (d_var (i := 0)) (d_op (O_add O.K) L_add d_int (d_op O_mul L_mul (d_op O_mul L_mul d_int (d_var (i := 1))) (d_var (i := 1))))) (d_op O_mul L_mul d_int (d_var (i := 1)))) d_int) d_int) d_int) d_int)))) fun ds h => eq2 ds h
theorem sc__law_number : FnScope ["_law_cell", "_law_n", "_law_far", "_law_some"] ["_law_cell"] (defScope S__law_number) := ⟨rfl, rfl, rfl, by decide +kernel, rfl, by decide +kernel, by decide +kernel⟩
theorem k__law_number (T : Bt c) (Df : Df c "_law_number" S__law_number) (C__law_mixed : Cal P w c base 1 "_law_mixed" (ap2 f__law_mixed)) : Cal P w c base 2 "_law_number" (ap1 f__law_number) := by
  obtain ⟨fa, fd, F, hm⟩ := Df.ex
  exact cal_of (sem := s__law_number) F hm (F.binds (ps := ["_law_cell"]) fun _ _ _ _ _ _ us hl => match us, hl with | [_], _ => rfl) sc__law_number ar1 (fun cdv A outer s H E W O hp => by exact (s_cons (s_set (i := 1) O (d_call O C__law_mixed (by decide) (a_cons (d_var (i := 0)) (a_cons d_int a_nil)))) (s_cons (s_set (i := 2) O (d_op op_mod L_mod (d_op (O_add O.K) L_add (d_op (O_add O.K) L_add (d_op O_mul L_mul (d_var (i := 1)) (d_op op_pow L_pow d_int d_int)) (d_op O_mul L_mul (d_call O C__law_mixed (by decide) (a_cons (d_var (i := 0)) (a_cons d_int a_nil))) (d_op op_pow L_pow d_int d_int))) (d_call O C__law_mixed (by decide) (a_cons (d_var (i := 0)) (a_cons d_int a_nil)))) (d_op op_pow L_pow d_int d_int))) (s_cons (s_set (i := 3) O (d_own (o_lst (a_cons (d_op op_sub L_sub (d_op op_mod L_mod (d_var (i := 1)) d_int) d_int) (a_cons (d_op op_sub L_sub (d_op op_mod L_mod (d_var (i := 1)) d_int) d_int) (a_cons (d_var (i := 2)) (a_cons (d_op op_sub L_sub d_int (d_var (i := 2))) (a_cons (d_op op_sub L_sub (d_op op_mod L_mod (d_var (i := 1)) d_int) d_int) (a_cons (d_var (i := 1)) a_nil))))))))) (s_one (s_ret (d_ix O.K (d_var (i := 3)) (d_op op_mod L_mod (d_call O C__law_mixed (by decide) (a_cons (d_var (i := 0)) (a_cons d_int a_nil))) d_int)))))))) fun ds h => eq1 ds h
theorem sc__law_grid : FnScope ["_law_cell", "_law_n"] ["_law_cell"] (defScope S__law_grid) := ⟨rfl, rfl, rfl, by decide +kernel, rfl, by decide +kernel, by decide +kernel⟩
theorem k__law_grid (T : Bt c) (Df : Df c "_law_grid" S__law_grid) (C__law_mixed : Cal P w c base 1 "_law_mixed" (ap2 f__law_mixed)) : Cal P w c base 2 "_law_grid" (ap1 f__law_grid) := by
  obtain ⟨fa, fd, F, hm⟩ := Df.ex
  exact cal_of (sem := s__law_grid) F hm (F.binds (ps := ["_law_cell"]) fun _ _ _ _ _ _ us hl => match us, hl with | [_], _ => rfl) sc__law_grid ar1 (fun cdv A outer s H E W O hp => by exact (s_cons (s_set (i := 1) O (d_call O C__law_mixed (by decide) (a_cons (d_var (i := 0)) (a_cons d_int a_nil)))) (s_one (s_ret (d_ix O.K (d_own (o_lst (a_cons d_int (a_cons d_int (a_cons d_int (a_cons d_int (a_cons (d_op op_pow L_pow d_int d_int) (a_cons (d_op (O_add O.K) L_add d_int (d_op op_mod L_mod (d_op op_fdivW L_div (d_var (i := 1)) d_int) (d_op op_pow L_pow d_int d_int))) a_nil)))))))) (d_op op_mod L_mod (d_var (i := 1)) d_int)))))) fun ds h => eq1 ds h
theorem sc__law_stretch : FnScope ["_law_cell", "_law_low", "_law_n", "_law_wide"] ["_law_cell"] (defScope S__law_stretch) := ⟨rfl, rfl, rfl, by decide +kernel, rfl, by decide +kernel, by decide +kernel⟩
theorem k__law_stretch (T : Bt c) (Df : Df c "_law_stretch" S__law_stretch) (C__law_mixed : Cal P w c base 1 "_law_mixed" (ap2 f__law_mixed)) (C__law_number : Cal P w c base 2 "_law_number" (ap1 f__law_number)) : Cal P w c base 3 "_law_stretch" (ap1 f__law_stretch) := by
  obtain ⟨fa, fd, F, hm⟩ := Df.ex
  exact cal_of (sem := s__law_stretch) F hm (F.binds (ps := ["_law_cell"]) fun _ _ _ _ _ _ us hl => match us, hl with | [_], _ => rfl) sc__law_stretch ar1 (fun cdv A outer s H E W O hp => by exact (s_cons (s_set (i := 1) O (d_call O C__law_number (by decide) (a_cons (d_call O C__law_mixed (by decide) (a_cons (d_var (i := 0)) (a_cons d_int a_nil))) a_nil))) (s_cons (s_set (i := 2) O (d_call O C__law_mixed (by decide) (a_cons (d_var (i := 0)) (a_cons d_int a_nil)))) (s_cons (s_set (i := 3) O (d_own (o_lst (a_cons d_int (a_cons d_int (a_cons (d_op op_mod L_mod (d_op op_fdivW L_div (d_var (i := 2)) d_int) d_int) (a_cons (d_op op_mod L_mod (d_op op_fdivW L_div (d_var (i := 2)) d_int) (d_op op_pow L_pow d_int d_int)) (a_cons (d_callB call_abs L_abs T.b_abs (by decide +kernel) (a_cons (d_call O C__law_number (by decide) (a_cons (d_call O C__law_mixed (by decide) (a_cons (d_var (i := 0)) (a_cons d_int a_nil))) a_nil)) a_nil)) (a_cons (d_op O_mul L_mul d_int (d_callB call_abs L_abs T.b_abs (by decide +kernel) (a_cons (d_var (i := 1)) a_nil))) a_nil))))))))) (s_one (s_ret (d_tup (a_cons (d_var (i := 1)) (a_cons (d_op (O_add O.K) L_add (d_var (i := 1)) (d_ix O.K (d_var (i := 3)) (d_op op_mod L_mod (d_var (i := 2)) d_int))) a_nil))))))))) fun ds h => eq1 ds h
theorem sc__law_inside : FnScope ["_law_cell", "_law_grid_here", "_law_stretch_here", "_law_n", "_law_bottom", "_law_at"] ["_law_cell", "_law_grid_here", "_law_stretch_here"] (defScope S__law_inside) := ⟨rfl, rfl, rfl, by decide +kernel, rfl, by decide +kernel, by decide +kernel⟩
theorem k__law_inside (T : Bt c) (Df : Df c "_law_inside" S__law_inside) (C__law_mixed : Cal P w c base 1 "_law_mixed" (ap2 f__law_mixed)) : Cal P w c base 2 "_law_inside" (ap3 f__law_inside) := by
  obtain ⟨fa, fd, F, hm⟩ := Df.ex
  exact cal_of (sem := s__law_inside) F hm (F.binds (ps := ["_law_cell", "_law_grid_here", "_law_stretch_here"]) fun _ _ _ _ _ _ us hl => match us, hl with | [_, _, _], _ => rfl) sc__law_inside ar3 (fun cdv A outer s H E W O hp => by exact (s_cons (s_set (i := 3) O (d_call O C__law_mixed (by decide) (a_cons (d_var (i := 0)) (a_cons d_int a_nil)))) (s_cons (s_set (i := 4) O (d_ix O.K (d_own (o_lst (a_cons d_int (a_cons d_int (a_cons d_int (a_cons (d_op (O_add O.K) L_add d_int (d_op op_mod L_mod (d_op op_fdivW L_div (d_var (i := 3)) d_int) d_int)) a_nil)))))) (d_op op_mod L_mod (d_var (i := 3)) d_int))) (s_cons (s_set (i := 5) O (d_ix O.K (d_own (o_lst (a_cons d_int (a_cons (d_var (i := 4)) (a_cons (d_op op_mod L_mod (d_op op_fdivW L_div (d_var (i := 3)) d_int) (d_op (O_add O.K) L_add (d_var (i := 4)) d_int)) (a_cons (d_op op_mod L_mod (d_op op_fdivW L_div (d_var (i := 3)) d_int) (d_op (O_add O.K) L_add (d_var (i := 4)) d_int)) a_nil)))))) (d_op op_mod L_mod (d_op op_fdivW L_div (d_var (i := 3)) d_int) d_int))) (s_one (s_ret (d_tup (a_cons (d_op (O_add O.K) L_add (d_op O_mul L_mul (d_ix O.K (d_var (i := 2)) d_int) (d_var (i := 4))) (d_op O_mul L_mul (d_var (i := 5)) (d_op op_sub L_sub (d_ix O.K (d_var (i := 2)) d_int) (d_ix O.K (d_var (i := 2)) d_int)))) (a_cons (d_op O_mul L_mul (d_var (i := 4)) (d_var (i := 1))) a_nil))))))))) fun ds h => eq3 ds h
theorem sc__law_worth : FnScope ["_law_k", "_law_p", "_law_q", "_law_count", "_law_side", "_law_is_first", "_law_found_here", "_law_turn"] ["_law_k", "_law_p", "_law_q", "_law_count"] (defScope S__law_worth) := ⟨rfl, rfl, rfl, by decide +kernel, rfl, by decide +kernel, by decide +kernel⟩
theorem k__law_worth (T : Bt c) (Df : Df c "_law_worth" S__law_worth)  : Cal P w c base 1 "_law_worth" (ap4 f__law_worth) := by
  obtain ⟨fa, fd, F, hm⟩ := Df.ex
  exact cal_of (sem := s__law_worth) F hm (F.binds (ps := ["_law_k", "_law_p", "_law_q", "_law_count"]) fun _ _ _ _ _ _ us hl => match us, hl with | [_, _, _, _], _ => rfl) sc__law_worth ar4 (fun cdv A outer s H E W O hp => by exact (s_cons (s_if (t_cmp (O_eq O.K O.rm) L_eq (nomark _) (d_var (i := 0)) d_int) (s_one (s_ret (d_tup (a_cons (d_op (O_add O.K) L_add (d_op O_mul L_mul (d_ix O.K (d_var (i := 1)) d_int) (d_ix O.K (d_var (i := 2)) d_int)) (d_op O_mul L_mul (d_ix O.K (d_var (i := 2)) d_int) (d_ix O.K (d_var (i := 1)) d_int))) (a_cons (d_op O_mul L_mul (d_ix O.K (d_var (i := 1)) d_int) (d_ix O.K (d_var (i := 2)) d_int)) a_nil))))) s_nil) (s_cons (s_if (t_cmp (O_eq O.K O.rm) L_eq (nomark _) (d_var (i := 0)) d_int) (s_one (s_ret (d_tup (a_cons (d_op op_sub L_sub (d_op O_mul L_mul (d_ix O.K (d_var (i := 1)) d_int) (d_ix O.K (d_var (i := 2)) d_int)) (d_op O_mul L_mul (d_ix O.K (d_var (i := 2)) d_int) (d_ix O.K (d_var (i := 1)) d_int))) (a_cons (d_op O_mul L_mul (d_ix O.K (d_var (i := 1)) d_int) (d_ix O.K (d_var (i := 2)) d_int)) a_nil))))) s_nil) (s_cons (s_if (t_cmp (O_eq O.K O.rm) L_eq (nomark _) (d_var (i := 0)) d_int) (s_one (s_ret (d_tup (a_cons (d_op O_mul L_mul (d_ix O.K (d_var (i := 1)) d_int) (d_ix O.K (d_var (i := 2)) d_int)) (a_cons (d_op O_mul L_mul (d_ix O.K (d_var (i := 1)) d_int) (d_ix O.K (d_var (i := 2)) d_int)) a_nil))))) s_nil) (s_cons (s_if (t_cmp (O_eq O.K O.rm) L_eq (nomark _) (d_var (i := 0)) d_int) (s_cons (s_set (i := 4) O (d_op op_sub L_sub d_int (d_op O_mul L_mul d_int (d_callTy call_int1 L_int T.b_int (by decide +kernel) (a_cons (d_cmp op_lt L_lt (nomark _) (d_ix O.K (d_var (i := 2)) d_int) d_int) a_nil))))) (s_one (s_ret (d_tup (a_cons (d_op O_mul L_mul (d_op O_mul L_mul (d_var (i := 4)) (d_ix O.K (d_var (i := 1)) d_int)) (d_ix O.K (d_var (i := 2)) d_int)) (a_cons (d_op O_mul L_mul (d_op O_mul L_mul (d_var (i := 4)) (d_ix O.K (d_var (i := 1)) d_int)) (d_ix O.K (d_var (i := 2)) d_int)) a_nil)))))) s_nil) (s_cons (s_if (t_cmp op_lt L_lt (nomark _) (d_var (i := 0)) d_int) (s_cons (s_set (i := 5) O (d_cmp op_lt L_lt (nomark _) (d_op O_mul L_mul (d_ix O.K (d_var (i := 1)) d_int) (d_ix O.K (d_var (i := 2)) d_int)) (d_op O_mul L_mul (d_ix O.K (d_var (i := 2)) d_int) (d_ix O.K (d_var (i := 1)) d_int)))) (s_one (s_ret (d_if (t_cmp (O_eq O.K O.rm) L_eq (nomark _) (d_var (i := 5)) (d_cmp (O_eq O.K O.rm) L_eq (nomark _) (d_var (i := 0)) d_int)) (d_var (i := 1)) (d_var (i := 2)))))) s_nil) (s_cons (s_set (i := 6) O (d_tup (a_cons d_int (a_cons d_int a_nil)))) (s_cons (s_for hp O.calm (i_rng1 T.b_range (a_cons (d_var (i := 3)) a_nil)) (g_name (i := 7) O.nd) (s_one (s_set (i := 6) O (d_tup (a_cons (d_op O_mul L_mul (d_ix O.K (d_var (i := 6)) d_int) (d_ix O.K (d_var (i := 1)) d_int)) (a_cons (d_op O_mul L_mul (d_ix O.K (d_var (i := 6)) d_int) (d_ix O.K (d_var (i := 1)) d_int)) a_nil)))))) (s_one (s_ret (d_var (i := 6)))))))))))) fun ds h => eq4 ds h
theorem sc__law_found : FnScope ["_law_k", "_law_grid_here", "_law_one", "_law_other", "_law_count"] ["_law_k", "_law_grid_here", "_law_one", "_law_other", "_law_count"] (defScope S__law_found) := ⟨rfl, rfl, rfl, by decide +kernel, rfl, by decide +kernel, by decide +kernel⟩
theorem k__law_found (T : Bt c) (Df : Df c "_law_found" S__law_found) (C_least : Cal P w c base 4 "least" (ap3 f_least)) (C_minus : Cal P w c base 4 "minus" (ap3 f_minus)) (C_most : Cal P w c base 4 "most" (ap3 f_most)) (C_over : Cal P w c base 4 "over" (ap3 f_over)) (C_plus : Cal P w c base 4 "plus" (ap3 f_plus)) (C_power : Cal P w c base 5 "power" (ap3 f_power)) (C_times : Cal P w c base 4 "times" (ap3 f_times)) : Cal P w c base 6 "_law_found" (ap5 f__law_found) := by
  obtain ⟨fa, fd, F, hm⟩ := Df.ex
  exact cal_of (sem := s__law_found) F hm (F.binds (ps := ["_law_k", "_law_grid_here", "_law_one", "_law_other", "_law_count"]) fun _ _ _ _ _ _ us hl => match us, hl with | [_, _, _, _, _], _ => rfl) sc__law_found ar5 (fun cdv A outer s H E W O hp => by exact (s_cons (s_if (t_cmp (O_eq O.K O.rm) L_eq (nomark _) (d_var (i := 0)) d_int) (s_one (s_ret (d_call O C_plus (by decide) (a_cons (d_var (i := 1)) (a_cons (d_var (i := 2)) (a_cons (d_var (i := 3)) a_nil)))))) s_nil) (s_cons (s_if (t_cmp (O_eq O.K O.rm) L_eq (nomark _) (d_var (i := 0)) d_int) (s_one (s_ret (d_call O C_minus (by decide) (a_cons (d_var (i := 1)) (a_cons (d_var (i := 2)) (a_cons (d_var (i := 3)) a_nil)))))) s_nil) (s_cons (s_if (t_cmp (O_eq O.K O.rm) L_eq (nomark _) (d_var (i := 0)) d_int) (s_one (s_ret (d_call O C_times (by decide) (a_cons (d_var (i := 1)) (a_cons (d_var (i := 2)) (a_cons (d_var (i := 3)) a_nil)))))) s_nil) (s_cons (s_if (t_cmp (O_eq O.K O.rm) L_eq (nomark _) (d_var (i := 0)) d_int) (s_one (s_ret (d_call O C_over (by decide) (a_cons (d_var (i := 1)) (a_cons (d_var (i := 2)) (a_cons (d_var (i := 3)) a_nil)))))) s_nil) (s_cons (s_if (t_cmp (O_eq O.K O.rm) L_eq (nomark _) (d_var (i := 0)) d_int) (s_one (s_ret (d_call O C_least (by decide) (a_cons (d_var (i := 1)) (a_cons (d_var (i := 2)) (a_cons (d_var (i := 3)) a_nil)))))) s_nil) (s_cons (s_if (t_cmp (O_eq O.K O.rm) L_eq (nomark _) (d_var (i := 0)) d_int) (s_one (s_ret (d_call O C_most (by decide) (a_cons (d_var (i := 1)) (a_cons (d_var (i := 2)) (a_cons (d_var (i := 3)) a_nil)))))) s_nil) (s_one (s_ret (d_call O C_power (by decide) (a_cons (d_var (i := 1)) (a_cons (d_var (i := 2)) (a_cons (d_var (i := 4)) a_nil))))))))))))) fun ds h => eq5 ds h
theorem sc__law_ends : FnScope ["_law_grid_here", "_law_stretch_here", "_law_found_here"] ["_law_grid_here", "_law_stretch_here"] (defScope S__law_ends) := ⟨rfl, rfl, rfl, by decide +kernel, rfl, by decide +kernel, by decide +kernel⟩
theorem k__law_ends (T : Bt c) (Df : Df c "_law_ends" S__law_ends)  : Cal P w c base 1 "_law_ends" (ap2 f__law_ends) := by
  obtain ⟨fa, fd, F, hm⟩ := Df.ex
  exact cal_of (sem := s__law_ends) F hm (F.binds (ps := ["_law_grid_here", "_law_stretch_here"]) fun _ _ _ _ _ _ us hl => match us, hl with | [_, _], _ => rfl) sc__law_ends ar2 (fun cdv A outer s H E W O hp => by exact (s_cons (s_set (i := 2) O (d_own (o_lst (a_cons (d_tup (a_cons (d_ix O.K (d_var (i := 1)) d_int) (a_cons (d_var (i := 0)) a_nil))) (a_cons (d_tup (a_cons (d_ix O.K (d_var (i := 1)) d_int) (a_cons (d_var (i := 0)) a_nil))) a_nil))))) (s_one (s_ret (d_op (O_add O.K) L_add (d_var (i := 2)) (d_op O_mul L_mul (d_own (o_lst (a_cons (d_tup (a_cons d_int (a_cons d_int a_nil))) a_nil))) (d_callTy call_int1 L_int T.b_int (by decide +kernel) (a_cons (d_chain op_le L_le op_le L_le (d_ix O.K (d_var (i := 1)) d_int) d_int (d_ix O.K (d_var (i := 1)) d_int)) a_nil)))))))) fun ds h => eq2 ds h
theorem sc__law_lies : FnScope ["_law_grid_here", "_law_stretch_here", "_law_p"] ["_law_grid_here", "_law_stretch_here", "_law_p"] (defScope S__law_lies) := ⟨rfl, rfl, rfl, by decide +kernel, rfl, by decide +kernel, by decide +kernel⟩
theorem k__law_lies (T : Bt c) (Df : Df c "_law_lies" S__law_lies)  : Cal P w c base 1 "_law_lies" (ap3 f__law_lies) := by
  obtain ⟨fa, fd, F, hm⟩ := Df.ex
  exact cal_of (sem := s__law_lies) F hm (F.binds (ps := ["_law_grid_here", "_law_stretch_here", "_law_p"]) fun _ _ _ _ _ _ us hl => match us, hl with | [_, _, _], _ => rfl) sc__law_lies ar3 (fun cdv A outer s H E W O hp => by exact (s_one (s_ret (d_chain op_le L_le op_le L_le (d_op O_mul L_mul (d_ix O.K (d_var (i := 1)) d_int) (d_ix O.K (d_var (i := 2)) d_int)) (d_op O_mul L_mul (d_ix O.K (d_var (i := 2)) d_int) (d_var (i := 0))) (d_op O_mul L_mul (d_ix O.K (d_var (i := 1)) d_int) (d_ix O.K (d_var (i := 2)) d_int)))))) fun ds h => eq3 ds h
theorem sc__law_is_tight : FnScope ["_law_k", "_law_grid_here", "_law_told", "_law_one", "_law_other", "_law_count", "_law_low", "_law_high", "_law_p", "_law_q", "_law_found_here"] ["_law_k", "_law_grid_here", "_law_told", "_law_one", "_law_other", "_law_count"] (defScope S__law_is_tight) := ⟨rfl, rfl, rfl, by decide +kernel, rfl, by decide +kernel, by decide +kernel⟩
theorem k__law_is_tight (T : Bt c) (Df : Df c "_law_is_tight" S__law_is_tight) (C__law_ends : Cal P w c base 1 "_law_ends" (ap2 f__law_ends)) (C__law_worth : Cal P w c base 1 "_law_worth" (ap4 f__law_worth)) : Cal P w c base 2 "_law_is_tight" (ap6 f__law_is_tight) := by
  obtain ⟨fa, fd, F, hm⟩ := Df.ex
  exact cal_of (sem := s__law_is_tight) F hm (F.binds (ps := ["_law_k", "_law_grid_here", "_law_told", "_law_one", "_law_other", "_law_count"]) fun _ _ _ _ _ _ us hl => match us, hl with | [_, _, _, _, _, _], _ => rfl) sc__law_is_tight ar6 (fun cdv A outer s H E W O hp => by exact (s_cons (s_asg (d_tup (a_cons d_bl (a_cons d_bl a_nil))) (g_tup O.K O.calm (g_cons (g_name (i := 6) O.nd) (g_cons (g_name (i := 7) O.nd) g_nil)) (gCn_len (gCn_len gNl_len)))) (s_cons (s_for hp O.calm (i_list O.K (d_call O C__law_ends (by decide) (a_cons (d_var (i := 1)) (a_cons (d_var (i := 3)) a_nil)))) (g_name (i := 8) O.nd) (s_one (s_for hp O.calm (i_list O.K (d_call O C__law_ends (by decide) (a_cons (d_var (i := 1)) (a_cons (d_var (i := 4)) a_nil)))) (g_name (i := 9) O.nd) (s_one (s_if (t_w (w_or (t_cmp (O_ne O.K O.rm) L_ne (nomark _) (d_var (i := 0)) d_int) (w_or1 (t_cmp (O_ne O.K O.rm) L_ne (nomark _) (d_ix O.K (d_var (i := 9)) d_int) d_int)))) (s_cons (s_set (i := 10) O (d_call O C__law_worth (by decide) (a_cons (d_var (i := 0)) (a_cons (d_var (i := 8)) (a_cons (d_var (i := 9)) (a_cons (d_var (i := 5)) a_nil)))))) (s_cons (s_set (i := 6) O (d_orV O.K (d_var (i := 6)) (d_one (d_cmp op_lt L_lt (nomark _) (d_op O_mul L_mul (d_ix O.K (d_var (i := 10)) d_int) (d_var (i := 1))) (d_op O_mul L_mul (d_op (O_add O.K) L_add (d_ix O.K (d_var (i := 2)) d_int) d_int) (d_ix O.K (d_var (i := 10)) d_int)))))) (s_one (s_set (i := 7) O (d_orV O.K (d_var (i := 7)) (d_one (d_cmp op_gt L_gt (nomark _) (d_op O_mul L_mul (d_ix O.K (d_var (i := 10)) d_int) (d_var (i := 1))) (d_op O_mul L_mul (d_op op_sub L_sub (d_ix O.K (d_var (i := 2)) d_int) d_int) (d_ix O.K (d_var (i := 10)) d_int))))))))) s_nil))))) (s_one (s_ret (d_andV O.K (d_var (i := 6)) (d_one (d_var (i := 7))))))))) fun ds h => eq6 ds h
theorem sc_law : FnScope ["_law_script", "_law_ahead", "_law_k", "_law_cell", "_law_number_here", "_law_grid_here", "_law_one", "_law_count", "_law_deed", "_law_told", "_law_turn", "_law_p", "_law_q"] ["_law_script"] (defScope S_law) := ⟨rfl, rfl, rfl, by decide +kernel, rfl, by decide +kernel, by decide +kernel⟩
theorem k_law (T : Bt c) (Df : Df c "law" S_law) (C__law_found : Cal P w c base 6 "_law_found" (ap5 f__law_found)) (C__law_grid : Cal P w c base 2 "_law_grid" (ap1 f__law_grid)) (C__law_inside : Cal P w c base 2 "_law_inside" (ap3 f__law_inside)) (C__law_is_tight : Cal P w c base 2 "_law_is_tight" (ap6 f__law_is_tight)) (C__law_lies : Cal P w c base 1 "_law_lies" (ap3 f__law_lies)) (C__law_mixed : Cal P w c base 1 "_law_mixed" (ap2 f__law_mixed)) (C__law_stretch : Cal P w c base 3 "_law_stretch" (ap1 f__law_stretch)) (C__law_worth : Cal P w c base 1 "_law_worth" (ap4 f__law_worth)) : Cal P w c base 7 "law" (ap1 f_law) := by
  obtain ⟨fa, fd, F, hm⟩ := Df.ex
  exact cal_of (sem := s_law) F hm (F.binds (ps := ["_law_script"]) fun _ _ _ _ _ _ us hl => match us, hl with | [_], _ => rfl) sc_law ar1 (fun cdv A outer s H E W O hp => by exact (s_cons (s_set (i := 1) O (d_tup (a_cons d_int (a_cons d_int a_nil)))) (s_cons (s_for hp O.calm (i_enum O.K T.b_enumerate (a_cons (d_op (O_add O.K) L_add (d_own (o_slL O.K (d_var (i := 0)) o_no (o_so d_int))) (d_own (o_lst (a_cons d_int a_nil)))) a_nil)) (g_tup O.K O.calm (g_cons (g_name (i := 2) O.nd) (g_cons (g_name (i := 3) O.nd) g_nil)) (gCn_len (gCn_len gNl_len))) (s_cons (s_set (i := 4) O (d_call O C__law_mixed (by decide) (a_cons (d_var (i := 3)) (a_cons (d_var (i := 2)) a_nil)))) (s_cons (s_set (i := 5) O (d_call O C__law_grid (by decide) (a_cons (d_call O C__law_mixed (by decide) (a_cons (d_var (i := 4)) (a_cons d_int a_nil))) a_nil))) (s_cons (s_set (i := 6) O (d_call O C__law_stretch (by decide) (a_cons (d_call O C__law_mixed (by decide) (a_cons (d_var (i := 4)) (a_cons d_int a_nil))) a_nil))) (s_cons (s_set (i := 7) O (d_op op_mod L_mod (d_call O C__law_mixed (by decide) (a_cons (d_var (i := 4)) (a_cons d_int a_nil))) d_int)) (s_cons (s_for hp O.calm (i_rng1 T.b_range (a_cons d_int a_nil)) (g_name (i := 8) O.nd) (s_one (s_if (t_w (w_or (t_cmp (O_ne O.K O.rm) L_ne (nomark _) (d_var (i := 8)) d_int) (w_or1 (t_not (t_chain op_le L_le op_le L_le (d_ix O.K (d_var (i := 1)) d_int) d_int (d_ix O.K (d_var (i := 1)) d_int)))))) (s_cons (s_set (i := 9) O (d_call O C__law_found (by decide) (a_cons (d_var (i := 8)) (a_cons (d_var (i := 5)) (a_cons (d_var (i := 6)) (a_cons (d_var (i := 1)) (a_cons (d_var (i := 7)) a_nil))))))) (s_cons (s_for hp O.calm (i_rng1 T.b_range (a_cons d_int a_nil)) (g_name (i := 10) O.nd) (s_cons (s_set (i := 11) O (d_call O C__law_inside (by decide) (a_cons (d_call O C__law_mixed (by decide) (a_cons (d_var (i := 4)) (a_cons (d_op (O_add O.K) L_add d_int (d_var (i := 10))) a_nil))) (a_cons (d_var (i := 5)) (a_cons (d_var (i := 6)) a_nil))))) (s_cons (s_set (i := 12) O (d_call O C__law_inside (by decide) (a_cons (d_call O C__law_mixed (by decide) (a_cons (d_var (i := 4)) (a_cons (d_op (O_add O.K) L_add d_int (d_var (i := 10))) a_nil))) (a_cons (d_var (i := 5)) (a_cons (d_var (i := 1)) a_nil))))) (s_one (s_if (t_not (t_tru O.K (d_call O C__law_lies (by decide) (a_cons (d_var (i := 5)) (a_cons (d_var (i := 9)) (a_cons (d_call O C__law_worth (by decide) (a_cons (d_var (i := 8)) (a_cons (d_var (i := 11)) (a_cons (d_var (i := 12)) (a_cons (d_var (i := 7)) a_nil))))) a_nil)))))) (s_one (s_ret d_bl)) s_nil))))) (s_one (s_if (t_not (t_tru O.K (d_call O C__law_is_tight (by decide) (a_cons (d_var (i := 8)) (a_cons (d_var (i := 5)) (a_cons (d_var (i := 9)) (a_cons (d_var (i := 6)) (a_cons (d_var (i := 1)) (a_cons (d_var (i := 7)) a_nil))))))))) (s_one (s_ret d_bl)) s_nil)))) s_nil))) (s_one (s_set (i := 1) O (d_var (i := 6)))))))))) (s_one (s_ret d_bl))))) fun ds h => eq1 ds h
end
end BD.k04
set_option Elab.async false
set_option maxRecDepth 100000
set_option maxHeartbeats 4000000
namespace BD.k04
open PySem PySem.Spec PyProof.Rows L2 LamX BD
@[simp] theorem whole_int (i : Int) : f_is_whole (.int i) = .ok (.bl true) := by simp [f_is_whole, s_is_whole]
theorem common_eq (m n : Nat) : f_common (.int m) (.int n) = .ok (.int (Nat.gcd m n : Nat)) := by
  simp [f_common, s_common, while_gcd']
theorem fraction_eq (t b : Int) {n : Nat} (hb : b ≠ 0) (h : Sz n b) (hn : 0 < n := by decide) (hs : n ≤ 8000 := by decide) : f_fraction (.int t) (.int b) = .ok (nrm t b) := by
  have hd : ∀ i, CDivW i (Int.gcd t b : Int) := fun i => divOk_sz (gcd_pos hb) (gcd_sz t hb h) hn hs
  by_cases e : b < 0
  · have hc := common_eq t.natAbs (-b).natAbs
    rw [gcd_abs_neg, show ((-b).natAbs : Int) = -b by omega] at hc
    simp [f_fraction, s_fraction, hb, e, hc, hd, nrm, nT, nB]
  · have hc := common_eq t.natAbs b.natAbs
    rw [show ((b).natAbs : Int) = b by omega] at hc
    have hc : f_common (.int t.natAbs) (.int b) = .ok (.int (Int.gcd t b : Int)) := hc
    simp [f_fraction, s_fraction, hb, e, hc, hd, nrm, nT, nB]
theorem mixed_eq (a k : Int) (h0 : 0 ≤ k) (h1 : k ≤ 1048576) : f__law_mixed (.int a) (.int k) = .ok (.int (mixV a k)) := by
  obtain ⟨q1, q2, q3, q4⟩ := mix_ok a k h0 h1
  have q5 : ∀ x, mulOk x 69621 := fun x => mulOk_r (by decide) (by decide)
  simp [f__law_mixed, s__law_mixed, q1, q2, q3, q4, q5, mixV]
theorem number_ok (c : Int) : ∃ v, f__law_number (.int c) = .ok (.int v) ∧ Sz 100 v := by
  have a1 := mixV_nn c 31
  have b1 := mixV_lt c 31
  have a4 := mixV_nn c 34
  have q1 : mulOk (mixV c 31) 1000000000000000000000 := mulOk_l (by omega) (by omega)
  have q2 : mulOk (mixV c 32) 10000000000 := mulOk_r (by decide) (by decide)
  have e1 := mixed_eq c 31 (by decide) (by decide)
  have e2 := mixed_eq c 32 (by decide) (by decide)
  have e3 := mixed_eq c 33 (by decide) (by decide)
  have e4 := mixed_eq c 34 (by decide) (by decide)
  have key : ∀ v, v ∈ [D.int (mixV c 31 % 41 - 20), .int (mixV c 31 % 2001 - 1000), .int ((mixV c 31 * 1000000000000000000000 + mixV c 32 * 10000000000 + mixV c 33) % 1000000000000000000000000000000), .int (-((mixV c 31 * 1000000000000000000000 + mixV c 32 * 10000000000 + mixV c 33) % 1000000000000000000000000000000)), .int (mixV c 31 % 3 - 1), .int (mixV c 31)] → ∃ i, v = .int i ∧ Sz 100 i := by
    intro v hv
    simp only [List.mem_cons, List.not_mem_nil, or_false] at hv
    rcases hv with rfl | rfl | rfl | rfl | rfl | rfl <;> refine ⟨_, rfl, ?_⟩ <;> unfold Sz <;> omega
  obtain ⟨v, hv, ev⟩ := atI_mem _ (mixV c 34 % 6) (by omega) (show _ < ((List.length [D.int (mixV c 31 % 41 - 20), .int (mixV c 31 % 2001 - 1000), .int ((mixV c 31 * 1000000000000000000000 + mixV c 32 * 10000000000 + mixV c 33) % 1000000000000000000000000000000), .int (-((mixV c 31 * 1000000000000000000000 + mixV c 32 * 10000000000 + mixV c 33) % 1000000000000000000000000000000)), .int (mixV c 31 % 3 - 1), .int (mixV c 31)] : Nat) : Int) by simp; omega)
  obtain ⟨i, rfl, hi⟩ := key v hv
  refine ⟨i, ?_, hi⟩
  simp [f__law_number, s__law_number, e1, e2, e3, e4, q1, q2, ev]
theorem grid_ok (c : Int) : ∃ g, f__law_grid (.int c) = .ok (.int g) ∧ 1 ≤ g ∧ g ≤ 1000000000 := by
  have e1 := mixed_eq c 35 (by decide) (by decide)
  have a1 := mixV_nn c 35
  have hd : ∀ i, CDivW i 6 := fun i => divOk_lit (by decide) (by decide)
  obtain ⟨v, hv, ev⟩ := atI_mem [D.int 1, .int 2, .int 10, .int 1000, .int 1000000000, .int (1 + mixV c 35 / 6 % 1000000000)] (mixV c 35 % 6) (by omega) (by simp; omega)
  have key : ∃ i, v = .int i ∧ 1 ≤ i ∧ i ≤ 1000000000 := by
    simp only [List.mem_cons, List.not_mem_nil, or_false] at hv
    rcases hv with rfl | rfl | rfl | rfl | rfl | rfl <;> refine ⟨_, rfl, ?_, ?_⟩ <;> omega
  obtain ⟨i, rfl, h1, h2⟩ := key
  exact ⟨i, by simp [f__law_grid, s__law_grid, e1, hd, ev], h1, h2⟩
theorem stretch_ok (c : Int) : ∃ l h, f__law_stretch (.int c) = .ok (pr l h) ∧ l ≤ h ∧ Sz 100 l ∧ Sz 102 h := by
  have e1 := mixed_eq c 36 (by decide) (by decide)
  have e2 := mixed_eq c 37 (by decide) (by decide)
  have e3 := mixed_eq c 38 (by decide) (by decide)
  obtain ⟨lo, hl, sl⟩ := number_ok (mixV c 36)
  obtain ⟨wi, hw, sw⟩ := number_ok (mixV c 38)
  have a1 := mixV_nn c 37
  have b1 := mixV_lt c 37
  have hd : ∀ i, CDivW i 6 := fun i => divOk_lit (by decide) (by decide)
  have hm : ∀ i, mulOk 2 i := fun i => mulOk_l (by decide) (by decide)
  obtain ⟨v, hv, ev⟩ := atI_mem [D.int 0, .int 1, .int (mixV c 37 / 6 % 40), .int (mixV c 37 / 6 % 1000000), .int (wi.natAbs : Int), .int (2 * (lo.natAbs : Int))] (mixV c 37 % 6) (by omega) (by simp; omega)
  have key : ∃ i, v = .int i ∧ 0 ≤ i ∧ Sz 101 i := by
    unfold Sz at sw sl
    simp only [List.mem_cons, List.not_mem_nil, or_false] at hv
    rcases hv with rfl | rfl | rfl | rfl | rfl | rfl <;> refine ⟨_, rfl, ?_, ?_⟩ <;> first | omega | (unfold Sz; omega)
  obtain ⟨i, rfl, h1, h2⟩ := key
  exact ⟨lo, lo + i, by simp [f__law_stretch, s__law_stretch, e1, e2, e3, hl, hw, hd, hm, ev], by omega, sl, (sl.mono (by decide)).add h2⟩
theorem good_grid {g : Int} (h1 : 1 ≤ g) (h2 : g ≤ 1000000000) : f_need_grid (.int g) = .ok .non := by
  simp [f_need_grid, s_need_grid, h1, h2]
theorem good_stretch {l h : Int} (k : l ≤ h) : f_need_stretch (pr l h) = .ok (pr l h) := by
  have : ¬ h < l := by omega
  simp [f_need_stretch, s_need_stretch, this]
theorem outward_eq {x y z u : Int} (hy : 0 < y) (hu : 0 < u) (sy : Sz 4000 y) (su : Sz 4000 u) : f_outward (pr x y) (pr z u) = .ok (pr (x / y) (-((-z) / u))) := by
  have h1 : ∀ i, CDivW i y := fun i => divOk_sz hy sy
  have h2 : ∀ i, CDivW i u := fun i => divOk_sz hu su
  simp [f_outward, s_outward, f_floor_of, s_floor_of, f_ceiling_of, s_ceiling_of, h1, h2]
theorem compared_eq {x y z u : Int} {m n : Nat} (sx : Sz m x) (sy : Sz n y) (sz : Sz m z) (su : Sz n u) (hm : 0 < m) (hn : 0 < n) (hs : m + n ≤ 100000) : f_compared (pr x y) (pr z u) = .ok (.int ((if z * y < x * u then 1 else 0) - (if x * u < z * y then 1 else 0))) := by
  simp [f_compared, s_compared, mulOk_sz sx su hm hn hs, mulOk_sz sz sy hm hn hs]
theorem multiplied_eq {x y z u : Int} {m n k l : Nat} (sx : Sz m x) (sy : Sz n y) (sz : Sz k z) (su : Sz l u) (hy : 0 < y) (hu : 0 < u) (hm : 0 < m) (hn : 0 < n) (hk : 0 < k) (hl : 0 < l) (h1 : m + k ≤ 100000) (h2 : n + l ≤ 8000) : f_multiplied (pr x y) (pr z u) = .ok (nrm (x * z) (y * u)) := by
  have h := fraction_eq (x * z) (y * u) (Int.ne_of_gt (Int.mul_pos hy hu)) (sy.mul su) (by omega) h2
  simp [f_multiplied, s_multiplied, mulOk_sz sx sz hm hk h1, mulOk_sz sy su hn hl (by omega), h]
section
variable {g o0 o1 p0 p1 : Int} (g1 : 1 ≤ g) (g2 : g ≤ 1000000000) (ho : o0 ≤ o1) (hp : p0 ≤ p1) (a0 : Sz 110 o0) (a1 : Sz 110 o1) (b0 : Sz 110 p0) (b1 : Sz 110 p1)
include g1 g2 ho hp
theorem two_ok : f_need_two (.int g) (pr o0 o1) (pr p0 p1) = .ok .non := by simp [f_need_two, s_need_two, good_grid g1 g2, good_stretch ho, good_stretch hp]
theorem plus_eq : f_plus (.int g) (pr o0 o1) (pr p0 p1) = .ok (pr (o0 + p0) (o1 + p1)) := by simp [f_plus, s_plus, two_ok g1 g2 ho hp]
theorem minus_eq : f_minus (.int g) (pr o0 o1) (pr p0 p1) = .ok (pr (o0 - p1) (o1 - p0)) := by simp [f_minus, s_minus, two_ok g1 g2 ho hp]
theorem least_eq : f_least (.int g) (pr o0 o1) (pr p0 p1) = .ok (pr (min o0 p0) (min o1 p1)) := by simp [f_least, s_least, two_ok g1 g2 ho hp, min2]
theorem most_eq : f_most (.int g) (pr o0 o1) (pr p0 p1) = .ok (pr (max o0 p0) (max o1 p1)) := by simp [f_most, s_most, two_ok g1 g2 ho hp, max2]
include a0 a1 b0 b1
theorem times_eq : f_times (.int g) (pr o0 o1) (pr p0 p1) = .ok (pr (min (o0 * p0) (min (o0 * p1) (min (o1 * p0) (o1 * p1))) / g) (-((-(max (o0 * p0) (max (o0 * p1) (max (o1 * p0) (o1 * p1))))) / g))) := by
  have sg : Sz 4000 g := Sz.mono (m := 30) (by unfold Sz; omega) (by decide)
  have h := fun x z => outward_eq (x := x) (z := z) (by omega : 0 < g) (by omega : 0 < g) sg sg
  simp [f_times, s_times, two_ok g1 g2 ho hp, mulOk_sz a0 b0, mulOk_sz a0 b1, mulOk_sz a1 b0, mulOk_sz a1 b1, minL4, maxL4, h]
omit g1 g2 ho hp a0 a1 b0 b1 in
theorem over_step {B T L H x y xl yl xh yh : Int} {r0 r1 r2 r3 r4 r5 r8 : Sl} (hB : 0 < B) (v : Val B T x y) (vl : Val B L xl yl) (vh : Val B H xh yh) (sx : Sz 300 x) (sy : Sz 300 y) (sxl : Sz 300 xl) (syl : Sz 300 yl) (sxh : Sz 300 xh) (syh : Sz 300 yh) :
    ∃ xl' yl' xh' yh', s_over_b0 [r0, r1, r2, r3, r4, r5, .val (pr xl yl), .val (pr xh yh), .val (pr x y)] = .nx [r0, r1, r2, r3, r4, r5, .val (pr xl' yl'), .val (pr xh' yh'), .val (pr x y)] ∧ Val B (min L T) xl' yl' ∧ Val B (max H T) xh' yh' ∧ Sz 300 xl' ∧ Sz 300 yl' ∧ Sz 300 xh' ∧ Sz 300 yh' := by
  have c1 := compared_eq sx sy sxl syl (by decide) (by decide) (by decide)
  have c2 := compared_eq sx sy sxh syh (by decide) (by decide) (by decide)
  rw [v.cmp hB vl] at c1
  rw [v.cmp hB vh] at c2
  by_cases h1 : T < L
  · have h1' := cmpZ_lt.mpr h1
    by_cases h2 : H < T
    · have h2' := cmpZ_gt.mpr h2
      exact ⟨x, y, x, y, by simp [s_over_b0, c1, c2, h1', h2'], by rw [Int.min_eq_right (by omega)]; exact v, by rw [Int.max_eq_right (by omega)]; exact v, sx, sy, sx, sy⟩
    · have h2' : ¬ 0 < cmpZ T H := fun z => h2 (cmpZ_gt.mp z)
      exact ⟨x, y, xh, yh, by simp [s_over_b0, c1, c2, h1', h2'], by rw [Int.min_eq_right (by omega)]; exact v, by rw [Int.max_eq_left (by omega)]; exact vh, sx, sy, sxh, syh⟩
  · have h1' : ¬ cmpZ T L < 0 := fun z => h1 (cmpZ_lt.mp z)
    by_cases h2 : H < T
    · have h2' := cmpZ_gt.mpr h2
      exact ⟨xl, yl, x, y, by simp [s_over_b0, c1, c2, h1', h2'], by rw [Int.min_eq_left (by omega)]; exact vl, by rw [Int.max_eq_right (by omega)]; exact v, sxl, syl, sx, sy⟩
    · have h2' : ¬ 0 < cmpZ T H := fun z => h2 (cmpZ_gt.mp z)
      exact ⟨xl, yl, xh, yh, by simp [s_over_b0, c1, c2, h1', h2'], by rw [Int.min_eq_left (by omega)]; exact vl, by rw [Int.max_eq_left (by omega)]; exact vh, sxl, syl, sxh, syh⟩
theorem over_no (h0 : p0 ≤ 0) (h1 : 0 ≤ p1) : f_over (.int g) (pr o0 o1) (pr p0 p1) = .exc ⟨"ByNought", none⟩ := by
  simp [f_over, s_over, two_ok g1 g2 ho hp, h0, h1]
theorem over_eq (hn : ¬ (p0 ≤ 0 ∧ 0 ≤ p1)) : f_over (.int g) (pr o0 o1) (pr p0 p1) = .ok (pr (g * min (o0 * p1) (min (o0 * p0) (min (o1 * p1) (o1 * p0))) / (p0 * p1)) (-((-(g * max (o0 * p1) (max (o0 * p0) (max (o1 * p1) (o1 * p0))))) / (p0 * p1)))) := by
  have z0 : p0 ≠ 0 := by omega
  have z1 : p1 ≠ 0 := by omega
  have hB : 0 < p0 * p1 := by
    by_cases h : 0 < p0
    · exact Int.mul_pos h (by omega)
    · exact Int.mul_pos_of_neg_of_neg (by omega) (by omega)
  have sg : Sz 30 g := by unfold Sz; omega
  have f1 : f_fraction (.int (g * o0)) (.int p0) = .ok (pr (nT (g * o0) p0) (nB (g * o0) p0)) := fraction_eq (g * o0) p0 z0 b0
  have f2 : f_fraction (.int (g * o1)) (.int p1) = .ok (pr (nT (g * o1) p1) (nB (g * o1) p1)) := fraction_eq (g * o1) p1 z1 b1
  have f3 : f_fraction (.int (g * o0)) (.int p1) = .ok (pr (nT (g * o0) p1) (nB (g * o0) p1)) := fraction_eq (g * o0) p1 z1 b1
  have f4 : f_fraction (.int (g * o1)) (.int p0) = .ok (pr (nT (g * o1) p0) (nB (g * o1) p0)) := fraction_eq (g * o1) p0 z0 b0
  have v1 : Val (p0 * p1) (g * (o0 * p1)) (nT (g * o0) p0) (nB (g * o0) p0) := nrm_val z0 (by grind)
  have v2 : Val (p0 * p1) (g * (o1 * p0)) (nT (g * o1) p1) (nB (g * o1) p1) := nrm_val z1 (by grind)
  have v3 : Val (p0 * p1) (g * (o0 * p0)) (nT (g * o0) p1) (nB (g * o0) p1) := nrm_val z1 (by grind)
  have v4 : Val (p0 * p1) (g * (o1 * p1)) (nT (g * o1) p0) (nB (g * o1) p0) := nrm_val z0 (by grind)
  have s1 : Sz 300 (nT (g * o0) p0) := (nT_sz _ (sg.mul a0)).mono (by decide)
  have s2 : Sz 300 (nT (g * o1) p1) := (nT_sz _ (sg.mul a1)).mono (by decide)
  have s3 : Sz 300 (nT (g * o0) p1) := (nT_sz _ (sg.mul a0)).mono (by decide)
  have s4 : Sz 300 (nT (g * o1) p0) := (nT_sz _ (sg.mul a1)).mono (by decide)
  have t1 : Sz 300 (nB (g * o0) p0) := (nB_sz _ b0).mono (by decide)
  have t2 : Sz 300 (nB (g * o1) p1) := (nB_sz _ b1).mono (by decide)
  have t3 : Sz 300 (nB (g * o0) p1) := (nB_sz _ b1).mono (by decide)
  have t4 : Sz 300 (nB (g * o1) p0) := (nB_sz _ b0).mono (by decide)
  have m0 := mulOk_sz sg a0
  have m1 := mulOk_sz sg a1
  have hnn : p0 ≤ 0 → ¬ 0 ≤ p1 := fun x y => hn ⟨x, y⟩
  have two := two_ok g1 g2 ho hp
  generalize hq1 : nT (g * o0) p0 = x1 at *
  generalize hq2 : nT (g * o1) p1 = x2 at *
  generalize hq3 : nT (g * o0) p1 = x3 at *
  generalize hq4 : nT (g * o1) p0 = x4 at *
  generalize hr1 : nB (g * o0) p0 = y1 at *
  generalize hr2 : nB (g * o1) p1 = y2 at *
  generalize hr3 : nB (g * o0) p1 = y3 at *
  generalize hr4 : nB (g * o1) p0 = y4 at *
  obtain ⟨l1, m1', h1, k1, e1, vl1, vh1, q1, q2, q3, q4⟩ := over_step (r0 := .val (.int g)) (r1 := .val (pr o0 o1)) (r2 := .val (pr p0 p1)) (r3 := .val (.lst [pr x1 y1, pr x2 y2, pr x3 y3, pr x4 y4])) (r4 := .em) (r5 := .em) (r8 := .em) hB v1 v1 v1 s1 t1 s1 t1 s1 t1
  obtain ⟨l2, m2', h2, k2, e2, vl2, vh2, q1, q2, q3, q4⟩ := over_step (r0 := .val (.int g)) (r1 := .val (pr o0 o1)) (r2 := .val (pr p0 p1)) (r3 := .val (.lst [pr x1 y1, pr x2 y2, pr x3 y3, pr x4 y4])) (r4 := .em) (r5 := .em) (r8 := .em) hB v2 vl1 vh1 s2 t2 q1 q2 q3 q4
  obtain ⟨l3, m3', h3, k3, e3, vl3, vh3, q1, q2, q3, q4⟩ := over_step (r0 := .val (.int g)) (r1 := .val (pr o0 o1)) (r2 := .val (pr p0 p1)) (r3 := .val (.lst [pr x1 y1, pr x2 y2, pr x3 y3, pr x4 y4])) (r4 := .em) (r5 := .em) (r8 := .em) hB v3 vl2 vh2 s3 t3 q1 q2 q3 q4
  obtain ⟨l4, m4', h4, k4, e4, vl4, vh4, q1, q2, q3, q4⟩ := over_step (r0 := .val (.int g)) (r1 := .val (pr o0 o1)) (r2 := .val (pr p0 p1)) (r3 := .val (.lst [pr x1 y1, pr x2 y2, pr x3 y3, pr x4 y4])) (r4 := .em) (r5 := .em) (r8 := .em) hB v4 vl3 vh3 s4 t4 q1 q2 q3 q4
  have oo := outward_eq (x := l4) (z := h4) vl4.p vh4.p (q2.mono (by decide)) (q4.mono (by decide))
  rw [vl4.div hB, vh4.neg.div hB] at oo
  have gp : 0 < g := by omega
  have eL : min (min (min (min (g * (o0 * p1)) (g * (o0 * p1))) (g * (o1 * p0))) (g * (o0 * p0))) (g * (o1 * p1)) = g * min (o0 * p1) (min (o0 * p0) (min (o1 * p1) (o1 * p0))) := by
    rw [min_scale gp, min_scale gp, min_scale gp, min_scale gp]
    congr 1
    omega
  have eH : max (max (max (max (g * (o0 * p1)) (g * (o0 * p1))) (g * (o1 * p0))) (g * (o0 * p0))) (g * (o1 * p1)) = g * max (o0 * p1) (max (o0 * p0) (max (o1 * p1) (o1 * p0))) := by
    rw [max_scale gp, max_scale gp, max_scale gp, max_scale gp]
    congr 1
    omega
  rw [eL, eH] at oo
  generalize g * min (o0 * p1) (min (o0 * p0) (min (o1 * p1) (o1 * p0))) / (p0 * p1) = LL at *
  generalize -(-(g * max (o0 * p1) (max (o0 * p0) (max (o1 * p1) (o1 * p0)))) / (p0 * p1)) = HH at *
  by_cases c : p0 ≤ 0
  · have c' := hnn c
    simp [f_over, s_over, two, c, c', m0, m1, f1, f2, f3, f4, e1, e2, e3, e4, oo]
  · simp [f_over, s_over, two, c, m0, m1, f1, f2, f3, f4, e1, e2, e3, e4, oo]
end
theorem raised_ok {g t : Int} (g1 : 1 ≤ g) (g2 : g ≤ 1000000000) (st : Sz 110 t) (n : Nat) (hn : n ≤ 8) : ∃ x y, f_raised (.int t) (.int g) (.int n) = .ok (pr x y) ∧ Val (g ^ n) (g * t ^ n) x y ∧ Sz 2000 x ∧ Sz 2000 y := by
  have sg : Sz 30 g := by unfold Sz; omega
  have g0 : g ≠ 0 := by omega
  have hf := fraction_eq t g g0 sg
  have sz := nT_sz g st
  have su := nB_sz t sg
  have pu := nB_pos (t := t) g0
  have cr := nrm_cross t g0
  obtain ⟨ρ', h1, x, y, r4, rfl, hv, sx, sy⟩ := loop_range (b := fun d ρ => oS (gN 4 d ρ) s_raised_b0) (n := n) (fun i ρ => ∃ x y r4, ρ = [.val (.int t), .val (.int g), .val (.int n), .val (pr x y), r4] ∧ Val (g ^ i) (g * t ^ i) x y ∧ Sz (40 + 150 * i) x ∧ Sz (40 + 150 * i) y)
    (fun i ρ ⟨x, y, r4, e, hv, sx, sy⟩ hi => by
      subst e
      have hm := multiplied_eq sx sy sz su hv.p pu (by omega) (by omega) (by omega) (by omega) (by omega) (by omega)
      refine ⟨_, (enter1 _ _ _ _).trans (show s_raised_b0 [.val (.int t), .val (.int g), .val (.int n), .val (pr x y), .val (.int (i : Nat))] = .nx [.val (.int t), .val (.int g), .val (.int n), .val (nrm (x * nT t g) (y * nB t g)), .val (.int (i : Nat))] by simp [s_raised_b0, hf, hm]), _, _, _, rfl, nrm_val (Int.mul_ne_zero (by have := hv.p; omega) (by omega)) ?_, (nT_sz _ (sx.mul sz)).mono (by omega), (nB_sz _ (sy.mul su)).mono (by omega)⟩
      have e := hv.e
      rw [Int.pow_succ, Int.pow_succ]
      grind) [.val (.int t), .val (.int g), .val (.int n), .val (pr g 1), .em] ⟨g, 1, .em, rfl, ⟨by decide, by grind⟩, sg.mono (by omega), by unfold Sz; decide⟩
  simp at h1
  exact ⟨x, y, by simp [f_raised, s_raised, rng1_nat n (by omega), h1], hv, sx.mono (by omega), sy.mono (by omega)⟩
theorem power0 {g o0 o1 : Int} (g1 : 1 ≤ g) (g2 : g ≤ 1000000000) (ho : o0 ≤ o1) (a0 : Sz 110 o0) (a1 : Sz 110 o1) : f_power (.int g) (pr o0 o1) (.int 0) = .ok (pr g g) := by
  have r : ∀ t, f_raised (.int t) (.int g) (.int 0) = .ok (pr g 1) := fun t => by simp [f_raised, s_raised, v_rng1]
  have sg : Sz 30 g := by unfold Sz; omega
  have s1 : Sz 30 1 := by unfold Sz; decide
  have c := compared_eq sg s1 sg s1 (by decide) (by decide) (by decide)
  have o := outward_eq (x := g) (y := 1) (z := g) (u := 1) (by decide) (by decide) (s1.mono (by decide)) (s1.mono (by decide))
  simp at c o
  simp [f_power, s_power, good_grid g1 g2, good_stretch ho, r, c, o]
theorem power_eq {g o0 o1 : Int} (g1 : 1 ≤ g) (g2 : g ≤ 1000000000) (ho : o0 ≤ o1) (a0 : Sz 110 o0) (a1 : Sz 110 o1) (n : Nat) (hn : n ≤ 8) (h0 : n ≠ 0) : f_power (.int g) (pr o0 o1) (.int n) = .ok (pr ((if (n : Int) % 2 = 0 ∧ o0 ≤ 0 ∧ 0 ≤ o1 then 0 else min (o0 ^ n) (o1 ^ n)) / g ^ (n - 1)) (-((-(max (o0 ^ n) (o1 ^ n))) / g ^ (n - 1)))) := by
  obtain ⟨x, y, r1, v1, sx, sy⟩ := raised_ok g1 g2 a0 n hn
  obtain ⟨z, u, r2, v2, sz, su⟩ := raised_ok g1 g2 a1 n hn
  have eg : g ^ n = g ^ (n - 1) * g := by rw [← Int.pow_succ]; congr 1; omega
  rw [eg] at v1 v2
  have v1 := v1.cancel (by omega)
  have v2 := v2.cancel (by omega)
  have hB : 0 < g ^ (n - 1) := Int.pow_pos (by omega)
  have c := compared_eq sx sy sz su (by decide) (by decide) (by decide)
  rw [v1.cmp hB v2] at c
  have b1 := band1 n hn
  have k0 : (0 : Int) ≤ n := by omega
  have k8 : (n : Int) ≤ 8 := by omega
  have kp : 0 < n := by omega
  have s1 : Sz 30 1 := by unfold Sz; decide
  have o11 := outward_eq (x := x) (z := z) v1.p v2.p (sy.mono (by decide)) (su.mono (by decide))
  have o12 := outward_eq (x := z) (z := x) v2.p v1.p (su.mono (by decide)) (sy.mono (by decide))
  have o01 := outward_eq (x := 0) (z := z) (by decide : (0 : Int) < 1) v2.p (s1.mono (by decide)) (su.mono (by decide))
  have o02 := outward_eq (x := 0) (z := x) (by decide : (0 : Int) < 1) v1.p (s1.mono (by decide)) (sy.mono (by decide))
  rw [v1.div hB, v2.neg.div hB] at o11
  rw [v2.div hB, v1.neg.div hB] at o12
  rw [v2.neg.div hB] at o01
  rw [v1.neg.div hB] at o02
  have z0 : (0 : Int) / g ^ (n - 1) = 0 := Int.zero_ediv _
  generalize g ^ (n - 1) = B at *
  generalize o0 ^ n = A at *
  generalize o1 ^ n = C at *
  have z1 : (0 : Int) / 1 = 0 := by decide
  rw [z1] at o01 o02
  by_cases hs : C < A
  · have hs' := cmpZ_gt.mpr hs
    rw [Int.min_eq_right (by omega), Int.max_eq_left (by omega)]
    by_cases c1 : (n : Int) % 2 = 0
    · by_cases c2 : o0 ≤ 0
      · by_cases c3 : 0 ≤ o1
        · simp [f_power, s_power, good_grid g1 g2, good_stretch ho, k0, k8, kp, r1, r2, c, hs', b1, c1, c2, c3, o02, z0]
        · simp [f_power, s_power, good_grid g1 g2, good_stretch ho, k0, k8, kp, r1, r2, c, hs', b1, c1, c2, c3, o12, z0]
      · simp [f_power, s_power, good_grid g1 g2, good_stretch ho, k0, k8, kp, r1, r2, c, hs', b1, c1, c2, o12, z0]
    · simp [f_power, s_power, good_grid g1 g2, good_stretch ho, k0, k8, kp, r1, r2, c, hs', b1, c1, o12, z0]
  · have hs' : ¬ 0 < cmpZ A C := fun z => hs (cmpZ_gt.mp z)
    rw [Int.min_eq_left (by omega), Int.max_eq_right (by omega)]
    by_cases c1 : (n : Int) % 2 = 0
    · by_cases c2 : o0 ≤ 0
      · by_cases c3 : 0 ≤ o1
        · simp [f_power, s_power, good_grid g1 g2, good_stretch ho, k0, k8, kp, r1, r2, c, hs', b1, c1, c2, c3, o01, z0]
        · simp [f_power, s_power, good_grid g1 g2, good_stretch ho, k0, k8, kp, r1, r2, c, hs', b1, c1, c2, c3, o11, z0]
      · simp [f_power, s_power, good_grid g1 g2, good_stretch ho, k0, k8, kp, r1, r2, c, hs', b1, c1, c2, o11, z0]
    · simp [f_power, s_power, good_grid g1 g2, good_stretch ho, k0, k8, kp, r1, r2, c, hs', b1, c1, o11, z0]
/-! the law's own -/
/-- worth0*g lies between the ends -/
theorem lies_eq {g t0 t1 x y : Int} {m n k : Nat} (g1 : 1 ≤ g) (g2 : g ≤ 1000000000) (sx : Sz m x) (sy : Sz n y) (s0 : Sz k t0) (s1 : Sz k t1) (hm : 0 < m) (hn : 0 < n) (hk : 0 < k) (h1 : m ≤ 9000) (h2 : n ≤ 9000) (h3 : k ≤ 9000) (l0 : t0 * y ≤ x * g) (l1 : x * g ≤ t1 * y) : f__law_lies (.int g) (pr t0 t1) (pr x y) = .ok (.bl true) := by
  have sg : Sz 30 g := by unfold Sz; omega
  have m0 := mulOk_sz sx sg hm (by decide) (by omega)
  have m1 := mulOk_sz s0 sy hk hn (by omega)
  have m2 := mulOk_sz s1 sy hk hn (by omega)
  simp [f__law_lies, s__law_lies, m0, m1, m2, l0, l1]
section
variable {P y Q z : Int} {N : D} (sP : Sz 250 P) (sy : Sz 250 y) (sQ : Sz 250 Q) (sz : Sz 250 z)
include sP sy sQ sz
theorem worth0 : f__law_worth (.int 0) (pr P y) (pr Q z) N = .ok (pr (P * z + Q * y) (y * z)) := by
  simp [f__law_worth, s__law_worth, mulOk_sz sP sz, mulOk_sz sQ sy, mulOk_sz sy sz]
theorem worth1 : f__law_worth (.int 1) (pr P y) (pr Q z) N = .ok (pr (P * z - Q * y) (y * z)) := by
  simp [f__law_worth, s__law_worth, mulOk_sz sP sz, mulOk_sz sQ sy, mulOk_sz sy sz]
theorem worth2 : f__law_worth (.int 2) (pr P y) (pr Q z) N = .ok (pr (P * Q) (y * z)) := by
  simp [f__law_worth, s__law_worth, mulOk_sz sP sQ, mulOk_sz sy sz]
theorem worth3p (h : 0 ≤ Q) : f__law_worth (.int 3) (pr P y) (pr Q z) N = .ok (pr (P * z) (y * Q)) := by
  have h' : ¬ Q < 0 := by omega
  have m1 : ∀ x, mulOk 1 x := fun x => mulOk_l (by decide) (by decide)
  have m2 : ∀ x, mulOk 2 x := fun x => mulOk_l (by decide) (by decide)
  simp [f__law_worth, s__law_worth, h', m1, m2, mulOk_sz sP sz, mulOk_sz sy sQ]
theorem worth3n (h : Q < 0) : f__law_worth (.int 3) (pr P y) (pr Q z) N = .ok (pr (-P * z) (-y * Q)) := by
  have m1 : ∀ x, mulOk (-1) x := fun x => mulOk_l (by decide) (by decide)
  have m2 : ∀ x, mulOk 2 x := fun x => mulOk_l (by decide) (by decide)
  simp [f__law_worth, s__law_worth, h, m1, m2, mulOk_sz sP.neg sz, mulOk_sz sy.neg sQ]
theorem worth4 : f__law_worth (.int 4) (pr P y) (pr Q z) N = .ok (if P * z < Q * y then pr P y else pr Q z) := by
  have e1 : dEq (.bl true) (.bl true) = some (.bl true) := by rfl
  have e2 : dEq (.bl false) (.bl true) = some (.bl false) := by rfl
  by_cases c : P * z < Q * y
  · simp [f__law_worth, s__law_worth, mulOk_sz sP sz, mulOk_sz sQ sy, c, e1]
  · simp [f__law_worth, s__law_worth, mulOk_sz sP sz, mulOk_sz sQ sy, c, e2]
theorem worth5 : f__law_worth (.int 5) (pr P y) (pr Q z) N = .ok (if P * z < Q * y then pr Q z else pr P y) := by
  have e1 : dEq (.bl true) (.bl false) = some (.bl false) := by rfl
  have e2 : dEq (.bl false) (.bl false) = some (.bl true) := by rfl
  by_cases c : P * z < Q * y
  · simp [f__law_worth, s__law_worth, mulOk_sz sP sz, mulOk_sz sQ sy, c, e1]
  · simp [f__law_worth, s__law_worth, mulOk_sz sP sz, mulOk_sz sQ sy, c, e2]
theorem worth6 (n : Nat) (hn : n ≤ 8) : f__law_worth (.int 6) (pr P y) (pr Q z) (.int n) = .ok (pr (P ^ n) (y ^ n)) := by
  obtain ⟨ρ', h1, r7, rfl⟩ := loop_range (b := fun d ρ => oS (gN 7 d ρ) s__law_worth_b0) (n := n) (fun i ρ => ∃ r7, ρ = [.val (.int 6), .val (pr P y), .val (pr Q z), .val (.int n), .em, .em, .val (pr (P ^ i) (y ^ i)), r7])
    (fun i ρ ⟨r7, e⟩ hi => by
      subst e
      have m0 : mulOk (P ^ i) P := mulOk_sz (sP.pow i) sP (by omega) (by omega) (by omega)
      have m1 : mulOk (y ^ i) y := mulOk_sz (sy.pow i) sy (by omega) (by omega) (by omega)
      exact ⟨_, (enter1 _ _ _ _).trans (show s__law_worth_b0 [.val (.int 6), .val (pr P y), .val (pr Q z), .val (.int n), .em, .em, .val (pr (P ^ i) (y ^ i)), .val (.int (i : Nat))] = .nx [.val (.int 6), .val (pr P y), .val (pr Q z), .val (.int n), .em, .em, .val (pr (P ^ (i + 1)) (y ^ (i + 1))), .val (.int (i : Nat))] by
        rw [Int.pow_succ, Int.pow_succ]
        simp [s__law_worth_b0, m0, m1]), _, rfl⟩) [.val (.int 6), .val (pr P y), .val (pr Q z), .val (.int n), .em, .em, .val (pr 1 1), .em] ⟨.em, by simp⟩
  simp at h1
  simp [f__law_worth, s__law_worth, rng1_nat n (by omega), h1]
end
@[simp] theorem v_mulL (ds : List D) (j : Int) : dMul (.lst ds) (.int j) = if 0 ≤ j ∧ j ≤ 1000 ∧ ds.length ≤ 1000 then some (.lst (List.replicate j.toNat ds).flatten) else none := rfl
def endsL (g a0 a1 : Int) : List D := if a0 ≤ 0 ∧ 0 ≤ a1 then [pr a0 g, pr a1 g, pr 0 1] else [pr a0 g, pr a1 g]
theorem ends_eq (g a0 a1 : Int) : f__law_ends (.int g) (pr a0 a1) = .ok (.lst (endsL g a0 a1)) := by
  by_cases c0 : a0 ≤ 0
  · by_cases c1 : 0 ≤ a1
    · simp [f__law_ends, s__law_ends, c0, c1, endsL]
    · simp [f__law_ends, s__law_ends, c0, c1, endsL]
  · simp [f__law_ends, s__law_ends, c0, endsL]
/-- a pair's turn -/
def St (K G T O C N p q : D) (cl ch : Bool) : Prop := ∀ (low high : Bool) (r10 : Sl), ∃ r10', s__law_is_tight_b0 [.val K, .val G, .val T, .val O, .val C, .val N, .val (.bl low), .val (.bl high), .val p, .val q, r10] = .nx [.val K, .val G, .val T, .val O, .val C, .val N, .val (.bl (low || cl)), .val (.bl (high || ch)), .val p, .val q, r10']
theorem st_of {k g t0 t1 q0 q1 wx wy : Int} {O C N p : D} {m n l : Nat} (hk : k ≠ 3 ∨ q0 ≠ 0) (hw : f__law_worth (.int k) p (pr q0 q1) N = .ok (pr wx wy)) (g1 : 1 ≤ g) (g2 : g ≤ 1000000000) (sx : Sz m wx) (sy : Sz n wy) (s0 : Sz l t0) (s1 : Sz l t1) (hm : 0 < m) (hn : 0 < n) (hl : 0 < l) (h1 : m ≤ 9000) (h2 : n ≤ 9000) (h3 : l ≤ 9000) :
    St (.int k) (.int g) (pr t0 t1) O C N p (pr q0 q1) (decide (wx * g < (t0 + 1) * wy)) (decide ((t1 - 1) * wy < wx * g)) := fun low high r10 => by
  have sg : Sz 30 g := by unfold Sz; omega
  have one : Sz l 1 := Sz.mono (m := 1) (by unfold Sz; decide) hl
  have m0 := mulOk_sz sx sg hm (by decide) (by omega)
  have m1 := mulOk_sz (s0.add one) sy (by omega) hn (by omega)
  have m2 := mulOk_sz (s1.sub one) sy (by omega) hn (by omega)
  refine ⟨.val (pr wx wy), ?_⟩
  by_cases c : k = 3
  · have c2 := hk.resolve_left (fun z => z c)
    subst c
    cases low <;> cases high <;> simp [s__law_is_tight_b0, c2, hw, m0, m1, m2]
  · cases low <;> cases high <;> simp [s__law_is_tight_b0, c, hw, m0, m1, m2]
theorem st_skip {g q1 : Int} {T O C N p : D} : St (.int 3) (.int g) T O C N p (pr 0 q1) false false := fun low high r10 => ⟨r10, by simp [s__law_is_tight_b0]⟩
theorem tight_in {K G T O C N p : D} (cl ch : D → Bool) : ∀ (qs : List D), (∀ q ∈ qs, St K G T O C N p q (cl q) (ch q)) → ∀ (low high : Bool) (r9 r10 : Sl), ∃ r9' r10', loopS (fun d ρ => oS (gN 9 d ρ) s__law_is_tight_b0) qs [.val K, .val G, .val T, .val O, .val C, .val N, .val (.bl low), .val (.bl high), .val p, r9, r10] = .nx [.val K, .val G, .val T, .val O, .val C, .val N, .val (.bl (low || qs.any cl)), .val (.bl (high || qs.any ch)), .val p, r9', r10']
  | [], _, low, high, r9, r10 => ⟨r9, r10, by simp⟩
  | q :: qs, h, low, high, r9, r10 => by
    obtain ⟨r10', e⟩ := h q List.mem_cons_self low high r10
    obtain ⟨s9, s10, e2⟩ := tight_in cl ch qs (fun q hq => h q (List.mem_cons_of_mem _ hq)) (low || cl q) (high || ch q) (.val q) r10'
    refine ⟨s9, s10, ?_⟩
    rw [v_loop_cons, enter1]
    rw [show (List.set [Sl.val K, .val G, .val T, .val O, .val C, .val N, .val (.bl low), .val (.bl high), .val p, r9, r10] 9 (.val q)) = [Sl.val K, .val G, .val T, .val O, .val C, .val N, .val (.bl low), .val (.bl high), .val p, .val q, r10] from rfl, e]
    rw [List.any_cons, List.any_cons, ← Bool.or_assoc, ← Bool.or_assoc]
    exact e2
theorem tight_out {K G T O C N : D} {E2 : List D} (he : f__law_ends G C = .ok (.lst E2)) (cl ch : D → D → Bool) : ∀ (ps : List D), (∀ p ∈ ps, ∀ q ∈ E2, St K G T O C N p q (cl p q) (ch p q)) → ∀ (low high : Bool) (r8 r9 r10 : Sl), ∃ r8' r9' r10', loopS (fun d ρ => oS (gN 8 d ρ) s__law_is_tight_b1) ps [.val K, .val G, .val T, .val O, .val C, .val N, .val (.bl low), .val (.bl high), r8, r9, r10] = .nx [.val K, .val G, .val T, .val O, .val C, .val N, .val (.bl (low || ps.any fun p => E2.any (cl p))), .val (.bl (high || ps.any fun p => E2.any (ch p))), r8', r9', r10']
  | [], _, low, high, r8, r9, r10 => ⟨r8, r9, r10, by simp⟩
  | p :: ps, h, low, high, r8, r9, r10 => by
    obtain ⟨s9, s10, e⟩ := tight_in (cl p) (ch p) E2 (h p List.mem_cons_self) low high r9 r10
    have e1 : s__law_is_tight_b1 [.val K, .val G, .val T, .val O, .val C, .val N, .val (.bl low), .val (.bl high), .val p, r9, r10] = .nx [.val K, .val G, .val T, .val O, .val C, .val N, .val (.bl (low || E2.any (cl p))), .val (.bl (high || E2.any (ch p))), .val p, s9, s10] := by
      unfold s__law_is_tight_b1
      rw [v_sFor, v_itL, v_eCall]
      simp only [v_aCons, v_aNil, v_eVar, List.getElem?_cons_zero, List.getElem?_cons_succ, Out.bind_ok, v_ap2, he, itemsL_lst, lift_ok]
      exact e
    obtain ⟨t8, t9, t10, e2⟩ := tight_out he cl ch ps (fun p hp => h p (List.mem_cons_of_mem _ hp)) (low || E2.any (cl p)) (high || E2.any (ch p)) (.val p) s9 s10
    refine ⟨t8, t9, t10, ?_⟩
    rw [v_loop_cons, enter1]
    rw [show (List.set [Sl.val K, .val G, .val T, .val O, .val C, .val N, .val (.bl low), .val (.bl high), r8, r9, r10] 8 (.val p)) = [Sl.val K, .val G, .val T, .val O, .val C, .val N, .val (.bl low), .val (.bl high), .val p, r9, r10] from rfl, e1]
    rw [List.any_cons, List.any_cons, ← Bool.or_assoc, ← Bool.or_assoc]
    exact e2
theorem tight_ok {K T N : D} {g a0 a1 c0 c1 : Int} (cl ch : D → D → Bool) (h : ∀ p ∈ endsL g a0 a1, ∀ q ∈ endsL g c0 c1, St K (.int g) T (pr a0 a1) (pr c0 c1) N p q (cl p q) (ch p q)) (hl : ∃ p ∈ endsL g a0 a1, ∃ q ∈ endsL g c0 c1, cl p q = true) (hh : ∃ p ∈ endsL g a0 a1, ∃ q ∈ endsL g c0 c1, ch p q = true) : f__law_is_tight K (.int g) T (pr a0 a1) (pr c0 c1) N = .ok (.bl true) := by
  obtain ⟨r8, r9, r10, e⟩ := tight_out (K := K) (T := T) (O := pr a0 a1) (N := N) (ends_eq g c0 c1) cl ch (endsL g a0 a1) h false false .em .em .em
  obtain ⟨p, hp, q, hq, e1⟩ := hl
  obtain ⟨p', hp', q', hq', e1'⟩ := hh
  have l1 : ((endsL g a0 a1).any fun p => (endsL g c0 c1).any (cl p)) = true := List.any_eq_true.mpr ⟨p, hp, List.any_eq_true.mpr ⟨q, hq, e1⟩⟩
  have l2 : ((endsL g a0 a1).any fun p => (endsL g c0 c1).any (ch p)) = true := List.any_eq_true.mpr ⟨p', hp', List.any_eq_true.mpr ⟨q', hq', e1'⟩⟩
  rw [l1, l2] at e
  simp at e
  simp [f__law_is_tight, s__law_is_tight, ends_eq, e]
theorem ends_mem {g a0 a1 : Int} {d : D} (g1 : 1 ≤ g) (g2 : g ≤ 1000000000) (s0 : Sz 110 a0) (s1 : Sz 110 a1) (h : d ∈ endsL g a0 a1) : ∃ e u, d = pr e u ∧ Sz 110 e ∧ Sz 30 u ∧ 0 < u ∧ (¬ (a0 ≤ 0 ∧ 0 ≤ a1) → e = a0 ∨ e = a1) := by
  have sg : Sz 30 g := by unfold Sz; omega
  unfold endsL at h
  split at h
  · simp only [List.mem_cons, List.not_mem_nil, or_false] at h
    rcases h with rfl | rfl | rfl
    · exact ⟨_, _, rfl, s0, sg, by omega, fun _ => .inl rfl⟩
    · exact ⟨_, _, rfl, s1, sg, by omega, fun _ => .inr rfl⟩
    · exact ⟨_, _, rfl, by unfold Sz; decide, by unfold Sz; decide, by decide, fun z => absurd ‹_› z⟩
  · simp only [List.mem_cons, List.not_mem_nil, or_false] at h
    rcases h with rfl | rfl
    · exact ⟨_, _, rfl, s0, sg, by omega, fun _ => .inl rfl⟩
    · exact ⟨_, _, rfl, s1, sg, by omega, fun _ => .inr rfl⟩
theorem ends0 {g a0 a1 : Int} : pr a0 g ∈ endsL g a0 a1 := by unfold endsL; split <;> simp
theorem ends1 {g a0 a1 : Int} : pr a1 g ∈ endsL g a0 a1 := by unfold endsL; split <;> simp
theorem endsz {g a0 a1 : Int} (h : a0 ≤ 0 ∧ 0 ≤ a1) : pr 0 1 ∈ endsL g a0 a1 := by unfold endsL; rw [if_pos h]; simp
def num : D → Int × Int
  | .tup [.int x, .int y] => (x, y)
  | _ => (0, 0)
theorem tight_of {k g a0 a1 c0 c1 t0 t1 : Int} {N : D} (W : Int × Int → Int × Int → Int × Int) (hc : c0 ≤ c1) (g1 : 1 ≤ g) (g2 : g ≤ 1000000000) (sa0 : Sz 110 a0) (sa1 : Sz 110 a1) (sc0 : Sz 110 c0) (sc1 : Sz 110 c1) (st0 : Sz 3000 t0) (st1 : Sz 3000 t1) (h3 : k = 3 → ¬ (c0 ≤ 0 ∧ 0 ≤ c1))
    (hw : ∀ e u f v, Sz 250 e → Sz 250 u → Sz 250 f → Sz 250 v → 0 < u → 0 < v → (k = 3 → f = c0 ∨ f = c1) → f__law_worth (.int k) (pr e u) (pr f v) N = .ok (pr (W (e, u) (f, v)).1 (W (e, u) (f, v)).2) ∧ Sz 3000 (W (e, u) (f, v)).1 ∧ Sz 3000 (W (e, u) (f, v)).2)
    (hl : ∃ e u f v, pr e u ∈ endsL g a0 a1 ∧ pr f v ∈ endsL g c0 c1 ∧ (W (e, u) (f, v)).1 * g < (t0 + 1) * (W (e, u) (f, v)).2) (hh : ∃ e u f v, pr e u ∈ endsL g a0 a1 ∧ pr f v ∈ endsL g c0 c1 ∧ (t1 - 1) * (W (e, u) (f, v)).2 < (W (e, u) (f, v)).1 * g) :
    f__law_is_tight (.int k) (.int g) (pr t0 t1) (pr a0 a1) (pr c0 c1) N = .ok (.bl true) := by
  obtain ⟨e, u, f, v, m1, m2, hl⟩ := hl
  obtain ⟨e', u', f', v', m1', m2', hh⟩ := hh
  refine tight_ok (fun p q => decide ((W (num p) (num q)).1 * g < (t0 + 1) * (W (num p) (num q)).2)) (fun p q => decide ((t1 - 1) * (W (num p) (num q)).2 < (W (num p) (num q)).1 * g)) (fun p hp q hq => ?_) ⟨_, m1, _, m2, decide_eq_true hl⟩ ⟨_, m1', _, m2', decide_eq_true hh⟩
  obtain ⟨e, u, rfl, s1, s2, s3, _⟩ := ends_mem g1 g2 sa0 sa1 hp
  obtain ⟨f, v, rfl, s4, s5, s6, s7⟩ := ends_mem g1 g2 sc0 sc1 hq
  obtain ⟨w1, w2, w3⟩ := hw e u f v (s1.mono (by decide)) (s2.mono (by decide)) (s4.mono (by decide)) (s5.mono (by decide)) s3 s6 fun z => s7 (h3 z)
  refine st_of ?_ w1 g1 g2 w2 w3 st0 st1 (by decide) (by decide) (by decide) (by decide) (by decide) (by decide)
  by_cases z : k = 3
  · have := h3 z
    rcases s7 this with r | r <;> right <;> omega
  · exact .inl z
/-- P/y, in steps of the grid, lies between the ends -/
structure InS (g a0 a1 P y : Int) : Prop where
  p : 0 < y
  l : a0 * y ≤ P * g
  h : P * g ≤ a1 * y
  sP : Sz 250 P
  sy : Sz 250 y
structure Deed (k g a0 a1 c0 c1 : Int) (n : Nat) (t0 t1 : Int) : Prop where
  f : f__law_found (.int k) (.int g) (pr a0 a1) (pr c0 c1) (.int n) = .ok (pr t0 t1)
  l : ∀ P y Q z, InS g a0 a1 P y → InS g c0 c1 Q z → ∃ w, f__law_worth (.int k) (pr P y) (pr Q z) (.int n) = .ok w ∧ f__law_lies (.int g) (pr t0 t1) w = .ok (.bl true)
  t : f__law_is_tight (.int k) (.int g) (pr t0 t1) (pr a0 a1) (pr c0 c1) (.int n) = .ok (.bl true)
section
variable {g a0 a1 c0 c1 : Int} (g1 : 1 ≤ g) (g2 : g ≤ 1000000000) (ho : a0 ≤ a1) (hp : c0 ≤ c1) (sa0 : Sz 110 a0) (sa1 : Sz 110 a1) (sc0 : Sz 110 c0) (sc1 : Sz 110 c1) (n : Nat)
include g1 g2 ho hp sa0 sa1 sc0 sc1
theorem deed0 : Deed 0 g a0 a1 c0 c1 n (a0 + c0) (a1 + c1) := by
  have s0 := (sa0.add sc0)
  have s1 := (sa1.add sc1)
  have hgg : 0 < g * g := Int.mul_pos (by omega) (by omega)
  refine ⟨by simp [f__law_found, s__law_found, plus_eq g1 g2 ho hp], fun P y Q z h k => ?_, ?_⟩
  · refine ⟨_, worth0 h.sP h.sy k.sP k.sy, lies_eq g1 g2 ((h.sP.mul k.sy).add (k.sP.mul h.sy)) (h.sy.mul k.sy) s0 s1 (by decide) (by decide) (by decide) (by decide) (by decide) (by decide) ?_ ?_⟩
    · have e1 := Int.mul_le_mul_of_nonneg_right h.l (Int.le_of_lt k.p)
      have e2 := Int.mul_le_mul_of_nonneg_right k.l (Int.le_of_lt h.p)
      have e3 : (a0 + c0) * (y * z) = a0 * y * z + c0 * z * y := by grind
      have e4 : (P * z + Q * y) * g = P * g * z + Q * g * y := by grind
      omega
    · have e1 := Int.mul_le_mul_of_nonneg_right h.h (Int.le_of_lt k.p)
      have e2 := Int.mul_le_mul_of_nonneg_right k.h (Int.le_of_lt h.p)
      have e3 : (a1 + c1) * (y * z) = a1 * y * z + c1 * z * y := by grind
      have e4 : (P * z + Q * y) * g = P * g * z + Q * g * y := by grind
      omega
  · refine tight_of (fun p q => (p.1 * q.2 + q.1 * p.2, p.2 * q.2)) hp g1 g2 sa0 sa1 sc0 sc1 (s0.mono (by decide)) (s1.mono (by decide)) (fun z => by omega) (fun e u f v q1 q2 q3 q4 _ _ _ => ⟨worth0 q1 q2 q3 q4, ((q1.mul q4).add (q3.mul q2)).mono (by decide), (q2.mul q4).mono (by decide)⟩) ⟨_, _, _, _, ends0, ends0, ?_⟩ ⟨_, _, _, _, ends1, ends1, ?_⟩
    · show (a0 * g + c0 * g) * g < (a0 + c0 + 1) * (g * g)
      have : (a0 + c0 + 1) * (g * g) = (a0 * g + c0 * g) * g + g * g := by grind
      omega
    · show (a1 + c1 - 1) * (g * g) < (a1 * g + c1 * g) * g
      have : (a1 + c1 - 1) * (g * g) = (a1 * g + c1 * g) * g - g * g := by grind
      omega
theorem deed1 : Deed 1 g a0 a1 c0 c1 n (a0 - c1) (a1 - c0) := by
  have s0 := (sa0.sub sc1)
  have s1 := (sa1.sub sc0)
  have hgg : 0 < g * g := Int.mul_pos (by omega) (by omega)
  refine ⟨by simp [f__law_found, s__law_found, minus_eq g1 g2 ho hp], fun P y Q z h k => ?_, ?_⟩
  · refine ⟨_, worth1 h.sP h.sy k.sP k.sy, lies_eq g1 g2 ((h.sP.mul k.sy).sub (k.sP.mul h.sy)) (h.sy.mul k.sy) s0 s1 (by decide) (by decide) (by decide) (by decide) (by decide) (by decide) ?_ ?_⟩
    · have e1 := Int.mul_le_mul_of_nonneg_right h.l (Int.le_of_lt k.p)
      have e2 := Int.mul_le_mul_of_nonneg_right k.h (Int.le_of_lt h.p)
      have e3 : (a0 - c1) * (y * z) = a0 * y * z - c1 * z * y := by grind
      have e4 : (P * z - Q * y) * g = P * g * z - Q * g * y := by grind
      omega
    · have e1 := Int.mul_le_mul_of_nonneg_right h.h (Int.le_of_lt k.p)
      have e2 := Int.mul_le_mul_of_nonneg_right k.l (Int.le_of_lt h.p)
      have e3 : (a1 - c0) * (y * z) = a1 * y * z - c0 * z * y := by grind
      have e4 : (P * z - Q * y) * g = P * g * z - Q * g * y := by grind
      omega
  · refine tight_of (fun p q => (p.1 * q.2 - q.1 * p.2, p.2 * q.2)) hp g1 g2 sa0 sa1 sc0 sc1 (s0.mono (by decide)) (s1.mono (by decide)) (fun z => by omega) (fun e u f v q1 q2 q3 q4 _ _ _ => ⟨worth1 q1 q2 q3 q4, ((q1.mul q4).sub (q3.mul q2)).mono (by decide), (q2.mul q4).mono (by decide)⟩) ⟨_, _, _, _, ends0, ends1, ?_⟩ ⟨_, _, _, _, ends1, ends0, ?_⟩
    · show (a0 * g - c1 * g) * g < (a0 - c1 + 1) * (g * g)
      have : (a0 - c1 + 1) * (g * g) = (a0 * g - c1 * g) * g + g * g := by grind
      omega
    · show (a1 - c0 - 1) * (g * g) < (a1 * g - c0 * g) * g
      have : (a1 - c0 - 1) * (g * g) = (a1 * g - c0 * g) * g - g * g := by grind
      omega
omit ho hp sa0 sa1 sc0 sc1 g2 g1 in
theorem floor_lt {m B : Int} (hB : 0 < B) : m < (m / B + 1) * B := Int.lt_ediv_add_one_mul_self m hB
omit ho hp sa0 sa1 sc0 sc1 g2 g1 in
theorem ceil_lt {m B : Int} (hB : 0 < B) : (-((-m) / B) - 1) * B < m := by
  have := Int.lt_ediv_add_one_mul_self (-m) hB
  have e : ((-m) / B + 1) * B = -((-((-m) / B) - 1) * B) := by grind
  omega
omit ho hp sa0 sa1 sc0 sc1 g2 g1 in
theorem ceil_ge {m B : Int} (hB : 0 < B) : m ≤ -((-m) / B) * B := by
  have := Int.ediv_mul_le (-m) (show B ≠ 0 by omega)
  rw [Int.neg_mul]
  omega
theorem deed2 : Deed 2 g a0 a1 c0 c1 n (min (a0 * c0) (min (a0 * c1) (min (a1 * c0) (a1 * c1))) / g) (-((-(max (a0 * c0) (max (a0 * c1) (max (a1 * c0) (a1 * c1))))) / g)) := by
  have gp : 0 < g := by omega
  have m00 := sa0.mul sc0
  have m01 := sa0.mul sc1
  have m10 := sa1.mul sc0
  have m11 := sa1.mul sc1
  have s0 := ((m00.min (m01.min (m10.min m11))).div g)
  have s1 := ((m00.max (m01.max (m10.max m11))).neg.div g).neg
  refine ⟨by simp [f__law_found, s__law_found, times_eq g1 g2 ho hp sa0 sa1 sc0 sc1], fun P y Q z h k => ?_, ?_⟩
  · have b1 := bil_lo h.p k.p h.l h.h k.l k.h
    have b2 := bil_hi h.p k.p h.l h.h k.l k.h
    have f1 := Int.ediv_mul_le (min (a0 * c0) (min (a0 * c1) (min (a1 * c0) (a1 * c1)))) (show g ≠ 0 by omega)
    have f2 := ceil_ge (m := max (a0 * c0) (max (a0 * c1) (max (a1 * c0) (a1 * c1)))) gp
    have yz : 0 ≤ y * z := Int.le_of_lt (Int.mul_pos h.p k.p)
    refine ⟨_, worth2 h.sP h.sy k.sP k.sy, lies_eq g1 g2 (h.sP.mul k.sP) (h.sy.mul k.sy) s0 s1 (by decide) (by decide) (by decide) (by decide) (by decide) (by decide) ?_ ?_⟩
    · generalize min (a0 * c0) (min (a0 * c1) (min (a1 * c0) (a1 * c1))) = m at *
      have e1 := Int.mul_le_mul_of_nonneg_right f1 yz
      refine Int.le_of_mul_le_mul_right (a := g) ?_ gp
      have e2 : m / g * (y * z) * g = m / g * g * (y * z) := by grind
      have e3 : P * Q * g * g = P * g * (Q * g) := by grind
      omega
    · generalize max (a0 * c0) (max (a0 * c1) (max (a1 * c0) (a1 * c1))) = m at *
      have e1 := Int.mul_le_mul_of_nonneg_right f2 yz
      refine Int.le_of_mul_le_mul_right (a := g) ?_ gp
      have e2 : -(-m / g) * (y * z) * g = -(-m / g) * g * (y * z) := by grind
      have e3 : P * Q * g * g = P * g * (Q * g) := by grind
      omega
  · refine tight_of (fun p q => (p.1 * q.1, p.2 * q.2)) hp g1 g2 sa0 sa1 sc0 sc1 (s0.mono (by decide)) (s1.mono (by decide)) (fun z => by omega) (fun e u f v q1 q2 q3 q4 _ _ _ => ⟨worth2 q1 q2 q3 q4, (q1.mul q3).mono (by decide), (q2.mul q4).mono (by decide)⟩) ?_ ?_
    · have f1 := floor_lt (m := min (a0 * c0) (min (a0 * c1) (min (a1 * c0) (a1 * c1)))) gp
      have key : ∀ x, x = min (a0 * c0) (min (a0 * c1) (min (a1 * c0) (a1 * c1))) → x * g < (min (a0 * c0) (min (a0 * c1) (min (a1 * c0) (a1 * c1))) / g + 1) * (g * g) := fun x hx => by
        rw [← hx] at f1 ⊢
        have := Int.mul_lt_mul_of_pos_right f1 gp
        rw [← Int.mul_assoc]
        exact this
      have cs : a0 * c0 = min (a0 * c0) (min (a0 * c1) (min (a1 * c0) (a1 * c1))) ∨ a0 * c1 = min (a0 * c0) (min (a0 * c1) (min (a1 * c0) (a1 * c1))) ∨ a1 * c0 = min (a0 * c0) (min (a0 * c1) (min (a1 * c0) (a1 * c1))) ∨ a1 * c1 = min (a0 * c0) (min (a0 * c1) (min (a1 * c0) (a1 * c1))) := by omega
      rcases cs with h | h | h | h
      · exact ⟨_, _, _, _, ends0, ends0, key _ h⟩
      · exact ⟨_, _, _, _, ends0, ends1, key _ h⟩
      · exact ⟨_, _, _, _, ends1, ends0, key _ h⟩
      · exact ⟨_, _, _, _, ends1, ends1, key _ h⟩
    · have f1 := ceil_lt (m := max (a0 * c0) (max (a0 * c1) (max (a1 * c0) (a1 * c1)))) gp
      have key : ∀ x, x = max (a0 * c0) (max (a0 * c1) (max (a1 * c0) (a1 * c1))) → (-((-(max (a0 * c0) (max (a0 * c1) (max (a1 * c0) (a1 * c1))))) / g) - 1) * (g * g) < x * g := fun x hx => by
        rw [← hx] at f1 ⊢
        have := Int.mul_lt_mul_of_pos_right f1 gp
        rw [← Int.mul_assoc]
        exact this
      have cs : a0 * c0 = max (a0 * c0) (max (a0 * c1) (max (a1 * c0) (a1 * c1))) ∨ a0 * c1 = max (a0 * c0) (max (a0 * c1) (max (a1 * c0) (a1 * c1))) ∨ a1 * c0 = max (a0 * c0) (max (a0 * c1) (max (a1 * c0) (a1 * c1))) ∨ a1 * c1 = max (a0 * c0) (max (a0 * c1) (max (a1 * c0) (a1 * c1))) := by omega
      rcases cs with h | h | h | h
      · exact ⟨_, _, _, _, ends0, ends0, key _ h⟩
      · exact ⟨_, _, _, _, ends0, ends1, key _ h⟩
      · exact ⟨_, _, _, _, ends1, ends0, key _ h⟩
      · exact ⟨_, _, _, _, ends1, ends1, key _ h⟩
omit ho hp sa0 sa1 sc0 sc1 g2 in
theorem over_key {x c d m B t : Int} (hB : B = c * d) (hm : x * d = m) (f : g * m < t * B) : (0 < d → x * g * g < t * (g * c)) ∧ (d < 0 → -x * g * g < t * (-g * c)) := by
  have gp : 0 < g := by omega
  have f2 := Int.mul_lt_mul_of_pos_right f gp
  subst hB hm
  refine ⟨fun hd => ?_, fun hd => ?_⟩
  · apply Int.lt_of_not_ge
    intro z
    have k := Int.mul_le_mul_of_nonneg_right z (Int.le_of_lt hd)
    have e1 : t * (g * c) * d = t * (c * d) * g := by grind
    have e2 : x * g * g * d = g * (x * d) * g := by grind
    omega
  · apply Int.lt_of_not_ge
    intro z
    have k := Int.mul_le_mul_of_nonneg_right z (show 0 ≤ -d by omega)
    have e1 : t * (-g * c) * -d = t * (c * d) * g := by grind
    have e2 : -x * g * g * -d = g * (x * d) * g := by grind
    omega
omit ho hp sa0 sa1 sc0 sc1 g2 in
theorem over_key' {x c d m B t : Int} (hB : B = c * d) (hm : x * d = m) (f : t * B < g * m) : (0 < d → t * (g * c) < x * g * g) ∧ (d < 0 → t * (-g * c) < -x * g * g) := by
  have gp : 0 < g := by omega
  have f2 := Int.mul_lt_mul_of_pos_right f gp
  subst hB hm
  refine ⟨fun hd => ?_, fun hd => ?_⟩
  · apply Int.lt_of_not_ge
    intro z
    have k := Int.mul_le_mul_of_nonneg_right z (Int.le_of_lt hd)
    have e1 : t * (g * c) * d = t * (c * d) * g := by grind
    have e2 : x * g * g * d = g * (x * d) * g := by grind
    omega
  · apply Int.lt_of_not_ge
    intro z
    have k := Int.mul_le_mul_of_nonneg_right z (show 0 ≤ -d by omega)
    have e1 : t * (-g * c) * -d = t * (c * d) * g := by grind
    have e2 : -x * g * g * -d = g * (x * d) * g := by grind
    omega
theorem deed3 (hn : ¬ (c0 ≤ 0 ∧ 0 ≤ c1)) : Deed 3 g a0 a1 c0 c1 n (g * min (a0 * c1) (min (a0 * c0) (min (a1 * c1) (a1 * c0))) / (c0 * c1)) (-((-(g * max (a0 * c1) (max (a0 * c0) (max (a1 * c1) (a1 * c0))))) / (c0 * c1))) := by
  have gp : 0 < g := by omega
  have sg : Sz 30 g := by unfold Sz; omega
  have hB : 0 < c0 * c1 := by
    by_cases h : 0 < c0
    · exact Int.mul_pos h (by omega)
    · exact Int.mul_pos_of_neg_of_neg (by omega) (by omega)
  have m00 := sa0.mul sc0
  have m01 := sa0.mul sc1
  have m10 := sa1.mul sc0
  have m11 := sa1.mul sc1
  have s0 := ((sg.mul (m01.min (m00.min (m11.min m10)))).div (c0 * c1))
  have s1 := ((sg.mul (m01.max (m00.max (m11.max m10)))).neg.div (c0 * c1)).neg
  have f1 := Int.ediv_mul_le (g * min (a0 * c1) (min (a0 * c0) (min (a1 * c1) (a1 * c0)))) (show c0 * c1 ≠ 0 by omega)
  have f2 := ceil_ge (m := g * max (a0 * c1) (max (a0 * c0) (max (a1 * c1) (a1 * c0)))) hB
  have f3 := floor_lt (m := g * min (a0 * c1) (min (a0 * c0) (min (a1 * c1) (a1 * c0)))) hB
  have f4 := ceil_lt (m := g * max (a0 * c1) (max (a0 * c0) (max (a1 * c1) (a1 * c0)))) hB
  have lo4 : ∀ {U V y z : Int}, 0 < y → 0 < z → a0 * y ≤ U → U ≤ a1 * y → c0 * z ≤ V → V ≤ c1 * z → min (a0 * c1) (min (a0 * c0) (min (a1 * c1) (a1 * c0))) * (y * z) ≤ U * V ∧ U * V ≤ max (a0 * c1) (max (a0 * c0) (max (a1 * c1) (a1 * c0))) * (y * z) := fun hy hz h0 h1 k0 k1 => by
    have b1 := bil_lo hy hz h0 h1 k0 k1
    have b2 := bil_hi hy hz h0 h1 k0 k1
    rw [show min (a0 * c1) (min (a0 * c0) (min (a1 * c1) (a1 * c0))) = min (a0 * c0) (min (a0 * c1) (min (a1 * c0) (a1 * c1))) by omega, show max (a0 * c1) (max (a0 * c0) (max (a1 * c1) (a1 * c0))) = max (a0 * c0) (max (a0 * c1) (max (a1 * c0) (a1 * c1))) by omega]
    exact ⟨b1, b2⟩
  have csL : ∀ m, m = min (a0 * c1) (min (a0 * c0) (min (a1 * c1) (a1 * c0))) → a0 * c1 = m ∨ a0 * c0 = m ∨ a1 * c1 = m ∨ a1 * c0 = m := fun m h => by omega
  have csH : ∀ m, m = max (a0 * c1) (max (a0 * c0) (max (a1 * c1) (a1 * c0))) → a0 * c1 = m ∨ a0 * c0 = m ∨ a1 * c1 = m ∨ a1 * c0 = m := fun m h => by omega
  refine ⟨by simp [f__law_found, s__law_found, over_eq g1 g2 ho hp sa0 sa1 sc0 sc1 hn], fun P y Q z h k => ?_, ?_⟩
  · generalize hmn : min (a0 * c1) (min (a0 * c0) (min (a1 * c1) (a1 * c0))) = mn at *
    generalize hmx : max (a0 * c1) (max (a0 * c0) (max (a1 * c1) (a1 * c0))) = mx at *
    generalize g * mn / (c0 * c1) = t0 at *
    generalize -(-(g * mx) / (c0 * c1)) = t1 at *
    by_cases c : 0 < c0
    · have qp : 0 < Q := by
        have := Int.mul_pos c k.p
        have : 0 < Q * g := by have := k.l; omega
        exact Int.pos_of_mul_pos_left this gp
      have b := lo4 h.p (Int.mul_pos qp gp) h.l h.h (V := c0 * c1 * z) (by have := Int.mul_le_mul_of_nonneg_left k.h (Int.le_of_lt c); grind) (by have := Int.mul_le_mul_of_nonneg_left k.l (show 0 ≤ c1 by omega); grind)
      have yq : 0 ≤ y * Q := Int.le_of_lt (Int.mul_pos h.p qp)
      refine ⟨_, worth3p h.sP h.sy k.sP k.sy (Int.le_of_lt qp), lies_eq g1 g2 (h.sP.mul k.sy) (h.sy.mul k.sP) s0 s1 (by decide) (by decide) (by decide) (by decide) (by decide) (by decide) ?_ ?_⟩
      · refine Int.le_of_mul_le_mul_right (a := c0 * c1) ?_ hB
        have e1 := Int.mul_le_mul_of_nonneg_right f1 yq
        have e2 : t0 * (y * Q) * (c0 * c1) = t0 * (c0 * c1) * (y * Q) := by grind
        have e3 : P * z * g * (c0 * c1) = P * g * (c0 * c1 * z) := by grind
        have e4 : g * mn * (y * Q) = mn * (y * (Q * g)) := by grind
        have := b.1
        omega
      · refine Int.le_of_mul_le_mul_right (a := c0 * c1) ?_ hB
        have e1 := Int.mul_le_mul_of_nonneg_right f2 yq
        have e2 : t1 * (y * Q) * (c0 * c1) = t1 * (c0 * c1) * (y * Q) := by grind
        have e3 : P * z * g * (c0 * c1) = P * g * (c0 * c1 * z) := by grind
        have e4 : g * mx * (y * Q) = mx * (y * (Q * g)) := by grind
        have := b.2
        omega
    · have c1n : c1 < 0 := by omega
      have qn : Q < 0 := by
        have : c1 * z < 0 := Int.mul_neg_of_neg_of_pos c1n k.p
        have : Q * g < 0 := by have := k.h; omega
        apply Int.lt_of_not_ge
        intro w
        have := Int.mul_nonneg w (Int.le_of_lt gp)
        omega
      have b := lo4 h.p (Int.mul_pos (show 0 < -Q by omega) gp) h.l h.h (V := -(c0 * c1 * z)) (by have := Int.mul_le_mul_of_nonpos_left (show c0 ≤ 0 by omega) k.h; grind) (by have := Int.mul_le_mul_of_nonpos_left (show c1 ≤ 0 by omega) k.l; grind)
      have yq : 0 ≤ -y * Q := by have := Int.mul_pos h.p (show 0 < -Q by omega); grind
      refine ⟨_, worth3n h.sP h.sy k.sP k.sy qn, lies_eq g1 g2 (h.sP.neg.mul k.sy) (h.sy.neg.mul k.sP) s0 s1 (by decide) (by decide) (by decide) (by decide) (by decide) (by decide) ?_ ?_⟩
      · refine Int.le_of_mul_le_mul_right (a := c0 * c1) ?_ hB
        have e1 := Int.mul_le_mul_of_nonneg_right f1 yq
        have e2 : t0 * (-y * Q) * (c0 * c1) = t0 * (c0 * c1) * (-y * Q) := by grind
        have e3 : -P * z * g * (c0 * c1) = P * g * -(c0 * c1 * z) := by grind
        have e4 : g * mn * (-y * Q) = mn * (y * (-Q * g)) := by grind
        have := b.1
        omega
      · refine Int.le_of_mul_le_mul_right (a := c0 * c1) ?_ hB
        have e1 := Int.mul_le_mul_of_nonneg_right f2 yq
        have e2 : t1 * (-y * Q) * (c0 * c1) = t1 * (c0 * c1) * (-y * Q) := by grind
        have e3 : -P * z * g * (c0 * c1) = P * g * -(c0 * c1 * z) := by grind
        have e4 : g * mx * (-y * Q) = mx * (y * (-Q * g)) := by grind
        have := b.2
        omega
  · refine tight_of (fun p q => if 0 ≤ q.1 then (p.1 * q.2, p.2 * q.1) else (-p.1 * q.2, -p.2 * q.1)) hp g1 g2 sa0 sa1 sc0 sc1 (s0.mono (by decide)) (s1.mono (by decide)) (fun _ => hn) (fun e u f v q1 q2 q3 q4 _ _ _ => ?_) ?_ ?_
    · by_cases w : 0 ≤ f
      · simp only [w, if_true]
        exact ⟨worth3p q1 q2 q3 q4 w, (q1.mul q4).mono (by decide), (q2.mul q3).mono (by decide)⟩
      · simp only [w, if_false]
        exact ⟨worth3n q1 q2 q3 q4 (by omega), (q1.neg.mul q4).mono (by decide), (q2.neg.mul q3).mono (by decide)⟩
    · have key : ∀ x c d, (c = c0 ∧ d = c1 ∨ c = c1 ∧ d = c0) → x * d = min (a0 * c1) (min (a0 * c0) (min (a1 * c1) (a1 * c0))) → ((fun p q => if 0 ≤ q.1 then (p.1 * q.2, p.2 * q.1) else (-p.1 * q.2, -p.2 * q.1) : Int × Int → Int × Int → Int × Int) (x, g) (c, g)).1 * g < (g * min (a0 * c1) (min (a0 * c0) (min (a1 * c1) (a1 * c0))) / (c0 * c1) + 1) * ((fun p q => if 0 ≤ q.1 then (p.1 * q.2, p.2 * q.1) else (-p.1 * q.2, -p.2 * q.1) : Int × Int → Int × Int → Int × Int) (x, g) (c, g)).2 := fun x c d hcd hx => by
        have kk := over_key g1 (show c0 * c1 = c * d by rcases hcd with ⟨rfl, rfl⟩ | ⟨rfl, rfl⟩ <;> grind) hx f3
        by_cases w : 0 ≤ c
        · simp only [w, if_true]
          exact kk.1 (by omega)
        · simp only [w, if_false]
          exact kk.2 (by omega)
      rcases csL _ rfl with h | h | h | h
      · exact ⟨_, _, _, _, ends0, ends0, key _ _ _ (.inl ⟨rfl, rfl⟩) h⟩
      · exact ⟨_, _, _, _, ends0, ends1, key _ _ _ (.inr ⟨rfl, rfl⟩) h⟩
      · exact ⟨_, _, _, _, ends1, ends0, key _ _ _ (.inl ⟨rfl, rfl⟩) h⟩
      · exact ⟨_, _, _, _, ends1, ends1, key _ _ _ (.inr ⟨rfl, rfl⟩) h⟩
    · have key : ∀ x c d, (c = c0 ∧ d = c1 ∨ c = c1 ∧ d = c0) → x * d = max (a0 * c1) (max (a0 * c0) (max (a1 * c1) (a1 * c0))) → (-((-(g * max (a0 * c1) (max (a0 * c0) (max (a1 * c1) (a1 * c0))))) / (c0 * c1)) - 1) * ((fun p q => if 0 ≤ q.1 then (p.1 * q.2, p.2 * q.1) else (-p.1 * q.2, -p.2 * q.1) : Int × Int → Int × Int → Int × Int) (x, g) (c, g)).2 < ((fun p q => if 0 ≤ q.1 then (p.1 * q.2, p.2 * q.1) else (-p.1 * q.2, -p.2 * q.1) : Int × Int → Int × Int → Int × Int) (x, g) (c, g)).1 * g := fun x c d hcd hx => by
        have kk := over_key' g1 (show c0 * c1 = c * d by rcases hcd with ⟨rfl, rfl⟩ | ⟨rfl, rfl⟩ <;> grind) hx f4
        by_cases w : 0 ≤ c
        · simp only [w, if_true]
          exact kk.1 (by omega)
        · simp only [w, if_false]
          exact kk.2 (by omega)
      rcases csH _ rfl with h | h | h | h
      · exact ⟨_, _, _, _, ends0, ends0, key _ _ _ (.inl ⟨rfl, rfl⟩) h⟩
      · exact ⟨_, _, _, _, ends0, ends1, key _ _ _ (.inr ⟨rfl, rfl⟩) h⟩
      · exact ⟨_, _, _, _, ends1, ends0, key _ _ _ (.inl ⟨rfl, rfl⟩) h⟩
      · exact ⟨_, _, _, _, ends1, ends1, key _ _ _ (.inr ⟨rfl, rfl⟩) h⟩
omit g1 g2 ho hp sa0 sa1 sc0 sc1 in
theorem up_other {P y Q z t : Int} (hy : 0 < y) (hz : 0 < z) (h : P * z ≤ Q * y) (k : Q * g ≤ t * z) (gp : 0 < g) : P * g ≤ t * y := by
  refine Int.le_of_mul_le_mul_right (a := z) ?_ hz
  have e1 := Int.mul_le_mul_of_nonneg_right h (Int.le_of_lt gp)
  have e2 := Int.mul_le_mul_of_nonneg_right k (Int.le_of_lt hy)
  have e3 : P * g * z = P * z * g := by grind
  have e4 : t * y * z = t * z * y := by grind
  have e5 : Q * y * g = Q * g * y := by grind
  omega
omit g1 g2 ho hp sa0 sa1 sc0 sc1 in
theorem dn_other {P y Q z t : Int} (hy : 0 < y) (hz : 0 < z) (h : Q * y ≤ P * z) (k : t * z ≤ Q * g) (gp : 0 < g) : t * y ≤ P * g := by
  refine Int.le_of_mul_le_mul_right (a := z) ?_ hz
  have e1 := Int.mul_le_mul_of_nonneg_right h (Int.le_of_lt gp)
  have e2 := Int.mul_le_mul_of_nonneg_right k (Int.le_of_lt hy)
  have e3 : P * g * z = P * z * g := by grind
  have e4 : t * y * z = t * z * y := by grind
  have e5 : Q * y * g = Q * g * y := by grind
  omega
omit g1 g2 ho hp sa0 sa1 sc0 sc1 in
theorem le_scale {a b y : Int} (h : a ≤ b) (hy : 0 < y) : a * y ≤ b * y := Int.mul_le_mul_of_nonneg_right h (Int.le_of_lt hy)
theorem deed4 : Deed 4 g a0 a1 c0 c1 n (min a0 c0) (min a1 c1) := by
  have gp : 0 < g := by omega
  have s0 := sa0.min sc0
  have s1 := sa1.min sc1
  refine ⟨by simp [f__law_found, s__law_found, least_eq g1 g2 ho hp], fun P y Q z h k => ?_, ?_⟩
  · have w := worth4 (N := .int n) h.sP h.sy k.sP k.sy
    by_cases c : P * z < Q * y
    · rw [if_pos c] at w
      refine ⟨_, w, lies_eq g1 g2 h.sP h.sy s0 s1 (by decide) (by decide) (by decide) (by decide) (by decide) (by decide) ?_ ?_⟩
      · exact Int.le_trans (le_scale (Int.min_le_left _ _) h.p) h.l
      · have u := up_other (g := g) h.p k.p (Int.le_of_lt c) k.h gp
        by_cases m : a1 ≤ c1
        · rw [Int.min_eq_left m]; exact h.h
        · rw [Int.min_eq_right (by omega)]; exact u
    · rw [if_neg c] at w
      refine ⟨_, w, lies_eq g1 g2 k.sP k.sy s0 s1 (by decide) (by decide) (by decide) (by decide) (by decide) (by decide) ?_ ?_⟩
      · exact Int.le_trans (le_scale (Int.min_le_right _ _) k.p) k.l
      · have u := up_other (g := g) k.p h.p (Int.not_lt.mp c) h.h gp
        by_cases m : a1 ≤ c1
        · rw [Int.min_eq_left m]; exact u
        · rw [Int.min_eq_right (by omega)]; exact k.h
  · refine tight_of (fun p q => if p.1 * q.2 < q.1 * p.2 then p else q) hp g1 g2 sa0 sa1 sc0 sc1 (s0.mono (by decide)) (s1.mono (by decide)) (fun z => by omega) (fun e u f v q1 q2 q3 q4 _ _ _ => ?_) ⟨_, _, _, _, ends0, ends0, ?_⟩ ⟨_, _, _, _, ends1, ends1, ?_⟩
    · have w := worth4 (N := .int n) q1 q2 q3 q4
      by_cases c : e * v < f * u
      · rw [if_pos c] at w
        simp only [c, if_true]
        exact ⟨w, q1.mono (by decide), q2.mono (by decide)⟩
      · rw [if_neg c] at w
        simp only [c, if_false]
        exact ⟨w, q3.mono (by decide), q4.mono (by decide)⟩
    · by_cases c : a0 * g < c0 * g
      · have := Int.lt_of_mul_lt_mul_right c (Int.le_of_lt gp)
        simp only [c, if_true]
        rw [Int.min_eq_left (by omega)]
        exact Int.mul_lt_mul_of_pos_right (by omega) gp
      · have := Int.le_of_mul_le_mul_right (Int.not_lt.mp c) gp
        simp only [c, if_false]
        rw [Int.min_eq_right (by omega)]
        exact Int.mul_lt_mul_of_pos_right (by omega) gp
    · by_cases c : a1 * g < c1 * g
      · have := Int.lt_of_mul_lt_mul_right c (Int.le_of_lt gp)
        simp only [c, if_true]
        rw [Int.min_eq_left (by omega)]
        exact Int.mul_lt_mul_of_pos_right (by omega) gp
      · have := Int.le_of_mul_le_mul_right (Int.not_lt.mp c) gp
        simp only [c, if_false]
        rw [Int.min_eq_right (by omega)]
        exact Int.mul_lt_mul_of_pos_right (by omega) gp
theorem deed5 : Deed 5 g a0 a1 c0 c1 n (max a0 c0) (max a1 c1) := by
  have gp : 0 < g := by omega
  have s0 := sa0.max sc0
  have s1 := sa1.max sc1
  refine ⟨by simp [f__law_found, s__law_found, most_eq g1 g2 ho hp], fun P y Q z h k => ?_, ?_⟩
  · have w := worth5 (N := .int n) h.sP h.sy k.sP k.sy
    by_cases c : P * z < Q * y
    · rw [if_pos c] at w
      refine ⟨_, w, lies_eq g1 g2 k.sP k.sy s0 s1 (by decide) (by decide) (by decide) (by decide) (by decide) (by decide) ?_ ?_⟩
      · have u := dn_other (g := g) k.p h.p (Int.le_of_lt c) h.l gp
        by_cases m : a0 ≤ c0
        · rw [Int.max_eq_right m]; exact k.l
        · rw [Int.max_eq_left (by omega)]; exact u
      · exact Int.le_trans k.h (le_scale (Int.le_max_right _ _) k.p)
    · rw [if_neg c] at w
      refine ⟨_, w, lies_eq g1 g2 h.sP h.sy s0 s1 (by decide) (by decide) (by decide) (by decide) (by decide) (by decide) ?_ ?_⟩
      · have u := dn_other (g := g) h.p k.p (Int.not_lt.mp c) k.l gp
        by_cases m : a0 ≤ c0
        · rw [Int.max_eq_right m]; exact u
        · rw [Int.max_eq_left (by omega)]; exact h.l
      · exact Int.le_trans h.h (le_scale (Int.le_max_left _ _) h.p)
  · refine tight_of (fun p q => if p.1 * q.2 < q.1 * p.2 then q else p) hp g1 g2 sa0 sa1 sc0 sc1 (s0.mono (by decide)) (s1.mono (by decide)) (fun z => by omega) (fun e u f v q1 q2 q3 q4 _ _ _ => ?_) ⟨_, _, _, _, ends0, ends0, ?_⟩ ⟨_, _, _, _, ends1, ends1, ?_⟩
    · have w := worth5 (N := .int n) q1 q2 q3 q4
      by_cases c : e * v < f * u
      · rw [if_pos c] at w
        simp only [c, if_true]
        exact ⟨w, q3.mono (by decide), q4.mono (by decide)⟩
      · rw [if_neg c] at w
        simp only [c, if_false]
        exact ⟨w, q1.mono (by decide), q2.mono (by decide)⟩
    · by_cases c : a0 * g < c0 * g
      · have := Int.lt_of_mul_lt_mul_right c (Int.le_of_lt gp)
        simp only [c, if_true]
        rw [Int.max_eq_right (by omega)]
        exact Int.mul_lt_mul_of_pos_right (by omega) gp
      · have := Int.le_of_mul_le_mul_right (Int.not_lt.mp c) gp
        simp only [c, if_false]
        rw [Int.max_eq_left (by omega)]
        exact Int.mul_lt_mul_of_pos_right (by omega) gp
    · by_cases c : a1 * g < c1 * g
      · have := Int.lt_of_mul_lt_mul_right c (Int.le_of_lt gp)
        simp only [c, if_true]
        rw [Int.max_eq_right (by omega)]
        exact Int.mul_lt_mul_of_pos_right (by omega) gp
      · have := Int.le_of_mul_le_mul_right (Int.not_lt.mp c) gp
        simp only [c, if_false]
        rw [Int.max_eq_left (by omega)]
        exact Int.mul_lt_mul_of_pos_right (by omega) gp
theorem deed6z : Deed 6 g a0 a1 c0 c1 0 g g := by
  have sg : Sz 30 g := by unfold Sz; omega
  refine ⟨by simp [f__law_found, s__law_found, power0 g1 g2 ho sa0 sa1], fun P y Q z h k => ?_, ?_⟩
  · exact ⟨_, worth6 h.sP h.sy k.sP k.sy 0 (by decide), lies_eq g1 g2 ((h.sP.pow 0).mono (n := 1) (by decide)) ((h.sy.pow 0).mono (n := 1) (by decide)) sg sg (by decide) (by decide) (by decide) (by decide) (by decide) (by decide) (by simp) (by simp)⟩
  · refine tight_of (fun p q => (p.1 ^ 0, p.2 ^ 0)) hp g1 g2 sa0 sa1 sc0 sc1 (sg.mono (by decide)) (sg.mono (by decide)) (fun z => by omega) (fun e u f v q1 q2 q3 q4 _ _ _ => ⟨worth6 q1 q2 q3 q4 0 (by decide), (q1.pow 0).mono (by decide), (q2.pow 0).mono (by decide)⟩) ⟨_, _, _, _, ends0, ends0, ?_⟩ ⟨_, _, _, _, ends1, ends1, ?_⟩
    · simp; omega
    · simp; omega
theorem deed6 (hn : n ≤ 8) (h0 : n ≠ 0) : Deed 6 g a0 a1 c0 c1 n ((if (n : Int) % 2 = 0 ∧ a0 ≤ 0 ∧ 0 ≤ a1 then 0 else min (a0 ^ n) (a1 ^ n)) / g ^ (n - 1)) (-((-(max (a0 ^ n) (a1 ^ n))) / g ^ (n - 1))) := by
  have gp : 0 < g := by omega
  have sg : Sz 30 g := by unfold Sz; omega
  have hB : 0 < g ^ (n - 1) := Int.pow_pos gp
  have eg : g ^ n = g ^ (n - 1) * g := by rw [← Int.pow_succ]; congr 1; omega
  have q0 := sa0.pow n
  have q1 := sa1.pow n
  have sL : Sz 1000 (if (n : Int) % 2 = 0 ∧ a0 ≤ 0 ∧ 0 ≤ a1 then 0 else min (a0 ^ n) (a1 ^ n)) := by
    split
    · unfold Sz; exact Nat.pow_pos (by decide)
    · exact (q0.min q1).mono (by omega)
  have sH : Sz 1000 (max (a0 ^ n) (a1 ^ n)) := (q0.max q1).mono (by omega)
  have s0 := sL.div (g ^ (n - 1))
  have s1 := (sH.neg.div (g ^ (n - 1))).neg
  have f1 := Int.ediv_mul_le (if (n : Int) % 2 = 0 ∧ a0 ≤ 0 ∧ 0 ≤ a1 then 0 else min (a0 ^ n) (a1 ^ n)) (show g ^ (n - 1) ≠ 0 by omega)
  have f2 := ceil_ge (m := max (a0 ^ n) (a1 ^ n)) hB
  have f3 := floor_lt (m := if (n : Int) % 2 = 0 ∧ a0 ≤ 0 ∧ 0 ≤ a1 then 0 else min (a0 ^ n) (a1 ^ n)) hB
  have f4 := ceil_lt (m := max (a0 ^ n) (a1 ^ n)) hB
  refine ⟨by simp only [f__law_found, s__law_found]; simp [power_eq g1 g2 ho sa0 sa1 n hn h0], fun P y Q z h k => ?_, ?_⟩
  · have b1 := pow_lo h.p h.l h.h n
    have b2 := pow_hi h.p h.l h.h n
    have yn : 0 ≤ y ^ n := pow_nn (Int.le_of_lt h.p) n
    rw [Int.mul_pow, eg] at b1 b2
    refine ⟨_, worth6 h.sP h.sy k.sP k.sy n hn, lies_eq g1 g2 ((h.sP.pow n).mono (n := 2100) (by omega)) ((h.sy.pow n).mono (n := 2100) (by omega)) s0 s1 (by decide) (by decide) (by decide) (by decide) (by decide) (by decide) ?_ ?_⟩
    · refine Int.le_of_mul_le_mul_right (a := g ^ (n - 1)) ?_ hB
      have e1 := Int.mul_le_mul_of_nonneg_right f1 yn
      generalize (if (n : Int) % 2 = 0 ∧ a0 ≤ 0 ∧ 0 ≤ a1 then 0 else min (a0 ^ n) (a1 ^ n)) = L at *
      generalize g ^ (n - 1) = B at *
      have e2 : L / B * y ^ n * B = L / B * B * y ^ n := by grind
      have e3 : P ^ n * g * B = P ^ n * (B * g) := by grind
      omega
    · refine Int.le_of_mul_le_mul_right (a := g ^ (n - 1)) ?_ hB
      have e1 := Int.mul_le_mul_of_nonneg_right f2 yn
      generalize max (a0 ^ n) (a1 ^ n) = L at *
      generalize g ^ (n - 1) = B at *
      have e2 : -(-L / B) * y ^ n * B = -(-L / B) * B * y ^ n := by grind
      have e3 : P ^ n * g * B = P ^ n * (B * g) := by grind
      omega
  · refine tight_of (fun p q => (p.1 ^ n, p.2 ^ n)) hp g1 g2 sa0 sa1 sc0 sc1 (s0.mono (by decide)) (s1.mono (by decide)) (fun z => by omega) (fun e u f v q1 q2 q3 q4 _ _ _ => ⟨worth6 q1 q2 q3 q4 n hn, (q1.pow n).mono (by omega), (q2.pow n).mono (by omega)⟩) ?_ ?_
    · by_cases s : (n : Int) % 2 = 0 ∧ a0 ≤ 0 ∧ 0 ≤ a1
      · refine ⟨_, _, _, _, endsz s.2, ends0, ?_⟩
        rw [if_pos s, Int.zero_ediv]
        have : (0 : Int) ^ n = 0 := Int.zero_pow h0
        have : (1 : Int) ^ n = 1 := Int.one_pow
        simp only [*]
        omega
      · rw [if_neg s] at f3 ⊢
        have key : ∀ x, x = min (a0 ^ n) (a1 ^ n) → x * g < (min (a0 ^ n) (a1 ^ n) / g ^ (n - 1) + 1) * g ^ n := fun x hx => by
          rw [← hx] at f3 ⊢
          rw [eg, ← Int.mul_assoc]
          exact Int.mul_lt_mul_of_pos_right f3 gp
        by_cases m : a0 ^ n ≤ a1 ^ n
        · exact ⟨_, _, _, _, ends0, ends0, key _ (Int.min_eq_left m).symm⟩
        · have mm : min (a0 ^ n) (a1 ^ n) = a1 ^ n := Int.min_eq_right (by omega)
          exact ⟨_, _, _, _, ends1, ends0, key _ mm.symm⟩
    · have key : ∀ x, x = max (a0 ^ n) (a1 ^ n) → (-((-(max (a0 ^ n) (a1 ^ n))) / g ^ (n - 1)) - 1) * g ^ n < x * g := fun x hx => by
        rw [← hx] at f4 ⊢
        rw [eg, ← Int.mul_assoc]
        exact Int.mul_lt_mul_of_pos_right f4 gp
      by_cases m : a0 ^ n ≤ a1 ^ n
      · exact ⟨_, _, _, _, ends1, ends0, key _ (Int.max_eq_right m).symm⟩
      · have mm : max (a0 ^ n) (a1 ^ n) = a0 ^ n := Int.max_eq_left (by omega)
        exact ⟨_, _, _, _, ends0, ends0, key _ mm.symm⟩
end
theorem inside_ok {g a0 a1 : Int} (c : Int) (g1 : 1 ≤ g) (g2 : g ≤ 1000000000) (ho : a0 ≤ a1) (sa0 : Sz 110 a0) (sa1 : Sz 110 a1) : ∃ P y, f__law_inside (.int c) (.int g) (pr a0 a1) = .ok (pr P y) ∧ InS g a0 a1 P y := by
  have e1 := mixed_eq c 61 (by decide) (by decide)
  have n1 := mixV_nn c 61
  generalize mixV c 61 = m at *
  have sg : Sz 30 g := by unfold Sz; omega
  have hd : ∀ i j : Int, 0 < j → j < 100 → CDivW i j := fun i j h k => divOk_lit h (by omega)
  have d5 := hd m 5 (by decide) (by decide)
  have d40 := hd m 40 (by decide) (by decide)
  have d70 := hd m 70 (by decide) (by decide)
  have d4 := hd m 4 (by decide) (by decide)
  obtain ⟨v, hv, ev⟩ := atI_mem [D.int 1, .int 2, .int 7, .int (1 + m / 5 % 1000)] (m % 4) (by omega) (by simp; omega)
  have key : ∃ i, v = .int i ∧ 1 ≤ i ∧ i ≤ 1000 := by
    simp only [List.mem_cons, List.not_mem_nil, or_false] at hv
    rcases hv with rfl | rfl | rfl | rfl <;> refine ⟨_, rfl, ?_, ?_⟩ <;> omega
  obtain ⟨bt, rfl, b1, b2⟩ := key
  obtain ⟨v, hv, ev2⟩ := atI_mem [D.int 0, .int bt, .int (m / 40 % (bt + 1)), .int (m / 70 % (bt + 1))] (m / 4 % 4) (by omega) (by simp; omega)
  have key : ∃ i, v = .int i ∧ 0 ≤ i ∧ i ≤ bt := by
    have r1 := Int.emod_nonneg (m / 40) (show bt + 1 ≠ 0 by omega)
    have r2 := Int.emod_lt_of_pos (m / 40) (show 0 < bt + 1 by omega)
    have r3 := Int.emod_nonneg (m / 70) (show bt + 1 ≠ 0 by omega)
    have r4 := Int.emod_lt_of_pos (m / 70) (show 0 < bt + 1 by omega)
    simp only [List.mem_cons, List.not_mem_nil, or_false] at hv
    rcases hv with rfl | rfl | rfl | rfl <;> refine ⟨_, rfl, ?_, ?_⟩ <;> omega
  obtain ⟨at', rfl, t1, t2⟩ := key
  have sb : Sz 10 bt := by unfold Sz; omega
  have st : Sz 10 at' := by unfold Sz; omega
  have m1 := mulOk_sz sa0 sb
  have m2 := mulOk_sz st (sa1.sub sa0)
  have m3 := mulOk_sz sb sg
  have hb : 0 < bt + 1 := by omega
  refine ⟨a0 * bt + at' * (a1 - a0), bt * g, ?_, Int.mul_pos (by omega) (by omega), ?_, ?_, (((sa0.mul sb).mono (n := 121) (by decide)).add (st.mul (sa1.sub sa0))).mono (by decide), (sb.mul sg).mono (by decide)⟩
  · simp [f__law_inside, s__law_inside, e1, d5, d40, d70, d4, ev, ev2, m1, m2, m3, hb]
  · have k := Int.mul_nonneg (Int.mul_nonneg t1 (show 0 ≤ a1 - a0 by omega)) (show 0 ≤ g by omega)
    have e : (a0 * bt + at' * (a1 - a0)) * g = a0 * (bt * g) + at' * (a1 - a0) * g := by grind
    omega
  · have k := Int.mul_nonneg (Int.mul_nonneg (show 0 ≤ bt - at' by omega) (show 0 ≤ a1 - a0 by omega)) (show 0 ≤ g by omega)
    have e : (a0 * bt + at' * (a1 - a0)) * g = a1 * (bt * g) - (bt - at') * (a1 - a0) * g := by grind
    omega
theorem rng3c : rng1 [.int 3] = .ok [.int 0, .int 1, .int 2] := rfl
theorem rng7c : rng1 [.int 7] = .ok [.int 0, .int 1, .int 2, .int 3, .int 4, .int 5, .int 6] := rfl
theorem loop_list {b : D → SF} (I : Rho → Prop) : ∀ (ds : List D), (∀ d ∈ ds, ∀ ρ, I ρ → ∃ ρ', b d ρ = .nx ρ' ∧ I ρ') → ∀ ρ, I ρ → ∃ ρ', loopS b ds ρ = .nx ρ' ∧ I ρ'
  | [], _, ρ, h => ⟨ρ, rfl, h⟩
  | d :: ds, hb, ρ, h => by
    obtain ⟨ρ1, e1, h1⟩ := hb d List.mem_cons_self ρ h
    obtain ⟨ρ2, e2, h2⟩ := loop_list I ds (fun d hd => hb d (List.mem_cons_of_mem _ hd)) ρ1 h1
    exact ⟨ρ2, by rw [v_loop_cons, e1]; exact e2, h2⟩
theorem deed_all {g a0 a1 c0 c1 : Int} (g1 : 1 ≤ g) (g2 : g ≤ 1000000000) (ho : a0 ≤ a1) (hp : c0 ≤ c1) (sa0 : Sz 110 a0) (sa1 : Sz 110 a1) (sc0 : Sz 110 c0) (sc1 : Sz 110 c1) (n : Nat) (hn : n ≤ 8) {k : Int} (h0 : 0 ≤ k) (h6 : k ≤ 6) (h3 : k = 3 → ¬ (c0 ≤ 0 ∧ 0 ≤ c1)) : ∃ t0 t1, Deed k g a0 a1 c0 c1 n t0 t1 := by
  have : k = 0 ∨ k = 1 ∨ k = 2 ∨ k = 3 ∨ k = 4 ∨ k = 5 ∨ k = 6 := by omega
  rcases this with rfl | rfl | rfl | rfl | rfl | rfl | rfl
  · exact ⟨_, _, deed0 g1 g2 ho hp sa0 sa1 sc0 sc1 n⟩
  · exact ⟨_, _, deed1 g1 g2 ho hp sa0 sa1 sc0 sc1 n⟩
  · exact ⟨_, _, deed2 g1 g2 ho hp sa0 sa1 sc0 sc1 n⟩
  · exact ⟨_, _, deed3 g1 g2 ho hp sa0 sa1 sc0 sc1 n (h3 rfl)⟩
  · exact ⟨_, _, deed4 g1 g2 ho hp sa0 sa1 sc0 sc1 n⟩
  · exact ⟨_, _, deed5 g1 g2 ho hp sa0 sa1 sc0 sc1 n⟩
  · by_cases z : n = 0
    · subst z
      exact ⟨_, _, deed6z g1 g2 ho hp sa0 sa1 sc0 sc1⟩
    · exact ⟨_, _, deed6 g1 g2 ho hp sa0 sa1 sc0 sc1 n hn z⟩
theorem turn_ok {S A K C O N T : D} {m g k j ma mb : Int} {p q w : D} {r11 r12 : Sl} (e1 : f__law_mixed (.int m) (.int (4 + j)) = .ok (.int ma)) (e2 : f__law_mixed (.int m) (.int (8 + j)) = .ok (.int mb)) (hp : f__law_inside (.int ma) (.int g) O = .ok p) (hq : f__law_inside (.int mb) (.int g) A = .ok q) (hw : f__law_worth (.int k) p q N = .ok w) (hl : f__law_lies (.int g) T w = .ok (.bl true)) :
    s_law_b0 [.val S, .val A, .val K, .val C, .val (.int m), .val (.int g), .val O, .val N, .val (.int k), .val T, .val (.int j), r11, r12] = .nx [.val S, .val A, .val K, .val C, .val (.int m), .val (.int g), .val O, .val N, .val (.int k), .val T, .val (.int j), .val p, .val q] := by
  simp [s_law_b0, e1, e2, hp, hq, hw, hl]
theorem skip_ok {S K C O N : D} {m g : Int} {c0 c1 : Int} {r9 r10 r11 r12 : Sl} (h0 : c0 ≤ 0) (h1 : 0 ≤ c1) : s_law_b1 [.val S, .val (pr c0 c1), .val K, .val C, .val (.int m), .val (.int g), .val O, .val N, .val (.int 3), r9, r10, r11, r12] = .nx [.val S, .val (pr c0 c1), .val K, .val C, .val (.int m), .val (.int g), .val O, .val N, .val (.int 3), r9, r10, r11, r12] := by
  simp [s_law_b1, h0, h1]
theorem deed_step {S K C O N T : D} {m g k : Int} {c0 c1 : Int} {r9 r10 r11 r12 : Sl} {ρ' : Rho} (hc : k ≠ 3 ∨ ¬ (c0 ≤ 0 ∧ 0 ≤ c1)) (hf : f__law_found (.int k) (.int g) O (pr c0 c1) N = .ok T) (ht : f__law_is_tight (.int k) (.int g) T O (pr c0 c1) N = .ok (.bl true))
    (hl : loopS (fun d ρ => oS (gN 10 d ρ) s_law_b0) [.int 0, .int 1, .int 2] [.val S, .val (pr c0 c1), .val K, .val C, .val (.int m), .val (.int g), .val O, .val N, .val (.int k), .val T, r10, r11, r12] = .nx ρ') (hρ : ∃ s10 s11 s12, ρ' = [.val S, .val (pr c0 c1), .val K, .val C, .val (.int m), .val (.int g), .val O, .val N, .val (.int k), .val T, s10, s11, s12]) :
    s_law_b1 [.val S, .val (pr c0 c1), .val K, .val C, .val (.int m), .val (.int g), .val O, .val N, .val (.int k), r9, r10, r11, r12] = .nx ρ' := by
  obtain ⟨s10, s11, s12, rfl⟩ := hρ
  simp at hl
  by_cases z : k = 3
  · have hc' := hc.resolve_left (fun w => w z)
    subst z
    by_cases c : c0 ≤ 0
    · have c' : ¬ 0 ≤ c1 := fun w => hc' ⟨c, w⟩
      simp [s_law_b1, c, c', hf, rng3c, hl, ht]
    · simp [s_law_b1, c, hf, rng3c, hl, ht]
  · simp [s_law_b1, z, hf, rng3c, hl, ht]
theorem deeds_ok {S K C : D} {m g a0 a1 c0 c1 : Int} (g1 : 1 ≤ g) (g2 : g ≤ 1000000000) (ho : a0 ≤ a1) (hp : c0 ≤ c1) (sa0 : Sz 110 a0) (sa1 : Sz 110 a1) (sc0 : Sz 110 c0) (sc1 : Sz 110 c1) (n : Nat) (hn : n ≤ 8) (r8 r9 r10 r11 r12 : Sl) : ∃ ρ', loopS (fun d ρ => oS (gN 8 d ρ) s_law_b1) [.int 0, .int 1, .int 2, .int 3, .int 4, .int 5, .int 6] [.val S, .val (pr c0 c1), .val K, .val C, .val (.int m), .val (.int g), .val (pr a0 a1), .val (.int n), r8, r9, r10, r11, r12] = .nx ρ' ∧ ∃ r8 r9 r10 r11 r12, ρ' = [.val S, .val (pr c0 c1), .val K, .val C, .val (.int m), .val (.int g), .val (pr a0 a1), .val (.int n), r8, r9, r10, r11, r12] := by
  refine loop_list (fun ρ => ∃ r8 r9 r10 r11 r12, ρ = [.val S, .val (pr c0 c1), .val K, .val C, .val (.int m), .val (.int g), .val (pr a0 a1), .val (.int n), r8, r9, r10, r11, r12]) _ (fun d hd ρ ⟨r8, r9, r10, r11, r12, e⟩ => ?_) _ ⟨_, _, _, _, _, rfl⟩
  subst e
  have hk : ∃ k, d = .int k ∧ 0 ≤ k ∧ k ≤ 6 := by
    simp only [List.mem_cons, List.not_mem_nil, or_false] at hd
    rcases hd with rfl | rfl | rfl | rfl | rfl | rfl | rfl <;> exact ⟨_, rfl, by decide, by decide⟩
  obtain ⟨k, rfl, k0, k6⟩ := hk
  by_cases hs : k = 3 ∧ c0 ≤ 0 ∧ 0 ≤ c1
  · obtain ⟨rfl, h0, h1⟩ := hs
    exact ⟨_, (enter1 _ _ _ _).trans (skip_ok h0 h1), _, _, _, _, _, rfl⟩
  · obtain ⟨t0, t1, hd⟩ := deed_all g1 g2 ho hp sa0 sa1 sc0 sc1 n hn k0 k6 (fun z w => hs ⟨z, w⟩)
    obtain ⟨ρ', e, hρ⟩ := loop_list (b := fun d ρ => oS (gN 10 d ρ) s_law_b0) (fun ρ => ∃ s10 s11 s12, ρ = [.val S, .val (pr c0 c1), .val K, .val C, .val (.int m), .val (.int g), .val (pr a0 a1), .val (.int n), .val (.int k), .val (pr t0 t1), s10, s11, s12]) [.int 0, .int 1, .int 2] (fun d hd' ρ ⟨s10, s11, s12, e⟩ => by
      subst e
      have hj : ∃ j, d = .int j ∧ 0 ≤ j ∧ j ≤ 2 := by
        simp only [List.mem_cons, List.not_mem_nil, or_false] at hd'
        rcases hd' with rfl | rfl | rfl <;> exact ⟨_, rfl, by decide, by decide⟩
      obtain ⟨j, rfl, j0, j2⟩ := hj
      have e1 := mixed_eq m (4 + j) (by omega) (by omega)
      have e2 := mixed_eq m (8 + j) (by omega) (by omega)
      obtain ⟨P, y, hP, iP⟩ := inside_ok (mixV m (4 + j)) g1 g2 ho sa0 sa1
      obtain ⟨Q, z, hQ, iQ⟩ := inside_ok (mixV m (8 + j)) g1 g2 hp sc0 sc1
      obtain ⟨w, hw, hl⟩ := hd.l P y Q z iP iQ
      exact ⟨_, (enter1 _ _ _ _).trans (turn_ok e1 e2 hP hQ hw hl), _, _, _, rfl⟩) _ ⟨r10, r11, r12, rfl⟩
    have st := deed_step (r9 := r9) (T := pr t0 t1) (k := k) (by by_cases z : k = 3; exact .inr (fun w => hs ⟨z, w⟩); exact .inl z) hd.f hd.t e hρ
    obtain ⟨s10, s11, s12, rfl⟩ := hρ
    exact ⟨_, (enter1 _ _ _ _).trans st, _, _, _, _, _, rfl⟩
def Inv1 (ns : List Int) (ρ : Rho) : Prop := ∃ a b r2 r3 r4 r5 r6 r7 r8 r9 r10 r11 r12, ρ = [.val (.scr ns), .val (pr a b), r2, r3, r4, r5, r6, r7, r8, r9, r10, r11, r12] ∧ a ≤ b ∧ Sz 110 a ∧ Sz 110 b
theorem body_ok0 {S A : D} {k cell m m1 m2 m3 g l h : Int} {r4 r5 r6 r7 r8 r9 r10 r11 r12 : Sl} {s8 s9 s10 s11 s12 : Sl} (e0 : f__law_mixed (.int cell) (.int k) = .ok (.int m)) (e1 : f__law_mixed (.int m) (.int 1) = .ok (.int m1)) (e2 : f__law_mixed (.int m) (.int 2) = .ok (.int m2)) (e3 : f__law_mixed (.int m) (.int 3) = .ok (.int m3)) (hg : f__law_grid (.int m1) = .ok (.int g)) (hs : f__law_stretch (.int m2) = .ok (pr l h))
    (hl : loopS (fun d ρ => oS (gN 8 d ρ) s_law_b1) [.int 0, .int 1, .int 2, .int 3, .int 4, .int 5, .int 6] [.val S, .val A, .val (.int k), .val (.int cell), .val (.int m), .val (.int g), .val (pr l h), .val (.int (m3 % 9)), r8, r9, r10, r11, r12] = .nx [.val S, .val A, .val (.int k), .val (.int cell), .val (.int m), .val (.int g), .val (pr l h), .val (.int (m3 % 9)), s8, s9, s10, s11, s12]) :
    s_law_b2 [.val S, .val A, .val (.int k), .val (.int cell), r4, r5, r6, r7, r8, r9, r10, r11, r12] = .nx [.val S, .val (pr l h), .val (.int k), .val (.int cell), .val (.int m), .val (.int g), .val (pr l h), .val (.int (m3 % 9)), s8, s9, s10, s11, s12] := by
  simp at hl
  simp [s_law_b2, e0, e1, e2, e3, hg, hs, rng7c, hl]
theorem body_ok (ns : List Int) (k : Nat) (cell : Int) (ρ : Rho) (h : Inv1 ns ρ) (hk : k ≤ 1000) : ∃ ρ', (fun d ρ => oS (gTp (gCn (gN 2) (gCn (gN 3) gNl)) d ρ) s_law_b2) (.tup [.int k, .int cell]) ρ = .nx ρ' ∧ Inv1 ns ρ' := by
  obtain ⟨a, b, r2, r3, r4, r5, r6, r7, r8, r9, r10, r11, r12, rfl, hab, sa, sb⟩ := h
  have e0 := mixed_eq cell k (by omega) (by omega)
  generalize mixV cell k = m at *
  have e1 := mixed_eq m 1 (by decide) (by decide)
  have e2 := mixed_eq m 2 (by decide) (by decide)
  have e3 := mixed_eq m 3 (by decide) (by decide)
  have n3 := mixV_nn m 3
  generalize mixV m 1 = m1 at *
  generalize mixV m 2 = m2 at *
  generalize mixV m 3 = m3 at *
  obtain ⟨g, hg, g1, g2⟩ := grid_ok m1
  obtain ⟨l, h, hs, lh, sl, sh⟩ := stretch_ok m2
  have sl := sl.mono (n := 110) (by decide)
  have sh := sh.mono (n := 110) (by decide)
  have c9 : ((m3 % 9).toNat : Int) = m3 % 9 := by omega
  obtain ⟨ρ', hl, s8, s9, s10, s11, s12, rfl⟩ := deeds_ok (S := .scr ns) (K := .int k) (C := .int cell) (m := m) g1 g2 lh hab sl sh sa sb (m3 % 9).toNat (by omega) r8 r9 r10 r11 r12
  rw [c9] at hl
  exact ⟨_, (enter2 _ _ _ _ _ _).trans (body_ok0 (r4 := r4) (r5 := r5) (r6 := r6) (r7 := r7) e0 e1 e2 e3 hg hs hl), l, h, _, _, _, _, _, _, _, _, _, _, _, rfl, lh, sl, sh⟩
theorem law_pure (ns : List Int) (h : ns.length ≤ 63) : f_law (.scr ns) = .ok (.bl true) := by
  obtain ⟨is, e, hl⟩ := cut_ints ns none (some 63)
  obtain ⟨ρ', h1, _⟩ := loop_enum (b := fun d ρ => oS (gTp (gCn (gN 2) (gCn (gN 3) gNl)) d ρ) s_law_b2) (Inv1 ns) (body_ok ns) (is ++ [4]) (by simp; omega) [.val (.scr ns), .val (pr 2 9), .em, .em, .em, .em, .em, .em, .em, .em, .em, .em, .em] ⟨2, 9, _, _, _, _, _, _, _, _, _, _, _, rfl, by decide, by unfold Sz; decide, by unfold Sz; decide⟩
  rw [List.map_append] at h1
  have hl' : is.length + 1 ≤ 100000 := by omega
  simp at h1
  simp [f_law, s_law, e, hl', h1]
end BD.k04
set_option Elab.async false
set_option maxRecDepth 100000
set_option maxHeartbeats 4000000
namespace BD.k04
open PySem PySem.Spec PyProof.Rows L2 LamX BD
section
variable {P : Program} {w : World} {c : CC} {base : Heap}
theorem isX_mem {cls : Str} (n : Str) (b : Bool) (h : isX cls n = some b) : n ∈ ([] : List Str) ∧ (n == cls || cls == "BoundError" || cls == "ValueError") = b := by
  unfold isX at h
  split at h
  · rename_i m
    exact ⟨m, Option.some.inj h⟩
  · cases h
theorem kf_law (T : Bt c) {fa : Addr} {fd : FuncData} (F : L2.Fun c.K "law" "law" S_law fa fd) (C__law_found : Cal P w c base 6 "_law_found" (ap5 f__law_found)) (C__law_grid : Cal P w c base 2 "_law_grid" (ap1 f__law_grid)) (C__law_inside : Cal P w c base 2 "_law_inside" (ap3 f__law_inside)) (C__law_is_tight : Cal P w c base 2 "_law_is_tight" (ap6 f__law_is_tight)) (C__law_lies : Cal P w c base 1 "_law_lies" (ap3 f__law_lies)) (C__law_mixed : Cal P w c base 1 "_law_mixed" (ap2 f__law_mixed)) (C__law_stretch : Cal P w c base 3 "_law_stretch" (ap1 f__law_stretch)) (C__law_worth : Cal P w c base 1 "_law_worth" (ap4 f__law_worth)) : FnOk P w c.K c.mg base (L2.CX P w) 7 fa fd ["_law_script"] (SpD c (ap1 f_law)) :=
  fnD (sem := s_law) F sc_law ar1 (fun cdv A outer s H E W O hp => by exact (s_cons (s_set (i := 1) O (d_tup (a_cons d_int (a_cons d_int a_nil)))) (s_cons (s_for hp O.calm (i_enum O.K T.b_enumerate (a_cons (d_op (O_add O.K) L_add (d_own (o_slL O.K (d_var (i := 0)) o_no (o_so d_int))) (d_own (o_lst (a_cons d_int a_nil)))) a_nil)) (g_tup O.K O.calm (g_cons (g_name (i := 2) O.nd) (g_cons (g_name (i := 3) O.nd) g_nil)) (gCn_len (gCn_len gNl_len))) (s_cons (s_set (i := 4) O (d_call O C__law_mixed (by decide) (a_cons (d_var (i := 3)) (a_cons (d_var (i := 2)) a_nil)))) (s_cons (s_set (i := 5) O (d_call O C__law_grid (by decide) (a_cons (d_call O C__law_mixed (by decide) (a_cons (d_var (i := 4)) (a_cons d_int a_nil))) a_nil))) (s_cons (s_set (i := 6) O (d_call O C__law_stretch (by decide) (a_cons (d_call O C__law_mixed (by decide) (a_cons (d_var (i := 4)) (a_cons d_int a_nil))) a_nil))) (s_cons (s_set (i := 7) O (d_op op_mod L_mod (d_call O C__law_mixed (by decide) (a_cons (d_var (i := 4)) (a_cons d_int a_nil))) d_int)) (s_cons (s_for hp O.calm (i_rng1 T.b_range (a_cons d_int a_nil)) (g_name (i := 8) O.nd) (s_one (s_if (t_w (w_or (t_cmp (O_ne O.K O.rm) L_ne (nomark _) (d_var (i := 8)) d_int) (w_or1 (t_not (t_chain op_le L_le op_le L_le (d_ix O.K (d_var (i := 1)) d_int) d_int (d_ix O.K (d_var (i := 1)) d_int)))))) (s_cons (s_set (i := 9) O (d_call O C__law_found (by decide) (a_cons (d_var (i := 8)) (a_cons (d_var (i := 5)) (a_cons (d_var (i := 6)) (a_cons (d_var (i := 1)) (a_cons (d_var (i := 7)) a_nil))))))) (s_cons (s_for hp O.calm (i_rng1 T.b_range (a_cons d_int a_nil)) (g_name (i := 10) O.nd) (s_cons (s_set (i := 11) O (d_call O C__law_inside (by decide) (a_cons (d_call O C__law_mixed (by decide) (a_cons (d_var (i := 4)) (a_cons (d_op (O_add O.K) L_add d_int (d_var (i := 10))) a_nil))) (a_cons (d_var (i := 5)) (a_cons (d_var (i := 6)) a_nil))))) (s_cons (s_set (i := 12) O (d_call O C__law_inside (by decide) (a_cons (d_call O C__law_mixed (by decide) (a_cons (d_var (i := 4)) (a_cons (d_op (O_add O.K) L_add d_int (d_var (i := 10))) a_nil))) (a_cons (d_var (i := 5)) (a_cons (d_var (i := 1)) a_nil))))) (s_one (s_if (t_not (t_tru O.K (d_call O C__law_lies (by decide) (a_cons (d_var (i := 5)) (a_cons (d_var (i := 9)) (a_cons (d_call O C__law_worth (by decide) (a_cons (d_var (i := 8)) (a_cons (d_var (i := 11)) (a_cons (d_var (i := 12)) (a_cons (d_var (i := 7)) a_nil))))) a_nil)))))) (s_one (s_ret d_bl)) s_nil))))) (s_one (s_if (t_not (t_tru O.K (d_call O C__law_is_tight (by decide) (a_cons (d_var (i := 8)) (a_cons (d_var (i := 5)) (a_cons (d_var (i := 9)) (a_cons (d_var (i := 6)) (a_cons (d_var (i := 1)) (a_cons (d_var (i := 7)) a_nil))))))))) (s_one (s_ret d_bl)) s_nil)))) s_nil))) (s_one (s_set (i := 1) O (d_var (i := 6)))))))))) (s_one (s_ret d_bl))))) fun ds h => eq1 ds h
end
theorem fin {l : PySem.W.OpenLaw} {w : World} {K : PySem.W.Frag} {h : Heap} {mg : Str → Option Value} {fa q_is_whole q_common q_fraction q_multiplied q_compared q_floor_of q_ceiling_of q_need_grid q_need_stretch q_need_two q_outward q_plus q_minus q_times q_over q_least q_most q_raised q_power q__law_mixed q__law_number q__law_grid q__law_stretch q__law_inside q__law_worth q__law_found q__law_ends q__law_lies q__law_is_tight q_law : Addr} (hfa : mg "law" = some (.ref fa)) (B : ∀ T, Bt ⟨K, mg, T⟩)
  (D_is_whole : Top1 K mg "is_whole" S_is_whole q_is_whole)
  (D_common : Top1 K mg "common" S_common q_common)
  (D_fraction : Top1 K mg "fraction" S_fraction q_fraction)
  (D_multiplied : Top1 K mg "multiplied" S_multiplied q_multiplied)
  (D_compared : Top1 K mg "compared" S_compared q_compared)
  (D_floor_of : Top1 K mg "floor_of" S_floor_of q_floor_of)
  (D_ceiling_of : Top1 K mg "ceiling_of" S_ceiling_of q_ceiling_of)
  (D_need_grid : Top1 K mg "need_grid" S_need_grid q_need_grid)
  (D_need_stretch : Top1 K mg "need_stretch" S_need_stretch q_need_stretch)
  (D_need_two : Top1 K mg "need_two" S_need_two q_need_two)
  (D_outward : Top1 K mg "outward" S_outward q_outward)
  (D_plus : Top1 K mg "plus" S_plus q_plus)
  (D_minus : Top1 K mg "minus" S_minus q_minus)
  (D_times : Top1 K mg "times" S_times q_times)
  (D_over : Top1 K mg "over" S_over q_over)
  (D_least : Top1 K mg "least" S_least q_least)
  (D_most : Top1 K mg "most" S_most q_most)
  (D_raised : Top1 K mg "raised" S_raised q_raised)
  (D_power : Top1 K mg "power" S_power q_power)
  (D__law_mixed : Top1 K mg "_law_mixed" S__law_mixed q__law_mixed)
  (D__law_number : Top1 K mg "_law_number" S__law_number q__law_number)
  (D__law_grid : Top1 K mg "_law_grid" S__law_grid q__law_grid)
  (D__law_stretch : Top1 K mg "_law_stretch" S__law_stretch q__law_stretch)
  (D__law_inside : Top1 K mg "_law_inside" S__law_inside q__law_inside)
  (D__law_worth : Top1 K mg "_law_worth" S__law_worth q__law_worth)
  (D__law_found : Top1 K mg "_law_found" S__law_found q__law_found)
  (D__law_ends : Top1 K mg "_law_ends" S__law_ends q__law_ends)
  (D__law_lies : Top1 K mg "_law_lies" S__law_lies q__law_lies)
  (D__law_is_tight : Top1 K mg "_law_is_tight" S__law_is_tight q__law_is_tight)
  (D_law : Top1 K mg "law" S_law q_law)
  (pure : ∀ ns : List Int, ns.length ≤ 63 → f_law (.scr ns) = .ok (.bl true)) : LawEnd l w K 7 "_law_script" mg fa h := by
  have e := hfa.symm.trans D_law.g
  cases e
  obtain ⟨oc, od, an, osl, kV, doc, pm, cdv, ct, lk, hcd⟩ := D_law.ex
  have FL := fun_mk lk hcd D_law.k
  refine ⟨⟨PySem.W.fnOf "law" "law" (defArgs S_law) (defBody S_law) (defScope S_law) .none kV doc pm an cdv ct, [], [], (ap1 f_law), ?_, ?_, ?_, (fun s v => .of_eq rfl), fun base KB GB TB => ?_, pure⟩⟩
  · exact all0 
  · exact all0 
  · exact all0 
  · have T := B ([].zip [])
    have C_is_whole := k_is_whole (P := l.prog) (w := w) (base := base) T D_is_whole.df 
    have C_common := k_common (P := l.prog) (w := w) (base := base) T D_common.df 
    have C_fraction := k_fraction (P := l.prog) (w := w) (base := base) T D_fraction.df C_common C_is_whole
    have C_multiplied := k_multiplied (P := l.prog) (w := w) (base := base) T D_multiplied.df C_fraction
    have C_compared := k_compared (P := l.prog) (w := w) (base := base) T D_compared.df 
    have C_floor_of := k_floor_of (P := l.prog) (w := w) (base := base) T D_floor_of.df 
    have C_ceiling_of := k_ceiling_of (P := l.prog) (w := w) (base := base) T D_ceiling_of.df 
    have C_need_grid := k_need_grid (P := l.prog) (w := w) (base := base) T D_need_grid.df C_is_whole
    have C_need_stretch := k_need_stretch (P := l.prog) (w := w) (base := base) T D_need_stretch.df C_is_whole
    have C_need_two := k_need_two (P := l.prog) (w := w) (base := base) T D_need_two.df C_need_grid C_need_stretch
    have C_outward := k_outward (P := l.prog) (w := w) (base := base) T D_outward.df C_ceiling_of C_floor_of
    have C_plus := k_plus (P := l.prog) (w := w) (base := base) T D_plus.df C_need_two
    have C_minus := k_minus (P := l.prog) (w := w) (base := base) T D_minus.df C_need_two
    have C_times := k_times (P := l.prog) (w := w) (base := base) T D_times.df C_need_two C_outward
    have C_over := k_over (P := l.prog) (w := w) (base := base) T D_over.df C_compared C_fraction C_need_two C_outward
    have C_least := k_least (P := l.prog) (w := w) (base := base) T D_least.df C_need_two
    have C_most := k_most (P := l.prog) (w := w) (base := base) T D_most.df C_need_two
    have C_raised := k_raised (P := l.prog) (w := w) (base := base) T D_raised.df C_fraction C_multiplied
    have C_power := k_power (P := l.prog) (w := w) (base := base) T D_power.df C_compared C_is_whole C_need_grid C_need_stretch C_outward C_raised
    have C__law_mixed := k__law_mixed (P := l.prog) (w := w) (base := base) T D__law_mixed.df 
    have C__law_number := k__law_number (P := l.prog) (w := w) (base := base) T D__law_number.df C__law_mixed
    have C__law_grid := k__law_grid (P := l.prog) (w := w) (base := base) T D__law_grid.df C__law_mixed
    have C__law_stretch := k__law_stretch (P := l.prog) (w := w) (base := base) T D__law_stretch.df C__law_mixed C__law_number
    have C__law_inside := k__law_inside (P := l.prog) (w := w) (base := base) T D__law_inside.df C__law_mixed
    have C__law_worth := k__law_worth (P := l.prog) (w := w) (base := base) T D__law_worth.df 
    have C__law_found := k__law_found (P := l.prog) (w := w) (base := base) T D__law_found.df C_least C_minus C_most C_over C_plus C_power C_times
    have C__law_ends := k__law_ends (P := l.prog) (w := w) (base := base) T D__law_ends.df 
    have C__law_lies := k__law_lies (P := l.prog) (w := w) (base := base) T D__law_lies.df 
    have C__law_is_tight := k__law_is_tight (P := l.prog) (w := w) (base := base) T D__law_is_tight.df C__law_ends C__law_worth
    exact kf_law T FL C__law_found C__law_grid C__law_inside C__law_is_tight C__law_lies C__law_mixed C__law_stretch C__law_worth
theorem bt_mk {K : PySem.W.Frag} {h : Heap} {mg : Str → Option Value} {t_MOST_GRID t_MOST_POWER : Tok} (X : K.In h) (G : h.Ns mainGlobals mg)
  (b_abs : PySem.W.nsIn K mainGlobals "abs" = some none)
  (b_bool : PySem.W.nsIn K mainGlobals "bool" = some none)
  (b_enumerate : PySem.W.nsIn K mainGlobals "enumerate" = some none)
  (b_int : PySem.W.nsIn K mainGlobals "int" = some none)
  (b_isinstance : PySem.W.nsIn K mainGlobals "isinstance" = some none)
  (b_len : PySem.W.nsIn K mainGlobals "len" = some none)
  (b_max : PySem.W.nsIn K mainGlobals "max" = some none)
  (b_min : PySem.W.nsIn K mainGlobals "min" = some none)
  (b_range : PySem.W.nsIn K mainGlobals "range" = some none)
  (b_tuple : PySem.W.nsIn K mainGlobals "tuple" = some none)
  (b_zip : PySem.W.nsIn K mainGlobals "zip" = some none)
  (m_MOST_GRID : PySem.W.nsIn K mainGlobals "MOST_GRID" = some (some (.int 1000000000 t_MOST_GRID)))
  (m_MOST_POWER : PySem.W.nsIn K mainGlobals "MOST_POWER" = some (some (.int 8 t_MOST_POWER)))
  (r_BadCount : ∀ T, RX ⟨K, mg, T⟩ "BadCount" (clsA ⟨K, mg, T⟩ "BadCount"))
  (r_BadFraction : ∀ T, RX ⟨K, mg, T⟩ "BadFraction" (clsA ⟨K, mg, T⟩ "BadFraction"))
  (r_BadGrid : ∀ T, RX ⟨K, mg, T⟩ "BadGrid" (clsA ⟨K, mg, T⟩ "BadGrid"))
  (r_BadStretch : ∀ T, RX ⟨K, mg, T⟩ "BadStretch" (clsA ⟨K, mg, T⟩ "BadStretch"))
  (r_ByNought : ∀ T, RX ⟨K, mg, T⟩ "ByNought" (clsA ⟨K, mg, T⟩ "ByNought"))
  (T : List (Addr × Str)) : Bt ⟨K, mg, T⟩ where
  b_abs := top_none X G b_abs
  b_bool := top_none X G b_bool
  b_enumerate := top_none X G b_enumerate
  b_int := top_none X G b_int
  b_isinstance := top_none X G b_isinstance
  b_len := top_none X G b_len
  b_max := top_none X G b_max
  b_min := top_none X G b_min
  b_range := top_none X G b_range
  b_tuple := top_none X G b_tuple
  b_zip := top_none X G b_zip
  m_MOST_GRID := top_mgI X G m_MOST_GRID
  m_MOST_POWER := top_mgI X G m_MOST_POWER
  r_BadCount := r_BadCount T
  r_BadFraction := r_BadFraction T
  r_BadGrid := r_BadGrid T
  r_BadStretch := r_BadStretch T
  r_ByNought := r_ByNought T
end BD.k04
open PySem PySem.W PyProof.Rows BD BD.k04
set_option maxHeartbeats 0 in
open_top hd for PySem.Challenge.rw_boundsums_k04_whole_no_value_lost
set_option maxHeartbeats 0 in
theorem PySem.Challenge.cw_boundsums_k04_whole_no_value_lost_holds : PySem.Challenge.rw_boundsums_k04_whole_no_value_lost.Holds := by
  refine hd ?_
  refine BD.walk_mine (l := PySem.Challenge.rw_boundsums_k04_whole_no_value_lost) (k := 7) (x := "_law_script") rfl rfl ⟨rfl, by decide, by decide⟩ (fun w h Y => by first | exact PySem.W.kIn_of Y | exact PySem.W.km_in_of Y) ?F
  case F =>
    intro w mg fa h KX G hmg0 tf
    have hmg : mg "law" = some (.ref fa) := hmg0
    clear hmg0
    refine' fin hmg (bt_mk KX G ?b_abs ?b_bool ?b_enumerate ?b_int ?b_isinstance ?b_len ?b_max ?b_min ?b_range ?b_tuple ?b_zip  ?m_MOST_GRID ?m_MOST_POWER (fun T => top_RX KX G ?rn_BadCount ?rq_BadCount ?rk_BadCount ?r1_BadCount ?r2_BadCount) (fun T => top_RX KX G ?rn_BadFraction ?rq_BadFraction ?rk_BadFraction ?r1_BadFraction ?r2_BadFraction) (fun T => top_RX KX G ?rn_BadGrid ?rq_BadGrid ?rk_BadGrid ?r1_BadGrid ?r2_BadGrid) (fun T => top_RX KX G ?rn_BadStretch ?rq_BadStretch ?rk_BadStretch ?r1_BadStretch ?r2_BadStretch) (fun T => top_RX KX G ?rn_ByNought ?rq_ByNought ?rk_ByNought ?r1_ByNought ?r2_ByNought) ) (top_def KX G ?a_is_whole ?l_is_whole ?c_is_whole ?k_is_whole) (top_def KX G ?a_common ?l_common ?c_common ?k_common) (top_def KX G ?a_fraction ?l_fraction ?c_fraction ?k_fraction) (top_def KX G ?a_multiplied ?l_multiplied ?c_multiplied ?k_multiplied) (top_def KX G ?a_compared ?l_compared ?c_compared ?k_compared) (top_def KX G ?a_floor_of ?l_floor_of ?c_floor_of ?k_floor_of) (top_def KX G ?a_ceiling_of ?l_ceiling_of ?c_ceiling_of ?k_ceiling_of) (top_def KX G ?a_need_grid ?l_need_grid ?c_need_grid ?k_need_grid) (top_def KX G ?a_need_stretch ?l_need_stretch ?c_need_stretch ?k_need_stretch) (top_def KX G ?a_need_two ?l_need_two ?c_need_two ?k_need_two) (top_def KX G ?a_outward ?l_outward ?c_outward ?k_outward) (top_def KX G ?a_plus ?l_plus ?c_plus ?k_plus) (top_def KX G ?a_minus ?l_minus ?c_minus ?k_minus) (top_def KX G ?a_times ?l_times ?c_times ?k_times) (top_def KX G ?a_over ?l_over ?c_over ?k_over) (top_def KX G ?a_least ?l_least ?c_least ?k_least) (top_def KX G ?a_most ?l_most ?c_most ?k_most) (top_def KX G ?a_raised ?l_raised ?c_raised ?k_raised) (top_def KX G ?a_power ?l_power ?c_power ?k_power) (top_def KX G ?a__law_mixed ?l__law_mixed ?c__law_mixed ?k__law_mixed) (top_def KX G ?a__law_number ?l__law_number ?c__law_number ?k__law_number) (top_def KX G ?a__law_grid ?l__law_grid ?c__law_grid ?k__law_grid) (top_def KX G ?a__law_stretch ?l__law_stretch ?c__law_stretch ?k__law_stretch) (top_def KX G ?a__law_inside ?l__law_inside ?c__law_inside ?k__law_inside) (top_def KX G ?a__law_worth ?l__law_worth ?c__law_worth ?k__law_worth) (top_def KX G ?a__law_found ?l__law_found ?c__law_found ?k__law_found) (top_def KX G ?a__law_ends ?l__law_ends ?c__law_ends ?k__law_ends) (top_def KX G ?a__law_lies ?l__law_lies ?c__law_lies ?k__law_lies) (top_def KX G ?a__law_is_tight ?l__law_is_tight ?c__law_is_tight ?k__law_is_tight) (top_def KX G ?a_law ?l_law ?c_law ?k_law)  law_pure
    (case b_abs => k_is); (case b_bool => k_is); (case b_enumerate => k_is); (case b_int => k_is); (case b_isinstance => k_is); (case b_len => k_is); (case b_max => k_is); (case b_min => k_is); (case b_range => k_is); (case b_tuple => k_is); (case b_zip => k_is)
    (case m_MOST_GRID => k_is)
    (case m_MOST_POWER => k_is)
    (case rn_BadCount => k_is); (case rq_BadCount => k_exc); (case rk_BadCount => k_is); (case r1_BadCount => k_is); (case r2_BadCount => k_is)
    (case rn_BadFraction => k_is); (case rq_BadFraction => k_exc); (case rk_BadFraction => k_is); (case r1_BadFraction => k_is); (case r2_BadFraction => k_is)
    (case rn_BadGrid => k_is); (case rq_BadGrid => k_exc); (case rk_BadGrid => k_is); (case r1_BadGrid => k_is); (case r2_BadGrid => k_is)
    (case rn_BadStretch => k_is); (case rq_BadStretch => k_exc); (case rk_BadStretch => k_is); (case r1_BadStretch => k_is); (case r2_BadStretch => k_is)
    (case rn_ByNought => k_is); (case rq_ByNought => k_exc); (case rk_ByNought => k_is); (case r1_ByNought => k_is); (case r2_ByNought => k_is)
    (case a_is_whole => k_is); (case l_is_whole => k_is); (case c_is_whole => k_is); (case k_is_whole => k_is)
    (case a_common => k_is); (case l_common => k_is); (case c_common => k_is); (case k_common => k_is)
    (case a_fraction => k_is); (case l_fraction => k_is); (case c_fraction => k_is); (case k_fraction => k_is)
    (case a_multiplied => k_is); (case l_multiplied => k_is); (case c_multiplied => k_is); (case k_multiplied => k_is)
    (case a_compared => k_is); (case l_compared => k_is); (case c_compared => k_is); (case k_compared => k_is)
    (case a_floor_of => k_is); (case l_floor_of => k_is); (case c_floor_of => k_is); (case k_floor_of => k_is)
    (case a_ceiling_of => k_is); (case l_ceiling_of => k_is); (case c_ceiling_of => k_is); (case k_ceiling_of => k_is)
    (case a_need_grid => k_is); (case l_need_grid => k_is); (case c_need_grid => k_is); (case k_need_grid => k_is)
    (case a_need_stretch => k_is); (case l_need_stretch => k_is); (case c_need_stretch => k_is); (case k_need_stretch => k_is)
    (case a_need_two => k_is); (case l_need_two => k_is); (case c_need_two => k_is); (case k_need_two => k_is)
    (case a_outward => k_is); (case l_outward => k_is); (case c_outward => k_is); (case k_outward => k_is)
    (case a_plus => k_is); (case l_plus => k_is); (case c_plus => k_is); (case k_plus => k_is)
    (case a_minus => k_is); (case l_minus => k_is); (case c_minus => k_is); (case k_minus => k_is)
    (case a_times => k_is); (case l_times => k_is); (case c_times => k_is); (case k_times => k_is)
    (case a_over => k_is); (case l_over => k_is); (case c_over => k_is); (case k_over => k_is)
    (case a_least => k_is); (case l_least => k_is); (case c_least => k_is); (case k_least => k_is)
    (case a_most => k_is); (case l_most => k_is); (case c_most => k_is); (case k_most => k_is)
    (case a_raised => k_is); (case l_raised => k_is); (case c_raised => k_is); (case k_raised => k_is)
    (case a_power => k_is); (case l_power => k_is); (case c_power => k_is); (case k_power => k_is)
    (case a__law_mixed => k_is); (case l__law_mixed => k_is); (case c__law_mixed => k_is); (case k__law_mixed => k_is)
    (case a__law_number => k_is); (case l__law_number => k_is); (case c__law_number => k_is); (case k__law_number => k_is)
    (case a__law_grid => k_is); (case l__law_grid => k_is); (case c__law_grid => k_is); (case k__law_grid => k_is)
    (case a__law_stretch => k_is); (case l__law_stretch => k_is); (case c__law_stretch => k_is); (case k__law_stretch => k_is)
    (case a__law_inside => k_is); (case l__law_inside => k_is); (case c__law_inside => k_is); (case k__law_inside => k_is)
    (case a__law_worth => k_is); (case l__law_worth => k_is); (case c__law_worth => k_is); (case k__law_worth => k_is)
    (case a__law_found => k_is); (case l__law_found => k_is); (case c__law_found => k_is); (case k__law_found => k_is)
    (case a__law_ends => k_is); (case l__law_ends => k_is); (case c__law_ends => k_is); (case k__law_ends => k_is)
    (case a__law_lies => k_is); (case l__law_lies => k_is); (case c__law_lies => k_is); (case k__law_lies => k_is)
    (case a__law_is_tight => k_is); (case l__law_is_tight => k_is); (case c__law_is_tight => k_is); (case k__law_is_tight => k_is)
    (case a_law => k_is); (case l_law => k_is); (case c_law => k_is); (case k_law => k_is)
#print axioms PySem.Challenge.cw_boundsums_k04_whole_no_value_lost_holds
