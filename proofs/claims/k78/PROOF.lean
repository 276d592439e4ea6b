import PyProof.Rows.All
import Wide.All
import OpenK.AllK
import Wide.FinOn
import HandS.ForMost
import HandS.Conv
import HandS.More
import HandS.Style
import KE.Datum
import KE.DatumMore
import KE.DatumOrd
import KE.SortData
import HandS.TupAny
import HandS.SortInts
import KE.KDictPairs
import KE.KDictCopyH
import PyProof.ReprLen
import HandS.Star
import HandS.IsInst
import HandS.TupLen
import KE.GoesEnum
import KE.KDictDisplayH
import HandS.Strs
import HandS.ForExc
import HandS.TryOnly
import HandS.WordsExc
import HandS.TupMul
import HandS.TupLe
import KE.KRevSl
import PySem.Challenge.RW_shelledlots_k78_whole_bases_and_base_pap
set_option Elab.async false
set_option linter.all false
set_option maxRecDepth 100000
set_option maxHeartbeats 4000000
/-! DL: expressions and statements over plain data. A slot holds data (frozen), a list of one's own, or the source. -/
namespace DL
open PySem L2
abbrev D := PyData

/-! ### data in a frozen heap -/
/-- a dict whose keys are tuples of ints -/
def dctD (kvs : List (List Int × D)) : D := .dict (kvs.map fun p => (.tuple (p.1.map .int), p.2))
/-- a tuple whose object is known to have no dict of its own -/
def ft (ds : List D) : D := .dict [(.none, .tuple ds)]
mutual
inductive Rp (F : Hp) : V → D → Prop
  | non : Rp F V.non .none
  | bl (b) : Rp F (V.bl b) (.bool b)
  | int (i) : Rp F (V.int i) (PyData.int i)
  | str (x) : Rp F (V.str x) (PyData.str x)
  | tup {a xs ds} : F a = some (.tup xs) → RpA F xs ds → Rp F (V.ref a) (.tuple ds)
  | lst {a xs ds} : F a = some (.lst xs) → RpA F xs ds → Rp F (V.ref a) (.list ds)
  | dct {a ws kvs} : F a = some (.dT ws) → RpK F ws kvs → Rp F (V.ref a) (dctD kvs)
  | ftup {a o xs ds} : F a = some (.frz o (.tup xs)) → o.dict = none → RpA F xs ds → Rp F (V.ref a) (ft ds)
inductive RpA (F : Hp) : List V → List D → Prop
  | nil : RpA F [] []
  | cons {v d vs ds} : Rp F v d → RpA F vs ds → RpA F (v :: vs) (d :: ds)
inductive RpK (F : Hp) : List (List Key × V) → List (List Int × D) → Prop
  | nil : RpK F [] []
  | cons {k v d ws kvs} : Rp F v d → RpK F ws kvs → RpK F ((k.map Sum.inl, v) :: ws) ((k, d) :: kvs)
end
def Ex (H H' : Hp) : Prop := ∀ a o, H a = some o → H' a = some o
theorem Ex.refl (H : Hp) : Ex H H := fun _ _ h => h
theorem Ex.trans {H H1 H2 : Hp} (a : Ex H H1) (b : Ex H1 H2) : Ex H H2 := fun x o h => b x o (a x o h)
theorem Ex.new {H : Hp} {p : Addr} {o : HO} (h : H p = none) : Ex H (upd H p o) := fun a u e => by
  rw [upd_ne (ne_of_none e h)]
  exact e
theorem Ex.upd2 {F H : Hp} {p : Addr} {o : HO} (h : Ex F H) (n : F p = none) : Ex F (upd H p o) := fun a u e => by
  rw [upd_ne (ne_of_none e n)]
  exact h a u e
theorem Ex.back {H H' : Hp} {p : Addr} (e : Ex H H') (h : H' p = none) : H p = none := by
  cases h1 : H p with
  | none => rfl
  | some o =>
    rw [e p o h1] at h
    cases h
mutual
theorem Rp.ex {F F' : Hp} (k : Ex F F') : ∀ {v : V} {d : D}, Rp F v d → Rp F' v d
  | _, _, .non => .non
  | _, _, .bl b => .bl b
  | _, _, .int i => .int i
  | _, _, .str x => .str x
  | _, _, .tup h r => .tup (k _ _ h) (RpA.ex k r)
  | _, _, .lst h r => .lst (k _ _ h) (RpA.ex k r)
  | _, _, .dct h r => .dct (k _ _ h) (RpK.ex k r)
  | _, _, .ftup h n r => .ftup (k _ _ h) n (RpA.ex k r)
theorem RpA.ex {F F' : Hp} (k : Ex F F') : ∀ {vs : List V} {ds : List D}, RpA F vs ds → RpA F' vs ds
  | _, _, .nil => .nil
  | _, _, .cons r t => .cons (Rp.ex k r) (RpA.ex k t)
theorem RpK.ex {F F' : Hp} (k : Ex F F') : ∀ {vs : List (List Key × V)} {ds : List (List Int × D)}, RpK F vs ds → RpK F' vs ds
  | _, _, .nil => .nil
  | _, _, .cons r t => .cons (Rp.ex k r) (RpK.ex k t)
end
theorem RpA.length {F : Hp} : ∀ {vs : List V} {ds : List D}, RpA F vs ds → vs.length = ds.length
  | _, _, .nil => rfl
  | _, _, .cons _ t => by rw [List.length_cons, List.length_cons, RpA.length t]
theorem RpA.get {F : Hp} : ∀ {vs : List V} {ds : List D} {i : Nat} {v : V}, RpA F vs ds → vs[i]? = some v → ∃ d, ds[i]? = some d ∧ Rp F v d
  | _, _, _, _, .nil, e => by simp at e
  | _, _, 0, _, .cons r _, e => by simp at e; subst e; exact ⟨_, rfl, r⟩
  | _, _, i + 1, v, .cons _ t, e => by
    obtain ⟨d, h1, h2⟩ := RpA.get (i := i) (v := v) t (by simpa using e)
    exact ⟨d, by simpa using h1, h2⟩
theorem RpA.get' {F : Hp} : ∀ {vs : List V} {ds : List D} {i : Nat} {d : D}, RpA F vs ds → ds[i]? = some d → ∃ v, vs[i]? = some v ∧ Rp F v d
  | _, _, _, _, .nil, e => by simp at e
  | _, _, 0, _, .cons r _, e => by simp at e; subst e; exact ⟨_, rfl, r⟩
  | _, _, i + 1, v, .cons _ t, e => by
    obtain ⟨d, h1, h2⟩ := RpA.get' (i := i) (d := v) t (by simpa using e)
    exact ⟨d, by simpa using h1, h2⟩
theorem RpA.append {F : Hp} : ∀ {vs ws : List V} {ds es : List D}, RpA F vs ds → RpA F ws es → RpA F (vs ++ ws) (ds ++ es)
  | _, _, _, _, .nil, s => s
  | _, _, _, _, .cons r t, s => .cons r (RpA.append t s)
theorem RpA.take {F : Hp} : ∀ {vs : List V} {ds : List D} (n : Nat), RpA F vs ds → RpA F (vs.take n) (ds.take n)
  | _, _, 0, _ => .nil
  | _, _, _ + 1, .nil => .nil
  | _, _, n + 1, .cons r t => .cons r (RpA.take n t)
theorem RpA.drop {F : Hp} : ∀ {vs : List V} {ds : List D} (n : Nat), RpA F vs ds → RpA F (vs.drop n) (ds.drop n)
  | _, _, 0, r => r
  | _, _, _ + 1, .nil => .nil
  | _, _, n + 1, .cons _ t => RpA.drop n t
theorem RpA.set {F : Hp} {v : V} {d : D} (r : Rp F v d) : ∀ {vs : List V} {ds : List D} (n : Nat), RpA F vs ds → RpA F (vs.set n v) (ds.set n d)
  | _, _, _, .nil => .nil
  | _, _, 0, .cons _ t => .cons r t
  | _, _, n + 1, .cons q t => .cons q (RpA.set r n t)
theorem RpA.one {F : Hp} {v : V} {d : D} (r : Rp F v d) : RpA F [v] [d] := .cons r .nil
theorem RpA.erase {F : Hp} : ∀ {vs : List V} {ds : List D} (n : Nat), RpA F vs ds → RpA F (vs.eraseIdx n) (ds.eraseIdx n)
  | _, _, _, .nil => .nil
  | _, _, 0, .cons _ t => t
  | _, _, n + 1, .cons q t => .cons q (RpA.erase n t)
theorem RpA.ints {F : Hp} : ∀ (ns : List Int), RpA F (ns.map V.int) (ns.map PyData.int)
  | [] => .nil
  | n :: ns => .cons (.int n) (RpA.ints ns)
theorem RpA.ints_of {F : Hp} : ∀ {ns : List Int} {vs : List V}, RpA F vs (ns.map PyData.int) → vs = ns.map V.int
  | [], _, h => by cases h; rfl
  | n :: ns, _, h => by
    cases h with
    | cons r t =>
      cases r
      rw [RpA.ints_of t]; rfl
/- frozen data read in the machine heap -/
mutual
theorem Rp.reads {P : Program} {w : World} {F H : Hp} {h : Heap} (k : Ex F H) (ok : HOk P w H h) : ∀ {v : V} {d : D} {u : Value}, Rp F v d → RelV v u → d.plain = true → ∃ as, Reads h u d as
  | _, _, _, .non, e, _ => by cases e; exact ⟨_, .none⟩
  | _, _, _, .bl b, e, _ => by cases e; exact ⟨_, .bool b⟩
  | _, _, _, .int i, e, _ => by obtain ⟨t, rfl⟩ := e; exact ⟨_, .int i t⟩
  | _, _, _, .str x, e, _ => by obtain ⟨t, rfl⟩ := e; exact ⟨_, .str x t⟩
  | _, _, _, .tup q r, e, hp => by
    cases e
    obtain ⟨_, its, rv, o, ho, hc, n, hd⟩ := ok _ _ (k _ _ q)
    obtain ⟨as, hr⟩ := RpA.reads k ok r rv (by simpa only [PyData.plain] using hp)
    exact ⟨_, .tuple ho hc hd (by simpa using hr)⟩
  | _, _, _, .lst q r, e, hp => by
    cases e
    obtain ⟨_, its, n, rv, ho⟩ := ok _ _ (k _ _ q)
    obtain ⟨as, hr⟩ := RpA.reads k ok r rv (by simpa only [PyData.plain] using hp)
    exact ⟨_, .list ho rfl rfl (by simpa using hr)⟩
  | _, _, _, .dct q r, e, hp => by
    unfold dctD at hp
    simp only [PyData.plain] at hp
    cases hp
  | _, _, _, .ftup q n r, e, hp => by
    unfold ft at hp
    simp only [PyData.plain] at hp
    cases hp
theorem RpA.reads {P : Program} {w : World} {F H : Hp} {h : Heap} (k : Ex F H) (ok : HOk P w H h) : ∀ {vs : List V} {ds : List D} {us : List Value}, RpA F vs ds → Vals vs us → PyData.plainAll ds = true → ∃ as, ReadsAll h us ds as
  | _, _, _, .nil, e, _ => by cases e; exact ⟨_, .nil⟩
  | _, _, _, .cons r t, e, hp => by
    cases e with
    | cons e1 e2 =>
      rw [PyData.plainAll, Bool.and_eq_true] at hp
      obtain ⟨as, h1⟩ := Rp.reads k ok r e1 hp.1
      obtain ⟨bs, h2⟩ := RpA.reads k ok t e2 hp.2
      exact ⟨_, .cons h1 h2⟩
end

/-! ### contexts, slots -/
/-- B: what must stand as it stands; F0: what was frozen at the entry; sr: the source's dict and its list, where the def may turn it -/
structure C where
  B : Hp
  F0 : Hp
  sr : Option (Addr × Addr)
def SrcOk (H : Hp) (p : Addr × Addr) : Prop := ∃ (cells : List Int) (left mixed turn : Int),
  H p.1 = some (.dK [(.inr "cells", .ref p.2), (.inr "left", .int left), (.inr "mixed", .int mixed), (.inr "turn", .int turn)]) ∧ H p.2 = some (.lst (cells.map V.int))
structure Fin (c : C) (F H : Hp) : Prop where
  f0 : Ex c.F0 F
  fh : Ex F H
  bh : Ex c.B H
  bf : ∀ a o, c.B a = some o → F a = c.F0 a ∨ ∃ xs, o = .tup xs
  src : ∀ p, c.sr = some p → SrcOk H p ∧ F p.1 = none ∧ F p.2 = none ∧ c.B p.1 = none ∧ c.B p.2 = none
/-- what one may hold alone: a list, a dict with keys that are tuples of ints -/
inductive OB where
  | l (ds : List D)
  | d (kvs : List (List Int × D))
def OBR (F : Hp) : HO → OB → Prop
  | .lst vs, .l ds => RpA F vs ds
  | .dT ws, .d kvs => RpK F ws kvs
  | _, _ => False
def obD : OB → D
  | .l ds => .list ds
  | .d kvs => dctD kvs
theorem OBR.ex {F F' : Hp} (k : Ex F F') : ∀ {h : HO} {o : OB}, OBR F h o → OBR F' h o := fun {h o} r => by
  cases h <;> cases o <;> first
    | exact RpA.ex k (show RpA F _ _ from r)
    | exact RpK.ex k (show RpK F _ _ from r)
    | exact False.elim r
theorem OBR.rp {F : Hp} {a : Addr} {h : HO} {o : OB} (r : OBR F h o) (e : F a = some h) : Rp F (V.ref a) (obD o) := by
  cases h <;> cases o <;> first
    | exact .lst e (show RpA F _ _ from r)
    | exact .dct e (show RpK F _ _ from r)
    | exact False.elim r
theorem OBR.mut {F : Hp} {h : HO} {o : OB} (r : OBR F h o) : Mut (some h) := by
  cases h <;> cases o <;> first | exact True.intro | exact False.elim r
inductive Sl where
  | emp
  | val (d : D)
  | ob (o : OB)
  | src
abbrev Sl.own (ds : List D) : Sl := .ob (.l ds)
def SlR (c : C) (F H : Hp) : Option V → Sl → Prop
  | _, .emp => True
  | x, .val d => ∃ v, x = some v ∧ Rp F v d
  | x, .ob o => ∃ a h, x = some (.ref a) ∧ H a = some h ∧ OBR F h o ∧ F a = none ∧ c.B a = none ∧ ∀ p, c.sr = some p → a ≠ p.1 ∧ a ≠ p.2
  | x, .src => ∃ p, c.sr = some p ∧ x = some (.ref p.1)
structure EvD (c : C) (S : List Sl) (F : Hp) (σ : St) (H : Hp) : Prop where
  fin : Fin c F H
  len : σ.length = S.length
  sl : ∀ (i : Nat) s, S[i]? = some s → ∃ x, σ[i]? = some x ∧ SlR c F H x s
  ds : ∀ (i j : Nat) xs ys a, S[i]? = some (.ob xs) → S[j]? = some (.ob ys) → σ[i]? = some (some (.ref a)) → σ[j]? = some (some (.ref a)) → i = j
theorem SrcOk.ex {H H' : Hp} {p : Addr × Addr} (k : Ex H H') (h : SrcOk H p) : SrcOk H' p := by
  obtain ⟨cs, l, m, t, h1, h2⟩ := h
  exact ⟨cs, l, m, t, k _ _ h1, k _ _ h2⟩
theorem SlR.ex {c : C} {F H F' H' : Hp} (kF : Ex F F') (kH : Ex H H') (kn : ∀ a o, H a = some o → F a = none → F' a = none) : ∀ {x : Option V} {s : Sl}, SlR c F H x s → SlR c F' H' x s
  | _, .emp, _ => trivial
  | _, .val d, ⟨v, e, r⟩ => ⟨v, e, r.ex kF⟩
  | _, .ob o, ⟨a, vs, e, h, r, n, b, q⟩ => ⟨a, vs, e, kH _ _ h, r.ex kF, kn _ _ h n, b, q⟩
  | _, .src, ⟨p, e, q⟩ => ⟨p, e, q⟩
/-- nothing old changed: new frozen things, perhaps -/
theorem EvD.ex {c : C} {S : List Sl} {F F' : Hp} {σ : St} {H H' : Hp} (E : EvD c S F σ H) (kF : Ex F F') (kH : Ex H H') (fh : Ex F' H') (kn : ∀ a o, H a = some o → F a = none → F' a = none) : EvD c S F' σ H' := by
  refine ⟨⟨E.fin.f0.trans kF, fh, E.fin.bh.trans kH, fun a o e => ?_, fun p e => ?_⟩, E.len, fun i s e => ?_, E.ds⟩
  · have h1 := E.fin.bh a o e
    rcases E.fin.bf a o e with h2 | h2
    · refine .inl ?_
      cases q : F a with
      | some u =>
        rw [kF a u q, ← h2, q]
      | none => rw [kn a o h1 q, ← h2, q]
    · exact .inr h2
  · obtain ⟨s, n1, n2, b1, b2⟩ := E.fin.src p e
    obtain ⟨cs, l, m, t, h1, h2⟩ := id s
    exact ⟨s.ex kH, kn _ _ h1 n1, kn _ _ h2 n2, b1, b2⟩
  · obtain ⟨x, e1, r⟩ := E.sl i s e
    exact ⟨x, e1, r.ex kF kH kn⟩
/-- a new object is laid, not frozen -/
theorem EvD.laid {c : C} {S : List Sl} {F : Hp} {σ : St} {H : Hp} {p : Addr} {o : HO} (E : EvD c S F σ H) (n : H p = none) : EvD c S F σ (upd H p o) :=
  E.ex (Ex.refl F) (Ex.new n) (E.fin.fh.trans (Ex.new n)) fun _ _ _ h => h
/-- a new object is laid and frozen -/
theorem EvD.froz {c : C} {S : List Sl} {F : Hp} {σ : St} {H : Hp} {p : Addr} {o : HO} (E : EvD c S F σ H) (n : H p = none) : EvD c S (upd F p o) σ (upd H p o) := by
  have nF : F p = none := E.fin.fh.back n
  refine E.ex (Ex.new nF) (Ex.new n) (fun a u e => ?_) fun a u e h => ?_
  · by_cases q : a = p
    · subst q; rw [upd_same] at e ⊢; exact e
    · rw [upd_ne q] at e ⊢; exact E.fin.fh a u e
  · rw [upd_ne (ne_of_none e n)]; exact h
/-- an object of ours, in no slot, not of the source, is frozen as it stands -/
theorem EvD.freeze {c : C} {S : List Sl} {F : Hp} {σ : St} {H : Hp} {p : Addr} {o : HO} (E : EvD c S F σ H) (h : H p = some o) (n : F p = none) (b : c.B p = none) (ns : ∀ q, c.sr = some q → p ≠ q.1 ∧ p ≠ q.2)
    (no : ∀ (i : Nat) xs, S[i]? = some (.ob xs) → σ[i]? ≠ some (some (.ref p))) : EvD c S (upd F p o) σ H := by
  have fh : Ex (upd F p o) H := fun a u e => by
    by_cases q : a = p
    · subst q; rw [upd_same] at e; cases e; exact h
    · rw [upd_ne q] at e; exact E.fin.fh a u e
  refine ⟨⟨E.fin.f0.trans (Ex.new n), fh, E.fin.bh, fun a u e => ?_, fun q e => ?_⟩, E.len, fun i s e => ?_, E.ds⟩
  · have hne : a ≠ p := ne_of_none e b
    rw [upd_ne hne]; exact E.fin.bf a u e
  · obtain ⟨s, n1, n2, b1, b2⟩ := E.fin.src q e
    obtain ⟨m1, m2⟩ := ns q e
    exact ⟨s, by rw [upd_ne m1.symm]; exact n1, by rw [upd_ne m2.symm]; exact n2, b1, b2⟩
  · obtain ⟨x, e1, r⟩ := E.sl i s e
    refine ⟨x, e1, ?_⟩
    cases s with
    | emp => trivial
    | val d =>
      obtain ⟨v, e2, r⟩ := r
      exact ⟨v, e2, r.ex (Ex.new n)⟩
    | src => exact r
    | ob o' =>
      obtain ⟨a, vs, e2, h1, r1, n1, b1, q1⟩ := r
      subst e2
      have hne : a ≠ p := fun z => no i _ e (by rw [e1, z])
      exact ⟨a, vs, rfl, h1, r1.ex (Ex.new n), by rw [upd_ne hne]; exact n1, b1, q1⟩
theorem not_mut_tup {xs : List V} : ¬ Mut (some (.tup xs)) := fun h => h
/-- a tuple that stands is frozen -/
theorem EvD.freezeT {c : C} {S : List Sl} {F : Hp} {σ : St} {H : Hp} {p : Addr} {xs : List V} (E : EvD c S F σ H) (h : H p = some (.tup xs)) (n : F p = none) : EvD c S (upd F p (.tup xs)) σ H := by
  have fh : Ex (upd F p (.tup xs)) H := fun a u e => by
    by_cases q : a = p
    · subst q; rw [upd_same] at e; cases e; exact h
    · rw [upd_ne q] at e; exact E.fin.fh a u e
  refine ⟨⟨E.fin.f0.trans (Ex.new n), fh, E.fin.bh, fun a u e => ?_, fun q e => ?_⟩, E.len, fun i s e => ?_, E.ds⟩
  · by_cases hne : a = p
    · subst hne
      have h2 := E.fin.bh a u e
      rw [h] at h2
      cases h2
      exact .inr ⟨_, rfl⟩
    · rw [upd_ne hne]; exact E.fin.bf a u e
  · obtain ⟨s, n1, n2, b1, b2⟩ := E.fin.src q e
    obtain ⟨cs, l, m, t, h1, h2⟩ := id s
    have m1 : p ≠ q.1 := ne_of h h1 (fun z => nomatch z)
    have m2 : p ≠ q.2 := ne_of h h2 (fun z => nomatch z)
    exact ⟨s, by rw [upd_ne m1.symm]; exact n1, by rw [upd_ne m2.symm]; exact n2, b1, b2⟩
  · obtain ⟨x, e1, r⟩ := E.sl i s e
    refine ⟨x, e1, ?_⟩
    cases s with
    | emp => trivial
    | val d =>
      obtain ⟨v, e2, r⟩ := r
      exact ⟨v, e2, r.ex (Ex.new n)⟩
    | src => exact r
    | ob o' =>
      obtain ⟨a, vs, e2, h1, r1, n1, b1, q1⟩ := r
      subst e2
      have hne : a ≠ p := fun z => by
        have m := r1.mut
        rw [z, h] at h1
        cases h1
        exact m
      exact ⟨a, vs, rfl, h1, r1.ex (Ex.new n), by rw [upd_ne hne]; exact n1, b1, q1⟩
/-- a slot gets data -/
theorem EvD.set {c : C} {S : List Sl} {F : Hp} {σ : St} {H : Hp} {i : Nat} {v : V} {d : D} (E : EvD c S F σ H) (r : Rp F v d) : EvD c (S.set i (.val d)) F (σ.set i (some v)) H := by
  refine ⟨E.fin, by rw [List.length_set, List.length_set]; exact E.len, fun j s e => ?_, fun j k xs ys a e1 e2 e3 e4 => ?_⟩
  · by_cases hj : i = j
    · subst hj
      have hl : i < S.length := by
        have := (List.getElem?_eq_some_iff.mp e).1
        rw [List.length_set] at this; exact this
      rw [List.getElem?_set_self hl] at e
      cases e
      exact ⟨some v, List.getElem?_set_self (by rw [E.len]; exact hl), v, rfl, r⟩
    · rw [List.getElem?_set_ne hj] at e ⊢
      exact E.sl j s e
  · have hj : i ≠ j := fun z => by
      subst z
      have hl : i < S.length := by
        have := (List.getElem?_eq_some_iff.mp e1).1
        rw [List.length_set] at this; exact this
      rw [List.getElem?_set_self hl] at e1; cases e1
    have hk : i ≠ k := fun z => by
      subst z
      have hl : i < S.length := by
        have := (List.getElem?_eq_some_iff.mp e2).1
        rw [List.length_set] at this; exact this
      rw [List.getElem?_set_self hl] at e2; cases e2
    rw [List.getElem?_set_ne hj] at e1 e3
    rw [List.getElem?_set_ne hk] at e2 e4
    exact E.ds j k xs ys a e1 e2 e3 e4
/-- a slot gets a new list of its own -/
theorem EvD.setOwn {c : C} {S : List Sl} {F : Hp} {σ : St} {H : Hp} {i : Nat} {a : Addr} {vs : HO} {ds : OB} (E : EvD c S F σ H) (h : H a = some vs) (r : OBR F vs ds) (n : F a = none) (b : c.B a = none) (ns : ∀ p, c.sr = some p → a ≠ p.1 ∧ a ≠ p.2)
    (no : ∀ (j : Nat) xs, S[j]? = some (.ob xs) → σ[j]? ≠ some (some (.ref a))) : EvD c (S.set i (.ob ds)) F (σ.set i (some (.ref a))) H := by
  refine ⟨E.fin, by rw [List.length_set, List.length_set]; exact E.len, fun j s e => ?_, fun j k xs ys a' e1 e2 e3 e4 => ?_⟩
  · by_cases hj : i = j
    · subst hj
      have hl : i < S.length := by
        have := (List.getElem?_eq_some_iff.mp e).1
        rw [List.length_set] at this; exact this
      rw [List.getElem?_set_self hl] at e
      cases e
      exact ⟨some (.ref a), List.getElem?_set_self (by rw [E.len]; exact hl), a, vs, rfl, h, r, n, b, ns⟩
    · rw [List.getElem?_set_ne hj] at e ⊢
      exact E.sl j s e
  · by_cases hj : i = j
    · by_cases hk : i = k
      · rw [← hj, hk]
      · subst hj
        rw [List.getElem?_set_ne hk] at e2 e4
        have hl : i < σ.length := by
          have := (List.getElem?_eq_some_iff.mp e3).1
          rw [List.length_set] at this; exact this
        rw [List.getElem?_set_self hl] at e3
        cases e3
        exact absurd e4 (no k ys e2)
    · rw [List.getElem?_set_ne hj] at e1 e3
      by_cases hk : i = k
      · subst hk
        have hl : i < σ.length := by
          have := (List.getElem?_eq_some_iff.mp e4).1
          rw [List.length_set] at this; exact this
        rw [List.getElem?_set_self hl] at e4
        cases e4
        exact absurd e3 (no j xs e1)
      · rw [List.getElem?_set_ne hk] at e2 e4
        exact E.ds j k xs ys a' e1 e2 e3 e4
/-- the own list of a slot is written -/
theorem EvD.write {c : C} {S : List Sl} {F : Hp} {σ : St} {H : Hp} {i : Nat} {a : Addr} {xs ds : OB} {vs : HO} (E : EvD c S F σ H) (e : S[i]? = some (.ob xs)) (es : σ[i]? = some (some (.ref a))) (r : OBR F vs ds) :
    EvD c (S.set i (.ob ds)) F σ (upd H a vs) := by
  obtain ⟨x, e1, a', vs', e2, h, r', n, b, q⟩ := E.sl i _ e
  rw [es] at e1; cases e1; cases e2
  have hl : i < S.length := (List.getElem?_eq_some_iff.mp e).1
  refine ⟨⟨E.fin.f0, E.fin.fh.upd2 n, E.fin.bh.upd2 b, E.fin.bf, fun p ep => ?_⟩, by rw [List.length_set]; exact E.len, fun j s ej => ?_, fun j k xs' ys' a' e1 e2 e3 e4 => ?_⟩
  · obtain ⟨⟨cs, l, m, t, h1, h2⟩, n1, n2, b1, b2⟩ := E.fin.src p ep
    exact ⟨⟨cs, l, m, t, by rw [upd_ne (q p ep).1.symm]; exact h1, by rw [upd_ne (q p ep).2.symm]; exact h2⟩, n1, n2, b1, b2⟩
  · by_cases hj : i = j
    · subst hj
      rw [List.getElem?_set_self hl] at ej
      cases ej
      exact ⟨_, es, a, vs, rfl, upd_same, r, n, b, q⟩
    · rw [List.getElem?_set_ne hj] at ej
      obtain ⟨x, e1, rr⟩ := E.sl j s ej
      refine ⟨x, e1, ?_⟩
      cases s with
      | emp => trivial
      | val d => exact rr
      | src => exact rr
      | ob ds' =>
        obtain ⟨a2, vs2, e2, h2, r2, n2, b2, q2⟩ := rr
        subst e2
        have : a2 ≠ a := fun z => hj (E.ds i j _ _ a e ej es (by rw [e1, z]))
        exact ⟨a2, vs2, rfl, by rw [upd_ne this]; exact h2, r2, n2, b2, q2⟩
  · have own : ∀ {j : Nat} {ys : OB}, (S.set i (.ob ds))[j]? = some (.ob ys) → ∃ zs, S[j]? = some (.ob zs) := fun {j ys} z => by
      by_cases hj : i = j
      · subst hj; exact ⟨_, e⟩
      · rw [List.getElem?_set_ne hj] at z; exact ⟨_, z⟩
    obtain ⟨z1, f1⟩ := own e1
    obtain ⟨z2, f2⟩ := own e2
    exact E.ds j k _ _ _ f1 f2 e3 e4
/-- a slot's own list is frozen -/
theorem EvD.freezeAt {c : C} {S : List Sl} {F : Hp} {σ : St} {H : Hp} {i : Nat} {xs : OB} (E : EvD c S F σ H) (e : S[i]? = some (.ob xs)) : ∃ F' v, Ex F F' ∧ σ[i]? = some (some v) ∧ Rp F' v (obD xs) ∧ EvD c (S.set i (.val (obD xs))) F' σ H := by
  obtain ⟨x, e1, a, vs, e2, h, r, n, b, q⟩ := E.sl i _ e
  subst e2
  have hl : i < S.length := (List.getElem?_eq_some_iff.mp e).1
  have hemp : EvD c (S.set i .emp) F σ H := by
    refine ⟨E.fin, by rw [List.length_set]; exact E.len, fun j s ej => ?_, fun j k xs' ys' a' f1 f2 f3 f4 => ?_⟩
    · by_cases hj : i = j
      · subst hj
        rw [List.getElem?_set_self hl] at ej; cases ej
        exact ⟨_, e1, trivial⟩
      · rw [List.getElem?_set_ne hj] at ej; exact E.sl j s ej
    · have own : ∀ {j : Nat} {ys : OB}, (S.set i .emp)[j]? = some (.ob ys) → S[j]? = some (.ob ys) := fun {j ys} z => by
        by_cases hj : i = j
        · subst hj; rw [List.getElem?_set_self hl] at z; cases z
        · rw [List.getElem?_set_ne hj] at z; exact z
      exact E.ds j k _ _ _ (own f1) (own f2) f3 f4
  have hf : EvD c (S.set i .emp) (upd F a vs) σ H := hemp.freeze h n b (fun p ep => q p ep) fun j ys ej ea => ?_
  · refine ⟨upd F a vs, .ref a, Ex.new n, e1, (r.ex (Ex.new n)).rp upd_same, ?_⟩
    refine ⟨hf.fin, by rw [List.length_set]; exact E.len, fun j s ej => ?_, fun j k xs' ys' a' f1 f2 f3 f4 => ?_⟩
    · by_cases hj : i = j
      · subst hj
        rw [List.getElem?_set_self hl] at ej; cases ej
        exact ⟨_, e1, _, rfl, (r.ex (Ex.new n)).rp upd_same⟩
      · rw [List.getElem?_set_ne hj] at ej
        exact hf.sl j s (by rw [List.getElem?_set_ne hj]; exact ej)
    · have own : ∀ {j : Nat} {ys : OB}, (S.set i (.val (obD xs)))[j]? = some (.ob ys) → S[j]? = some (.ob ys) := fun {j ys} z => by
        by_cases hj : i = j
        · subst hj; rw [List.getElem?_set_self hl] at z; cases z
        · rw [List.getElem?_set_ne hj] at z; exact z
      exact E.ds j k _ _ _ (own f1) (own f2) f3 f4
  · by_cases hj : i = j
    · subst hj; rw [List.getElem?_set_self hl] at ej; cases ej
    · rw [List.getElem?_set_ne hj] at ej
      exact hj (E.ds i j _ _ a e ej e1 ea)
/-- a slot is forgotten -/
theorem EvD.wipe1 {c : C} {S : List Sl} {F : Hp} {σ : St} {H : Hp} {i : Nat} (E : EvD c S F σ H) : EvD c (S.set i .emp) F (σ.set i none) H := by
  have own : ∀ {j : Nat} {ys : OB}, (S.set i .emp)[j]? = some (.ob ys) → i ≠ j ∧ S[j]? = some (.ob ys) := fun {j ys} z => by
    by_cases hj : i = j
    · subst hj
      by_cases hl : i < S.length
      · rw [List.getElem?_set_self hl] at z; cases z
      · rw [List.getElem?_eq_none (by rw [List.length_set]; omega)] at z; cases z
    · rw [List.getElem?_set_ne hj] at z; exact ⟨hj, z⟩
  refine ⟨E.fin, by rw [List.length_set, List.length_set]; exact E.len, fun j s ej => ?_, fun j k xs' ys' a' f1 f2 f3 f4 => ?_⟩
  · by_cases hj : i = j
    · subst hj
      have hl : i < S.length := by
        have := (List.getElem?_eq_some_iff.mp ej).1
        rw [List.length_set] at this; exact this
      rw [List.getElem?_set_self hl] at ej; cases ej
      exact ⟨none, List.getElem?_set_self (by rw [E.len]; exact hl), trivial⟩
    · rw [List.getElem?_set_ne hj] at ej ⊢; exact E.sl j s ej
  · obtain ⟨n1, g1⟩ := own f1
    obtain ⟨n2, g2⟩ := own f2
    rw [List.getElem?_set_ne n1] at f3
    rw [List.getElem?_set_ne n2] at f4
    exact E.ds j k _ _ _ g1 g2 f3 f4
def wipeS (S : List Sl) : List Nat → List Sl
  | [] => S
  | v :: vs => (wipeS S vs).set v .emp
theorem EvD.wipe {c : C} {S : List Sl} {F : Hp} {σ : St} {H : Hp} (E : EvD c S F σ H) : ∀ vs : List Nat, EvD c (wipeS S vs) F (L2.wipe σ vs) H
  | [] => E
  | _ :: vs => (E.wipe vs).wipe1
end DL

/-! DL: judgements over slots, the rules that lead through. -/
namespace DL
open PySem L2

/-! ### the machine's own readings -/
section
variable {X : Cx}
def tE (X : Cx) (e : Expr) : TE := fun σ H Q => ∀ pins s, Inv X pins σ H s → wpAny (model X.prog X.w) X.A (eval e X.env) (EP X pins σ Q) X.xe s
def tT (X : Cx) (e : Expr) : TT := fun σ H Q => ∀ pins s, Inv X pins σ H s → wpAny (model X.prog X.w) X.A (isTrue e X.env (eval e X.env)) (TP X pins σ Q) X.xe s
def tA (X : Cx) (es : List Expr) : TA := fun σ H Q => ∀ pos pins s, Inv X pins σ H s → wpAny (model X.prog X.w) X.A (spliced (backTo pos (starEach es X.env))) (AP X pins σ Q) X.xe s
def tS (X : Cx) (st : Stmt) : TS := fun D σ H => ∀ pins s, Inv X pins σ H s → wpAny (model X.prog X.w) X.A (exec st X.env) (SP X pins D) X.xe s
def tSs (X : Cx) (st : List Stmt) : TS := fun D σ H => ∀ pins s, Inv X pins σ H s → wpAny (model X.prog X.w) X.A (execs st X.env) (SP X pins D) X.xe s
def tG (X : Cx) (target : Expr) : TG := fun v σ H Q => ∀ pins s u, Inv X pins σ H s → RelV v u → wpAny (model X.prog X.w) X.A (assign target X.env u) (fun _ s' => ∃ σ' H', Inv X pins σ' H' s' ∧ Q σ' H') X.xe s
def tI (X : Cx) (tg iter : Expr) : TI := fun σ H R => ∀ pins s, Inv X pins σ H s → wpAny (model X.prog X.w) X.A (eval iter X.env) (fun v s1 => wpAny (model X.prog X.w) X.A (pyIter v) (PIE X pins σ tg R) X.xe s1) X.xe s
theorem pe_tE {e : Expr} : PE X e (tE X e) := ⟨fun pins s _ _ _ I h => h pins s I⟩
theorem pt_tT {e : Expr} : PT X e (tT X e) := ⟨fun pins s _ _ _ I h => h pins s I⟩
theorem pa_tA {es : List Expr} : PA X es (tA X es) := ⟨fun pos pins s _ _ _ I h => h pos pins s I⟩
theorem ps_tS {st : Stmt} : PS X st (tS X st) := ⟨fun pins s _ _ _ I h => h pins s I⟩
theorem pss_tSs {st : List Stmt} : PSs X st (tSs X st) := ⟨fun pins s _ _ _ I h => h pins s I⟩
theorem pg_tG {tg : Expr} : PG X tg (tG X tg) := ⟨fun pins s _ _ _ u _ I r h => h pins s u I r⟩
theorem pi_tI {tg iter : Expr} : PI X tg iter (tI X tg iter) := ⟨fun pins s _ _ _ I h => h pins s I⟩
theorem of_pe {e : Expr} {t : TE} {σ : St} {H : Hp} {Q : VK} (h : PE X e t) (q : t σ H Q) : tE X e σ H Q := fun pins s I => h.run pins s σ H Q I q
theorem of_pt {e : Expr} {t : TT} {σ : St} {H : Hp} {Q : Bool → Hp → Prop} (h : PT X e t) (q : t σ H Q) : tT X e σ H Q := fun pins s I => h.run pins s σ H Q I q
theorem of_pa {es : List Expr} {t : TA} {σ : St} {H : Hp} {Q : List V → Hp → Prop} (h : PA X es t) (q : t σ H Q) : tA X es σ H Q := fun pos pins s I => h.run pos pins s σ H Q I q
theorem of_ps {st : Stmt} {t : TS} {σ : St} {H : Hp} {D : Ends} (h : PS X st t) (q : t D σ H) : tS X st D σ H := fun pins s I => h.run pins s σ H D I q
theorem of_pss {st : List Stmt} {t : TS} {σ : St} {H : Hp} {D : Ends} (h : PSs X st t) (q : t D σ H) : tSs X st D σ H := fun pins s I => h.run pins s σ H D I q
theorem of_pg {tg : Expr} {t : TG} {v : V} {σ : St} {H : Hp} {Q : St → Hp → Prop} (h : PG X tg t) (q : t v σ H Q) : tG X tg v σ H Q := fun pins s u I r => h.run pins s σ H v u Q I r q
theorem of_pi {tg iter : Expr} {t : TI} {σ : St} {H : Hp} {R : It → Hp → Prop} (h : PI X tg iter t) (q : t σ H R) : tI X tg iter σ H R := fun pins s I => h.run pins s σ H R I q
end

/-! ### judgements -/
inductive Ar where
  | d (d : D)
  | src
def ArR (c : C) (F : Hp) (v : V) : Ar → Prop
  | .d d => Rp F v d
  | .src => ∃ p, c.sr = some p ∧ v = .ref p.1
inductive ArA (c : C) (F : Hp) : List V → List Ar → Prop
  | nil : ArA c F [] []
  | cons {v a vs as} : ArR c F v a → ArA c F vs as → ArA c F (v :: vs) (a :: as)
theorem ArR.ex {c : C} {F F' : Hp} {v : V} (k : Ex F F') : ∀ {a : Ar}, ArR c F v a → ArR c F' v a
  | .d _, h => Rp.ex k h
  | .src, h => h
theorem ArA.ex {c : C} {F F' : Hp} (k : Ex F F') {vs : List V} {as : List Ar} (h : ArA c F vs as) : ArA c F' vs as := by
  induction h with
  | nil => exact .nil
  | cons r _ ih => exact .cons (r.ex k) ih
theorem ArA.length {c : C} {F : Hp} {vs : List V} {as : List Ar} (h : ArA c F vs as) : vs.length = as.length := by
  induction h with
  | nil => rfl
  | cons r _ ih => rw [List.length_cons, List.length_cons, ih]
theorem ArA.data {c : C} {F : Hp} : ∀ {vs : List V} {ds : List D}, ArA c F vs (ds.map Ar.d) → RpA F vs ds
  | _, [], h => by cases h; exact .nil
  | _, d :: ds, h => by
    cases h with
    | cons r t => exact .cons r (ArA.data t)

def C.hold (c : C) (Dl : Addr) (o : HO) : C := ⟨upd c.B Dl o, c.F0, c.sr⟩
/-- what is known of where a judgement stands; it holds of a part of it, too -/
structure SR where
  q : C → Prop
  st : ∀ c Dl o, c.B Dl = none → q c → q (c.hold Dl o)
/-- a def's own place, and parts of it -/
def srL (c0 : C) : SR := ⟨fun c => c.sr = c0.sr ∧ c.F0 = c0.F0 ∧ Ex c0.B c.B, fun c Dl o n ⟨a, b, e⟩ => ⟨a, b, e.trans (Ex.new n)⟩⟩
theorem srL_refl (c0 : C) : (srL c0).q c0 := ⟨rfl, rfl, Ex.refl _⟩
theorem srL_fin {c0 c : C} {F H : Hp} (h : (srL c0).q c) (f : Fin c F H) : Fin c0 F H := by
  obtain ⟨a, b, e⟩ := h
  refine ⟨by rw [← b]; exact f.f0, f.fh, e.trans f.bh, fun x o ex => ?_, fun p ep => ?_⟩
  · rw [← b]; exact f.bf x o (e x o ex)
  · obtain ⟨s, n1, n2, b1, b2⟩ := f.src p (a.trans ep)
    exact ⟨s, n1, n2, e.back b1, e.back b2⟩
/-- what follows a new list -/
def NewL (c : C) (S' : List Sl) (F' H' : Hp) (σ : St) (p : Addr) (o : OB) : Prop :=
  ∃ h, EvD c S' F' σ H' ∧ H' p = some h ∧ OBR F' h o ∧ F' p = none ∧ c.B p = none ∧ (∀ q, c.sr = some q → p ≠ q.1 ∧ p ≠ q.2) ∧ ∀ (j : Nat) xs, S'[j]? = some (.ob xs) → σ[j]? ≠ some (some (.ref p))
def JE (X : Cx) (r : SR) (e : Expr) (S : List Sl) (K : D → List Sl → Prop) : Prop :=
  ∀ (c : C) F σ H, r.q c → EvD c S F σ H → ∀ Q : VK, (∀ v d F' H' S', K d S' → EvD c S' F' σ H' → Ex F F' → Rp F' v d → Q v H') → tE X e σ H Q
/-- a new object -/
def JO (X : Cx) (r : SR) (e : Expr) (S : List Sl) (K : OB → List Sl → Prop) : Prop :=
  ∀ (c : C) F σ H, r.q c → EvD c S F σ H → ∀ Q : VK, (∀ p o F' H' S', K o S' → NewL c S' F' H' σ p o → Ex F F' → Q (.ref p) H') → tE X e σ H Q
def JN (X : Cx) (r : SR) (e : Expr) (S : List Sl) (K : List D → List Sl → Prop) : Prop :=
  ∀ (c : C) F σ H, r.q c → EvD c S F σ H → ∀ Q : VK, (∀ p ds F' H' S', K ds S' → NewL c S' F' H' σ p (.l ds) → Ex F F' → Q (.ref p) H') → tE X e σ H Q
def JT (X : Cx) (r : SR) (e : Expr) (S : List Sl) (K : Bool → List Sl → Prop) : Prop :=
  ∀ (c : C) F σ H, r.q c → EvD c S F σ H → ∀ Q : Bool → Hp → Prop, (∀ b F' H' S', K b S' → EvD c S' F' σ H' → Ex F F' → Q b H') → tT X e σ H Q
def JA (X : Cx) (r : SR) (es : List Expr) (S : List Sl) (K : List Ar → List Sl → Prop) : Prop :=
  ∀ (c : C) F σ H, r.q c → EvD c S F σ H → ∀ Q : List V → Hp → Prop, (∀ vs as F' H' S', K as S' → EvD c S' F' σ H' → Ex F F' → ArA c F' vs as → Q vs H') → tA X es σ H Q
structure DE where
  nx : List Sl → Prop
  rt : D → Prop
  bk : List Sl → Prop := fun _ => False
  ct : List Sl → Prop := fun _ => False
structure EndsR (c : C) (F : Hp) (E : DE) (G : Ends) : Prop where
  nx : ∀ F' σ' H' S', E.nx S' → EvD c S' F' σ' H' → Ex F F' → G.nx σ' H'
  rt : ∀ v d F' H', E.rt d → Fin c F' H' → Rp F' v d → G.rt v H'
  bk : ∀ F' σ' H' S', E.bk S' → EvD c S' F' σ' H' → Ex F F' → G.bk σ' H'
  ct : ∀ F' σ' H' S', E.ct S' → EvD c S' F' σ' H' → Ex F F' → G.ct σ' H'
def JS (X : Cx) (r : SR) (st : Stmt) (S : List Sl) (E : DE) : Prop :=
  ∀ (c : C) F σ H, r.q c → EvD c S F σ H → ∀ G : Ends, EndsR c F E G → tS X st G σ H
def JSs (X : Cx) (r : SR) (st : List Stmt) (S : List Sl) (E : DE) : Prop :=
  ∀ (c : C) F σ H, r.q c → EvD c S F σ H → ∀ G : Ends, EndsR c F E G → tSs X st G σ H
/-- a target; ts: the slots that it may store -/
def JG (X : Cx) (r : SR) (tg : Expr) (ts : List Nat) (d : D) (S : List Sl) (K : List Sl → Prop) : Prop :=
  ∀ (c : C) F σ H v, r.q c → EvD c S F σ H → Rp F v d → ∀ Q : St → Hp → Prop, (∀ F' σ' H' S', K S' → EvD c S' F' σ' H' → Ex F F' → (∀ j, j ∉ ts → σ'[j]? = σ[j]?) ∧ σ'.length = σ.length → Q σ' H') → tG X tg v σ H Q
/-- a walk over data -/
structure ItD (J : It) (B F : Hp) (ds : List D) : Prop where
  stop : ∀ i H, Ex B H → Ex F H → ds.length ≤ i → J.stop i H
  go : ∀ i H, Ex B H → Ex F H → i < ds.length → J.go i H
  yld : ∀ i H x H', Ex B H → Ex F H → J.yld i H x H' → i < ds.length → (H' = H ∧ ∃ d, ds[i]? = some d ∧ Rp F x d) ∨ (∃ T xs es, x = .ref T ∧ H T = none ∧ H' = upd H T (.tup xs) ∧ RpA F xs es ∧ ds[i]? = some (.tuple es)) ∨
    ∃ T xs es, x = .ref T ∧ H T = some (.tup xs) ∧ H' = H ∧ RpA F xs es ∧ ds[i]? = some (.tuple es)
/-- .. where it stands -/
def JIw (wi : TI) (c : C) (F : Hp) (σ : St) (H : Hp) (K : List D → List Sl → Prop) : Prop :=
  ∀ R : It → Hp → Prop, (∀ J ds F' H' S', K ds S' → EvD c S' F' σ H' → Ex F F' → ItD J c.B F' ds → R J H') → wi σ H R
def JI (X : Cx) (r : SR) (tg iter : Expr) (S : List Sl) (K : List D → List Sl → Prop) : Prop :=
  ∀ (c : C) F σ H, r.q c → EvD c S F σ H → ∀ R : It → Hp → Prop, (∀ J ds F' H' S', K ds S' → EvD c S' F' σ H' → Ex F F' → ItD J c.B F' ds → R J H') → tI X tg iter σ H R

section
variable {X : Cx} {r : SR} {S : List Sl}
theorem EndsR.ex {c : C} {F F' : Hp} {E : DE} {G : Ends} (h : EndsR c F E G) (k : Ex F F') : EndsR c F' E G :=
  ⟨fun _ _ _ _ a b e => h.nx _ _ _ _ a b (k.trans e), h.rt, fun _ _ _ _ a b e => h.bk _ _ _ _ a b (k.trans e), fun _ _ _ _ a b e => h.ct _ _ _ _ a b (k.trans e)⟩
theorem JE.mono {e : Expr} {K K' : D → List Sl → Prop} (h : JE X r e S K) (k : ∀ d S', K d S' → K' d S') : JE X r e S K' :=
  fun c F σ H hr E Q q => h c F σ H hr E Q fun v d F' H' S' a => q v d F' H' S' (k d S' a)
theorem JT.mono {e : Expr} {K K' : Bool → List Sl → Prop} (h : JT X r e S K) (k : ∀ d S', K d S' → K' d S') : JT X r e S K' :=
  fun c F σ H hr E Q q => h c F σ H hr E Q fun d F' H' S' a => q d F' H' S' (k d S' a)
theorem JN.mono {e : Expr} {K K' : List D → List Sl → Prop} (h : JN X r e S K) (k : ∀ d S', K d S' → K' d S') : JN X r e S K' :=
  fun c F σ H hr E Q q => h c F σ H hr E Q fun v d F' H' S' a => q v d F' H' S' (k d S' a)
theorem JSs.mono {st : List Stmt} {E E' : DE} (h : JSs X r st S E) (h1 : ∀ S, E.nx S → E'.nx S) (h2 : ∀ d, E.rt d → E'.rt d) (h3 : ∀ S, E.bk S → E'.bk S) (h4 : ∀ S, E.ct S → E'.ct S) : JSs X r st S E' :=
  fun c F σ H hr Ev G g => h c F σ H hr Ev G ⟨fun _ _ _ _ a => g.nx _ _ _ _ (h1 _ a), fun _ _ _ _ a => g.rt _ _ _ _ (h2 _ a), fun _ _ _ _ a => g.bk _ _ _ _ (h3 _ a), fun _ _ _ _ a => g.ct _ _ _ _ (h4 _ a)⟩

theorem JO.mono {e : Expr} {K K' : OB → List Sl → Prop} (h : JO X r e S K) (k : ∀ d S', K d S' → K' d S') : JO X r e S K' :=
  fun c F σ H hr E Q q => h c F σ H hr E Q fun v d F' H' S' a => q v d F' H' S' (k d S' a)
theorem JO.jn {e : Expr} {K : List D → List Sl → Prop} (h : JO X r e S fun o S' => ∃ ds, o = .l ds ∧ K ds S') : JN X r e S K :=
  fun c F σ H hr E Q q => h c F σ H hr E Q fun v d F' H' S' ⟨ds, e, a⟩ n k => by subst e; exact q v ds F' H' S' a n k
theorem JN.jo {e : Expr} {K : OB → List Sl → Prop} (h : JN X r e S fun ds S' => K (.l ds) S') : JO X r e S K :=
  fun c F σ H hr E Q q => h c F σ H hr E Q fun v ds F' H' S' a n k => q v _ F' H' S' a n k
/-- a new object is data like any other -/
theorem NewL.froz {c : C} {S' : List Sl} {F' H' : Hp} {σ : St} {p : Addr} {o : OB} (h : NewL c S' F' H' σ p o) : ∃ F2, EvD c S' F2 σ H' ∧ Ex F' F2 ∧ Rp F2 (.ref p) (obD o) := by
  obtain ⟨vs, E, hp, hv, n, b, q, no⟩ := h
  exact ⟨upd F' p vs, E.freeze hp n b q no, Ex.new n, (hv.ex (Ex.new n)).rp upd_same⟩
theorem JO.je {e : Expr} {K : D → List Sl → Prop} (h : JO X r e S (fun o S' => K (obD o) S')) : JE X r e S K :=
  fun c F σ H hr E Q q => h c F σ H hr E Q fun p ds F' H' S' a n k => by
    obtain ⟨F2, E2, k2, rp⟩ := n.froz
    exact q _ _ F2 H' S' a E2 (k.trans k2) rp
theorem JN.je {e : Expr} {K : D → List Sl → Prop} (h : JN X r e S (fun ds S' => K (.list ds) S')) : JE X r e S K := (JN.jo (K := fun o S' => K (obD o) S') h).je

/-! ### names, constants -/
theorem je_var {K : D → List Sl → Prop} {x : Str} {pos : Pos} (i : Nat) {d : D} (hN : X.N[i]? = some x) (hv : Vis X.env.scope x) (hd : (x == ("__debug__" : Str)) = false) (hcd : (x == ("__classdict__" : Str)) = false)
    (e : S[i]? = some (.val d)) (k : K d S) : JE X r (.Name x pos) S K := fun c F σ H hr E Q q => by
  obtain ⟨y, e1, v, e2, rp⟩ := E.sl i _ e
  subst e2
  exact of_pe (pe_var hN hv hd hcd) ⟨v, e1, q v d F H S k E (Ex.refl F) rp⟩
/-- an object of one's own, frozen by the reading -/
theorem je_own {K : D → List Sl → Prop} {x : Str} {pos : Pos} (i : Nat) {xs : OB} (hN : X.N[i]? = some x) (hv : Vis X.env.scope x) (hd : (x == ("__debug__" : Str)) = false) (hcd : (x == ("__classdict__" : Str)) = false)
    (e : S[i]? = some (.ob xs)) (k : K (obD xs) (S.set i (.val (obD xs)))) : JE X r (.Name x pos) S K := fun c F σ H hr E Q q => by
  obtain ⟨F', v, kF, e1, rp, E'⟩ := E.freezeAt e
  exact of_pe (pe_var hN hv hd hcd) ⟨v, e1, q v _ F' H _ k E' kF rp⟩
theorem je_int {K : D → List Sl → Prop} {i j pos} (k : K (.int i) S) : JE X r (.Constant (.int i) j pos) S K := fun c F σ H _ E Q q => of_pe pe_int (q _ _ F H S k E (Ex.refl F) (.int i))
theorem je_bl {K : D → List Sl → Prop} {i j pos} (k : K (.bool i) S) : JE X r (.Constant (.bool i) j pos) S K := fun c F σ H _ E Q q => of_pe pe_bl (q _ _ F H S k E (Ex.refl F) (.bl i))
theorem je_non {K : D → List Sl → Prop} {j pos} (k : K .none S) : JE X r (.Constant .none j pos) S K := fun c F σ H _ E Q q => of_pe pe_non (q _ _ F H S k E (Ex.refl F) .non)
theorem je_str {K : D → List Sl → Prop} {x j pos} (k : K (.str x) S) : JE X r (.Constant (.str x) j pos) S K := fun c F σ H _ E Q q => of_pe pe_str (q _ _ F H S k E (Ex.refl F) (.str x))

/-! ### operators -/
structure Grow (F H F' H' : Hp) : Prop where
  kF : Ex F F'
  kH : Ex H H'
  fh : Ex F' H'
  kn : ∀ a o, H a = some o → F a = none → F' a = none
theorem Grow.refl {F H : Hp} (k : Ex F H) : Grow F H F H := ⟨Ex.refl F, Ex.refl H, k, fun _ _ _ h => h⟩
theorem Grow.new {F H : Hp} (k : Ex F H) {p : Addr} {o : HO} (n : H p = none) : Grow F H (upd F p o) (upd H p o) := by
  have nF : F p = none := k.back n
  refine ⟨Ex.new nF, Ex.new n, fun a u e => ?_, fun a u e h => ?_⟩
  · by_cases q : a = p
    · subst q; rw [upd_same] at e ⊢; exact e
    · rw [upd_ne q] at e ⊢; exact k a u e
  · rw [upd_ne (ne_of_none e n)]; exact h
theorem EvD.grow {c : C} {F F' : Hp} {σ : St} {H H' : Hp} (E : EvD c S F σ H) (g : Grow F H F' H') : EvD c S F' σ H' := E.ex g.kF g.kH g.fh g.kn
/-- a two-place operation on data -/
def OpD (rr : R2) (d1 d2 : D) (K : D → Prop) : Prop :=
  ∀ F H v1 v2, Ex F H → Rp F v1 d1 → Rp F v2 d2 → ∀ Q : VK, (∀ v d F' H', K d → Grow F H F' H' → Rp F' v d → Q v H') → rr v1 v2 H Q
def UnD (rr : V → Hp → VK → Prop) (d1 : D) (K : D → Prop) : Prop :=
  ∀ F H v1, Ex F H → Rp F v1 d1 → ∀ Q : VK, (∀ v d F' H', K d → Grow F H F' H' → Rp F' v d → Q v H') → rr v1 H Q
def CallD (rr : List V → Hp → VK → Prop) (ds : List D) (K : D → Prop) : Prop :=
  ∀ F H vs, Ex F H → RpA F vs ds → ∀ Q : VK, (∀ v d F' H', K d → Grow F H F' H' → Rp F' v d → Q v H') → rr vs H Q
/-- a call that gives a new list -/
def CallN (rr : List V → Hp → VK → Prop) (ds : List D) (K : List D → Prop) : Prop :=
  ∀ F H vs, Ex F H → RpA F vs ds → ∀ Q : VK, (∀ p ws es, K es → H p = none → RpA F ws es → Q (.ref p) (upd H p (.lst ws))) → rr vs H Q
theorem je_op {K : D → List Sl → Prop} {a b : Expr} {op : Operator} {pos : Pos} {rr : R2} (ho : OpR X (binaryOp op) rr) (h : JE X r a S fun d1 S1 => JE X r b S1 fun d2 S2 => OpD rr d1 d2 fun d => K d S2) : JE X r (.BinOp a op b pos) S K :=
  fun c F σ H hr E Q q => of_pe (pe_op ho pe_tE pe_tE) (h c F σ H hr E _ fun v1 d1 F1 H1 S1 h1 E1 k1 r1 => h1 c F1 σ H1 hr E1 _ fun v2 d2 F2 H2 S2 h2 E2 k2 r2 =>
    h2 F2 H2 v1 v2 E2.fin.fh (r1.ex k2) r2 Q fun v d F3 H3 kd g rp => q v d F3 H3 S2 kd (E2.grow g) ((k1.trans k2).trans g.kF) rp)
theorem je_cmp {K : D → List Sl → Prop} {a b : Expr} {op : CmpOp} {pos : Pos} {rr : R2} (ho : OpR X (compareOp op) rr) (hm : behindInMarks op b = false) (h : JE X r a S fun d1 S1 => JE X r b S1 fun d2 S2 => OpD rr d1 d2 fun d => K d S2) : JE X r (.Compare a [op] [b] pos) S K :=
  fun c F σ H hr E Q q => of_pe (pe_cmpR ho pe_tE pe_tE hm) (h c F σ H hr E _ fun v1 d1 F1 H1 S1 h1 E1 k1 r1 => h1 c F1 σ H1 hr E1 _ fun v2 d2 F2 H2 S2 h2 E2 k2 r2 =>
    h2 F2 H2 v1 v2 E2.fin.fh (r1.ex k2) r2 Q fun v d F3 H3 kd g rp => q v d F3 H3 S2 kd (E2.grow g) ((k1.trans k2).trans g.kF) rp)
theorem je_ix {K : D → List Sl → Prop} {a b : Expr} {pos : Pos} {rr : R2} (ho : IxR X rr) (hs : PlainIx b) (h : JE X r a S fun d1 S1 => JE X r b S1 fun d2 S2 => OpD rr d1 d2 fun d => K d S2) : JE X r (.Subscript a b pos) S K :=
  fun c F σ H hr E Q q => of_pe (pe_ix ho pe_tE pe_tE hs) (h c F σ H hr E _ fun v1 d1 F1 H1 S1 h1 E1 k1 r1 => h1 c F1 σ H1 hr E1 _ fun v2 d2 F2 H2 S2 h2 E2 k2 r2 =>
    h2 F2 H2 v1 v2 E2.fin.fh (r1.ex k2) r2 Q fun v d F3 H3 kd g rp => q v d F3 H3 S2 kd (E2.grow g) ((k1.trans k2).trans g.kF) rp)
theorem je_un {K : D → List Sl → Prop} {a : Expr} {op : UnaryOp} {pos : Pos} {rr : V → Hp → VK → Prop} (ho : UnR X (unaryOp op) rr) (h : JE X r a S fun d1 S1 => UnD rr d1 fun d => K d S1) : JE X r (.UnaryOp op a pos) S K :=
  fun c F σ H hr E Q q => of_pe (pe_un ho pe_tE) (h c F σ H hr E _ fun v1 d1 F1 H1 S1 h1 E1 k1 r1 => h1 F1 H1 v1 E1.fin.fh r1 Q fun v d F3 H3 kd g rp => q v d F3 H3 S1 kd (E1.grow g) (k1.trans g.kF) rp)
/-- a test that is a value -/
theorem jt_val {K : Bool → List Sl → Prop} {e : Expr} (he : ∀ whole, isTrue e X.env whole = (do let v ← whole; standAt e.pos; holding [v] (truthy v))) (h : JE X r e S fun d S' => ∃ b, d = .bool b ∧ K b S') : JT X r e S K :=
  fun c F σ H hr E Q q => of_pt (pt_val pe_tE he) (h c F σ H hr E _ fun v d F1 H1 S1 h1 E1 k1 r1 => by
    obtain ⟨b, rfl, kb⟩ := h1
    cases r1
    exact ⟨b, rfl, q b F1 H1 S1 kb E1 k1⟩)
theorem jt_cmp {K : Bool → List Sl → Prop} {a b : Expr} {op : CmpOp} {pos : Pos} {rr : R2} (ho : OpR X (compareOp op) rr) (hm : behindInMarks op b = false) (h : JE X r a S fun d1 S1 => JE X r b S1 fun d2 S2 => OpD rr d1 d2 fun d => ∃ b, d = .bool b ∧ K b S2) : JT X r (.Compare a [op] [b] pos) S K :=
  fun c F σ H hr E Q q => of_pt (pt_cmpR ho pe_tE pe_tE hm) (h c F σ H hr E _ fun v1 d1 F1 H1 S1 h1 E1 k1 r1 => h1 c F1 σ H1 hr E1 _ fun v2 d2 F2 H2 S2 h2 E2 k2 r2 =>
    h2 F2 H2 v1 v2 E2.fin.fh (r1.ex k2) r2 _ fun v d F3 H3 kd g rp => by
      obtain ⟨b, rfl, kb⟩ := kd
      cases rp
      exact ⟨b, rfl, q b F3 H3 S2 kb (E2.grow g) ((k1.trans k2).trans g.kF)⟩)
/-- a < b < c -/
theorem je_chain {K : D → List Sl → Prop} {a b c' : Expr} {op op' : CmpOp} {pos : Pos} {rr rr' : R2} (ho : OpR X (compareOp op) rr) (ho' : OpR X (compareOp op') rr') (hp : PE X (.Compare a [op, op'] [b, c'] pos) (tChain rr rr' (tE X a) (tE X b) (tE X c')))
    (h : JE X r a S fun d1 S1 => JE X r b S1 fun d2 S2 => OpD rr d1 d2 fun d => ∃ k, d = .bool k ∧ if k = true then JE X r c' S2 fun d3 S3 => OpD rr' d2 d3 fun d => K d S3 else K (.bool false) S2) : JE X r (.Compare a [op, op'] [b, c'] pos) S K :=
  fun c F σ H hr E Q q => of_pe hp (h c F σ H hr E _ fun v1 d1 F1 H1 S1 h1 E1 k1 r1 => h1 c F1 σ H1 hr E1 _ fun v2 d2 F2 H2 S2 h2 E2 k2 r2 =>
    h2 F2 H2 v1 v2 E2.fin.fh (r1.ex k2) r2 _ fun v d F3 H3 kd g rp => by
      obtain ⟨b, rfl, kb⟩ := kd
      cases rp
      refine ⟨b, rfl, ?_⟩
      cases b with
      | true =>
        rw [if_pos rfl] at kb ⊢
        exact kb c F3 σ H3 hr (E2.grow g) _ fun v4 d4 F4 H4 S4 h4 E4 k4 r4 => h4 F4 H4 v2 v4 E4.fin.fh ((r2.ex g.kF).ex k4) r4 Q fun v5 d5 F5 H5 kd5 g5 rp5 =>
          q v5 d5 F5 H5 S4 kd5 (E4.grow g5) ((((k1.trans k2).trans g.kF).trans k4).trans g5.kF) rp5
      | false =>
        rw [if_neg Bool.false_ne_true] at kb ⊢
        exact q _ _ F3 H3 S2 kb (E2.grow g) ((k1.trans k2).trans g.kF) (.bl false))

/-! ### and, or, not, if -/
theorem je_one {K : D → List Sl → Prop} {op : BoolOp} {a : Expr} {pos : Pos} (h : JE X r a S K) : JE X r (.BoolOp op [a] pos) S K := fun c F σ H hr E Q q => of_pe (pe_one pe_tE) (h c F σ H hr E Q q)
theorem je_and {K : D → List Sl → Prop} {a b : Expr} {rest : List Expr} {pos : Pos} (h : JE X r a S fun d S1 => ∃ k, d = .bool k ∧ if k = true then JE X r (.BoolOp .And (b :: rest) pos) S1 K else K (.bool false) S1) : JE X r (.BoolOp .And (a :: b :: rest) pos) S K :=
  fun c F σ H hr E Q q => of_pe (pe_and pe_tE pe_tE) (h c F σ H hr E _ fun v d F1 H1 S1 h1 E1 k1 r1 => by
    obtain ⟨b, rfl, kb⟩ := h1
    cases r1
    refine ⟨b, rfl, ?_⟩
    cases b with
    | true =>
      rw [if_pos rfl] at kb ⊢
      exact kb c F1 σ H1 hr E1 Q fun v d F' H' S' a e k => q v d F' H' S' a e (k1.trans k)
    | false =>
      rw [if_neg Bool.false_ne_true] at kb ⊢
      exact q _ _ F1 H1 S1 kb E1 k1 (.bl false))
theorem je_or {K : D → List Sl → Prop} {a b : Expr} {rest : List Expr} {pos : Pos} (h : JE X r a S fun d S1 => ∃ k, d = .bool k ∧ if k = true then K (.bool true) S1 else JE X r (.BoolOp .Or (b :: rest) pos) S1 K) : JE X r (.BoolOp .Or (a :: b :: rest) pos) S K :=
  fun c F σ H hr E Q q => of_pe (pe_or pe_tE pe_tE) (h c F σ H hr E _ fun v d F1 H1 S1 h1 E1 k1 r1 => by
    obtain ⟨b, rfl, kb⟩ := h1
    cases r1
    refine ⟨b, rfl, ?_⟩
    cases b with
    | false =>
      rw [if_neg Bool.false_ne_true] at kb ⊢
      exact kb c F1 σ H1 hr E1 Q fun v d F' H' S' a e k => q v d F' H' S' a e (k1.trans k)
    | true =>
      rw [if_pos rfl] at kb ⊢
      exact q _ _ F1 H1 S1 kb E1 k1 (.bl true))
theorem je_not {K : D → List Sl → Prop} {a : Expr} {pos : Pos} (h : JE X r a S fun d S1 => ∃ k, d = .bool k ∧ K (.bool (!k)) S1) : JE X r (.UnaryOp .Not a pos) S K :=
  fun c F σ H hr E Q q => of_pe (pe_not pe_tE) (h c F σ H hr E _ fun v d F1 H1 S1 h1 E1 k1 r1 => by
    obtain ⟨b, rfl, kb⟩ := h1
    cases r1
    exact ⟨b, rfl, q _ _ F1 H1 S1 kb E1 k1 (.bl _)⟩)
theorem jt_not {K : Bool → List Sl → Prop} {a : Expr} {pos : Pos} (h : JT X r a S fun k S1 => K (!k) S1) : JT X r (.UnaryOp .Not a pos) S K :=
  fun c F σ H hr E Q q => of_pt (pt_not pt_tT) (h c F σ H hr E _ fun b F1 H1 S1 h1 E1 k1 => q (!b) F1 H1 S1 h1 E1 k1)
/-- a test of and, or: whatever its whole is -/
def JW (X : Cx) (r : SR) (e : Expr) (S : List Sl) (K : Bool → List Sl → Prop) : Prop :=
  ∀ (c : C) F σ H, r.q c → EvD c S F σ H → ∀ Q : Bool → Hp → Prop, (∀ b F' H' S', K b S' → EvD c S' F' σ H' → Ex F F' → Q b H') → ∀ whole pins s, Inv X pins σ H s → wpAny (model X.prog X.w) X.A (isTrue e X.env whole) (TP X pins σ Q) X.xe s
theorem JW.jt {e : Expr} {K : Bool → List Sl → Prop} (h : JW X r e S K) : JT X r e S K := fun c F σ H hr E Q q pins s I => h c F σ H hr E Q q _ pins s I
def tW (X : Cx) (e : Expr) : TT := fun σ H Q => ∀ whole pins s, Inv X pins σ H s → wpAny (model X.prog X.w) X.A (isTrue e X.env whole) (TP X pins σ Q) X.xe s
theorem pw_tW {e : Expr} : PW X e (tW X e) := ⟨fun wh pins s _ _ _ I h => h wh pins s I⟩
theorem jw_and1 {K : Bool → List Sl → Prop} {a : Expr} {pos : Pos} (h : JT X r a S K) : JW X r (.BoolOp .And [a] pos) S K := fun c F σ H hr E Q q wh pins s I => (pw_and1 pt_tT).run wh pins s σ H Q I (h c F σ H hr E Q q)
theorem jw_or1 {K : Bool → List Sl → Prop} {a : Expr} {pos : Pos} (h : JT X r a S K) : JW X r (.BoolOp .Or [a] pos) S K := fun c F σ H hr E Q q wh pins s I => (pw_or1 pt_tT).run wh pins s σ H Q I (h c F σ H hr E Q q)
theorem jw_and {K : Bool → List Sl → Prop} {a b : Expr} {rest : List Expr} {pos : Pos} (h : JT X r a S fun k S1 => if k = true then JW X r (.BoolOp .And (b :: rest) pos) S1 K else K false S1) : JW X r (.BoolOp .And (a :: b :: rest) pos) S K :=
  fun c F σ H hr E Q q wh pins s I => (pw_and pt_tT pw_tW).run wh pins s σ H Q I (h c F σ H hr E _ fun b F1 H1 S1 h1 E1 k1 => by
    cases b with
    | true =>
      rw [if_pos rfl] at h1 ⊢
      exact h1 c F1 σ H1 hr E1 Q fun b F' H' S' a e k => q b F' H' S' a e (k1.trans k)
    | false =>
      rw [if_neg Bool.false_ne_true] at h1 ⊢
      exact q _ F1 H1 S1 h1 E1 k1)
theorem jw_or {K : Bool → List Sl → Prop} {a b : Expr} {rest : List Expr} {pos : Pos} (h : JT X r a S fun k S1 => if k = true then K true S1 else JW X r (.BoolOp .Or (b :: rest) pos) S1 K) : JW X r (.BoolOp .Or (a :: b :: rest) pos) S K :=
  fun c F σ H hr E Q q wh pins s I => (pw_or pt_tT pw_tW).run wh pins s σ H Q I (h c F σ H hr E _ fun b F1 H1 S1 h1 E1 k1 => by
    cases b with
    | false =>
      rw [if_neg Bool.false_ne_true] at h1 ⊢
      exact h1 c F1 σ H1 hr E1 Q fun b F' H' S' a e k => q b F' H' S' a e (k1.trans k)
    | true =>
      rw [if_pos rfl] at h1 ⊢
      exact q _ F1 H1 S1 h1 E1 k1)
theorem je_ife {K : D → List Sl → Prop} {t a b : Expr} {pos : Pos} (h : JT X r t S fun k S1 => if k = true then JE X r a S1 K else JE X r b S1 K) : JE X r (.IfExp t a b pos) S K :=
  fun c F σ H hr E Q q => of_pe (pe_ifExp pt_tT pe_tE pe_tE) (h c F σ H hr E _ fun b F1 H1 S1 h1 E1 k1 => by
    cases b with
    | true =>
      rw [if_pos rfl] at h1 ⊢
      exact h1 c F1 σ H1 hr E1 Q fun v d F' H' S' a e k => q v d F' H' S' a e (k1.trans k)
    | false =>
      rw [if_neg Bool.false_ne_true] at h1 ⊢
      exact h1 c F1 σ H1 hr E1 Q fun v d F' H' S' a e k => q v d F' H' S' a e (k1.trans k))

/-! ### arguments, displays, calls -/
theorem ja_nil {K : List Ar → List Sl → Prop} (k : K [] S) : JA X r [] S K := fun c F σ H _ E Q q => of_pa pa_nil (q [] [] F H S k E (Ex.refl F) .nil)
theorem ja_cons {K : List Ar → List Sl → Prop} {e : Expr} {es : List Expr} (hs : starEach (e :: es) X.env = (false, eval e X.env) :: starEach es X.env) (h : JE X r e S fun d S1 => JA X r es S1 fun as S2 => K (.d d :: as) S2) : JA X r (e :: es) S K :=
  fun c F σ H hr E Q q => of_pa (pa_cons pe_tE pa_tA hs) (h c F σ H hr E _ fun v d F1 H1 S1 h1 E1 k1 r1 => h1 c F1 σ H1 hr E1 _ fun vs as F2 H2 S2 h2 E2 k2 r2 =>
    q (v :: vs) _ F2 H2 S2 h2 E2 (k1.trans k2) (.cons (show ArR c F2 v (.d d) from r1.ex k2) r2))
/-- the source handed on -/
theorem ja_src {K : List Ar → List Sl → Prop} {x : Str} {p : Pos} {es : List Expr} (i : Nat) (hN : X.N[i]? = some x) (hv : Vis X.env.scope x) (hd : (x == ("__debug__" : Str)) = false) (hcd : (x == ("__classdict__" : Str)) = false)
    (hs : starEach (.Name x p :: es) X.env = (false, eval (.Name x p) X.env) :: starEach es X.env) (e : S[i]? = some .src) (h : JA X r es S fun as S2 => K (.src :: as) S2) : JA X r (.Name x p :: es) S K :=
  fun c F σ H hr E Q q => by
    obtain ⟨y, e1, w, ew, e2⟩ := E.sl i _ e
    subst e2
    exact of_pa (pa_cons (pe_var hN hv hd hcd) pa_tA hs) ⟨.ref w.1, e1, h c F σ H hr E _ fun vs as F2 H2 S2 h2 E2 k2 r2 => q _ _ F2 H2 S2 h2 E2 k2 (.cons (show ArR c F2 _ .src from ⟨w, ew, rfl⟩) r2)⟩
def dats : List Ar → Option (List D)
  | [] => some []
  | .d d :: as => (dats as).map (d :: ·)
  | .src :: _ => none
theorem ArA.dats {c : C} {F : Hp} {vs : List V} {as : List Ar} (h : ArA c F vs as) : ∀ {ds : List D}, DL.dats as = some ds → RpA F vs ds := by
  induction h with
  | nil => intro ds e; cases e; exact .nil
  | @cons v a vs as rr t ih =>
    intro ds e
    cases a with
    | src => cases e
    | d d =>
      unfold DL.dats at e
      cases q : DL.dats as with
      | none => rw [q] at e; cases e
      | some es =>
        rw [q] at e
        cases e
        exact .cons rr (ih q)
theorem je_tup {K : D → List Sl → Prop} {es : List Expr} {x1} {pos : Pos} (h : JA X r es S fun as S1 => ∃ ds, dats as = some ds ∧ ds.length ≤ sizeLine ∧ K (.tuple ds) S1) : JE X r (.Tuple es x1 pos) S K :=
  fun c F σ H hr E Q q => of_pe (pe_tup pa_tA) (h c F σ H hr E _ fun vs as F1 H1 S1 h1 E1 k1 r1 => by
    obtain ⟨ds, e, hl, kd⟩ := h1
    have rp := r1.dats e
    refine ⟨by rw [rp.length]; exact hl, fun p n => ?_⟩
    have g := Grow.new E1.fin.fh (o := .tup vs) n
    exact q _ _ _ _ S1 kd (E1.grow g) (k1.trans g.kF) (.tup upd_same (rp.ex g.kF)))
theorem newL_ob {c : C} {F H : Hp} {σ : St} {p : Addr} {h : HO} {o : OB} (E : EvD c S F σ H) (n : H p = none) (rp : OBR F h o) : NewL c S F (upd H p h) σ p o := by
  refine ⟨h, E.laid n, upd_same, rp, E.fin.fh.back n, E.fin.bh.back n, fun q eq => ?_, fun j xs ej ea => ?_⟩
  · obtain ⟨⟨cs, l, m, t, h1, h2⟩, _⟩ := E.fin.src q eq
    exact ⟨(ne_of_none h1 n).symm, (ne_of_none h2 n).symm⟩
  · obtain ⟨x, e1, a, ws, e2, h1, _⟩ := E.sl j _ ej
    rw [ea] at e1; cases e1; cases e2
    rw [h1] at n; cases n
theorem newL_of {c : C} {F H : Hp} {σ : St} {p : Addr} {vs : List V} {ds : List D} (E : EvD c S F σ H) (n : H p = none) (rp : RpA F vs ds) : NewL c S F (upd H p (.lst vs)) σ p (.l ds) := newL_ob (h := .lst vs) E n rp
theorem jn_lst {K : List D → List Sl → Prop} {es : List Expr} {pos : Pos} (h : JA X r es S fun as S1 => ∃ ds, dats as = some ds ∧ ds.length ≤ sizeLine ∧ K ds S1) : JN X r (.List es pos) S K :=
  fun c F σ H hr E Q q => of_pe (pe_lst pa_tA) (h c F σ H hr E _ fun vs as F1 H1 S1 h1 E1 k1 r1 => by
    obtain ⟨ds, e, hl, kd⟩ := h1
    have rp := r1.dats e
    refine ⟨by rw [rp.length]; exact hl, fun p n => ?_⟩
    exact q _ _ _ _ S1 kd (newL_of E1 n rp) k1)
theorem je_callB {K : D → List Sl → Prop} {x : Str} {id : String} {e : Expr} {es : List Expr} {p pos : Pos} {rr : List V → Hp → VK → Prop} (hc : CallR X (.builtin id) rr) (hg : Gl X x) (hm : X.mg x = none) (hv : bootBuiltins x = some (.builtin id)) (hn : x ≠ "__name__") (hdb : (x == ("__debug__" : Str)) = false)
    (hp : PE X (.Call (.Name x p) (e :: es) [] pos) (tCB rr (tA X (e :: es)))) (h : JA X r (e :: es) S fun as S1 => ∃ ds, dats as = some ds ∧ CallD rr ds fun d => K d S1) : JE X r (.Call (.Name x p) (e :: es) [] pos) S K :=
  fun c F σ H hr E Q q => of_pe hp (h c F σ H hr E _ fun vs as F1 H1 S1 h1 E1 k1 r1 => by
    obtain ⟨ds, e, kd⟩ := h1
    exact kd F1 H1 vs E1.fin.fh (r1.dats e) Q fun v d F2 H2 kd2 g rp => q v d F2 H2 S1 kd2 (E1.grow g) (k1.trans g.kF) rp)
/-- any call of a value that the layer reads by the arguments alone -/
theorem je_callP {K : D → List Sl → Prop} {e : Expr} {es : List Expr} {rr : List V → Hp → VK → Prop} (hp : PE X e (tCB rr (tA X es))) (h : JA X r es S fun as S1 => ∃ ds, dats as = some ds ∧ CallD rr ds fun d => K d S1) : JE X r e S K :=
  fun c F σ H hr E Q q => of_pe hp (h c F σ H hr E _ fun vs as F1 H1 S1 h1 E1 k1 r1 => by
    obtain ⟨ds, e, kd⟩ := h1
    exact kd F1 H1 vs E1.fin.fh (r1.dats e) Q fun v d F2 H2 kd2 g rp => q v d F2 H2 S1 kd2 (E1.grow g) (k1.trans g.kF) rp)
theorem jn_callP {K : List D → List Sl → Prop} {e : Expr} {es : List Expr} {rr : List V → Hp → VK → Prop} (hp : PE X e (tCB rr (tA X es))) (h : JA X r es S fun as S1 => ∃ ds, dats as = some ds ∧ CallN rr ds fun d => K d S1) : JN X r e S K :=
  fun c F σ H hr E Q q => of_pe hp (h c F σ H hr E _ fun vs as F1 H1 S1 h1 E1 k1 r1 => by
    obtain ⟨ds, e, kd⟩ := h1
    exact kd F1 H1 vs E1.fin.fh (r1.dats e) Q fun p ws es ke n rp => q p es F1 _ S1 ke (newL_of E1 n rp) k1)

/-- a promise over data -/
def SpD (φ : List Ar → (D → Prop) → Prop) : Sp := fun vs H Q _ => ∃ (c : C) (as : List Ar) (K : D → Prop), Fin c c.F0 H ∧ ArA c c.F0 vs as ∧ φ as K ∧ ∀ v d F' H', K d → Fin c F' H' → Rp F' v d → Q v H'
theorem sp_call {φ : List Ar → (D → Prop) → Prop} {c : C} {F : Hp} {σ : St} {H : Hp} {vs : List V} {as : List Ar} {Q : VK} {XE : XK} {K : D → Prop} (E : EvD c S F σ H) (ra : ArA c F vs as) (h : φ as K)
    (q : ∀ v d F' H', K d → EvD c S F' σ H' → Ex F F' → Rp F' v d → Q v H') : SpD φ vs H Q XE := by
  have ns : ∀ a, (∃ p, c.sr = some p ∧ (a = p.1 ∨ a = p.2)) → F a = none ∧ c.B a = none := fun a ⟨p, ep, z⟩ => by
    obtain ⟨_, n1, n2, b1, b2⟩ := E.fin.src p ep
    rcases z with z | z <;> subst z
    · exact ⟨n1, b1⟩
    · exact ⟨n2, b2⟩
  let B' : Hp := fun a => match c.sr with
    | none => H a
    | some p => if a = p.1 ∨ a = p.2 then none else H a
  have hB : ∀ a o, B' a = some o → H a = some o := fun a o e => by
    show H a = some o
    cases hs : c.sr with
    | none => simp only [B', hs] at e; exact e
    | some p =>
      simp only [B', hs] at e
      by_cases z : a = p.1 ∨ a = p.2
      · rw [if_pos z] at e; cases e
      · rw [if_neg z] at e; exact e
  have hB2 : ∀ a, (∀ p, c.sr = some p → a ≠ p.1 ∧ a ≠ p.2) → B' a = H a := fun a z => by
    cases hs : c.sr with
    | none => simp only [B', hs]
    | some p =>
      obtain ⟨z1, z2⟩ := z p hs
      simp only [B', hs]
      rw [if_neg (by intro q; rcases q with q | q; exact z1 q; exact z2 q)]
  refine ⟨⟨B', F, c.sr⟩, as, K, ⟨Ex.refl F, E.fin.fh, hB, fun _ _ _ => .inl rfl, fun p ep => ?_⟩, ?_, h, fun v d F' H' kd fn rp => ?_⟩
  · obtain ⟨s, n1, n2, b1, b2⟩ := E.fin.src p ep
    have ep' : c.sr = some p := ep
    refine ⟨s, n1, n2, ?_, ?_⟩
    · show B' p.1 = none
      simp [B', ep']
    · show B' p.2 = none
      simp [B', ep']
  · clear q h
    induction ra with
    | nil => exact .nil
    | cons rr _ ih =>
      refine .cons ?_ ih
      revert rr
      cases ‹Ar› with
      | d d => exact fun z => z
      | src => exact fun z => z
  · have kF : Ex F F' := fn.f0
    refine q v d F' H' kd ?_ kF rp
    have hk : ∀ a o, (∀ p, c.sr = some p → a ≠ p.1 ∧ a ≠ p.2) → H a = some o → H' a = some o ∧ (F' a = F a ∨ ∃ xs, o = .tup xs) := fun a o z e => by
      have e' : B' a = some o := by rw [hB2 a z]; exact e
      exact ⟨fn.bh a o e', fn.bf a o e'⟩
    have hcB : ∀ a o, c.B a = some o → (∀ p, c.sr = some p → a ≠ p.1 ∧ a ≠ p.2) := fun a o e p ep => by
      obtain ⟨_, _, _, b1, b2⟩ := E.fin.src p ep
      exact ⟨fun z => (by rw [z, b1] at e; cases e), fun z => (by rw [z, b2] at e; cases e)⟩
    refine ⟨⟨E.fin.f0.trans kF, fn.fh, fun a o e => (hk a o (hcB a o e) (E.fin.bh a o e)).1, fun a o e => ((hk a o (hcB a o e) (E.fin.bh a o e)).2).elim (fun z => (E.fin.bf a o e).elim (fun y => .inl (z.trans y)) .inr) .inr, fun p ep => ?_⟩, E.len, fun i s e => ?_, E.ds⟩
    · obtain ⟨s, n1, n2, _, _⟩ := fn.src p ep
      obtain ⟨_, _, _, b1, b2⟩ := E.fin.src p ep
      exact ⟨s, n1, n2, b1, b2⟩
    · obtain ⟨x, e1, rr⟩ := E.sl i s e
      refine ⟨x, e1, ?_⟩
      cases s with
      | emp => trivial
      | src => exact rr
      | val d =>
        obtain ⟨v, e2, rr⟩ := rr
        exact ⟨v, e2, rr.ex kF⟩
      | ob ds =>
        obtain ⟨a, ws, e2, h1, r1, n1, b1, q1⟩ := rr
        have za : ∀ p, c.sr = some p → a ≠ p.1 ∧ a ≠ p.2 := q1
        obtain ⟨g1, g2⟩ := hk a _ za h1
        rcases g2 with g2 | ⟨xs, g2⟩
        · exact ⟨a, ws, e2, g1, r1.ex kF, by rw [g2]; exact n1, b1, q1⟩
        · have m := r1.mut
          rw [g2] at m
          exact m.elim
section
variable {k : Nat} {f : Addr} {fd : FuncData} {ps : List Str} {x : Str} {p pos : Pos} {e : Expr} {es : List Expr} {K : D → List Sl → Prop} {φ : List Ar → (D → Prop) → Prop}
theorem je_call (F : FnOk X.prog X.w X.K X.mg X.base CX0 k f fd ps (SpD φ)) (hr : Room k X.A) (hg : Gl X x) (hm : X.mg x = some (.ref f)) (hk : PySem.W.keepIn X.K (.ref f) = true) (hb : Binds X.K fd ps []) (hdb : (x == ("__debug__" : Str)) = false)
    (hp : ∀ {tt : TA}, PA X (e :: es) tt → PE X (.Call (.Name x p) (e :: es) [] pos) (tCall (SpD φ) [] E0 tt))
    (h : JA X r (e :: es) S fun as S1 => φ as fun d => K d S1) : JE X r (.Call (.Name x p) (e :: es) [] pos) S K :=
  fun c F σ H hr E Q q => of_pe (hp pa_tA) (h c F σ H hr E _ fun vs as F1 H1 S1 h1 E1 k1 r1 => by
    rw [List.append_nil]
    exact sp_call E1 r1 h1 fun v d F2 H2 kd E2 k2 rp => q v d F2 H2 S1 kd E2 (k1.trans k2) rp)
end
end
end DL

/-! DL: statements, targets, loops, comprehensions, a def by its body. -/
namespace DL
open PySem L2
section
variable {X : Cx} {r : SR} {S : List Sl}

/-! ### statements -/
theorem obr_l {F : Hp} {h : HO} {ds : List D} (r : OBR F h (.l ds)) : ∃ vs, h = .lst vs ∧ RpA F vs ds := by
  cases h <;> first
    | exact ⟨_, rfl, r⟩
    | exact False.elim r
theorem obr_d {F : Hp} {h : HO} {kvs : List (List Int × D)} (r : OBR F h (.d kvs)) : ∃ ws, h = .dT ws ∧ RpK F ws kvs := by
  cases h <;> first
    | exact ⟨_, rfl, r⟩
    | exact False.elim r
theorem jss_nil {E : DE} (k : E.nx S) : JSs X r [] S E := fun c F σ H _ Ev G g => of_pss pss_nil (g.nx F σ H S k Ev (Ex.refl F))
theorem jss_cons {st : Stmt} {rest : List Stmt} {E : DE} (h : JS X r st S { E with nx := fun S1 => JSs X r rest S1 E }) : JSs X r (st :: rest) S E :=
  fun c F σ H hr Ev G g => of_pss (pss_cons ps_tS pss_tSs) (h c F σ H hr Ev { G with nx := tSs X rest G } ⟨fun F' σ' H' S' a E' k => a c F' σ' H' hr E' G (g.ex k), g.rt, g.bk, g.ct⟩)
theorem js_ret {e : Expr} {pos : Pos} {E : DE} (h : JE X r e S fun d _ => E.rt d) : JS X r (.Return (some e) pos) S E :=
  fun c F σ H hr Ev G g => of_ps (ps_ret pe_tE) (h c F σ H hr Ev _ fun v d F1 H1 S1 h1 E1 k1 r1 => g.rt v d F1 H1 h1 E1.fin r1)
theorem js_set {x : Str} {e : Expr} {pos pos' : Pos} {E : DE} (i : Nat) (hN : X.N.Nodup) (hi : X.N[i]? = some x) (hx : Loc X.env.scope x) (hs : swapsWith e (some (.Name x pos')) pos.line X.env = pure false) (hf : X.fn x = true ∨ X.env.scope.names.lookup x = some .local)
    (h : JE X r e S fun d S1 => E.nx (S1.set i (.val d))) : JS X r (.Assign [.Name x pos'] e pos) S E :=
  fun c F σ H hr Ev G g => of_ps (ps_set hN hi hx pe_tE hs hf) (h c F σ H hr Ev _ fun v d F1 H1 S1 h1 E1 k1 r1 => g.nx F1 _ H1 _ h1 (E1.set r1) k1)
theorem js_setN {x : Str} {e : Expr} {pos pos' : Pos} {E : DE} (i : Nat) (hN : X.N.Nodup) (hi : X.N[i]? = some x) (hx : Loc X.env.scope x) (hs : swapsWith e (some (.Name x pos')) pos.line X.env = pure false) (hf : X.fn x = true ∨ X.env.scope.names.lookup x = some .local)
    (h : JN X r e S fun ds S1 => E.nx (S1.set i (.own ds))) : JS X r (.Assign [.Name x pos'] e pos) S E :=
  fun c F σ H hr Ev G g => of_ps (ps_set hN hi hx pe_tE hs hf) (h c F σ H hr Ev _ fun p ds F1 H1 S1 h1 n k1 => by
    obtain ⟨vs, E1, hp, hv, nF, b, q, no⟩ := n
    exact g.nx F1 _ H1 _ h1 (E1.setOwn hp hv nF b q no) k1)
theorem js_setO {x : Str} {e : Expr} {pos pos' : Pos} {E : DE} (i : Nat) (hN : X.N.Nodup) (hi : X.N[i]? = some x) (hx : Loc X.env.scope x) (hs : swapsWith e (some (.Name x pos')) pos.line X.env = pure false) (hf : X.fn x = true ∨ X.env.scope.names.lookup x = some .local)
    (h : JO X r e S fun o S1 => E.nx (S1.set i (.ob o))) : JS X r (.Assign [.Name x pos'] e pos) S E :=
  fun c F σ H hr Ev G g => of_ps (ps_set hN hi hx pe_tE hs hf) (h c F σ H hr Ev _ fun p ds F1 H1 S1 h1 n k1 => by
    obtain ⟨vs, E1, hp, hv, nF, b, q, no⟩ := n
    exact g.nx F1 _ H1 _ h1 (E1.setOwn hp hv nF b q no) k1)
/-- x = [..], stored before the iterator is let go; PS: the rule of the layer -/
theorem js_setP {st : Stmt} {E : DE} (i : Nat) {te : TE} (hp : PS X st (tAsg te (gName i))) (hx : ∀ c F σ H, r.q c → EvD c S F σ H → ∀ Q : VK, (∀ p ds F' H' S', E.nx (S'.set i (.own ds)) → NewL c S' F' H' σ p (.l ds) → Ex F F' → Q (.ref p) H') → te σ H Q) : JS X r st S E :=
  fun c F σ H hr Ev G g => of_ps hp (hx c F σ H hr Ev _ fun p ds F1 H1 S1 h1 n k1 => by
    obtain ⟨vs, E1, hp, hv, nF, b, q, no⟩ := n
    exact g.nx F1 _ H1 _ h1 (E1.setOwn hp hv nF b q no) k1)
theorem js_expr {e : Expr} {pos : Pos} {E : DE} (hs : swapsWith e none pos.line X.env = pure false) (h : JE X r e S fun _ S1 => E.nx S1) : JS X r (.Expr e pos) S E :=
  fun c F σ H hr Ev G g => of_ps (ps_expr pe_tE hs) (h c F σ H hr Ev _ fun v d F1 H1 S1 h1 E1 k1 r1 => g.nx F1 _ H1 _ h1 E1 k1)
theorem js_if {t : Expr} {a b : List Stmt} {pos : Pos} {E : DE} (h : JT X r t S fun k S1 => if k = true then JSs X r a S1 E else JSs X r b S1 E) : JS X r (.If t a b pos) S E :=
  fun c F σ H hr Ev G g => of_ps (ps_if pt_tT pss_tSs pss_tSs) (h c F σ H hr Ev _ fun k F1 H1 S1 h1 E1 k1 => by
    cases k with
    | true =>
      rw [if_pos rfl] at h1 ⊢
      exact h1 c F1 σ H1 hr E1 G (g.ex k1)
    | false =>
      rw [if_neg Bool.false_ne_true] at h1 ⊢
      exact h1 c F1 σ H1 hr E1 G (g.ex k1))
theorem js_asg {tg e : Expr} {pos : Pos} {E : DE} (ts : List Nat) (hs : swapsWithSole [tg] e pos.line X.env = pure false) (hw : swappedStores [tg] e X.env = pure none) (h1 : (assignEach [tg] X.env).map (·.2) = [assign tg X.env])
    (h : JE X r e S fun d S1 => JG X r tg ts d S1 E.nx) : JS X r (.Assign [tg] e pos) S E :=
  fun c F σ H hr Ev G g => of_ps (ps_asg pe_tE pg_tG hs hw h1) (h c F σ H hr Ev _ fun v d F1 H1 S1 h1 E1 k1 r1 => h1 c F1 σ H1 v hr E1 r1 _ fun F2 σ2 H2 S2 h2 E2 k2 _ => g.nx F2 σ2 H2 S2 h2 E2 (k1.trans k2))
theorem js_append {e : Expr} {x : Str} {p apos cpos pos : Pos} {E : DE} (i : Nat) {rr : V → List V → Hp → VK → Prop} (hp : PS X (.Expr (.Call (.Attribute (.Name x p) "append" apos) [e] [] cpos) pos) (tDrop (tBM X.K "list" rAppend (tVar i) (tCons (tE X e) tNil))))
    (h : JE X r e S fun d S1 => ∃ xs, S1[i]? = some (.own xs) ∧ xs.length < sizeLine ∧ E.nx (S1.set i (.own (xs ++ [d])))) {xs0 : List D} (h0 : S[i]? = some (.own xs0)) : JS X r (.Expr (.Call (.Attribute (.Name x p) "append" apos) [e] [] cpos) pos) S E :=
  fun c F σ H hr Ev G g => of_ps hp (by
    obtain ⟨y, e1, a, hh, e2, ha, rv, nF, nb, q0⟩ := Ev.sl i _ h0
    subst e2
    obtain ⟨vs, rfl, rv⟩ := obr_l rv
    refine ⟨.ref a, e1, .inl ⟨rfl, _, .inl (.inl ha)⟩, h c F σ H hr Ev _ fun v d F1 H1 S1 h1 E1 k1 r1 => ?_⟩
    obtain ⟨xs, e3, hl, kx⟩ := h1
    obtain ⟨y, e1', a', hh', e2', ha', rv', _⟩ := E1.sl i _ e3
    rw [e1] at e1'; cases e1'; cases e2'
    obtain ⟨vs', rfl, rv'⟩ := obr_l rv'
    exact ⟨a, vs', v, rfl, rfl, ha', by rw [rv'.length]; exact hl, g.nx F1 σ _ _ kx (E1.write (vs := .lst (vs' ++ [v])) (ds := .l (xs ++ [d])) e3 e1 (rv'.append (.one r1))) k1⟩)

/-! ### targets -/
theorem jg_name {x : Str} {pos : Pos} {d : D} {K : List Sl → Prop} (i : Nat) (hN : X.N.Nodup) (hi : X.N[i]? = some x) (hx : Loc X.env.scope x) (hf : X.fn x = true ∨ X.env.scope.names.lookup x = some .local) (h : K (S.set i (.val d))) : JG X r (.Name x pos) [i] d S K :=
  fun c F σ H v hr E rv Q q => of_pg (pg_name hN hi hx hf) (q F _ H _ h (E.set rv) (Ex.refl F) ⟨fun j hj => (by
    rw [List.getElem?_set_ne]
    intro z; exact hj (by rw [z]; exact List.mem_singleton.mpr rfl)), List.length_set⟩)
/-- several targets -/
def JGs (X : Cx) (r : SR) (tgs : List Expr) (ts : List Nat) (ds : List D) (S : List Sl) (K : List Sl → Prop) : Prop :=
  ∀ (c : C) F σ H vs, r.q c → EvD c S F σ H → RpA F vs ds → ∀ Q : St → Hp → Prop, (∀ F' σ' H' S', K S' → EvD c S' F' σ' H' → Ex F F' → (∀ j, j ∉ ts → σ'[j]? = σ[j]?) ∧ σ'.length = σ.length → Q σ' H') → ∀ pins s us, Inv X pins σ H s → Vals vs us →
    wpAny (model X.prog X.w) X.A (assignInOrder ((assignEach tgs X.env).map (·.2)) us) (fun _ s' => ∃ σ' H', Inv X pins σ' H' s' ∧ Q σ' H') X.xe s
theorem jgs_nil {K : List Sl → Prop} (h : K S) : JGs X r [] [] [] S K := fun c F σ H vs hr E rv Q q pins s us I rl => by
  cases rv
  exact pgs_nil.run pins s σ H [] us Q I rl ⟨rfl, q F σ H S h E (Ex.refl F) ⟨fun _ _ => rfl, rfl⟩⟩
def tGs (X : Cx) (tgs : List Expr) : TGs := fun vs σ H Q => ∀ pins s us, Inv X pins σ H s → Vals vs us → wpAny (model X.prog X.w) X.A (assignInOrder ((assignEach tgs X.env).map (·.2)) us) (fun _ s' => ∃ σ' H', Inv X pins σ' H' s' ∧ Q σ' H') X.xe s
theorem pgs_tGs {tgs : List Expr} : PGs X tgs (tGs X tgs) := ⟨fun pins s _ _ _ us _ I r h => h pins s us I r⟩
theorem jgs_cons {e : Expr} {es : List Expr} {ts us : List Nat} {d : D} {ds : List D} {K : List Sl → Prop} (hs : (assignEach (e :: es) X.env).map (·.2) = assign e X.env :: (assignEach es X.env).map (·.2))
    (h : JG X r e ts d S fun S1 => JGs X r es us ds S1 K) : JGs X r (e :: es) (ts ++ us) (d :: ds) S K := fun c F σ H vs hr E rv Q q pins s ws I rl => by
  cases rv with
  | cons r1 r2 =>
    refine (pgs_cons pg_tG pgs_tGs hs).run pins s σ H _ ws Q I rl ⟨_, _, rfl, h c F σ H _ hr E r1 _ fun F1 σ1 H1 S1 h1 E1 k1 z1 => ?_⟩
    exact h1 c F1 σ1 H1 _ hr E1 (r2.ex k1) Q fun F2 σ2 H2 S2 h2 E2 k2 z2 => q F2 σ2 H2 S2 h2 E2 (k1.trans k2) ⟨fun j hj => (by
      rw [z2.1 j fun z => hj (List.mem_append_right _ z), z1.1 j fun z => hj (List.mem_append_left _ z)]), z2.2.trans z1.2⟩
theorem jg_tup {es : List Expr} {k : Nat} {pos : Pos} {ts : List Nat} {ds : List D} {K : List Sl → Prop} (hc : X.calm = true) (hn : (assignEach es X.env).length = ds.length) (hst : (assignEach es X.env).findIdx? (·.1) = none)
    (h : JGs X r es ts ds S K) : JG X r (.Tuple es k pos) ts (.tuple ds) S K := fun c F σ H v hr E rv Q q => by
  cases rv with
  | tup ha hv => exact of_pg (pg_tup (n := ds.length) hc pgs_tGs hn hst) ⟨_, _, rfl, .inl (.inl (E.fin.fh _ _ ha)), hv.length, h c F σ H _ hr E hv Q q⟩

/-! ### what is walked -/
theorem itl_d {K : PySem.W.Frag} {B F : Hp} {a : Addr} {vs : List V} {ds : List D} (h : F a = some (.lst vs)) (rv : RpA F vs ds) : ItD (Itl K a) B F ds :=
  ⟨fun i H kb k hi => ⟨vs, .inl (.inl (k _ _ h)), by rw [rv.length]; exact hi⟩,
   fun i H kb k hi => by
    obtain ⟨v, e, _⟩ := rv.get' (i := i) (List.getElem?_eq_getElem hi)
    exact ⟨vs, v, .inl (.inl (k _ _ h)), e⟩,
   fun i H x H' kb k y hi => by
    obtain ⟨e, f⟩ := y
    obtain ⟨d, e1, e2⟩ := rv.get (f vs (.inl (.inl (k _ _ h))))
    exact .inl ⟨e, d, e1, e2⟩⟩
theorem itt_d {K : PySem.W.Frag} {B F : Hp} {a : Addr} {vs : List V} {ds : List D} (h : F a = some (.tup vs)) (rv : RpA F vs ds) : ItD (Itt K a) B F ds :=
  ⟨fun i H kb k hi => ⟨vs, .inl (.inl (k _ _ h)), by rw [rv.length]; exact hi⟩,
   fun i H kb k hi => by
    obtain ⟨v, e, _⟩ := rv.get' (i := i) (List.getElem?_eq_getElem hi)
    exact ⟨vs, v, .inl (.inl (k _ _ h)), e⟩,
   fun i H x H' kb k y hi => by
    obtain ⟨e, f⟩ := y
    obtain ⟨d, e1, e2⟩ := rv.get (f vs (.inl (.inl (k _ _ h))))
    exact .inl ⟨e, d, e1, e2⟩⟩
def rangeD (lo : Int) (n : Nat) : List D := (List.range n).map fun i => .int (lo + (i : Nat))
theorem rangeD_length (lo : Int) (n : Nat) : (rangeD lo n).length = n := by unfold rangeD; rw [List.length_map, List.length_range]
theorem rangeD_get {lo : Int} {n i : Nat} (h : i < n) : (rangeD lo n)[i]? = some (.int (lo + (i : Nat))) := by
  unfold rangeD
  rw [List.getElem?_map, List.getElem?_range h]
  rfl
theorem itr_d {B F : Hp} {lo : Int} {n : Nat} : ItD (Itr lo n) B F (rangeD lo n) :=
  ⟨fun i H kb k hi => by rw [rangeD_length] at hi; exact hi, fun i H kb k hi => by rw [rangeD_length] at hi; exact hi,
   fun i H x H' kb k y hi => by
    obtain ⟨e, rfl⟩ := y
    rw [rangeD_length] at hi
    exact .inl ⟨e, _, rangeD_get hi, .int _⟩⟩
def enumD (ds : List D) : List D := (List.range ds.length).map fun i => .tuple [.int (i : Nat), ds.getD i .none]
theorem ite_d {K : PySem.W.Frag} {B F : Hp} {a : Addr} {vs : List V} {ds : List D} (h : F a = some (.lst vs)) (rv : RpA F vs ds) : ItD (Ite K a) B F (enumD ds) := by
  have hl : (enumD ds).length = ds.length := by unfold enumD; rw [List.length_map, List.length_range]
  refine ⟨fun i H kb k hi => ⟨vs, .inl (.inl (k _ _ h)), by rw [rv.length, ← hl]; exact hi⟩, fun i H kb k hi => ?_, fun i H x H' kb k y hi => ?_⟩
  · obtain ⟨v, e, _⟩ := rv.get' (i := i) (List.getElem?_eq_getElem (by rw [← hl]; exact hi))
    exact ⟨vs, v, .inl (.inl (k _ _ h)), e⟩
  · obtain ⟨T, z, e1, e2, e3, f⟩ := y
    obtain ⟨d, g1, g2⟩ := rv.get (f vs (.inl (.inl (k _ _ h))))
    refine .inr (.inl ⟨T, _, [.int (i : Nat), d], e1, e2, e3, .cons (.int _) (.one g2), ?_⟩)
    unfold enumD
    rw [List.getElem?_map, List.getElem?_range (by rw [← hl]; exact hi)]
    show some (PyData.tuple [.int (i : Nat), ds.getD i .none]) = _
    rw [List.getD_eq_getElem?_getD, g1]
    rfl
theorem ji_list {tg e : Expr} {K : List D → List Sl → Prop} (h : JE X r e S fun d S1 => ∃ ds, d = .list ds ∧ K ds S1) : JI X r tg e S K :=
  fun c F σ H hr E R q => of_pi (pi_list pe_tE) (h c F σ H hr E _ fun v d F1 H1 S1 h1 E1 k1 r1 => by
    obtain ⟨ds, rfl, kd⟩ := h1
    cases r1 with
    | lst ha hv => exact ⟨_, rfl, ⟨_, .inl (.inl (E1.fin.fh _ _ ha))⟩, q _ ds F1 H1 S1 kd E1 k1 (itl_d ha hv)⟩)
theorem ji_tup {tg e : Expr} {K : List D → List Sl → Prop} (h : JE X r e S fun d S1 => ∃ ds, d = .tuple ds ∧ K ds S1) : JI X r tg e S K :=
  fun c F σ H hr E R q => of_pi (pi_tup pe_tE) (h c F σ H hr E _ fun v d F1 H1 S1 h1 E1 k1 r1 => by
    obtain ⟨ds, rfl, kd⟩ := h1
    cases r1 with
    | tup ha hv => exact ⟨_, rfl, ⟨_, .inl (.inl (E1.fin.fh _ _ ha))⟩, q _ ds F1 H1 S1 kd E1 k1 (itt_d ha hv)⟩)
theorem ji_range1 {tg a : Expr} {p pos : Pos} {K : List D → List Sl → Prop} (hg : Gl X "range") (hm : X.mg "range" = none) (hs : starEach [a] X.env = [(false, eval a X.env)])
    (h : JA X r [a] S fun as S1 => ∃ n : Int, as = [.d (.int n)] ∧ -(2 ^ 62) ≤ n ∧ n < 2 ^ 62 ∧ K (rangeD 0 n.toNat) S1) : JI X r tg (.Call (.Name "range" p) [a] [] pos) S K :=
  fun c F σ H hr E R q => of_pi (pi_range1 hg hm pa_tA hs) (h c F σ H hr E _ fun vs as F1 H1 S1 h1 E1 k1 r1 => by
    obtain ⟨n, rfl, b1, b2, kd⟩ := h1
    cases r1 with
    | cons x t =>
      cases t
      cases x
      exact ⟨n, rfl, b1, b2, q _ _ F1 H1 S1 kd E1 k1 itr_d⟩)
theorem ji_range2 {tg a b : Expr} {p pos : Pos} {K : List D → List Sl → Prop} (hg : Gl X "range") (hm : X.mg "range" = none) (hs : starEach [a, b] X.env = [(false, eval a X.env), (false, eval b X.env)]) (hs2 : starEach [b] X.env = [(false, eval b X.env)])
    (h : JA X r [a, b] S fun as S1 => ∃ i j : Int, as = [.d (.int i), .d (.int j)] ∧ (-(2 ^ 62) ≤ i ∧ i < 2 ^ 62 ∧ -(2 ^ 62) ≤ j ∧ j < 2 ^ 62) ∧ K (rangeD i (j - i).toNat) S1) : JI X r tg (.Call (.Name "range" p) [a, b] [] pos) S K :=
  fun c F σ H hr E R q => of_pi (pi_range2 hg hm pa_tA hs hs2) (h c F σ H hr E _ fun vs as F1 H1 S1 h1 E1 k1 r1 => by
    obtain ⟨i, j, rfl, b, kd⟩ := h1
    cases r1 with
    | cons x t =>
      cases t with
      | cons y t =>
        cases t
        cases x
        cases y
        exact ⟨i, j, rfl, b, q _ _ F1 H1 S1 kd E1 k1 itr_d⟩)
theorem ji_enum {e : Expr} {p pos tpos : Pos} {elts : List Expr} {kk : Nat} {K : List D → List Sl → Prop} (hg : Gl X "enumerate") (hm : X.mg "enumerate" = none) (hs : starEach [e] X.env = [(false, eval e X.env)])
    (h : JA X r [e] S fun as S1 => ∃ ds, as = [.d (.list ds)] ∧ K (enumD ds) S1) : JI X r (.Tuple elts kk tpos) (.Call (.Name "enumerate" p) [e] [] pos) S K :=
  fun c F σ H hr E R q => of_pi (pi_enum hg hm pa_tA hs) (h c F σ H hr E _ fun vs as F1 H1 S1 h1 E1 k1 r1 => by
    obtain ⟨ds, rfl, kd⟩ := h1
    cases r1 with
    | cons x t =>
      cases t
      cases x with
      | lst ha hv => exact ⟨_, _, rfl, .inl (.inl (E1.fin.fh _ _ ha)), q _ _ F1 H1 S1 kd E1 k1 (ite_d ha hv)⟩)
/-- what a walk yields is data -/
theorem ItD.next {c : C} {J : It} {B F F' : Hp} {ds : List D} {i : Nat} {x : V} {σ : St} {H H' : Hp} (w : ItD J B F ds) (kb : Ex B c.B) (k : Ex F F') (E : EvD c S F' σ H) (hi : i < ds.length) (y : J.yld i H x H') :
    ∃ d F2, ds[i]? = some d ∧ Ex F' F2 ∧ Rp F2 x d ∧ EvD c S F2 σ H' := by
  rcases w.yld i H x H' (kb.trans E.fin.bh) (k.trans E.fin.fh) y hi with ⟨rfl, d, e, rp⟩ | ⟨T, xs, es, rfl, n, rfl, rp, e⟩ | ⟨T, xs, es, rfl, hT, rfl, rp, e⟩
  · exact ⟨d, F', e, Ex.refl _, rp.ex k, E⟩
  · have g := Grow.new E.fin.fh (o := .tup xs) n
    exact ⟨_, _, e, g.kF, .tup upd_same (rp.ex (k.trans g.kF)), E.grow g⟩
  · cases q : F' T with
    | none => exact ⟨_, _, e, Ex.new q, .tup upd_same (rp.ex (k.trans (Ex.new q))), E.freezeT hT q⟩
    | some u =>
      have h2 := E.fin.fh _ _ q
      rw [hT] at h2
      cases h2
      exact ⟨_, F', e, Ex.refl _, .tup q (rp.ex k), E⟩

/-! ### for -/
theorem js_for {tg iter : Expr} {body : List Stmt} {pos : Pos} {E : DE} (ts : List Nat) (hp : PassesOwn (model X.prog X.w) X.A X.env X.xe) (hc : X.calm = true) (hs : ∀ x, foldedSetIterable iter X.env x = pure x)
    (h : JI X r tg iter S fun ds S1 => ∃ I : Nat → List Sl → Prop, I 0 S1 ∧ (∀ i d S', ds[i]? = some d → I i S' → JG X r tg ts d S' fun S2 => JSs X r body S2 { nx := I (i + 1), rt := E.rt, ct := I (i + 1), bk := E.nx }) ∧ ∀ S', I ds.length S' → E.nx S') :
    JS X r (.For tg iter body [] pos) S E :=
  fun c F σ H hr Ev G g => of_ps (ps_for hp hc pi_tI pg_tG pss_tSs hs) (h c F σ H hr Ev _ fun J ds F1 H1 S1 h1 E1 k1 w => by
    obtain ⟨I, i0, step, fin⟩ := h1
    refine ⟨fun i m σ H => m = ds.length - i ∧ i ≤ ds.length ∧ ∃ S' F', I i S' ∧ EvD c S' F' σ H ∧ Ex F1 F', ⟨ds.length, by omega, Nat.zero_le _, S1, F1, i0, E1, Ex.refl _⟩, fun i m σ H hw => ?_⟩
    obtain ⟨rfl, hi, S', F', hI, E', k'⟩ := hw
    by_cases hlt : i < ds.length
    · refine .inr ⟨w.go i H E'.fin.bh (k'.trans E'.fin.fh) hlt, fun σ' H' => ∃ S2 F2, I (i + 1) S2 ∧ EvD c S2 F2 σ' H' ∧ Ex F1 F2, fun σ' H' ⟨S2, F2, a, b, d⟩ => ⟨ds.length - (i + 1), by omega, rfl, hlt, S2, F2, a, b, d⟩, fun x H' y => ?_⟩
      obtain ⟨d, F2, ed, k2, rp, E2⟩ := w.next (Ex.refl _) k' E' hlt y
      refine step i d S' ed hI c F2 σ H' x hr E2 rp _ fun F3 σ3 H3 S3 h3 E3 k3 _ => ?_
      refine h3 c F3 σ3 H3 hr E3 _ ⟨fun F4 σ4 H4 S4 a E4 k4 => ⟨S4, F4, a, E4, ((k'.trans k2).trans k3).trans k4⟩, g.rt, fun F4 σ4 H4 S4 a E4 k4 => g.nx F4 σ4 H4 S4 a E4 ((((k1.trans k').trans k2).trans k3).trans k4),
        fun F4 σ4 H4 S4 a E4 k4 => ⟨S4, F4, a, E4, ((k'.trans k2).trans k3).trans k4⟩⟩
    · have e : i = ds.length := by omega
      subst e
      exact .inl ⟨w.stop _ H E'.fin.bh (k'.trans E'.fin.fh) (Nat.le_refl _), g.nx F' σ H S' (fin S' hI) E' (k1.trans k')⟩)
theorem js_while {t : Expr} {body : List Stmt} {pos : Pos} {E : DE} (hp : PassesOwn (model X.prog X.w) X.A X.env X.xe) (I : Nat → List Sl → Prop) (m0 : Nat) (i0 : I m0 S)
    (step : ∀ m S', I m S' → JT X r t S' fun b S1 => if b = true then JSs X r body S1 { nx := fun S2 => ∃ m', m' < m ∧ I m' S2, rt := E.rt, ct := fun S2 => ∃ m', m' < m ∧ I m' S2, bk := E.nx } else E.nx S1) :
    JS X r (.While t body [] pos) S E :=
  fun c F σ H hr Ev G g => of_ps (ps_while hp pt_tT pss_tSs) (by
    refine ⟨fun m σ H => ∃ S' F', I m S' ∧ EvD c S' F' σ H ∧ Ex F F', ⟨m0, S, F, i0, Ev, Ex.refl _⟩, fun m σ H hw => ?_⟩
    obtain ⟨S', F', hI, E', k'⟩ := hw
    refine step m S' hI c F' σ H hr E' _ fun b F1 H1 S1 h1 E1 k1 => ?_
    cases b with
    | true =>
      rw [if_pos rfl] at h1 ⊢
      have hn : ∀ F2 σ2 H2 S2, (∃ m', m' < m ∧ I m' S2) → EvD c S2 F2 σ2 H2 → Ex F1 F2 → ∃ m', m' < m ∧ ∃ S' F', I m' S' ∧ EvD c S' F' σ2 H2 ∧ Ex F F' := fun F2 σ2 H2 S2 ⟨m', hm, i'⟩ E2 k2 => ⟨m', hm, S2, F2, i', E2, (k'.trans k1).trans k2⟩
      refine ⟨fun σ2 H2 => ∃ m', m' < m ∧ ∃ S' F', I m' S' ∧ EvD c S' F' σ2 H2 ∧ Ex F F', fun _ _ z => z, ?_⟩
      exact h1 c F1 σ H1 hr E1 _ ⟨hn, g.rt, fun F2 σ2 H2 S2 a E2 k2 => g.nx F2 σ2 H2 S2 a E2 ((k'.trans k1).trans k2), hn⟩
    | false =>
      rw [if_neg Bool.false_ne_true] at h1 ⊢
      exact g.nx F1 σ H1 S1 h1 E1 (k'.trans k1))

/-! ### comprehensions -/
/-- in a comprehension's block -/
def Blk (X : Cx) (scope : Scope) (P : Cx → Prop) : Prop := ∀ (s : Shared) (H : Hp) (C : Addr) (cl : List (Str × Addr)) (fp : List Addr), P (X.blk s H scope (compEnvC scope cl C X.env) fp)
def tEb (X : Cx) (scope : Scope) (e : Expr) : TE := fun σ H Q => Blk X scope fun Y => tE Y e σ H Q
def tTsb (X : Cx) (scope : Scope) (ifs : List Expr) : TT := fun σ H Q => Blk X scope fun Y => ∀ pins s, Inv Y pins σ H s → wpAny (model Y.prog Y.w) Y.A (forIn ifs true fun c r => if r = true then do let ok ← isTrue c Y.env (eval c Y.env); pure (ForInStep.yield ok) else pure (ForInStep.yield r)) (TP Y pins σ Q) Y.xe s
def tGb (X : Cx) (scope : Scope) (tg : Expr) : TG := fun v σ H Q => Blk X scope fun Y => tG Y tg v σ H Q
/-- the slots vs as in S, the others as in T -/
def mrg (vs : List Nat) (S T : List Sl) : List Sl := vs.foldr (fun j U => U.set j (S.getD j .emp)) T
theorem mrg_length (vs : List Nat) (S T : List Sl) : (mrg vs S T).length = T.length := by
  induction vs with
  | nil => rfl
  | cons v vs ih => show ((mrg vs S T).set v _).length = _; rw [List.length_set, ih]
theorem mrg_out {S T : List Sl} {j : Nat} : ∀ {vs : List Nat}, j ∉ vs → (mrg vs S T)[j]? = T[j]?
  | [], _ => rfl
  | v :: vs, h => by
    show ((mrg vs S T).set v _)[j]? = _
    rw [List.getElem?_set_ne fun z => h (by rw [z]; exact List.mem_cons_self), mrg_out fun z => h (List.mem_cons_of_mem _ z)]
theorem mrg_in {S T : List Sl} {j : Nat} (hl : S.length = T.length) (hj : j < S.length) : ∀ {vs : List Nat}, j ∈ vs → (mrg vs S T)[j]? = S[j]?
  | v :: vs, h => by
    show ((mrg vs S T).set v _)[j]? = _
    by_cases hv : v = j
    · subst hv
      rw [List.getElem?_set_self (by rw [mrg_length, ← hl]; exact hj), List.getD_eq_getElem?_getD, List.getElem?_eq_getElem hj]
      rfl
    · rw [List.getElem?_set_ne hv]
      exact mrg_in hl hj ((List.mem_cons.mp h).resolve_left (Ne.symm hv))
theorem wipe_in {σ : St} {j : Nat} : ∀ {vs : List Nat}, j ∈ vs → j < σ.length → (L2.wipe σ vs)[j]? = some none
  | v :: vs, h, hj => by
    show ((L2.wipe σ vs).set v none)[j]? = _
    by_cases hv : v = j
    · subst hv
      rw [List.getElem?_set_self (by rw [wipe_length]; exact hj)]
    · rw [List.getElem?_set_ne hv]
      exact wipe_in ((List.mem_cons.mp h).resolve_left (Ne.symm hv)) hj
theorem wipe_same {σ σ2 : St} {vs ts : List Nat} (hl : σ2.length = σ.length) (hts : ∀ j ∈ ts, j ∈ vs) (h : ∀ j, j ∉ ts → σ2[j]? = (L2.wipe σ vs)[j]?) : L2.wipe σ2 vs = L2.wipe σ vs := by
  refine List.ext_getElem? fun j => ?_
  by_cases hj : j ∈ vs
  · by_cases hlt : j < σ.length
    · rw [wipe_in hj hlt, wipe_in hj (by rw [hl]; exact hlt)]
    · rw [List.getElem?_eq_none (by rw [wipe_length]; omega), List.getElem?_eq_none (by rw [wipe_length]; omega)]
  · rw [wipe_out hj, wipe_out hj, h j fun z => hj (hts j z), wipe_out hj]
/-- out of a block: the block's own slots are as they were -/
theorem EvD.out {c : C} {S' S4 : List Sl} {F F4 : Hp} {σ σ2 : St} {H H4 : Hp} {vs : List Nat} (E : EvD c S' F σ H) (E4 : EvD c S4 F4 σ2 H4) (k : Ex F F4) (hw : L2.wipe σ2 vs = L2.wipe σ vs) (hv : ∀ j ∈ vs, ∀ xs, S'[j]? ≠ some (.ob xs)) : EvD c (mrg vs S' S4) F4 σ H4 := by
  have hlen : σ2.length = σ.length := by rw [← wipe_length σ2 vs, hw, wipe_length]
  have hS : S'.length = S4.length := by rw [← E.len, ← E4.len, hlen]
  have same : ∀ j, j ∉ vs → σ2[j]? = σ[j]? := fun j hj => by rw [← wipe_out hj, hw, wipe_out hj]
  have own : ∀ {j : Nat} {xs : OB}, (mrg vs S' S4)[j]? = some (.ob xs) → j ∉ vs ∧ S4[j]? = some (.ob xs) := fun {j xs} e => by
    by_cases hj : j ∈ vs
    · by_cases hlt : j < S'.length
      · rw [mrg_in hS hlt hj] at e
        exact absurd e (hv j hj xs)
      · rw [List.getElem?_eq_none (by rw [mrg_length]; omega)] at e; cases e
    · rw [mrg_out hj] at e; exact ⟨hj, e⟩
  refine ⟨E4.fin, by rw [mrg_length, ← E4.len, hlen], fun j s e => ?_, fun j1 j2 xs ys a e1 e2 e3 e4 => ?_⟩
  · by_cases hj : j ∈ vs
    · by_cases hlt : j < S'.length
      · rw [mrg_in hS hlt hj] at e
        obtain ⟨x, e1, rr⟩ := E.sl j s e
        refine ⟨x, e1, ?_⟩
        cases s with
        | emp => trivial
        | val d =>
          obtain ⟨v, e2, rp⟩ := rr
          exact ⟨v, e2, rp.ex k⟩
        | ob ds => exact absurd e (hv j hj ds)
        | src => exact rr
      · rw [List.getElem?_eq_none (by rw [mrg_length]; omega)] at e; cases e
    · rw [mrg_out hj] at e
      obtain ⟨x, e1, rr⟩ := E4.sl j s e
      exact ⟨x, by rw [← same j hj]; exact e1, rr⟩
  · obtain ⟨n1, f1⟩ := own e1
    obtain ⟨n2, f2⟩ := own e2
    exact E4.ds j1 j2 xs ys a f1 f2 (by rw [same _ n1]; exact e3) (by rw [same _ n2]; exact e4)
/-- an object of ours, in no slot, is written -/
theorem EvD.put {c : C} {F : Hp} {σ : St} {H : Hp} {Dl : Addr} {o2 : HO} (E : EvD c S F σ H) (nF : F Dl = none) (nB : c.B Dl = none) (ns : ∀ q, c.sr = some q → Dl ≠ q.1 ∧ Dl ≠ q.2) (no : ∀ (j : Nat) xs, S[j]? = some (.ob xs) → σ[j]? ≠ some (some (.ref Dl))) : EvD c S F σ (upd H Dl o2) := by
  refine ⟨⟨E.fin.f0, E.fin.fh.upd2 nF, E.fin.bh.upd2 nB, E.fin.bf, fun p ep => ?_⟩, E.len, fun i s e => ?_, E.ds⟩
  · obtain ⟨⟨cs, l, m, t, h1, h2⟩, n1, n2, b1, b2⟩ := E.fin.src p ep
    obtain ⟨m1, m2⟩ := ns p ep
    exact ⟨⟨cs, l, m, t, by rw [upd_ne m1.symm]; exact h1, by rw [upd_ne m2.symm]; exact h2⟩, n1, n2, b1, b2⟩
  · obtain ⟨x, e1, rr⟩ := E.sl i s e
    refine ⟨x, e1, ?_⟩
    cases s with
    | emp => trivial
    | val d => exact rr
    | src => exact rr
    | ob ds =>
      obtain ⟨a, us, e2, h1, r1, n1, b1, q1⟩ := rr
      subst e2
      have hne : a ≠ Dl := fun z => no i _ e (by rw [e1, z])
      exact ⟨a, us, rfl, by rw [upd_ne hne]; exact h1, r1, n1, b1, q1⟩
/-- a slot is put aside -/
theorem EvD.hide {c : C} {F : Hp} {σ : St} {H : Hp} {i : Nat} (E : EvD c S F σ H) (hl : i < S.length) : EvD c (S.set i .emp) F σ H := by
  refine ⟨E.fin, by rw [List.length_set]; exact E.len, fun j s ej => ?_, fun j k xs' ys' a' f1 f2 f3 f4 => ?_⟩
  · by_cases hj : i = j
    · subst hj
      rw [List.getElem?_set_self hl] at ej; cases ej
      obtain ⟨x, e1⟩ : ∃ x, σ[i]? = some x := ⟨σ[i]'(by rw [E.len]; exact hl), List.getElem?_eq_getElem _⟩
      exact ⟨x, e1, trivial⟩
    · rw [List.getElem?_set_ne hj] at ej; exact E.sl j s ej
  · have own : ∀ {j : Nat} {ys : OB}, (S.set i .emp)[j]? = some (.ob ys) → S[j]? = some (.ob ys) := fun {j ys} z => by
      by_cases hj : i = j
      · subst hj; rw [List.getElem?_set_self hl] at z; cases z
      · rw [List.getElem?_set_ne hj] at z; exact z
    exact E.ds j k _ _ _ (own f1) (own f2) f3 f4
/-- the new list is kept by everything -/
theorem EvD.hold {c : C} {F : Hp} {σ : St} {H : Hp} {Dl : Addr} {vs : HO} (E : EvD c S F σ H) (h : H Dl = some vs) (nF : F Dl = none) (ns : ∀ q, c.sr = some q → Dl ≠ q.1 ∧ Dl ≠ q.2) (no : ∀ (j : Nat) xs, S[j]? = some (.ob xs) → σ[j]? ≠ some (some (.ref Dl))) : EvD (c.hold Dl vs) S F σ H := by
  refine ⟨⟨E.fin.f0, E.fin.fh, fun a o e => ?_, fun a o e => ?_, fun p ep => ?_⟩, E.len, fun i s e => ?_, E.ds⟩
  · have e : upd c.B Dl vs a = some o := e
    by_cases q : a = Dl
    · subst q; rw [upd_same] at e; cases e; exact h
    · rw [upd_ne q] at e; exact E.fin.bh a o e
  · have e : upd c.B Dl vs a = some o := e
    show F a = c.F0 a ∨ _
    by_cases q : a = Dl
    · subst q
      exact .inl (by rw [nF, E.fin.f0.back nF])
    · rw [upd_ne q] at e; exact E.fin.bf a o e
  · obtain ⟨s, n1, n2, b1, b2⟩ := E.fin.src p ep
    have m1 : p.1 ≠ Dl := (ns p ep).1.symm
    refine ⟨s, n1, n2, ?_, ?_⟩
    · show upd c.B Dl vs p.1 = none
      rw [upd_ne m1]; exact b1
    · show upd c.B Dl vs p.2 = none
      rw [upd_ne (ns p ep).2.symm]; exact b2
  · obtain ⟨x, e1, rr⟩ := E.sl i s e
    refine ⟨x, e1, ?_⟩
    cases s with
    | emp => trivial
    | val d => exact rr
    | src => exact rr
    | ob ds =>
      obtain ⟨a, ws, e2, h1, r1, n1, b1, q1⟩ := rr
      subst e2
      have hne : a ≠ Dl := fun z => no i _ e (by rw [e1, z])
      exact ⟨a, ws, rfl, h1, r1, n1, by show upd c.B Dl vs a = none; rw [upd_ne hne]; exact b1, q1⟩
theorem EvD.unhold {c : C} {F : Hp} {σ : St} {H : Hp} {Dl : Addr} {vs : HO} (hm : ∀ xs, vs ≠ .tup xs) (E : EvD (c.hold Dl vs) S F σ H) (b : c.B Dl = none) (b0 : c.F0 Dl = none) :
    EvD c S F σ H ∧ H Dl = some vs ∧ F Dl = none ∧ (∀ q, c.sr = some q → Dl ≠ q.1 ∧ Dl ≠ q.2) ∧ ∀ (j : Nat) xs, S[j]? = some (.ob xs) → σ[j]? ≠ some (some (.ref Dl)) := by
  have eB : ∀ a o, c.B a = some o → (c.hold Dl vs).B a = some o := fun a o e => by
    show upd c.B Dl vs a = some o
    rw [upd_ne (ne_of_none e b)]; exact e
  have hD : (c.hold Dl vs).B Dl = some vs := upd_same
  have hH := E.fin.bh _ _ hD
  have hF : F Dl = none := by
    rcases E.fin.bf _ _ hD with z | ⟨xs, z⟩
    · rw [z]; exact b0
    · exact absurd z (hm xs)
  have src : ∀ q, c.sr = some q → SrcOk H q ∧ F q.1 = none ∧ F q.2 = none ∧ c.B q.1 = none ∧ c.B q.2 = none ∧ Dl ≠ q.1 ∧ Dl ≠ q.2 := fun q eq => by
    obtain ⟨s, n1, n2, b1, b2⟩ := E.fin.src q eq
    have m1 : Dl ≠ q.1 := fun z => by rw [← z, hD] at b1; cases b1
    have m2 : Dl ≠ q.2 := fun z => by rw [← z, hD] at b2; cases b2
    have b1' : upd c.B Dl vs q.1 = none := b1
    have b2' : upd c.B Dl vs q.2 = none := b2
    rw [upd_ne m1.symm] at b1'
    rw [upd_ne m2.symm] at b2'
    exact ⟨s, n1, n2, b1', b2', m1, m2⟩
  have unb : ∀ a, (c.hold Dl vs).B a = none → c.B a = none ∧ a ≠ Dl := fun a e => by
    have ne : a ≠ Dl := fun z => by rw [z, hD] at e; cases e
    have e : upd c.B Dl vs a = none := e
    rw [upd_ne ne] at e
    exact ⟨e, ne⟩
  refine ⟨⟨⟨E.fin.f0, E.fin.fh, fun a o e => E.fin.bh a o (eB a o e), fun a o e => E.fin.bf a o (eB a o e), fun q eq => ?_⟩, E.len, fun i s e => ?_, E.ds⟩, hH, hF, fun q eq => ?_, fun j xs ej ea => ?_⟩
  · obtain ⟨s, n1, n2, b1, b2, _⟩ := src q eq
    exact ⟨s, n1, n2, b1, b2⟩
  · obtain ⟨x, e1, rr⟩ := E.sl i s e
    refine ⟨x, e1, ?_⟩
    cases s with
    | emp => trivial
    | val d => exact rr
    | src => exact rr
    | ob ds =>
      obtain ⟨a, ws, e2, h1, r1, n1, b1, q1⟩ := rr
      exact ⟨a, ws, e2, h1, r1, n1, (unb a b1).1, q1⟩
  · obtain ⟨_, _, _, _, _, m1, m2⟩ := src q eq
    exact ⟨m1, m2⟩
  · obtain ⟨x, e1, a, ws, e2, h1, r1, n1, b1, q1⟩ := E.sl j _ ej
    rw [ea] at e1; cases e1; cases e2
    exact (unb _ b1).2 rfl
theorem pg_tGb {scope : Scope} {tg : Expr} (s : Shared) (H : Hp) (C : Addr) (cl : List (Str × Addr)) (fp : List Addr) : PG (X.blk s H scope (compEnvC scope cl C X.env) fp) tg (tGb X scope tg) := ⟨fun pins s' σ H' v u Q I rv h => h s H C cl fp pins s' u I rv⟩
theorem pe_tEb {scope : Scope} {e : Expr} (s : Shared) (H : Hp) (C : Addr) (cl : List (Str × Addr)) (fp : List Addr) : PE (X.blk s H scope (compEnvC scope cl C X.env) fp) e (tEb X scope e) := ⟨fun pins s' σ H' Q I h => h s H C cl fp pins s' I⟩
theorem pts_tTsb {scope : Scope} {ifs : List Expr} (s : Shared) (H : Hp) (C : Addr) (cl : List (Str × Addr)) (fp : List Addr) : PTs (X.blk s H scope (compEnvC scope cl C X.env) fp) ifs (tTsb X scope ifs) := ⟨fun pins s' σ H' Q I h => h s H C cl fp pins s' I⟩
/-- no test, one test -/
def JTs (X : Cx) (r : SR) (ifs : List Expr) (S : List Sl) (K : Bool → List Sl → Prop) : Prop := match ifs with
  | [] => K true S
  | [t] => JT X r t S K
  | _ => False
theorem jts_run {c : C} {F : Hp} {σ : St} {H : Hp} {ifs : List Expr} {K : Bool → List Sl → Prop} (hr : r.q c) (E : EvD c S F σ H) (Q : Bool → Hp → Prop) (h : JTs X r ifs S K) (q : ∀ b F' H' S', K b S' → EvD c S' F' σ H' → Ex F F' → Q b H') :
    ∀ pins s, Inv X pins σ H s → wpAny (model X.prog X.w) X.A (forIn ifs true fun c r => if r = true then do let ok ← isTrue c X.env (eval c X.env); pure (ForInStep.yield ok) else pure (ForInStep.yield r)) (TP X pins σ Q) X.xe s := fun pins s I => by
  match ifs, h with
  | [], h => exact pts_nil.run pins s σ H Q I (q true F H S h E (Ex.refl F))
  | [t], h =>
    have h : JT X r t S K := h
    exact (pts_one pt_tT).run pins s σ H Q I (h c F σ H hr E Q q)
/-- the turn of a comprehension, in its block -/
def LcTurn (X : Cx) (r : SR) (scope : Scope) (tg elt : Expr) (ifs : List Expr) (vs ts : List Nat) (d : D) (S : List Sl) (KY : D → List Sl → Prop) (KN : List Sl → Prop) : Prop :=
  Blk X scope fun Y => JG Y r tg ts d (wipeS S vs) fun S2 => Blk X scope fun Y => JTs Y r ifs S2 fun b S3 => if b = true then Blk X scope fun Y => JE Y r elt S3 fun y S4 => KY y (mrg vs S S4) else KN (mrg vs S S3)
theorem lc_runc {wi : TI} {elt tg : Expr} {ifs : List Expr} {scope : Scope} {own : List (Str × Nat)} (ts : List Nat) {K : List D → List Sl → Prop} (hts : ∀ j ∈ ts, j ∈ own.map (·.2))
    (c : C) (F : Hp) (σ : St) (H : Hp) (hr : r.q c) (Q : VK) (q : ∀ p ds F' H' S', K ds S' → NewL c S' F' H' σ p (.l ds) → Ex F F' → Q (.ref p) H')
    (h : JIw wi c F σ H fun ds S1 => ∃ I : Nat → List D → List Sl → Prop, I 0 [] S1 ∧ (∀ i acc S', I i acc S' → i ≤ ds.length → acc.length < sizeLine ∧ ∀ j ∈ own.map (·.2), ∀ xs, S'[j]? ≠ some (.ob xs)) ∧
      (∀ i d acc S', ds[i]? = some d → I i acc S' → LcTurn X r scope tg elt ifs (own.map (·.2)) ts d S' (fun y S4 => I (i + 1) (acc ++ [y]) S4) fun S4 => I (i + 1) acc S4) ∧ ∀ acc S', I ds.length acc S' → K acc S') :
    tLc wi (tGb X scope tg) (tTsb X scope ifs) (tEb X scope elt) (own.map (·.2)) σ H Q := by
  refine h _ fun J ds F1 H1 S1 h1 E1 k1 w => ?_
  · have kB : ∀ {Dl : Addr} {o : HO}, c.B Dl = none → Ex c.B (c.hold Dl o).B := fun nB => Ex.new nB
    obtain ⟨I, i0, side, step, fin⟩ := h1
    intro Dl nD
    have nF1 : F1 Dl = none := E1.fin.fh.back nD
    have nB : c.B Dl = none := E1.fin.bh.back nD
    have nF0 : c.F0 Dl = none := E1.fin.f0.back nF1
    obtain ⟨vs0, E2, hD, rv0, _, _, q2, no2⟩ := newL_of (p := Dl) (vs := []) (ds := []) E1 nD .nil
    refine ⟨fun i m H => m = ds.length - i ∧ i ≤ ds.length ∧ ∃ S' F' acc vacc, I i acc S' ∧ EvD (c.hold Dl (.lst vacc)) S' F' σ H ∧ RpA F' vacc acc ∧ Ex F1 F', ⟨ds.length, by omega, Nat.zero_le _, S1, F1, [], [], i0, E2.hold upd_same nF1 q2 no2, .nil, Ex.refl _⟩, fun i m H hw => ?_⟩
    obtain ⟨rfl, hi, S', F', acc, vacc, hI, E', rv, k'⟩ := hw
    obtain ⟨hacc, hside⟩ := side i acc S' hI hi
    by_cases hlt : i < ds.length
    · refine .inr ⟨w.go i H ((kB nB).trans E'.fin.bh) (k'.trans E'.fin.fh) hlt, fun H' => ∃ S2 F2 acc2 vacc2, I (i + 1) acc2 S2 ∧ EvD (c.hold Dl (.lst vacc2)) S2 F2 σ H' ∧ RpA F2 vacc2 acc2 ∧ Ex F1 F2, fun H' ⟨S2, F2, a2, v2, a, b, d, e⟩ => ⟨ds.length - (i + 1), by omega, rfl, hlt, S2, F2, a2, v2, a, b, d, e⟩, fun x H' y => ?_⟩
      obtain ⟨d, F2, ed, k2, rp, E2⟩ := w.next (kB nB) k' E' hlt y
      have turn := step i d acc S' ed hI
      intro s0 H0 C cl fp
      refine turn s0 H0 C cl fp (c.hold Dl (.lst vacc)) F2 _ H' x (r.st _ _ _ nB hr) (E2.wipe _) rp _ fun F3 σ3 H3 S3 h3 E3 k3 z3 => ?_
      have hw3 : L2.wipe σ3 (own.map (·.2)) = L2.wipe σ (own.map (·.2)) := wipe_same (z3.2.trans (wipe_length _ _)) hts z3.1
      refine ⟨hw3, fun s1 H1' C1 cl1 fp1 => jts_run (c := c.hold Dl (.lst vacc)) (r.st _ _ _ nB hr) E3 _ (h3 s1 H1' C1 cl1 fp1) fun b F4 H4 S4 h4 E4 k4 => ?_⟩
      cases b with
      | false =>
        rw [if_neg Bool.false_ne_true] at h4 ⊢
        exact ⟨_, F4, acc, vacc, h4, E2.out E4 (k3.trans k4) hw3 hside, rv.ex ((k2.trans k3).trans k4), ((k'.trans k2).trans k3).trans k4⟩
      | true =>
        rw [if_pos rfl] at h4 ⊢
        intro s2 H2' C2 cl2 fp2
        refine h4 s2 H2' C2 cl2 fp2 (c.hold Dl (.lst vacc)) F4 σ3 H4 (r.st _ _ _ nB hr) E4 _ fun v y F5 H5 S5 h5 E5 k5 r5 => ?_
        have E6 := E2.out E5 ((k3.trans k4).trans k5) hw3 hside
        obtain ⟨E7, h7, f7, s7, o7⟩ := E6.unhold (vs := .lst vacc) (fun _ z => nomatch z) nB nF0
        refine ⟨vacc, h7, by rw [rv.length]; exact hacc, ?_⟩
        have kk : Ex F' F5 := ((k2.trans k3).trans k4).trans k5
        have rv' := (rv.ex kk).append (.one r5)
        refine ⟨_, F5, acc ++ [y], vacc ++ [v], h5, ?_, rv', k'.trans kk⟩
        exact (E7.put f7 nB s7 o7).hold upd_same f7 s7 o7
    · have e : i = ds.length := by omega
      subst e
      obtain ⟨E7, h7, f7, s7, o7⟩ := E'.unhold (vs := .lst vacc) (fun _ z => nomatch z) nB nF0
      exact .inl ⟨w.stop _ H ((kB nB).trans E'.fin.bh) (k'.trans E'.fin.fh) (Nat.le_refl _), q Dl acc F' H S' (fin acc S' hI) ⟨.lst vacc, E7, h7, rv, f7, nB, s7, o7⟩ (k1.trans k')⟩
theorem lc_run {elt tg iter : Expr} {ifs : List Expr} {scope : Scope} {own : List (Str × Nat)} (ts : List Nat) {K : List D → List Sl → Prop} (hts : ∀ j ∈ ts, j ∈ own.map (·.2))
    (h : JI X r tg iter S fun ds S1 => ∃ I : Nat → List D → List Sl → Prop, I 0 [] S1 ∧ (∀ i acc S', I i acc S' → i ≤ ds.length → acc.length < sizeLine ∧ ∀ j ∈ own.map (·.2), ∀ xs, S'[j]? ≠ some (.ob xs)) ∧
      (∀ i d acc S', ds[i]? = some d → I i acc S' → LcTurn X r scope tg elt ifs (own.map (·.2)) ts d S' (fun y S4 => I (i + 1) (acc ++ [y]) S4) fun S4 => I (i + 1) acc S4) ∧ ∀ acc S', I ds.length acc S' → K acc S') :
    ∀ (c : C) F σ H, r.q c → EvD c S F σ H → ∀ Q : VK, (∀ p ds F' H' S', K ds S' → NewL c S' F' H' σ p (.l ds) → Ex F F' → Q (.ref p) H') → tLc (tI X tg iter) (tGb X scope tg) (tTsb X scope ifs) (tEb X scope elt) (own.map (·.2)) σ H Q :=
  fun c F σ H hr E Q q => lc_runc ts hts c F σ H hr Q q (h c F σ H hr E)
theorem jn_lc {elt tg iter : Expr} {ifs : List Expr} {scope : Scope} {pos : Pos} (own : List (Str × Nat)) (ts : List Nat) {K : List D → List Sl → Prop} (hc : X.calm = true) (hN : X.N.Nodup) (ok : BlkOk X.N X.env.scope scope own) (hs : ∀ x, foldedSetIterable iter X.env x = pure x) (hts : ∀ j ∈ ts, j ∈ own.map (·.2))
    (h : JI X r tg iter S fun ds S1 => ∃ I : Nat → List D → List Sl → Prop, I 0 [] S1 ∧ (∀ i acc S', I i acc S' → i ≤ ds.length → acc.length < sizeLine ∧ ∀ j ∈ own.map (·.2), ∀ xs, S'[j]? ≠ some (.ob xs)) ∧
      (∀ i d acc S', ds[i]? = some d → I i acc S' → LcTurn X r scope tg elt ifs (own.map (·.2)) ts d S' (fun y S4 => I (i + 1) (acc ++ [y]) S4) fun S4 => I (i + 1) acc S4) ∧ ∀ acc S', I ds.length acc S' → K acc S') :
    JN X r (.ListComp elt [⟨tg, iter, ifs, 0⟩] scope pos) S K := fun c F σ H hr E Q q =>
  of_pe (pe_lc hc hN pi_tI ok pg_tGb pts_tTsb pe_tEb hs) (lc_run ts hts h c F σ H hr E Q q)
end
end DL

/-! DL: operations on data; a def by its body. -/
namespace DL
open PySem L2

/-! ### == and in, of data -/
def rEqD (X : Cx) : R2 := fun x y H Q => ∃ F d1 d2, Ex F H ∧ Rp F x d1 ∧ Rp F y d2 ∧ d1.plain = true ∧ d2.plain = true ∧ X.A.units + min d1.depth d2.depth < cLine ∧ Q (.bl (PyData.eqv d1 d2)) H
def rNeD (X : Cx) : R2 := fun x y H Q => ∃ F d1 d2, Ex F H ∧ Rp F x d1 ∧ Rp F y d2 ∧ d1.plain = true ∧ d2.plain = true ∧ X.A.units + min d1.depth d2.depth < cLine ∧ Q (.bl (!PyData.eqv d1 d2)) H
section
variable {X : Cx}
theorem op_eqD : OpR X (compareOp .Eq) (rEqD X) := by
  intro pins s σ H x y v u Q I rx ry h
  obtain ⟨F, d1, d2, k, r1, r2, p1, p2, hu, q⟩ := h
  obtain ⟨as, h1⟩ := r1.reads k I.hok rx p1
  obtain ⟨bs, h2⟩ := r2.reads k I.hok ry p2
  exact PySem.SeqAt.eq_plain h1 h2 p1 p2 hu ⟨.bl _, H, I, rfl, q⟩
theorem op_neD : OpR X (compareOp .NotEq) (rNeD X) := by
  intro pins s σ H x y v u Q I rx ry h
  obtain ⟨F, d1, d2, k, r1, r2, p1, p2, hu, q⟩ := h
  obtain ⟨as, h1⟩ := r1.reads k I.hok rx p1
  obtain ⟨bs, h2⟩ := r2.reads k I.hok ry p2
  exact PySem.SeqAt.ne_plain h1 h2 p1 p2 hu ⟨.bl _, H, I, rfl, q⟩
/-- x in c, c a list or a tuple -/
def rInD (X : Cx) (neg : Bool) : R2 := fun x y H Q => ∃ F d xs, Ex F H ∧ Rp F x d ∧ (Rp F y (.list xs) ∨ Rp F y (.tuple xs)) ∧ d.plain = true ∧ PyData.plainAll xs = true ∧ X.A.units + 1 + min (PyData.depthAll xs) d.depth < cLine ∧
  Q (.bl (if neg = true then !(xs.any fun z => PyData.eqv z d) else xs.any fun z => PyData.eqv z d)) H
theorem op_inD : OpR X (compareOp .In) (rInD X false) := by
  intro pins s σ H x y v u Q I rx ry h
  obtain ⟨F, d, xs, k, r1, r2, p1, p2, hu, q⟩ := h
  obtain ⟨as, h1⟩ := r1.reads k I.hok rx p1
  rcases r2 with r2 | r2
  · obtain ⟨bs, h2⟩ := r2.reads k I.hok ry (by simpa only [PyData.plain] using p2)
    exact PySem.SeqAt.in_list_data h2 h1 p2 p1 hu ⟨.bl _, H, I, rfl, q⟩
  · obtain ⟨bs, h2⟩ := r2.reads k I.hok ry (by simpa only [PyData.plain] using p2)
    exact PySem.SeqAt.in_tuple_data h2 h1 p2 p1 hu ⟨.bl _, H, I, rfl, q⟩
theorem op_notInD : OpR X (compareOp .NotIn) (rInD X true) := by
  intro pins s σ H x y v u Q I rx ry h
  obtain ⟨F, d, xs, k, r1, r2, p1, p2, hu, q⟩ := h
  obtain ⟨as, h1⟩ := r1.reads k I.hok rx p1
  rcases r2 with r2 | r2
  · obtain ⟨bs, h2⟩ := r2.reads k I.hok ry (by simpa only [PyData.plain] using p2)
    exact PySem.SeqAt.notIn_list_data h2 h1 p2 p1 hu ⟨.bl _, H, I, rfl, q⟩
  · obtain ⟨bs, h2⟩ := r2.reads k I.hok ry (by simpa only [PyData.plain] using p2)
    exact PySem.SeqAt.notIn_tuple_data h2 h1 p2 p1 hu ⟨.bl _, H, I, rfl, q⟩
theorem units_le {k : Nat} (hr : Room k X.A) {n : Nat} (h : n ≤ 60) : X.A.units + 1 + n < cLine := by have := hr.units; omega
/-- typed data: == -/
theorem od_eq {α : Type} [DecidableEq α] [PySem.W.Datum α] {k : Nat} (hr : Room k X.A) {x y : α} {K : D → Prop} (hd : PySem.W.Datum.depth α ≤ 60) (h : K (.bool (decide (x = y)))) : OpD (rEqD X) (PySem.W.Datum.toD x) (PySem.W.Datum.toD y) K :=
  fun F H v1 v2 kF r1 r2 Q q => ⟨F, _, _, kF, r1, r2, PySem.W.Datum.plain x, PySem.W.Datum.plain y, (by
    have := units_le hr (Nat.le_trans (PySem.W.Datum.depth_le x) hd); have := Nat.min_le_left (PySem.W.Datum.toD x).depth (PySem.W.Datum.toD y).depth; omega), q _ _ F H (by rw [PySem.W.Datum.eqv]; exact h) (Grow.refl kF) (.bl _)⟩
theorem od_ne {α : Type} [DecidableEq α] [PySem.W.Datum α] {k : Nat} (hr : Room k X.A) {x y : α} {K : D → Prop} (hd : PySem.W.Datum.depth α ≤ 60) (h : K (.bool (!decide (x = y)))) : OpD (rNeD X) (PySem.W.Datum.toD x) (PySem.W.Datum.toD y) K :=
  fun F H v1 v2 kF r1 r2 Q q => ⟨F, _, _, kF, r1, r2, PySem.W.Datum.plain x, PySem.W.Datum.plain y, (by
    have := units_le hr (Nat.le_trans (PySem.W.Datum.depth_le x) hd); have := Nat.min_le_left (PySem.W.Datum.toD x).depth (PySem.W.Datum.toD y).depth; omega), q _ _ F H (by rw [PySem.W.Datum.eqv]; exact h) (Grow.refl kF) (.bl _)⟩
theorem in_typed {α : Type} [DecidableEq α] [PySem.W.Datum α] {k : Nat} (hr : Room k X.A) {x : α} {xs : List α} (hd : PySem.W.Datum.depth α ≤ 60) : X.A.units + 1 + min (PyData.depthAll (xs.map PySem.W.Datum.toD)) (PySem.W.Datum.toD x).depth < cLine := by
  have := units_le hr (Nat.le_trans (PySem.W.Datum.depth_le x) hd)
  have := Nat.min_le_right (PyData.depthAll (xs.map PySem.W.Datum.toD)) (PySem.W.Datum.toD x).depth
  omega
theorem od_inT {α : Type} [DecidableEq α] [PySem.W.Datum α] {k : Nat} (hr : Room k X.A) {x : α} {xs : List α} {K : D → Prop} (hd : PySem.W.Datum.depth α ≤ 60) (h : K (.bool (decide (x ∈ xs)))) : OpD (rInD X false) (PySem.W.Datum.toD x) (.tuple (xs.map PySem.W.Datum.toD)) K :=
  fun F H v1 v2 kF r1 r2 Q q => ⟨F, _, _, kF, r1, .inr r2, PySem.W.Datum.plain x, PySem.W.plainAll_map xs, in_typed hr hd, q _ _ F H (by rw [if_neg Bool.false_ne_true, PySem.W.any_datum]; exact h) (Grow.refl kF) (.bl _)⟩
theorem od_inL {α : Type} [DecidableEq α] [PySem.W.Datum α] {k : Nat} (hr : Room k X.A) {x : α} {xs : List α} {K : D → Prop} (hd : PySem.W.Datum.depth α ≤ 60) (h : K (.bool (decide (x ∈ xs)))) : OpD (rInD X false) (PySem.W.Datum.toD x) (.list (xs.map PySem.W.Datum.toD)) K :=
  fun F H v1 v2 kF r1 r2 Q q => ⟨F, _, _, kF, r1, .inl r2, PySem.W.Datum.plain x, PySem.W.plainAll_map xs, in_typed hr hd, q _ _ F H (by rw [if_neg Bool.false_ne_true, PySem.W.any_datum]; exact h) (Grow.refl kF) (.bl _)⟩
theorem od_niT {α : Type} [DecidableEq α] [PySem.W.Datum α] {k : Nat} (hr : Room k X.A) {x : α} {xs : List α} {K : D → Prop} (hd : PySem.W.Datum.depth α ≤ 60) (h : K (.bool (!decide (x ∈ xs)))) : OpD (rInD X true) (PySem.W.Datum.toD x) (.tuple (xs.map PySem.W.Datum.toD)) K :=
  fun F H v1 v2 kF r1 r2 Q q => ⟨F, _, _, kF, r1, .inr r2, PySem.W.Datum.plain x, PySem.W.plainAll_map xs, in_typed hr hd, q _ _ F H (by rw [if_pos rfl, PySem.W.any_datum]; exact h) (Grow.refl kF) (.bl _)⟩
theorem od_niL {α : Type} [DecidableEq α] [PySem.W.Datum α] {k : Nat} (hr : Room k X.A) {x : α} {xs : List α} {K : D → Prop} (hd : PySem.W.Datum.depth α ≤ 60) (h : K (.bool (!decide (x ∈ xs)))) : OpD (rInD X true) (PySem.W.Datum.toD x) (.list (xs.map PySem.W.Datum.toD)) K :=
  fun F H v1 v2 kF r1 r2 Q q => ⟨F, _, _, kF, r1, .inl r2, PySem.W.Datum.plain x, PySem.W.plainAll_map xs, in_typed hr hd, q _ _ F H (by rw [if_pos rfl, PySem.W.any_datum]; exact h) (Grow.refl kF) (.bl _)⟩

/-! ### ints -/
theorem od_I0 {g : Int → Int → Int} {i j : Int} {K : D → Prop} (h : K (.int (g i j))) : OpD (rI0 fun i j => .int (g i j)) (.int i) (.int j) K := fun F H v1 v2 kF r1 r2 Q q => by
  cases r1
  cases r2
  exact ⟨i, j, rfl, rfl, q _ _ F H h (Grow.refl kF) (.int _)⟩
theorem od_B0 {g : Int → Int → Bool} {i j : Int} {K : D → Prop} (h : K (.bool (g i j))) : OpD (rI0 fun i j => .bl (g i j)) (.int i) (.int j) K := fun F H v1 v2 kF r1 r2 Q q => by
  cases r1
  cases r2
  exact ⟨i, j, rfl, rfl, q _ _ F H h (Grow.refl kF) (.bl _)⟩
theorem od_I {C : Int → Int → Prop} {g : Int → Int → Int} {i j : Int} {K : D → Prop} (hc : C i j) (h : K (.int (g i j))) : OpD (rI C fun i j => .int (g i j)) (.int i) (.int j) K := fun F H v1 v2 kF r1 r2 Q q => by
  cases r1
  cases r2
  exact ⟨i, j, rfl, rfl, hc, q _ _ F H h (Grow.refl kF) (.int _)⟩
theorem ud_neg {i : Int} {K : D → Prop} (h : K (.int (-i))) : UnD (rU fun i => .int (-i)) (.int i) K := fun F H v1 kF r1 Q q => by
  cases r1
  exact ⟨i, rfl, q _ _ F H h (Grow.refl kF) (.int _)⟩
def isNone : D → Bool
  | .none => true
  | _ => false
theorem isN_data {F : Hp} {v : V} {d : D} (r : Rp F v d) : decide (v = V.non) = isNone d := by
  cases r <;> simp [isNone, dctD, ft]
theorem od_isN {d : D} {K : D → Prop} (h : K (.bool (isNone d))) : OpD (fun x y H Q => y = .non ∧ Q (.bl (decide (x = .non))) H) d .none K := fun F H v1 v2 kF r1 r2 Q q => by
  cases r2
  exact ⟨rfl, q _ _ F H h (Grow.refl kF) (by rw [isN_data r1]; exact .bl _)⟩
theorem od_notN {d : D} {K : D → Prop} (h : K (.bool (!isNone d))) : OpD (fun x y H Q => y = .non ∧ Q (.bl (!decide (x = .non))) H) d .none K := fun F H v1 v2 kF r1 r2 Q q => by
  cases r2
  exact ⟨rfl, q _ _ F H h (Grow.refl kF) (by rw [isN_data r1]; exact .bl _)⟩

/-! ### items, slices, lists and tuples joined -/
theorem atI_rp {F : Hp} {vs : List V} {ds : List D} (rv : RpA F vs ds) {i : Int} {d : D} (h : atI ds i = some d) : ∃ v, atI vs i = some v ∧ Rp F v d := by
  unfold atI at h ⊢
  rw [rv.length]
  cases e : ixN ds.length i with
  | none => rw [e] at h; cases h
  | some j =>
    rw [e] at h
    exact rv.get' h
theorem od_ixT {K0 : PySem.W.Frag} {ds : List D} {i : Int} {d : D} {K : D → Prop} (h : atI ds i = some d) (k : K d) : OpD (rIxT K0) (.tuple ds) (.int i) K := fun F H v1 v2 kF r1 r2 Q q => by
  cases r2
  cases r1 with
  | tup ha rv =>
    obtain ⟨v, e, rp⟩ := atI_rp rv h
    exact ⟨_, _, i, v, rfl, rfl, .inl (.inl (kF _ _ ha)), e, q v d F H k (Grow.refl kF) rp⟩
theorem od_ixL {K0 : PySem.W.Frag} {ds : List D} {i : Int} {d : D} {K : D → Prop} (h : atI ds i = some d) (k : K d) : OpD (rIxL K0) (.list ds) (.int i) K := fun F H v1 v2 kF r1 r2 Q q => by
  cases r2
  cases r1 with
  | lst ha rv =>
    obtain ⟨v, e, rp⟩ := atI_rp rv h
    exact ⟨_, _, i, v, rfl, rfl, .inl (.inl (kF _ _ ha)), e, q v d F H k (Grow.refl kF) rp⟩
def cutD (xs : List D) (lo hi : Option Int) : List D := (xs.drop (HT.sIx xs.length 0 lo)).take (HT.sIx xs.length xs.length hi - HT.sIx xs.length 0 lo)
theorem cut_rp {F : Hp} {vs : List V} {ds : List D} (rv : RpA F vs ds) (lo hi : Option Int) : RpA F (cutV vs lo hi) (cutD ds lo hi) := by
  unfold cutV cutD
  rw [rv.length]
  exact (rv.drop _).take _
def PtD (X : Cx) (r : SR) (S : List Sl) (e : Option Expr) (K : Option Int → List Sl → Prop) : Prop := match e with
  | none => K none S
  | some e => JE X r e S fun d S1 => ∃ i, d = .int i ∧ K (some i) S1
variable {r : SR} {S : List Sl}
def tO (X : Cx) (e : Option Expr) : TO := match e with
  | none => tNoPart
  | some e => tPart (tE X e)
theorem po_tO {e : Option Expr} : PO X e (tO X e) := match e with
  | none => po_none
  | some _ => po_some pe_tE
theorem ptd_run {e : Option Expr} {K : Option Int → List Sl → Prop} {c : C} {F : Hp} {σ : St} {H : Hp} (hr : r.q c) (E : EvD c S F σ H) (h : PtD X r S e K) (Q : Option Int → Hp → Prop) (q : ∀ o F' H' S', K o S' → EvD c S' F' σ H' → Ex F F' → Q o H') : tO X e σ H Q := by
  cases e with
  | none => exact q none F H S h E (Ex.refl F)
  | some e =>
    refine h c F σ H hr E _ fun v d F1 H1 S1 h1 E1 k1 r1 => ?_
    obtain ⟨i, rfl, kd⟩ := h1
    cases r1
    exact ⟨i, rfl, q (some i) F1 H1 S1 kd E1 k1⟩
/-- t[lo:hi] of a tuple -/
theorem je_cutT {K : D → List Sl → Prop} {e : Expr} {lo hi : Option Expr} {p2 pos : Pos} (h : JE X r e S fun d S1 => PtD X r S1 lo fun l S2 => PtD X r S2 hi fun u S3 => ∃ ds, d = .tuple ds ∧ K (.tuple (cutD ds l u)) S3) : JE X r (.Subscript e (.Slice lo hi none p2) pos) S K :=
  fun c F σ H hr E Q q => of_pe (pe_slice sl_tupA pe_tE po_tO po_tO) (h c F σ H hr E _ fun v d F1 H1 S1 h1 E1 k1 r1 => ptd_run hr E1 h1 _ fun l F2 H2 S2 h2 E2 k2 => ptd_run hr E2 h2 _ fun u F3 H3 S3 h3 E3 k3 => by
    obtain ⟨ds, rfl, kd⟩ := h3
    cases r1.ex (k2.trans k3) with
    | @tup a vs _ ha rv =>
      refine ⟨_, vs, rfl, .inl (.inl (E3.fin.fh _ _ ha)), fun w => ?_, fun _ p n => ?_⟩
      · have e : cutD ds l u = ds := by
          unfold cutD
          rw [rv.length] at w
          rw [w.1, w.2, List.drop_zero, Nat.sub_zero, List.take_length]
        rw [e] at kd
        exact q _ _ F3 H3 S3 kd E3 ((k1.trans k2).trans k3) (.tup ha rv)
      · have g := Grow.new E3.fin.fh (o := .tup (cutV vs l u)) n
        exact q _ _ _ _ S3 kd (E3.grow g) (((k1.trans k2).trans k3).trans g.kF) (.tup upd_same ((cut_rp rv l u).ex g.kF)))
/-- xs[lo:hi] of a list -/
theorem jn_cutL {K : List D → List Sl → Prop} {e : Expr} {lo hi : Option Expr} {p2 pos : Pos} (h : JE X r e S fun d S1 => PtD X r S1 lo fun l S2 => PtD X r S2 hi fun u S3 => ∃ ds, d = .list ds ∧ K (cutD ds l u) S3) : JN X r (.Subscript e (.Slice lo hi none p2) pos) S K :=
  fun c F σ H hr E Q q => of_pe (pe_slice sl_list pe_tE po_tO po_tO) (h c F σ H hr E _ fun v d F1 H1 S1 h1 E1 k1 r1 => ptd_run hr E1 h1 _ fun l F2 H2 S2 h2 E2 k2 => ptd_run hr E2 h2 _ fun u F3 H3 S3 h3 E3 k3 => by
    obtain ⟨ds, rfl, kd⟩ := h3
    cases r1.ex (k2.trans k3) with
    | @lst a vs _ ha rv => exact ⟨_, vs, rfl, .inl (.inl (E3.fin.fh _ _ ha)), fun p n => q p _ F3 _ S3 kd (newL_of E3 n (cut_rp rv l u)) ((k1.trans k2).trans k3)⟩)
theorem od_catT {K0 : PySem.W.Frag} {xs ys : List D} {K : D → Prop} (hl : xs.length + ys.length ≤ sizeLine) (k : K (.tuple (xs ++ ys))) : OpD (rCatA K0) (.tuple xs) (.tuple ys) K := fun F H v1 v2 kF r1 r2 Q q => by
  cases r1 with
  | @tup a vs _ ha rv =>
    cases r2 with
    | @tup b ws _ hb rw' =>
      refine ⟨a, b, vs, ws, rfl, rfl, .inl (.inl (kF _ _ ha)), .inl (.inl (kF _ _ hb)), by rw [rv.length, rw'.length]; exact hl, fun e => ?_, fun _ e => ?_, fun _ _ p n => ?_⟩
      · subst e; cases rv
        exact q _ _ F H k (Grow.refl kF) (.tup hb rw')
      · subst e; cases rw'
        rw [List.append_nil] at k
        exact q _ _ F H k (Grow.refl kF) (.tup ha rv)
      · have g := Grow.new kF (o := .tup (vs ++ ws)) n
        exact q _ _ _ _ k g (.tup upd_same ((rv.append rw').ex g.kF))
/-- xs + ys of lists: a new list -/
theorem jn_cat {K : List D → List Sl → Prop} {a b : Expr} {pos : Pos} (h : JE X r a S fun d1 S1 => JE X r b S1 fun d2 S2 => ∃ xs ys, d1 = .list xs ∧ d2 = .list ys ∧ xs.length + ys.length ≤ sizeLine ∧ K (xs ++ ys) S2) : JN X r (.BinOp a .Add b pos) S K :=
  fun c F σ H hr E Q q => of_pe (pe_op op_cat pe_tE pe_tE) (h c F σ H hr E _ fun v1 d1 F1 H1 S1 h1 E1 k1 r1 => h1 c F1 σ H1 hr E1 _ fun v2 d2 F2 H2 S2 h2 E2 k2 r2 => by
    obtain ⟨xs, ys, rfl, rfl, hl, kd⟩ := h2
    cases r1.ex k2 with
    | @lst a vs _ ha rv =>
      cases r2 with
      | @lst b ws _ hb rw' => exact ⟨a, b, vs, ws, rfl, rfl, E2.fin.fh _ _ ha, E2.fin.fh _ _ hb, by rw [rv.length, rw'.length]; exact hl, fun p n => q p _ F2 _ S2 kd (newL_of E2 n (rv.append rw')) (k1.trans k2)⟩)

/-! ### calls of built-ins -/
theorem cd_lenT {K0 : PySem.W.Frag} {xs : List D} {K : D → Prop} (k : K (.int (xs.length : Nat))) : CallD (fun vs H Q => ∃ p ys, vs = [.ref p] ∧ (SqL K0 H p ys ∨ SqT K0 H p ys) ∧ Q (.int ys.length) H) [.tuple xs] K := fun F H vs kF rv Q q => by
  cases rv with
  | cons r1 t =>
    cases t
    cases r1 with
    | @tup a ws _ ha rv => exact ⟨a, ws, rfl, .inr (.inl (.inl (kF _ _ ha))), q _ _ F H (by rw [← rv.length] at k; exact k) (Grow.refl kF) (.int _)⟩
theorem cd_lenL {K0 : PySem.W.Frag} {xs : List D} {K : D → Prop} (k : K (.int (xs.length : Nat))) : CallD (fun vs H Q => ∃ p ys, vs = [.ref p] ∧ (SqL K0 H p ys ∨ SqT K0 H p ys) ∧ Q (.int ys.length) H) [.list xs] K := fun F H vs kF rv Q q => by
  cases rv with
  | cons r1 t =>
    cases t
    cases r1 with
    | @lst a ws _ ha rv => exact ⟨a, ws, rfl, .inl (.inl (.inl (kF _ _ ha))), q _ _ F H (by rw [← rv.length] at k; exact k) (Grow.refl kF) (.int _)⟩
theorem RpA.bools {F : Hp} : ∀ {bs : List Bool} {vs : List V}, RpA F vs (bs.map PyData.bool) → vs = bs.map V.bl
  | [], _, h => by cases h; rfl
  | b :: bs, _, h => by
    cases h with
    | cons r t =>
      cases r
      rw [RpA.bools t]; rfl
theorem cd_all {K0 : PySem.W.Frag} {bs : List Bool} {K : D → Prop} (k : K (.bool (bs.all id))) : CallD (rAll K0) [.list (bs.map .bool)] K := fun F H vs kF rv Q q => by
  cases rv with
  | cons r1 t =>
    cases t
    cases r1 with
    | @lst a ws _ ha rv =>
      have e := rv.bools
      subst e
      exact ⟨a, bs, rfl, .inl (.inl (kF _ _ ha)), q _ _ F H k (Grow.refl kF) (.bl _)⟩
theorem cd_any {K0 : PySem.W.Frag} {bs : List Bool} {K : D → Prop} (k : K (.bool (bs.any id))) : CallD (rAny K0) [.list (bs.map .bool)] K := fun F H vs kF rv Q q => by
  cases rv with
  | cons r1 t =>
    cases t
    cases r1 with
    | @lst a ws _ ha rv =>
      have e := rv.bools
      subst e
      exact ⟨a, bs, rfl, .inl (.inl (kF _ _ ha)), q _ _ F H k (Grow.refl kF) (.bl _)⟩
/-- tuple(list) -/
theorem je_tupL {K : D → List Sl → Prop} {a : Expr} {p pos : Pos} (hg : Gl X "tuple") (hm : X.mg "tuple" = none) (na : starEach [a] X.env = (false, eval a X.env) :: starEach [] X.env) (h : JE X r a S fun d S1 => ∃ xs, d = .list xs ∧ K (.tuple xs) S1) : JE X r (.Call (.Name "tuple" p) [a] [] pos) S K :=
  fun c F σ H hr E Q q => of_pe (pe_tupleOf hg hm pe_tE na) (h c F σ H hr E _ fun v d F1 H1 S1 h1 E1 k1 r1 => by
    obtain ⟨xs, rfl, kd⟩ := h1
    cases r1 with
    | @lst a ws _ ha rv =>
      refine .inl ⟨a, ws, rfl, .inl (.inl (E1.fin.fh _ _ ha)), fun p n => ?_⟩
      have g := Grow.new E1.fin.fh (o := .tup ws) n
      exact q _ _ _ _ S1 kd (E1.grow g) (k1.trans g.kF) (.tup upd_same (rv.ex g.kF)))
theorem rg_rp {F : Hp} (a b : Int) : RpA F (rgV a b) (rangeD a (b - a).toNat) := by
  unfold rgV rangeD
  generalize List.range (b - a).toNat = l
  induction l with
  | nil => exact .nil
  | cons x l ih => exact .cons (.int _) ih
theorem jn_listRg1 {K : List D → List Sl → Prop} {a : Expr} {p p2 pos pos2 : Pos} (hc : X.calm = true) (hg : Gl X "list") (hm : X.mg "list" = none) (hg2 : Gl X "range") (hm2 : X.mg "range" = none) (na : starEach [a] X.env = (false, eval a X.env) :: starEach [] X.env)
    (ne : starEach [.Call (.Name "range" p2) [a] [] pos2] X.env = (false, eval (.Call (.Name "range" p2) [a] [] pos2) X.env) :: starEach [] X.env)
    (h : JE X r a S fun d S1 => ∃ n : Int, d = .int n ∧ RgOk 0 n ∧ K (rangeD 0 n.toNat) S1) : JN X r (.Call (.Name "list" p) [.Call (.Name "range" p2) [a] [] pos2] [] pos) S K :=
  fun c F σ H hr E Q q => of_pe (pe_listRg hc hg hm (prg_1 hg2 hm2 pe_tE na) ne) (h c F σ H hr E _ fun v d F1 H1 S1 h1 E1 k1 r1 => by
    obtain ⟨n, rfl, hb, kd⟩ := h1
    cases r1
    refine ⟨n, rfl, hb, fun p n' => q p _ F1 _ S1 kd (newL_of E1 n' ?_) k1⟩
    have := rg_rp (F := F1) 0 n
    rw [Int.sub_zero] at this
    exact this)
theorem je_tupRg1 {K : D → List Sl → Prop} {a : Expr} {p p2 pos pos2 : Pos} (hc : X.calm = true) (hg : Gl X "tuple") (hm : X.mg "tuple" = none) (hg2 : Gl X "range") (hm2 : X.mg "range" = none) (na : starEach [a] X.env = (false, eval a X.env) :: starEach [] X.env)
    (ne : starEach [.Call (.Name "range" p2) [a] [] pos2] X.env = (false, eval (.Call (.Name "range" p2) [a] [] pos2) X.env) :: starEach [] X.env)
    (h : JE X r a S fun d S1 => ∃ n : Int, d = .int n ∧ RgOk 0 n ∧ K (.tuple (rangeD 0 n.toNat)) S1) : JE X r (.Call (.Name "tuple" p) [.Call (.Name "range" p2) [a] [] pos2] [] pos) S K :=
  fun c F σ H hr E Q q => of_pe (pe_tupRg hc hg hm (prg_1 hg2 hm2 pe_tE na) ne) (h c F σ H hr E _ fun v d F1 H1 S1 h1 E1 k1 r1 => by
    obtain ⟨n, rfl, hb, kd⟩ := h1
    cases r1
    refine ⟨n, rfl, hb, fun p n' => ?_⟩
    have rv := rg_rp (F := F1) 0 n
    rw [Int.sub_zero] at rv
    have g := Grow.new E1.fin.fh (o := .tup (rgV 0 n)) n'
    exact q _ _ _ _ S1 kd (E1.grow g) (k1.trans g.kF) (.tup upd_same (rv.ex g.kF)))
/-- list(xs) -/
theorem cn_list {K0 : PySem.W.Frag} {xs : List D} {K : List D → Prop} {d : D} (hd : d = .list xs ∨ d = .tuple xs) (k : K xs) : CallN (fun vs H Q => ∃ p ys, vs = [.ref p] ∧ (SqL K0 H p ys ∨ SqT K0 H p ys) ∧ ∀ l, H l = none → Q (.ref l) (upd H l (.lst ys))) [d] K := fun F H vs kF rv Q q => by
  rcases hd with rfl | rfl
  all_goals
    cases rv with
    | cons r1 t =>
      cases t
      first
        | (cases r1 with
          | @lst a ws _ ha rv => exact ⟨a, ws, rfl, .inl (.inl (.inl (kF _ _ ha))), fun l n => q l ws xs k n rv⟩)
        | (cases r1 with
          | @tup a ws _ ha rv => exact ⟨a, ws, rfl, .inr (.inl (.inl (kF _ _ ha))), fun l n => q l ws xs k n rv⟩)
/-- repr -/
def rRepr (X : Cx) : List V → Hp → VK → Prop := fun vs H Q => ∃ F x d, vs = [x] ∧ Ex F H ∧ Rp F x d ∧ d.plain = true ∧ d.showable = true ∧ d.hasDict = false ∧ X.A.units + (d.depth + 1) < cLine ∧ d.shown.length ≤ sizeLine ∧ Q (.str d.shown) H
theorem call_repr (hg : X.A.guards = some []) : CallR X (.builtin "repr") (rRepr X) := by
  intro pins s σ H xs us Q I rr h
  obtain ⟨F, x, d, rfl, k, rp, hpl, hs, hd, hu, hz, q⟩ := h
  obtain ⟨u, rfl, rx⟩ := vals1 rr
  cases rp with
  | non =>
    cases rx
    exact PySem.P.repr_of_none ⟨.str _, H, I.tok _, ⟨_, rfl⟩, by simpa only [PyData.shown] using q⟩
  | bl b =>
    cases rx
    exact PySem.P.repr_of_bool ⟨.str _, H, I.tok _, ⟨_, rfl⟩, by simpa only [PyData.shown] using q⟩
  | int i =>
    obtain ⟨t, rfl⟩ := rx
    exact PySem.P.repr_of_int (by simpa only [PyData.showable, decide_eq_true_eq] using hs) ⟨.str _, H, I.tok _, ⟨_, rfl⟩, by simpa only [PyData.shown] using q⟩
  | str x =>
    obtain ⟨t, rfl⟩ := rx
    exact PySem.P.repr_of_str ⟨.str _, H, I.tok _, ⟨_, rfl⟩, by simpa only [PyData.shown] using q⟩ (by simpa only [PyData.shown] using hz)
  | @tup a ws ds ha rv =>
    cases rx
    obtain ⟨as, hr⟩ := (Rp.tup ha rv).reads k I.hok rfl hpl
    exact repr_of_reads' hr hs (fun e => by rw [hd] at e; cases e) hg hu (fun _ _ e => e) (fun h' u tk hk => ⟨.str _, H, I.kept hk, ⟨_, rfl⟩, q⟩) hz
  | @lst a ws ds ha rv =>
    cases rx
    obtain ⟨as, hr⟩ := (Rp.lst ha rv).reads k I.hok rfl hpl
    exact repr_of_reads' hr hs (fun e => by rw [hd] at e; cases e) hg hu (fun _ _ e => e) (fun h' u tk hk => ⟨.str _, H, I.kept hk, ⟨_, rfl⟩, q⟩) hz
  | dct ha rv => unfold dctD at hpl; simp only [PyData.plain] at hpl; cases hpl
  | ftup ha n rv => unfold ft at hpl; simp only [PyData.plain] at hpl; cases hpl
end

/-! ### a def by its body -/
def Ar.sl : Ar → Sl
  | Ar.d x => .val x
  | Ar.src => .src
def startS (N : List Str) (as : List Ar) : List Sl := as.map Ar.sl ++ List.replicate (N.length - as.length) .emp
theorem env_start {c : C} {H : Hp} {vs : List V} {as : List Ar} {N : List Str} (fn : Fin c c.F0 H) (ra : ArA c c.F0 vs as) : EvD c (startS N as) c.F0 (L2.start N vs) H := by
  have hl := ra.length
  refine ⟨fn, ?_, fun i s e => ?_, fun i j xs ys a e1 e2 _ _ => ?_⟩
  · unfold L2.start startS
    simp [hl]
  · unfold startS at e
    unfold L2.start
    by_cases hi : i < as.length
    · rw [List.getElem?_append_left (by rw [List.length_map]; exact hi)] at e
      rw [List.getElem?_append_left (by rw [List.length_map, hl]; exact hi)]
      clear hl fn
      induction ra generalizing i with
      | nil => simp at hi
      | @cons v a vs as rr t ih =>
        cases i with
        | zero =>
          simp at e
          subst e
          refine ⟨some v, by simp, ?_⟩
          cases a with
          | d d => exact ⟨v, rfl, rr⟩
          | src =>
            obtain ⟨p, e1, e2⟩ := rr
            exact ⟨p, e1, by rw [e2]⟩
        | succ i =>
          obtain ⟨x, e1, e2⟩ := ih i (by simpa using e) (by simpa using hi)
          exact ⟨x, by simpa using e1, e2⟩
    · rw [List.getElem?_append_right (by rw [List.length_map]; omega)] at e
      rw [List.getElem?_append_right (by rw [List.length_map, hl]; omega)]
      rw [List.length_map] at e ⊢
      rw [hl]
      have := (List.getElem?_eq_some_iff.mp e).1
      rw [List.length_replicate] at this
      rw [List.getElem?_replicate_of_lt this] at e
      cases e
      exact ⟨none, by rw [List.getElem?_replicate_of_lt this], trivial⟩
  · have no : ∀ {i : Nat} {xs : OB}, (startS N as)[i]? ≠ some (.ob xs) := fun {i xs} e => by
      have hm := List.mem_of_getElem? e
      unfold startS at hm
      rcases List.mem_append.mp hm with hm | hm
      · obtain ⟨a, _, e⟩ := List.mem_map.mp hm
        cases a <;> cases e
      · have := List.eq_of_mem_replicate hm
        cases this
    exact absurd e1 no
section
variable {P : Program} {w : World} {K : PySem.W.Frag} {mg : Str → Option Value} {base : Heap}
theorem fn_D {x qual : Str} {st : Stmt} {f : Addr} {fd : FuncData} {N ps : List Str} {k : Nat} {φ : List Ar → (D → Prop) → Prop} (F : Fun K x qual st f fd) (Sc : FnScope N ps (defScope st)) (len : ∀ as Kd, φ as Kd → as.length = ps.length)
    (hbody : ∀ (as : List Ar) (Kd : D → Prop) (r : SR) (cdv : Value) (A : Around) (outer : List PySem.Env) (s : Shared) (H : Hp) (E : XK), Room k (A.deeper (PyProof.Rows.envOfC qual (defScope st) s.heap.objs.size f cdv)) → φ as Kd →
      JSs (cxOf CX0 P w K mg base N qual (defScope st) f cdv A outer s H E).nox r (defBody st) (startS N as) { nx := fun _ => Kd .none, rt := Kd }) : FnOk P w K mg base CX0 (k + 1) f fd ps (SpD φ) := by
  refine F.ok Sc (fun vs H Q E h => ?_) (fun cdv A outer s H vs Q E hr h => ?_)
  · obtain ⟨c, as, Kd, fn, ra, hφ, _⟩ := h
    rw [ra.length]; exact len as Kd hφ
  · obtain ⟨c, as, Kd, fn, ra, hφ, q⟩ := h
    refine ⟨_, pss_tSs, hbody as Kd (srL c) cdv A outer s H E hr hφ c c.F0 _ H (srL_refl c) (env_start fn ra) _ ⟨fun F' σ' H' S' a E' k' => q .non .none F' H' a E'.fin .non, fun v d F' H' a fn' rp => q v d F' H' a fn' rp, fun _ _ _ _ a => a.elim, fun _ _ _ _ a => a.elim⟩⟩
end
end DL

/-! DL: comprehensions that change nothing. -/
namespace DL
open PySem L2
section
variable {X : Cx} {r : SR} {S : List Sl}
/-- a turn that changes nothing: the test's answer p, the element y -/
def LcPure (X : Cx) (r : SR) (scope : Scope) (tg elt : Expr) (ifs : List Expr) (vs ts : List Nat) (d : D) (S : List Sl) (p : Bool) (y : D) : Prop :=
  Blk X scope fun Y => JG Y r tg ts d (wipeS S vs) fun S2 => Blk X scope fun Y => JTs Y r ifs S2 fun b S3 => b = p ∧ (p = false → mrg vs S S3 = S) ∧ (p = true → Blk X scope fun Y => JE Y r elt S3 fun z S4 => z = y ∧ mrg vs S S4 = S)
theorem JG.mono {tg : Expr} {ts : List Nat} {d : D} {K K' : List Sl → Prop} (h : JG X r tg ts d S K) (k : ∀ S', K S' → K' S') : JG X r tg ts d S K' :=
  fun c F σ H v hr E rv Q q => h c F σ H v hr E rv Q fun F' σ' H' S' a => q F' σ' H' S' (k S' a)
theorem JI.mono {tg iter : Expr} {K K' : List D → List Sl → Prop} (h : JI X r tg iter S K) (k : ∀ ds S', K ds S' → K' ds S') : JI X r tg iter S K' :=
  fun c F σ H hr E R q => h c F σ H hr E R fun J ds F' H' S' a => q J ds F' H' S' (k ds S' a)
theorem JTs.mono {ifs : List Expr} {K K' : Bool → List Sl → Prop} (h : JTs X r ifs S K) (k : ∀ b S', K b S' → K' b S') : JTs X r ifs S K' := by
  match ifs, h with
  | [], h => exact k true S h
  | [t], h => exact JT.mono (X := X) (r := r) (S := S) (K := K) (K' := K') h k
/-- the items as data, what becomes of them -/
def LcAll (X : Cx) (r : SR) (scope : Scope) (tg elt : Expr) (ifs : List Expr) (vs ts : List Nat) (ds : List D) (S : List Sl) (K : List D → Prop) : Prop :=
  ∃ (α : Type) (as : List α) (enc : α → D) (p : α → Bool) (g : α → D), ds = as.map enc ∧ as.length ≤ 1000000 ∧ (∀ a ∈ as, LcPure X r scope tg elt ifs vs ts (enc a) S (p a) (g a)) ∧ K ((as.filter p).map g)
theorem lc_pure {scope : Scope} {tg elt : Expr} {ifs : List Expr} {vs ts : List Nat} {ds : List D} {K : List D → List Sl → Prop} (hv : ∀ j ∈ vs, ∀ xs, S[j]? ≠ some (.ob xs)) (h : LcAll X r scope tg elt ifs vs ts ds S fun zs => K zs S) :
    ∃ I : Nat → List D → List Sl → Prop, I 0 [] S ∧ (∀ i acc S', I i acc S' → i ≤ ds.length → acc.length < sizeLine ∧ ∀ j ∈ vs, ∀ xs, S'[j]? ≠ some (.ob xs)) ∧
      (∀ i d acc S', ds[i]? = some d → I i acc S' → LcTurn X r scope tg elt ifs vs ts d S' (fun y S4 => I (i + 1) (acc ++ [y]) S4) fun S4 => I (i + 1) acc S4) ∧ ∀ acc S', I ds.length acc S' → K acc S' := by
  obtain ⟨α, as, enc, p, g, rfl, hl, turn, fin⟩ := h
  refine ⟨fun i acc S' => S' = S ∧ acc = ((as.take i).filter p).map g, ⟨rfl, rfl⟩, fun i acc S' hI hi => ?_, fun i d acc S' hd hI => ?_, fun acc S' hI => ?_⟩
  · obtain ⟨rfl, rfl⟩ := hI
    refine ⟨?_, hv⟩
    rw [List.length_map]
    refine Nat.lt_of_le_of_lt (List.length_filter_le _ _) ?_
    rw [List.length_take]
    have : sizeLine = 16777216 := sizeLine_eq
    have := Nat.min_le_right i as.length
    omega
  · obtain ⟨rfl, rfl⟩ := hI
    rw [List.getElem?_map] at hd
    cases ha : as[i]? with
    | none => rw [ha] at hd; cases hd
    | some a =>
      rw [ha] at hd
      cases hd
      have t := turn a (List.mem_of_getElem? ha)
      have tk : as.take (i + 1) = as.take i ++ [a] := by rw [List.take_add_one, ha]; rfl
      intro s H C cl fp
      refine (t s H C cl fp).mono fun S2 t2 s1 H1 C1 cl1 fp1 => (t2 s1 H1 C1 cl1 fp1).mono fun b S3 t3 => ?_
      obtain ⟨rfl, t3, t4⟩ := t3
      cases hp : p a with
      | false =>
        rw [if_neg Bool.false_ne_true]
        refine ⟨t3 hp, ?_⟩
        rw [tk, List.filter_append, List.map_append]
        simp [hp]
      | true =>
        rw [if_pos rfl]
        intro s2 H2 C2 cl2 fp2
        refine (t4 hp s2 H2 C2 cl2 fp2).mono fun z S4 t5 => ?_
        obtain ⟨rfl, t5⟩ := t5
        refine ⟨t5, ?_⟩
        rw [tk, List.filter_append, List.map_append]
        simp [hp]
  · obtain ⟨rfl, rfl⟩ := hI
    rw [List.length_map, List.take_length]
    exact fin
theorem jn_lcP {elt tg iter : Expr} {ifs : List Expr} {scope : Scope} {pos : Pos} (own : List (Str × Nat)) (ts : List Nat) {K : List D → List Sl → Prop} (hc : X.calm = true) (hN : X.N.Nodup) (ok : BlkOk X.N X.env.scope scope own) (hs : ∀ x, foldedSetIterable iter X.env x = pure x) (hts : ∀ j ∈ ts, j ∈ own.map (·.2))
    (h : JI X r tg iter S fun ds S1 => (∀ j ∈ own.map (·.2), ∀ xs, S1[j]? ≠ some (.ob xs)) ∧ LcAll X r scope tg elt ifs (own.map (·.2)) ts ds S1 fun zs => K zs S1) : JN X r (.ListComp elt [⟨tg, iter, ifs, 0⟩] scope pos) S K :=
  jn_lc own ts hc hN ok hs hts (h.mono fun ds S1 h => lc_pure h.1 h.2)
end
end DL

/-! DL: the rules in short, for steps of a proof. -/
namespace DL
open PySem L2
section
variable {X : Cx} {r : SR} {S : List Sl}
theorem ifb {b : Bool} {A B : Prop} (h1 : b = true → A) (h2 : b = false → B) : if b = true then A else B := by
  cases b with
  | true => rw [if_pos rfl]; exact h1 rfl
  | false => rw [if_neg Bool.false_ne_true]; exact h2 rfl
theorem ift {b : Bool} {A B : Prop} (h : b = true) (h1 : A) : if b = true then A else B := by rw [if_pos h]; exact h1
theorem iff' {b : Bool} {A B : Prop} (h : b = false) (h1 : B) : if b = true then A else B := by rw [if_neg (by rw [h]; exact Bool.false_ne_true)]; exact h1
theorem jv {K : D → List Sl → Prop} {x : Str} {pos : Pos} (i : Nat) {d : D} (k : K d S) (e : S[i]? = some (.val d) := by rfl) (hN : X.N[i]? = some x := by rfl) (hv : Vis X.env.scope x := by first | exact Or.inl rfl | exact Or.inr (Or.inl rfl) | exact Or.inr (Or.inr rfl)) (hd : (x == ("__debug__" : Str)) = false := by decide) (hcd : (x == ("__classdict__" : Str)) = false := by decide) :
    JE X r (.Name x pos) S K := je_var i hN hv hd hcd e k
theorem jo {K : D → List Sl → Prop} {x : Str} {pos : Pos} (i : Nat) {xs : List D} (k : K (.list xs) (S.set i (.val (.list xs)))) (e : S[i]? = some (.ob (.l xs)) := by rfl) (hN : X.N[i]? = some x := by rfl) (hv : Vis X.env.scope x := by first | exact Or.inl rfl | exact Or.inr (Or.inl rfl) | exact Or.inr (Or.inr rfl)) (hd : (x == ("__debug__" : Str)) = false := by decide) (hcd : (x == ("__classdict__" : Str)) = false := by decide) :
    JE X r (.Name x pos) S K := je_own i hN hv hd hcd e k
theorem joO {K : D → List Sl → Prop} {x : Str} {pos : Pos} (i : Nat) {xs : OB} (k : K (obD xs) (S.set i (.val (obD xs)))) (e : S[i]? = some (.ob xs) := by rfl) (hN : X.N[i]? = some x := by rfl) (hv : Vis X.env.scope x := by first | exact Or.inl rfl | exact Or.inr (Or.inl rfl) | exact Or.inr (Or.inr rfl)) (hd : (x == ("__debug__" : Str)) = false := by decide) (hcd : (x == ("__classdict__" : Str)) = false := by decide) :
    JE X r (.Name x pos) S K := je_own i hN hv hd hcd e k
theorem jA {K : List Ar → List Sl → Prop} {e : Expr} {es : List Expr} (h : JE X r e S fun d S1 => JA X r es S1 fun as S2 => K (.d d :: as) S2) (hs : starEach (e :: es) X.env = (false, eval e X.env) :: starEach es X.env := by rfl) : JA X r (e :: es) S K := ja_cons hs h
theorem jA0 {K : List Ar → List Sl → Prop} (k : K [] S) : JA X r [] S K := ja_nil k
theorem jAs {K : List Ar → List Sl → Prop} {x : Str} {p : Pos} {es : List Expr} (i : Nat) (h : JA X r es S fun as S2 => K (.src :: as) S2) (e : S[i]? = some .src := by rfl) (hN : X.N[i]? = some x := by rfl) (hv : Vis X.env.scope x := by first | exact Or.inl rfl | exact Or.inr (Or.inl rfl) | exact Or.inr (Or.inr rfl)) (hd : (x == ("__debug__" : Str)) = false := by decide) (hcd : (x == ("__classdict__" : Str)) = false := by decide)
    (hs : starEach (.Name x p :: es) X.env = (false, eval (.Name x p) X.env) :: starEach es X.env := by rfl) : JA X r (.Name x p :: es) S K := ja_src i hN hv hd hcd hs e h
theorem jret {e : Expr} {pos : Pos} {E : DE} (h : JE X r e S fun d _ => E.rt d) : JSs X r [.Return (some e) pos] S E := jss_cons (js_ret h)
theorem jset {x : Str} {e : Expr} {pos pos' : Pos} {E : DE} {rest : List Stmt} (i : Nat) (h : JE X r e S fun d S1 => JSs X r rest (S1.set i (.val d)) E) (hN : X.N.Nodup := by assumption) (hi : X.N[i]? = some x := by rfl) (hx : Loc X.env.scope x := by first | exact Or.inl rfl | exact Or.inr rfl) (hs : swapsWith e (some (.Name x pos')) pos.line X.env = pure false := by rfl) (hf : X.fn x = true ∨ X.env.scope.names.lookup x = some .local := by first | exact .inl rfl | exact .inr rfl) :
    JSs X r (.Assign [.Name x pos'] e pos :: rest) S E := jss_cons (js_set i hN hi hx hs hf h)
theorem jsetN {x : Str} {e : Expr} {pos pos' : Pos} {E : DE} {rest : List Stmt} (i : Nat) (h : JN X r e S fun ds S1 => JSs X r rest (S1.set i (.own ds)) E) (hN : X.N.Nodup := by assumption) (hi : X.N[i]? = some x := by rfl) (hx : Loc X.env.scope x := by first | exact Or.inl rfl | exact Or.inr rfl) (hs : swapsWith e (some (.Name x pos')) pos.line X.env = pure false := by rfl) (hf : X.fn x = true ∨ X.env.scope.names.lookup x = some .local := by first | exact .inl rfl | exact .inr rfl) :
    JSs X r (.Assign [.Name x pos'] e pos :: rest) S E := jss_cons (js_setN i hN hi hx hs hf h)
theorem jsetO {x : Str} {e : Expr} {pos pos' : Pos} {E : DE} {rest : List Stmt} (i : Nat) (h : JO X r e S fun o S1 => JSs X r rest (S1.set i (.ob o)) E) (hN : X.N.Nodup := by assumption) (hi : X.N[i]? = some x := by rfl) (hx : Loc X.env.scope x := by first | exact Or.inl rfl | exact Or.inr rfl) (hs : swapsWith e (some (.Name x pos')) pos.line X.env = pure false := by rfl) (hf : X.fn x = true ∨ X.env.scope.names.lookup x = some .local := by first | exact .inl rfl | exact .inr rfl) :
    JSs X r (.Assign [.Name x pos'] e pos :: rest) S E := jss_cons (js_setO i hN hi hx hs hf h)
theorem jif {t : Expr} {a b rest : List Stmt} {pos : Pos} {E : DE} (h : JT X r t S fun k S1 => if k = true then JSs X r a S1 { E with nx := fun S2 => JSs X r rest S2 E } else JSs X r b S1 { E with nx := fun S2 => JSs X r rest S2 E }) : JSs X r (.If t a b pos :: rest) S E := jss_cons (js_if h)
theorem jexpr {e : Expr} {pos : Pos} {rest : List Stmt} {E : DE} (h : JE X r e S fun _ S1 => JSs X r rest S1 E) (hs : swapsWith e none pos.line X.env = pure false := by rfl) : JSs X r (.Expr e pos :: rest) S E := jss_cons (js_expr hs h)
theorem jasg {tg e : Expr} {pos : Pos} {rest : List Stmt} {E : DE} (ts : List Nat) (h : JE X r e S fun d S1 => JG X r tg ts d S1 fun S2 => JSs X r rest S2 E) (hs : swapsWithSole [tg] e pos.line X.env = pure false := by rfl) (hw : swappedStores [tg] e X.env = pure none := by rfl) (h1 : (assignEach [tg] X.env).map (·.2) = [assign tg X.env] := by rfl) :
    JSs X r (.Assign [tg] e pos :: rest) S E := jss_cons (js_asg ts hs hw h1 h)
theorem jg {x : Str} {pos : Pos} {d : D} {K : List Sl → Prop} (i : Nat) (h : K (S.set i (.val d))) (hN : X.N.Nodup := by assumption) (hi : X.N[i]? = some x := by rfl) (hx : Loc X.env.scope x := by first | exact Or.inl rfl | exact Or.inr rfl) (hf : X.fn x = true ∨ X.env.scope.names.lookup x = some .local := by first | exact .inl rfl | exact .inr rfl) :
    JG X r (.Name x pos) [i] d S K := jg_name i hN hi hx hf h
theorem jgT {es : List Expr} {k : Nat} {pos : Pos} {ts : List Nat} {ds : List D} {K : List Sl → Prop} (h : JGs X r es ts ds S K) (hc : X.calm = true := by rfl) (hn : (assignEach es X.env).length = ds.length := by rfl) (hst : (assignEach es X.env).findIdx? (·.1) = none := by rfl) : JG X r (.Tuple es k pos) ts (.tuple ds) S K := jg_tup hc hn hst h
theorem jgs {e : Expr} {es : List Expr} {ts us : List Nat} {d : D} {ds : List D} {K : List Sl → Prop} (h : JG X r e ts d S fun S1 => JGs X r es us ds S1 K) (hs : (assignEach (e :: es) X.env).map (·.2) = assign e X.env :: (assignEach es X.env).map (·.2) := by rfl) : JGs X r (e :: es) (ts ++ us) (d :: ds) S K := jgs_cons hs h
theorem jcmp {K : D → List Sl → Prop} {a b : Expr} {op : CmpOp} {pos : Pos} {rr : R2} (ho : OpR X (compareOp op) rr) (h : JE X r a S fun d1 S1 => JE X r b S1 fun d2 S2 => OpD rr d1 d2 fun d => K d S2) (hm : behindInMarks op b = false := by first | exact nomark _ | rfl) : JE X r (.Compare a [op] [b] pos) S K := je_cmp ho hm h
theorem jtcmp {K : Bool → List Sl → Prop} {a b : Expr} {op : CmpOp} {pos : Pos} {rr : R2} (ho : OpR X (compareOp op) rr) (h : JE X r a S fun d1 S1 => JE X r b S1 fun d2 S2 => OpD rr d1 d2 fun d => ∃ b, d = .bool b ∧ K b S2) (hm : behindInMarks op b = false := by first | exact nomark _ | rfl) : JT X r (.Compare a [op] [b] pos) S K := jt_cmp ho hm h
theorem jtval {K : Bool → List Sl → Prop} {e : Expr} (h : JE X r e S fun d S' => ∃ b, d = .bool b ∧ K b S') (he : ∀ whole, isTrue e X.env whole = (do let v ← whole; standAt e.pos; holding [v] (truthy v)) := by intro _; rfl) : JT X r e S K := jt_val he h
theorem jix {K : D → List Sl → Prop} {a b : Expr} {pos : Pos} {rr : R2} (ho : IxR X rr) (h : JE X r a S fun d1 S1 => JE X r b S1 fun d2 S2 => OpD rr d1 d2 fun d => K d S2) (hs : PlainIx b := by exact fun _ _ => rfl) : JE X r (.Subscript a b pos) S K := je_ix ho hs h
theorem jfor {tg iter : Expr} {body rest : List Stmt} {pos : Pos} {E : DE} (ts : List Nat) (h : JI X r tg iter S fun ds S1 => ∃ I : Nat → List Sl → Prop, I 0 S1 ∧ (∀ i d S', ds[i]? = some d → I i S' → JG X r tg ts d S' fun S2 => JSs X r body S2 { nx := I (i + 1), rt := E.rt, ct := I (i + 1), bk := fun S3 => JSs X r rest S3 E }) ∧ ∀ S', I ds.length S' → JSs X r rest S' E)
    (hp : PassesOwn (model X.prog X.w) X.A X.env X.xe := by exact PassesOwn.never) (hc : X.calm = true := by rfl) (hs : ∀ x, foldedSetIterable iter X.env x = pure x := by intro _; rfl) : JSs X r (.For tg iter body [] pos :: rest) S E := jss_cons (js_for ts hp hc hs h)
theorem jwhile {t : Expr} {body rest : List Stmt} {pos : Pos} {E : DE} (I : Nat → List Sl → Prop) (m0 : Nat) (i0 : I m0 S)
    (step : ∀ m S', I m S' → JT X r t S' fun b S1 => if b = true then JSs X r body S1 { nx := fun S2 => ∃ m', m' < m ∧ I m' S2, rt := E.rt, ct := fun S2 => ∃ m', m' < m ∧ I m' S2, bk := fun S3 => JSs X r rest S3 E } else JSs X r rest S1 E)
    (hp : PassesOwn (model X.prog X.w) X.A X.env X.xe := by exact PassesOwn.never) : JSs X r (.While t body [] pos :: rest) S E := jss_cons (js_while hp I m0 i0 step)
theorem jlc {elt tg iter : Expr} {ifs : List Expr} {scope : Scope} {pos : Pos} (own : List (Str × Nat)) (ts : List Nat) {K : List D → List Sl → Prop}
    (h : JI X r tg iter S fun ds S1 => (∀ j ∈ own.map (·.2), ∀ xs, S1[j]? ≠ some (.ob xs)) ∧ LcAll X r scope tg elt ifs (own.map (·.2)) ts ds S1 fun zs => K zs S1)
    (hc : X.calm = true := by rfl) (hN : X.N.Nodup := by assumption) (ok : BlkOk X.N X.env.scope scope own := by exact blkOk_by rfl) (hs : ∀ x, foldedSetIterable iter X.env x = pure x := by intro _; rfl) (hts : ∀ j ∈ ts, j ∈ own.map (·.2) := by decide) : JN X r (.ListComp elt [⟨tg, iter, ifs, 0⟩] scope pos) S K := jn_lcP own ts hc hN ok hs hts h
theorem jtuple {K : D → List Sl → Prop} {a : Expr} {p pos : Pos} (hm : X.mg "tuple" = none) (h : JE X r a S fun d S1 => ∃ xs, d = .list xs ∧ K (.tuple xs) S1) (hg : Gl X "tuple" := by rfl) (na : starEach [a] X.env = (false, eval a X.env) :: starEach [] X.env := by rfl) : JE X r (.Call (.Name "tuple" p) [a] [] pos) S K := je_tupL hg hm na h
/-- tuple of a new list -/
theorem jtupN {K : D → List Sl → Prop} {a : Expr} {p pos : Pos} (hm : X.mg "tuple" = none) (h : JN X r a S fun xs S1 => K (.tuple xs) S1) (hg : Gl X "tuple" := by rfl) (na : starEach [a] X.env = (false, eval a X.env) :: starEach [] X.env := by rfl) : JE X r (.Call (.Name "tuple" p) [a] [] pos) S K := je_tupL hg hm na (h.mono fun xs S1 k => ⟨xs, rfl, k⟩).je
theorem jrange1 {tg a : Expr} {p pos : Pos} {K : List D → List Sl → Prop} (hm : X.mg "range" = none) (h : JE X r a S fun d S1 => ∃ n : Int, d = .int n ∧ -(2 ^ 62) ≤ n ∧ n < 2 ^ 62 ∧ K (rangeD 0 n.toNat) S1) (hg : Gl X "range" := by rfl) (hs : starEach [a] X.env = [(false, eval a X.env)] := by rfl) : JI X r tg (.Call (.Name "range" p) [a] [] pos) S K :=
  ji_range1 hg hm hs (ja_cons hs (h.mono fun d S1 ⟨n, e, b1, b2, k⟩ => ja_nil ⟨n, by rw [e], b1, b2, k⟩))
theorem jrange2 {tg a b : Expr} {p pos : Pos} {K : List D → List Sl → Prop} (hm : X.mg "range" = none) (h : JE X r a S fun d1 S1 => JE X r b S1 fun d2 S2 => ∃ i j : Int, d1 = .int i ∧ d2 = .int j ∧ (-(2 ^ 62) ≤ i ∧ i < 2 ^ 62 ∧ -(2 ^ 62) ≤ j ∧ j < 2 ^ 62) ∧ K (rangeD i (j - i).toNat) S2) (hg : Gl X "range" := by rfl) (hs : starEach [a, b] X.env = [(false, eval a X.env), (false, eval b X.env)] := by rfl) (hs2 : starEach [b] X.env = [(false, eval b X.env)] := by rfl) : JI X r tg (.Call (.Name "range" p) [a, b] [] pos) S K :=
  ji_range2 hg hm hs hs2 (ja_cons (by rw [hs, hs2]) (h.mono fun d S1 h => ja_cons hs2 (h.mono fun d2 S2 ⟨i, j, e1, e2, b, k⟩ => ja_nil ⟨i, j, by rw [e1, e2], b, k⟩)))
theorem jenum {e : Expr} {p pos tpos : Pos} {elts : List Expr} {kk : Nat} {K : List D → List Sl → Prop} (hm : X.mg "enumerate" = none) (h : JE X r e S fun d S1 => ∃ ds, d = .list ds ∧ K (enumD ds) S1) (hg : Gl X "enumerate" := by rfl) (hs : starEach [e] X.env = [(false, eval e X.env)] := by rfl) : JI X r (.Tuple elts kk tpos) (.Call (.Name "enumerate" p) [e] [] pos) S K :=
  ji_enum hg hm hs (ja_cons hs (h.mono fun d S1 ⟨ds, e, k⟩ => ja_nil ⟨ds, by rw [e], k⟩))
/-- a built-in function, a built-in type, called -/
theorem jB {K : D → List Sl → Prop} {x : Str} {id : String} {e : Expr} {es : List Expr} {p pos : Pos} {rr : List V → Hp → VK → Prop} (hc : CallR X (.builtin id) rr) (hm : X.mg x = none) (h : JA X r (e :: es) S fun as S1 => ∃ ds, dats as = some ds ∧ CallD rr ds fun d => K d S1)
    (hg : Gl X x := by rfl) (hv : bootBuiltins x = some (.builtin id) := by decide +kernel) (hn : x ≠ "__name__" := by decide) (hdb : (x == ("__debug__" : Str)) = false := by decide) (he : starEach (e :: es) X.env = (false, eval e X.env) :: starEach es X.env := by rfl) (hpl : (backTo pos (starEach es X.env)).any (·.1) = false := by rfl) :
    JE X r (.Call (.Name x p) (e :: es) [] pos) S K := je_callP (pe_callB hc hg hm hv pa_tA hn hdb he hpl) h
theorem jTy {K : D → List Sl → Prop} {x : Str} {T : String} {e : Expr} {es : List Expr} {p pos : Pos} {rr : List V → Hp → VK → Prop} (hc : CallR X (.type T) rr) (hm : X.mg x = none) (h : JA X r (e :: es) S fun as S1 => ∃ ds, dats as = some ds ∧ CallD rr ds fun d => K d S1)
    (hg : Gl X x := by rfl) (hv : bootBuiltins x = some (.type T) := by decide +kernel) (hn : x ≠ "__name__" := by decide) (hdb : (x == ("__debug__" : Str)) = false := by decide) (he : starEach (e :: es) X.env = (false, eval e X.env) :: starEach es X.env := by rfl) (hpl : (backTo pos (starEach es X.env)).any (·.1) = false := by rfl) :
    JE X r (.Call (.Name x p) (e :: es) [] pos) S K := je_callP (pe_callTy hc hg hm hv pa_tA hn hdb he hpl) h
theorem jnB {K : List D → List Sl → Prop} {x : Str} {id : String} {e : Expr} {es : List Expr} {p pos : Pos} {rr : List V → Hp → VK → Prop} (hc : CallR X (.builtin id) rr) (hm : X.mg x = none) (h : JA X r (e :: es) S fun as S1 => ∃ ds, dats as = some ds ∧ CallN rr ds fun d => K d S1)
    (hg : Gl X x := by rfl) (hv : bootBuiltins x = some (.builtin id) := by decide +kernel) (hn : x ≠ "__name__" := by decide) (hdb : (x == ("__debug__" : Str)) = false := by decide) (he : starEach (e :: es) X.env = (false, eval e X.env) :: starEach es X.env := by rfl) (hpl : (backTo pos (starEach es X.env)).any (·.1) = false := by rfl) :
    JN X r (.Call (.Name x p) (e :: es) [] pos) S K := jn_callP (pe_callB hc hg hm hv pa_tA hn hdb he hpl) h
theorem jnTy {K : List D → List Sl → Prop} {x : Str} {T : String} {e : Expr} {es : List Expr} {p pos : Pos} {rr : List V → Hp → VK → Prop} (hc : CallR X (.type T) rr) (hm : X.mg x = none) (h : JA X r (e :: es) S fun as S1 => ∃ ds, dats as = some ds ∧ CallN rr ds fun d => K d S1)
    (hg : Gl X x := by rfl) (hv : bootBuiltins x = some (.type T) := by decide +kernel) (hn : x ≠ "__name__" := by decide) (hdb : (x == ("__debug__" : Str)) = false := by decide) (he : starEach (e :: es) X.env = (false, eval e X.env) :: starEach es X.env := by rfl) (hpl : (backTo pos (starEach es X.env)).any (·.1) = false := by rfl) :
    JN X r (.Call (.Name x p) (e :: es) [] pos) S K := jn_callP (pe_callTy hc hg hm hv pa_tA hn hdb he hpl) h
theorem ja1 {e : Expr} {K : List Ar → List Sl → Prop} (h : JE X r e S fun d S1 => K [.d d] S1) (hs : starEach [e] X.env = (false, eval e X.env) :: starEach [] X.env := by rfl) : JA X r [e] S K := ja_cons hs (h.mono fun _ _ k => ja_nil k)
theorem jlen {K : D → List Sl → Prop} {a : Expr} {p pos : Pos} (hm : X.mg "len" = none) (h : JE X r a S fun d S1 => ∃ xs, (d = .list xs ∨ d = .tuple xs) ∧ K (.int (xs.length : Nat)) S1) (hg : Gl X "len" := by rfl) (hs : starEach [a] X.env = (false, eval a X.env) :: starEach [] X.env := by rfl) : JE X r (.Call (.Name "len" p) [a] [] pos) S K :=
  jB call_len_seq hm (ja1 (h.mono fun d S1 ⟨xs, e, k⟩ => ⟨[d], rfl, by rcases e with rfl | rfl; exact cd_lenL k; exact cd_lenT k⟩) hs) hg PySem.boot_len (by decide) (by decide) hs rfl
theorem jall {K : D → List Sl → Prop} {a : Expr} {p pos : Pos} (hc : X.calm = true) (hm : X.mg "all" = none) (h : JN X r a S fun ds S1 => ∃ bs : List Bool, ds = bs.map .bool ∧ K (.bool (bs.all id)) S1) (hg : Gl X "all" := by rfl) (hs : starEach [a] X.env = (false, eval a X.env) :: starEach [] X.env := by rfl) : JE X r (.Call (.Name "all" p) [a] [] pos) S K :=
  jB (cr_all hc) hm (ja1 (JN.je (h.mono fun ds S1 ⟨bs, e, k⟩ => ⟨[.list ds], rfl, by rw [e]; exact cd_all k⟩)) hs) hg (by decide +kernel) (by decide) (by decide) hs rfl

/-- a def of the text: where it stands -/
structure Dn (K : PySem.W.Frag) (mg : Str → Option Value) (x : Str) (st : Stmt) (ps : List Str) (f : Addr) (fd : FuncData) : Prop where
  F : Fun K x x st f fd
  g : mg x = some (.ref f)
  b : Binds K fd ps []
theorem jcall {K0 : D → List Sl → Prop} {k k' : Nat} {f : Addr} {fd : FuncData} {ps : List Str} {x : Str} {st : Stmt} {p pos : Pos} {e : Expr} {es : List Expr} {φ : List Ar → (D → Prop) → Prop} (hr : Room k' X.A) (N : Dn X.K X.mg x st ps f fd) (F : FnOk X.prog X.w X.K X.mg X.base CX0 k f fd ps (SpD φ))
    (h : JA X r (e :: es) S fun as S1 => φ as fun d => K0 d S1) (hk : k ≤ k' := by decide) (hg : Gl X x := by rfl) (hdb : (x == ("__debug__" : Str)) = false := by decide)
    (he : starEach (e :: es) X.env = (false, eval e X.env) :: starEach es X.env := by rfl) (hpl : (backTo pos (starEach es X.env)).any (·.1) = false := by rfl) : JE X r (.Call (.Name x p) (e :: es) [] pos) S K0 :=
  je_call F (hr.mono hk) hg N.g N.F.kp N.b hdb (fun ha => pe_call F (hr.mono hk) hg N.g N.F.kp N.b .nil pass0 ha hdb he hpl) h
end
end DL

/-! DL: data that is nice; comprehensions in short. -/
namespace DL
open PySem L2
/-! ### nice data -/
structure Nice (n : Nat) (d : D) : Prop where
  pl : d.plain = true
  dp : d.depth ≤ n
theorem Nice.mono {m n : Nat} {d : D} (h : Nice m d) (k : m ≤ n) : Nice n d := ⟨h.pl, Nat.le_trans h.dp k⟩
theorem nice_int {n : Nat} (i : Int) : Nice n (.int i) := ⟨rfl, Nat.zero_le _⟩
theorem nice_bool {n : Nat} (b : Bool) : Nice n (.bool b) := ⟨rfl, Nat.zero_le _⟩
theorem nice_str {n : Nat} (b : Str) : Nice n (.str b) := ⟨rfl, Nat.zero_le _⟩
theorem nice_none {n : Nat} : Nice n .none := ⟨rfl, Nat.zero_le _⟩
theorem plainAll_of : ∀ {ds : List D}, (∀ d ∈ ds, d.plain = true) → PyData.plainAll ds = true
  | [], _ => rfl
  | d :: ds, h => by
    rw [PyData.plainAll, h d List.mem_cons_self, plainAll_of fun x hx => h x (List.mem_cons_of_mem _ hx)]
    rfl
theorem depthAll_of {n : Nat} : ∀ {ds : List D}, (∀ d ∈ ds, d.depth ≤ n) → PyData.depthAll ds ≤ n
  | [], _ => Nat.zero_le _
  | d :: ds, h => by
    rw [PyData.depthAll]
    exact Nat.max_le.mpr ⟨h d List.mem_cons_self, depthAll_of fun x hx => h x (List.mem_cons_of_mem _ hx)⟩
theorem nice_list {n : Nat} {ds : List D} (h : ∀ d ∈ ds, Nice n d) : Nice (n + 1) (.list ds) := ⟨by simp only [PyData.plain]; exact plainAll_of fun d hd => (h d hd).pl, by simp only [PyData.depth]; exact Nat.succ_le_succ (depthAll_of fun d hd => (h d hd).dp)⟩
theorem nice_tup {n : Nat} {ds : List D} (h : ∀ d ∈ ds, Nice n d) : Nice (n + 1) (.tuple ds) := ⟨by simp only [PyData.plain]; exact plainAll_of fun d hd => (h d hd).pl, by simp only [PyData.depth]; exact Nat.succ_le_succ (depthAll_of fun d hd => (h d hd).dp)⟩
theorem nice_map {α : Type} {n : Nat} {f : α → D} {l : List α} (h : ∀ a, Nice n (f a)) : ∀ d ∈ l.map f, Nice n d := fun d hd => by
  obtain ⟨a, _, rfl⟩ := List.mem_map.mp hd
  exact h a
theorem nice_cons {n : Nat} {d : D} {ds : List D} (h : Nice n d) (t : ∀ d ∈ ds, Nice n d) : ∀ x ∈ d :: ds, Nice n x := fun x hx => by
  rcases List.mem_cons.mp hx with rfl | hx
  · exact h
  · exact t x hx
theorem nice_nil {n : Nat} : ∀ x ∈ ([] : List D), Nice n x := fun _ h => by cases h
section
variable {X : Cx} {r : SR} {S : List Sl}
theorem od_eqG {k : Nat} (hr : Room k X.A) {d1 d2 : D} {K : D → Prop} (h1 : Nice 50 d1) (h2 : Nice 50 d2) (h : K (.bool (PyData.eqv d1 d2))) : OpD (rEqD X) d1 d2 K :=
  fun F H v1 v2 kF r1 r2 Q q => ⟨F, _, _, kF, r1, r2, h1.pl, h2.pl, (by
    have := units_le hr (Nat.le_trans h1.dp (by decide : 50 ≤ 60)); have := Nat.min_le_left d1.depth d2.depth; omega), q _ _ F H h (Grow.refl kF) (.bl _)⟩
theorem od_neG {k : Nat} (hr : Room k X.A) {d1 d2 : D} {K : D → Prop} (h1 : Nice 50 d1) (h2 : Nice 50 d2) (h : K (.bool (!PyData.eqv d1 d2))) : OpD (rNeD X) d1 d2 K :=
  fun F H v1 v2 kF r1 r2 Q q => ⟨F, _, _, kF, r1, r2, h1.pl, h2.pl, (by
    have := units_le hr (Nat.le_trans h1.dp (by decide : 50 ≤ 60)); have := Nat.min_le_left d1.depth d2.depth; omega), q _ _ F H h (Grow.refl kF) (.bl _)⟩
theorem eqv_nil (zs : List D) : PyData.eqv (.list zs) (.list []) = zs.isEmpty := by
  cases zs <;> simp [PyData.eqv, PyData.eqvAll]
theorem eqv_nilT (zs : List D) : PyData.eqv (.tuple zs) (.tuple []) = zs.isEmpty := by
  cases zs <;> simp [PyData.eqv, PyData.eqvAll]
theorem eqv_int (i j : Int) : PyData.eqv (.int i) (.int j) = decide (i = j) := PySem.W.Datum.eqv (α := Int) i j
theorem eqv_bool (i j : Bool) : PyData.eqv (.bool i) (.bool j) = decide (i = j) := PySem.W.Datum.eqv (α := Bool) i j
theorem eqv_str (i j : Str) : PyData.eqv (.str i) (.str j) = decide (i = j) := PySem.W.Datum.eqv (α := Str) i j
theorem eqv_self {n : Nat} {d : D} (h : Nice n d) : PyData.eqv d d = true := PySem.SeqAt.eqv_refl_plain d h.pl
/-- [..] == [], as a test and as a value; [..] != [] -/
theorem od_eqNil {k : Nat} (hr : Room k X.A) {zs : List D} {K : D → Prop} (h1 : ∀ d ∈ zs, Nice 49 d) (h : K (.bool zs.isEmpty)) : OpD (rEqD X) (.list zs) (.list []) K := od_eqG hr (nice_list h1) (nice_list nice_nil) (by rw [eqv_nil]; exact h)
theorem od_neNil {k : Nat} (hr : Room k X.A) {zs : List D} {K : D → Prop} (h1 : ∀ d ∈ zs, Nice 49 d) (h : K (.bool (!zs.isEmpty))) : OpD (rNeD X) (.list zs) (.list []) K := od_neG hr (nice_list h1) (nice_list nice_nil) (by rw [eqv_nil]; exact h)

/-! ### comprehensions in short -/
def noOwn (vs : List Nat) (S : List Sl) : Bool := vs.all fun j => match S[j]? with
  | some (.ob _) => false
  | _ => true
theorem noOwn_of {vs : List Nat} (h : noOwn vs S = true) : ∀ j ∈ vs, ∀ xs, S[j]? ≠ some (.ob xs) := fun j hj xs e => by
  have := List.all_eq_true.mp h j hj
  rw [e] at this
  cases this
theorem rangeD0 (m : Nat) : rangeD 0 m = (List.range m).map fun (i : Nat) => PyData.int (i : Int) := by
  unfold rangeD
  simp
/-- the clause's condition, without a test -/
theorem lp0 {scope : Scope} {x : Str} {pos : Pos} {elt : Expr} {vs : List Nat} {d y : D} (i : Nat) (h : Blk X scope fun Y => JE Y r elt ((wipeS S vs).set i (.val d)) fun z S4 => z = y ∧ mrg vs S S4 = S) (hN : X.N.Nodup := by assumption) (hi : X.N[i]? = some x := by rfl)
    (hx : ∀ (s : Shared) (H : Hp) (C : Addr) (cl : List (Str × Addr)) (fp : List Addr), Loc (X.blk s H scope (compEnvC scope cl C X.env) fp).env.scope x := by intro _ _ _ _ _; first | exact Or.inl rfl | exact Or.inr rfl)
    (hf : ∀ (s : Shared) (H : Hp) (C : Addr) (cl : List (Str × Addr)) (fp : List Addr), (X.blk s H scope (compEnvC scope cl C X.env) fp).fn x = true ∨ (X.blk s H scope (compEnvC scope cl C X.env) fp).env.scope.names.lookup x = some .local := by intro _ _ _ _ _; first | exact Or.inl rfl | exact Or.inr rfl) :
    LcPure X r scope (.Name x pos) elt [] vs [i] d S true y := fun s H C cl fp => jg_name i hN hi (hx s H C cl fp) (hf s H C cl fp) fun _ _ _ _ _ => ⟨rfl, fun z => (by cases z), fun _ => h⟩
/-- .. with a test -/
theorem lp1 {scope : Scope} {x : Str} {pos : Pos} {elt t : Expr} {vs : List Nat} {d y : D} {p : Bool} (i : Nat) (h : Blk X scope fun Y => JT Y r t ((wipeS S vs).set i (.val d)) fun b S3 => b = p ∧ (p = false → mrg vs S S3 = S) ∧ (p = true → Blk X scope fun Y => JE Y r elt S3 fun z S4 => z = y ∧ mrg vs S S4 = S)) (hN : X.N.Nodup := by assumption) (hi : X.N[i]? = some x := by rfl)
    (hx : ∀ (s : Shared) (H : Hp) (C : Addr) (cl : List (Str × Addr)) (fp : List Addr), Loc (X.blk s H scope (compEnvC scope cl C X.env) fp).env.scope x := by intro _ _ _ _ _; first | exact Or.inl rfl | exact Or.inr rfl)
    (hf : ∀ (s : Shared) (H : Hp) (C : Addr) (cl : List (Str × Addr)) (fp : List Addr), (X.blk s H scope (compEnvC scope cl C X.env) fp).fn x = true ∨ (X.blk s H scope (compEnvC scope cl C X.env) fp).env.scope.names.lookup x = some .local := by intro _ _ _ _ _; first | exact Or.inl rfl | exact Or.inr rfl) :
    LcPure X r scope (.Name x pos) elt [t] vs [i] d S p y := fun s H C cl fp => jg_name i hN hi (hx s H C cl fp) (hf s H C cl fp) fun s1 H1 C1 cl1 fp1 => h s1 H1 C1 cl1 fp1
/-- .. with two targets and a test -/
theorem lp1P {scope : Scope} {x1 x2 : Str} {p1 p2 pos : Pos} {kk : Nat} {elt t : Expr} {vs : List Nat} {d1 d2 y : D} {p : Bool} (i j : Nat) (h : Blk X scope fun Y => JT Y r t (((wipeS S vs).set i (.val d1)).set j (.val d2)) fun b S3 => b = p ∧ (p = false → mrg vs S S3 = S) ∧ (p = true → Blk X scope fun Y => JE Y r elt S3 fun z S4 => z = y ∧ mrg vs S S4 = S)) (hc : X.calm = true := by rfl) (hN : X.N.Nodup := by assumption) (hi : X.N[i]? = some x1 := by rfl) (hj : X.N[j]? = some x2 := by rfl)
    (hx : ∀ (s : Shared) (H : Hp) (C : Addr) (cl : List (Str × Addr)) (fp : List Addr), Loc (X.blk s H scope (compEnvC scope cl C X.env) fp).env.scope x1 ∧ Loc (X.blk s H scope (compEnvC scope cl C X.env) fp).env.scope x2 := by intro _ _ _ _ _; exact ⟨by first | exact Or.inl rfl | exact Or.inr rfl, by first | exact Or.inl rfl | exact Or.inr rfl⟩)
    (hf : ∀ (s : Shared) (H : Hp) (C : Addr) (cl : List (Str × Addr)) (fp : List Addr), ((X.blk s H scope (compEnvC scope cl C X.env) fp).fn x1 = true ∨ (X.blk s H scope (compEnvC scope cl C X.env) fp).env.scope.names.lookup x1 = some .local) ∧ ((X.blk s H scope (compEnvC scope cl C X.env) fp).fn x2 = true ∨ (X.blk s H scope (compEnvC scope cl C X.env) fp).env.scope.names.lookup x2 = some .local) := by intro _ _ _ _ _; exact ⟨by first | exact Or.inl rfl | exact Or.inr rfl, by first | exact Or.inl rfl | exact Or.inr rfl⟩) :
    LcPure X r scope (.Tuple [.Name x1 p1, .Name x2 p2] kk pos) elt [t] vs [i, j] (.tuple [d1, d2]) S p y := fun s H C cl fp => by
  refine jg_tup (X := X.blk s H scope (compEnvC scope cl C X.env) fp) hc rfl rfl (ts := [i, j]) ?_
  refine jgs_cons (ts := [i]) (us := [j]) rfl ?_
  refine jg_name i hN hi (hx s H C cl fp).1 (hf s H C cl fp).1 ?_
  refine jgs_cons (ts := [j]) (us := []) rfl ?_
  refine jg_name j hN hj (hx s H C cl fp).2 (hf s H C cl fp).2 ?_
  refine jgs_nil ?_
  exact fun s1 H1 C1 cl1 fp1 => h s1 H1 C1 cl1 fp1
theorem lp0P {scope : Scope} {x1 x2 : Str} {p1 p2 pos : Pos} {kk : Nat} {elt : Expr} {vs : List Nat} {d1 d2 y : D} (i j : Nat) (h : Blk X scope fun Y => JE Y r elt (((wipeS S vs).set i (.val d1)).set j (.val d2)) fun z S4 => z = y ∧ mrg vs S S4 = S) (hc : X.calm = true := by rfl) (hN : X.N.Nodup := by assumption) (hi : X.N[i]? = some x1 := by rfl) (hj : X.N[j]? = some x2 := by rfl)
    (hx : ∀ (s : Shared) (H : Hp) (C : Addr) (cl : List (Str × Addr)) (fp : List Addr), Loc (X.blk s H scope (compEnvC scope cl C X.env) fp).env.scope x1 ∧ Loc (X.blk s H scope (compEnvC scope cl C X.env) fp).env.scope x2 := by intro _ _ _ _ _; exact ⟨by first | exact Or.inl rfl | exact Or.inr rfl, by first | exact Or.inl rfl | exact Or.inr rfl⟩)
    (hf : ∀ (s : Shared) (H : Hp) (C : Addr) (cl : List (Str × Addr)) (fp : List Addr), ((X.blk s H scope (compEnvC scope cl C X.env) fp).fn x1 = true ∨ (X.blk s H scope (compEnvC scope cl C X.env) fp).env.scope.names.lookup x1 = some .local) ∧ ((X.blk s H scope (compEnvC scope cl C X.env) fp).fn x2 = true ∨ (X.blk s H scope (compEnvC scope cl C X.env) fp).env.scope.names.lookup x2 = some .local) := by intro _ _ _ _ _; exact ⟨by first | exact Or.inl rfl | exact Or.inr rfl, by first | exact Or.inl rfl | exact Or.inr rfl⟩) :
    LcPure X r scope (.Tuple [.Name x1 p1, .Name x2 p2] kk pos) elt [] vs [i, j] (.tuple [d1, d2]) S true y := fun s H C cl fp => by
  refine jg_tup (X := X.blk s H scope (compEnvC scope cl C X.env) fp) hc rfl rfl (ts := [i, j]) ?_
  refine jgs_cons (ts := [i]) (us := [j]) rfl ?_
  refine jg_name i hN hi (hx s H C cl fp).1 (hf s H C cl fp).1 ?_
  refine jgs_cons (ts := [j]) (us := []) rfl ?_
  refine jg_name j hN hj (hx s H C cl fp).2 (hf s H C cl fp).2 ?_
  refine jgs_nil ?_
  exact fun _ _ _ _ _ => ⟨rfl, fun z => (by cases z), fun _ => h⟩
/-- over range(n) -/
theorem lcR {scope : Scope} {tg elt : Expr} {ifs : List Expr} {vs ts : List Nat} {K : List D → Prop} {n : Int} {m : Nat} (p : Nat → Bool) (g : Nat → D) (turn : ∀ a, a < m → LcPure X r scope tg elt ifs vs ts (.int (a : Int)) S (p a) (g a)) (k : K (((List.range m).filter p).map g)) (e : n.toNat = m := by omega) (hm : m ≤ 1000000 := by omega) (hv : noOwn vs S = true := by rfl) :
    (∀ j ∈ vs, ∀ xs, S[j]? ≠ some (.ob xs)) ∧ LcAll X r scope tg elt ifs vs ts (rangeD 0 n.toNat) S K :=
  ⟨noOwn_of hv, Nat, List.range m, fun i => .int (i : Int), p, g, by rw [e, rangeD0], by rw [List.length_range]; exact hm, fun a ha => turn a (List.mem_range.mp ha), k⟩
/-- over items -/
theorem lcL {scope : Scope} {tg elt : Expr} {ifs : List Expr} {vs ts : List Nat} {K : List D → Prop} {α : Type} (as : List α) (enc : α → D) (p : α → Bool) (g : α → D) (turn : ∀ a ∈ as, LcPure X r scope tg elt ifs vs ts (enc a) S (p a) (g a)) (k : K ((as.filter p).map g)) (hl : as.length ≤ 1000000 := by omega) (hv : noOwn vs S = true := by rfl) :
    (∀ j ∈ vs, ∀ xs, S[j]? ≠ some (.ob xs)) ∧ LcAll X r scope tg elt ifs vs ts (as.map enc) S K :=
  ⟨noOwn_of hv, α, as, enc, p, g, rfl, hl, turn, k⟩
/-- y = [..] on one line, y a plain local name -/
theorem jsetLc {y : Str} {py : Pos} {elt tg iter : Expr} {ifs : List Expr} {scope : Scope} {pos spos : Pos} {rest : List Stmt} {E : DE} (i : Nat) (own : List (Str × Nat)) (ts : List Nat)
    (h : JI X r tg iter S fun ds S1 => (∀ j ∈ own.map (·.2), ∀ xs, S1[j]? ≠ some (.ob xs)) ∧ LcAll X r scope tg elt ifs (own.map (·.2)) ts ds S1 fun zs => JSs X r rest (S1.set i (.own zs)) E)
    (hc : X.calm = true := by rfl) (hN : X.N.Nodup := by assumption) (hy : X.N[i]? = some y := by rfl) (hyl : X.env.scope.names.lookup y = some .local := by rfl) (hsw : swapsWith (.ListComp elt [⟨tg, iter, ifs, 0⟩] scope pos) (some (.Name y py)) spos.line X.env = pure true := by exact sw_true rfl rfl rfl (by decide +kernel))
    (ok : BlkOk X.N X.env.scope scope own := by exact blkOk_by rfl) (hs : ∀ x, foldedSetIterable iter X.env x = pure x := by intro _; rfl) (hts : ∀ j ∈ ts, j ∈ own.map (·.2) := by decide) : JSs X r (.Assign [.Name y py] (.ListComp elt [⟨tg, iter, ifs, 0⟩] scope pos) spos :: rest) S E :=
  jss_cons (js_setP i (ps_setLc hc hN hy hyl hsw pi_tI ok pg_tGb pts_tTsb pe_tEb hs) (lc_run (K := fun zs S' => JSs X r rest (S'.set i (.own zs)) E) ts hts (h.mono fun ds S1 h => lc_pure h.1 h.2)))
/-- the iterables -/
theorem jiT {tg e : Expr} {K : List D → List Sl → Prop} (h : JE X r e S fun d S1 => ∃ ds, d = .tuple ds ∧ K ds S1) : JI X r tg e S K := ji_tup h
theorem jiL {tg e : Expr} {K : List D → List Sl → Prop} (h : JE X r e S fun d S1 => ∃ ds, d = .list ds ∧ K ds S1) : JI X r tg e S K := ji_list h
theorem jiN {tg e : Expr} {K : List D → List Sl → Prop} (h : JN X r e S K) : JI X r tg e S K := ji_list (JN.je (h.mono fun ds S1 k => ⟨ds, rfl, k⟩))
theorem filter_true {α : Type} (l : List α) : l.filter (fun _ => true) = l := by simp
theorem atI_nn {ds : List D} {i : Nat} {d : D} (h : ds[i]? = some d) : atI ds (i : Int) = some d := atI_nat h
end
end DL

/-! DL: the source of draws: its dict, its numbers. -/
namespace DL
open PySem L2
abbrev kC : Key := .inr "cells"
abbrev kL : Key := .inr "left"
abbrev kM : Key := .inr "mixed"
abbrev kT : Key := .inr "turn"
theorem nCL : ¬ kC = kL := by decide +kernel
theorem nCM : ¬ kC = kM := by decide +kernel
theorem nCT : ¬ kC = kT := by decide +kernel
theorem nLM : ¬ kL = kM := by decide +kernel
theorem nLT : ¬ kL = kT := by decide +kernel
theorem nMT : ¬ kM = kT := by decide +kernel
theorem nLC : ¬ kL = kC := by decide +kernel
theorem nMC : ¬ kM = kC := by decide +kernel
theorem nTC : ¬ kT = kC := by decide +kernel
theorem nML : ¬ kM = kL := by decide +kernel
theorem nTL : ¬ kT = kL := by decide +kernel
theorem nTM : ¬ kT = kM := by decide +kernel
def srcO (l : Addr) (a b c : Int) : HO := .dK [(kC, .ref l), (kL, .int a), (kM, .int b), (kT, .int c)]
section
variable (l : Addr) (a b c v : Int)
theorem gC : valV [(kC, V.ref l), (kL, .int a), (kM, .int b), (kT, .int c)] kC = some (.ref l) := by rw [valV_pos rfl]
theorem gL : valV [(kC, V.ref l), (kL, .int a), (kM, .int b), (kT, .int c)] kL = some (.int a) := by rw [valV_neg nCL, valV_pos rfl]
theorem gM : valV [(kC, V.ref l), (kL, .int a), (kM, .int b), (kT, .int c)] kM = some (.int b) := by rw [valV_neg nCM, valV_neg nLM, valV_pos rfl]
theorem gT : valV [(kC, V.ref l), (kL, .int a), (kM, .int b), (kT, .int c)] kT = some (.int c) := by rw [valV_neg nCT, valV_neg nLT, valV_neg nMT, valV_pos rfl]
theorem pL : putK [(kC, V.ref l), (kL, .int a), (kM, .int b), (kT, .int c)] kL (.int v) = [(kC, V.ref l), (kL, .int v), (kM, .int b), (kT, .int c)] := by
  unfold putK
  rw [if_pos (by simp)]
  simp only [List.map_cons, List.map_nil, if_neg nCL, if_neg nML, if_neg nTL, if_pos]
theorem pM : putK [(kC, V.ref l), (kL, .int a), (kM, .int b), (kT, .int c)] kM (.int v) = [(kC, V.ref l), (kL, .int a), (kM, .int v), (kT, .int c)] := by
  unfold putK
  rw [if_pos (by simp)]
  simp only [List.map_cons, List.map_nil, if_neg nCM, if_neg nLM, if_neg nTM, if_pos]
theorem pT : putK [(kC, V.ref l), (kL, .int a), (kM, .int b), (kT, .int c)] kT (.int v) = [(kC, V.ref l), (kL, .int a), (kM, .int b), (kT, .int v)] := by
  unfold putK
  rw [if_pos (by simp)]
  simp only [List.map_cons, List.map_nil, if_neg nCT, if_neg nLT, if_neg nMT, if_pos]
end
/-- the state of a draw: the source at p holds n cells; all else stands as at the entry -/
def At (p : Addr × Addr) (H0 H : Hp) (n : Nat) : Prop := (∃ (cells : List Int) (x y z : Int), cells.length = n ∧ H p.1 = some (srcO p.2 x y z) ∧ H p.2 = some (.lst (cells.map V.int))) ∧ ∀ q o, q ≠ p.1 → q ≠ p.2 → H0 q = some o → H q = some o
theorem At.ne {p : Addr × Addr} {H0 H : Hp} {n : Nat} (h : At p H0 H n) : p.2 ≠ p.1 := by
  obtain ⟨⟨cs, x, y, z, _, h1, h2⟩, _⟩ := h
  exact ne_of h2 h1 (by intro q; cases q)
theorem At.put {p : Addr × Addr} {H0 H : Hp} {n : Nat} (h : At p H0 H n) (x y z : Int) : At p H0 (upd H p.1 (srcO p.2 x y z)) n := by
  have hne := h.ne
  obtain ⟨⟨cs, _, _, _, e, h1, h2⟩, k⟩ := h
  exact ⟨⟨cs, x, y, z, e, upd_same, by rw [upd_ne hne]; exact h2⟩, fun q o n1 n2 e => by rw [upd_ne n1]; exact k q o n1 n2 e⟩
theorem At.pop {p : Addr × Addr} {H0 H : Hp} {n : Nat} {cs : List Int} {x y z : Int} (h : At p H0 H n) (h1 : H p.1 = some (srcO p.2 x y z)) : At p H0 (upd H p.2 (.lst (cs.map V.int))) cs.length := by
  have hne := h.ne
  obtain ⟨_, k⟩ := h
  exact ⟨⟨cs, x, y, z, rfl, by rw [upd_ne hne.symm]; exact h1, upd_same⟩, fun q o n1 n2 e => by rw [upd_ne n2]; exact k q o n1 n2 e⟩
theorem dgC {H : Hp} {a l : Addr} {x y z : Int} (h : H a = some (srcO l x y z)) : DGet H a (.str "cells") (some (.ref l)) := by have := DGet.k (k := kC) h; rw [gC] at this; exact this
theorem dgL {H : Hp} {a l : Addr} {x y z : Int} (h : H a = some (srcO l x y z)) : DGet H a (.str "left") (some (.int x)) := by have := DGet.k (k := kL) h; rw [gL] at this; exact this
theorem dgM {H : Hp} {a l : Addr} {x y z : Int} (h : H a = some (srcO l x y z)) : DGet H a (.str "mixed") (some (.int y)) := by have := DGet.k (k := kM) h; rw [gM] at this; exact this
theorem dgT {H : Hp} {a l : Addr} {x y z : Int} (h : H a = some (srcO l x y z)) : DGet H a (.str "turn") (some (.int z)) := by have := DGet.k (k := kT) h; rw [gT] at this; exact this
theorem dpL {H : Hp} {a l : Addr} {x y z : Int} (v : Int) (h : H a = some (srcO l x y z)) : DPut H a (.str "left") (.int v) (upd H a (srcO l v y z)) := by have := DPut.k (k := kL) (v := .int v) h (by show 4 < sizeLine; decide); rw [pL] at this; exact this
theorem dpM {H : Hp} {a l : Addr} {x y z : Int} (v : Int) (h : H a = some (srcO l x y z)) : DPut H a (.str "mixed") (.int v) (upd H a (srcO l x v z)) := by have := DPut.k (k := kM) (v := .int v) h (by show 4 < sizeLine; decide); rw [pM] at this; exact this
theorem dpT {H : Hp} {a l : Addr} {x y z : Int} (v : Int) (h : H a = some (srcO l x y z)) : DPut H a (.str "turn") (.int v) (upd H a (srcO l x y v)) := by have := DPut.k (k := kT) (v := .int v) h (by show 4 < sizeLine; decide); rw [pT] at this; exact this
theorem whl {c : TT} {tb : TS} {D : Ends} {σ : St} {H : Hp} (I : Nat → St → Hp → Prop) (m0 : Nat) (i0 : I m0 σ H) (exit : ∀ m σ H, I m σ H → D.nx σ H)
    (step : ∀ X : St → Hp → Prop, (∀ m σ H, I m σ H → X σ H) → ∀ m σ H, I m σ H → c σ H fun b H1 => if b = true then ∃ N : St → Hp → Prop, (∀ σ' H', N σ' H' → ∃ m', m' < m ∧ I m' σ' H') ∧ tb { D with nx := N, ct := N, bk := X } σ H1 else X σ H1) : tWhile c tb D σ H :=
  ⟨I, ⟨m0, i0⟩, fun m σ H h => step D.nx exit m σ H h⟩
theorem merge4 (l : Addr) (a b c : Int) : mergeK [] [(kC, V.ref l), (kL, .int a), (kM, .int b), (kT, .int c)] = [(kC, V.ref l), (kL, .int a), (kM, .int b), (kT, .int c)] := by
  have p1 : putK ([] : List (Key × V)) kC (.ref l) = [(kC, V.ref l)] := rfl
  have p2 : putK [(kC, V.ref l)] kL (.int a) = [(kC, V.ref l), (kL, .int a)] := by unfold putK; rw [if_neg (by simp only [List.any_cons, List.any_nil, decide_eq_false nCL, Bool.or_false]; decide)]; rfl
  have p3 : putK [(kC, V.ref l), (kL, .int a)] kM (.int b) = [(kC, V.ref l), (kL, .int a), (kM, .int b)] := by unfold putK; rw [if_neg (by simp only [List.any_cons, List.any_nil, decide_eq_false nCM, decide_eq_false nLM, Bool.or_false]; decide)]; rfl
  have p4 : putK [(kC, V.ref l), (kL, .int a), (kM, .int b)] kT (.int c) = [(kC, V.ref l), (kL, .int a), (kM, .int b), (kT, .int c)] := by unfold putK; rw [if_neg (by simp only [List.any_cons, List.any_nil, decide_eq_false nCT, decide_eq_false nLT, decide_eq_false nMT, Bool.or_false]; decide)]; rfl
  show putK (putK (putK (putK [] kC (.ref l)) kL (.int a)) kM (.int b)) kT (.int c) = _
  rw [p1, p2, p3, p4]
/-- what makes the source -/
def spSource (K : PySem.W.Frag) : Sp := fun vs H Q _ => ∃ (a : Addr) (ns : List Int), vs = [.ref a] ∧ SqL K H a (ns.map V.int) ∧ ns.length ≤ 1000 ∧ ∀ H' p, Same H H' → H p.1 = none → H p.2 = none → SrcOk H' p → Q (.ref p.1) H'
theorem same_upd {H : Hp} {p : Addr} {o : HO} (h : H p = none) : Same H (upd H p o) := fun b x e => by
  rw [upd_ne (ne_of_none e h)]
  exact e
theorem same_upd2 {H H' : Hp} {p : Addr} {o : HO} (s : Same H H') (h : H p = none) : Same H (upd H' p o) := fun b x e => by
  rw [upd_ne (ne_of_none e h)]
  exact s b x e
/-- what a draw gives -/
def φPick : List Ar → (D → Prop) → Prop := fun as Kd => ∃ many : Int, as = [.src, .d (.int many)] ∧ many < 1073741824 ∧ ∀ v : Int, 0 ≤ v → v < (if many > 1 then many else 1) → Kd (.int v)
end DL

/-! DL: dicts updated by dicts. -/
namespace DL
open PySem L2
section
variable {X : Cx}
/-- d.update(e), d and e two dicts, keys ints and texts -/
def rUpdK : V → List V → Hp → VK → Prop := fun x vs H Q => ∃ (a b : Addr) (kvs more : List (Key × V)), x = .ref a ∧ vs = [.ref b] ∧ a ≠ b ∧ H a = some (.dK kvs) ∧ H b = some (.dK more) ∧ kvs.length + more.length ≤ sizeLine ∧ Q .non (upd H a (.dK (mergeK kvs more)))
theorem mt_updK : MtR X "dict.update" rUpdK := by
  intro pins s σ H x vs v us Q I rx rv h
  obtain ⟨a, b, kvs, more, ex, ev, hne, ha, hb, hl, q⟩ := h
  subst ex
  subst ev
  obtain rfl : v = Value.ref a := rx
  obtain ⟨u, rfl, ru⟩ := rv.one
  obtain rfl : u = Value.ref b := ru
  obtain ⟨z1, d1, vs1, rel1, dd1⟩ := dk_of I.hok ha
  obtain ⟨z2, d2, vs2, rel2, dd2⟩ := dk_of I.hok hb
  refine call_meetsIn PySem.F.slot_dict_update dd1.typeIs PySem.F.entry_dict_update (PySem.F.args_dict_update_2 _ _) (meets_dict_update (mixKind X.prog X.w) a b hne d2) ⟨vs1, vs2, dd1, dd2, by rw [← rel1.length, ← rel2.length]; exact hl, fun h' dd' _ hs => ?_⟩
  have he : ∃ q, h'.get? a = some q := let ⟨q, _, _, hq, _⟩ := dd'; ⟨q, hq⟩
  have hlen : (mergeK kvs more).length ≤ sizeLine := Nat.le_trans (length_mergeK more kvs) hl
  exact ⟨.non, _, d_write (t' := s.toks) I (by rw [ha]; exact True.intro) hs he (dk_new hlen d1 (KV.merge rel2 rel1) dd'), rfl, q⟩
end
end DL

/-! DL: a list of dicts with int keys (closing pairs). -/
namespace DL
open PySem L2
def kvI (ks : List Int) : List (Key × V) := ks.map fun k => (Sum.inl k, V.int 0)
def mrgI (a b : List Int) : List Int := b.foldl (fun acc k => if k ∈ acc then acc else acc ++ [k]) a
theorem putK_kvI (a : List Int) (k : Int) : putK (kvI a) (Sum.inl k) (V.int 0) = kvI (if k ∈ a then a else a ++ [k]) := by
  unfold putK
  have e : ((kvI a).any fun kv => decide (kv.1 = (Sum.inl k : Key))) = decide (k ∈ a) := by
    unfold kvI
    rw [List.any_map]
    induction a with
    | nil => rfl
    | cons x a ih =>
      rw [List.any_cons, ih]
      by_cases h : x = k
      · subst h; simp
      · have : ¬ k = x := fun z => h z.symm
        simp [h, this]
  rw [e]
  by_cases h : k ∈ a
  · rw [if_pos (by simpa using h), if_pos h]
    unfold kvI
    rw [List.map_map]
    refine List.map_congr_left fun x hx => ?_
    by_cases e2 : x = k
    · subst e2; simp
    · simp [e2]
  · rw [if_neg (by simpa using h), if_neg h]
    unfold kvI
    rw [List.map_append]
    rfl
theorem mergeK_kvI : ∀ (b a : List Int), mergeK (kvI a) (kvI b) = kvI (mrgI a b)
  | [], _ => rfl
  | k :: b, a => by
    show mergeK (putK (kvI a) (Sum.inl k) (V.int 0)) (kvI b) = _
    rw [putK_kvI, mergeK_kvI b]
    rfl
theorem kvI_keys (ks : List Int) : (kvI ks).map (·.1) = ks.map Sum.inl := by
  unfold kvI
  rw [List.map_map]
  rfl
theorem mrgI_len : ∀ (b a : List Int), (mrgI a b).length ≤ a.length + b.length
  | [], a => Nat.le_refl _
  | k :: b, a => by
    have h := mrgI_len b (if k ∈ a then a else a ++ [k])
    show (mrgI (if k ∈ a then a else a ++ [k]) b).length ≤ _
    rw [List.length_cons]
    by_cases e : k ∈ a
    · rw [if_pos e] at h ⊢; omega
    · rw [if_neg e] at h ⊢
      rw [List.length_append, List.length_singleton] at h
      omega
theorem mem_mrgI {x : Int} : ∀ (b a : List Int), x ∈ mrgI a b ↔ x ∈ a ∨ x ∈ b
  | [], a => by show x ∈ a ↔ _; simp
  | k :: b, a => by
    show x ∈ mrgI (if k ∈ a then a else a ++ [k]) b ↔ _
    rw [mem_mrgI b]
    by_cases e : k ∈ a
    · rw [if_pos e, List.mem_cons]
      constructor
      · rintro (h | h)
        · exact .inl h
        · exact .inr (.inr h)
      · rintro (h | rfl | h)
        · exact .inl h
        · exact .inl e
        · exact .inr h
    · rw [if_neg e, List.mem_append, List.mem_singleton, List.mem_cons]
      constructor
      · rintro ((h | h) | h)
        · exact .inl h
        · exact .inr (.inl h)
        · exact .inr (.inr h)
      · rintro (h | h | h)
        · exact .inl (.inl h)
        · exact .inl (.inr h)
        · exact .inr h
theorem nodup_mrgI : ∀ (b a : List Int), a.Nodup → (mrgI a b).Nodup
  | [], _, h => h
  | k :: b, a, h => by
    show (mrgI (if k ∈ a then a else a ++ [k]) b).Nodup
    by_cases e : k ∈ a
    · rw [if_pos e]; exact nodup_mrgI b a h
    · rw [if_neg e]
      refine nodup_mrgI b _ ?_
      rw [List.nodup_append]
      refine ⟨h, by simp, fun x hx y hy => ?_⟩
      rw [List.mem_singleton.mp hy]
      intro z; rw [z] at hx; exact e hx
/-- one pair taken: what is under x is under y -/
def stepU (u : List (List Int)) (p : Nat × Nat) : List (List Int) := u.set p.2 (mrgI (u.getD p.2 []) (u.getD p.1 []))
def lapU (pairs : List (Nat × Nat)) (u : List (List Int)) : List (List Int) := pairs.foldl stepU u
def startU (n : Nat) : List (List Int) := (List.range n).map fun (y : Nat) => [(y : Int)]
def lapsU (pairs : List (Nat × Nat)) : Nat → List (List Int) → List (List Int)
  | 0, u => u
  | k + 1, u => lapU pairs (lapsU pairs k u)
def closedU (n : Nat) (pairs : List (Nat × Nat)) : List (List Int) := lapsU pairs n (startU n)
/-- the lots are of n things below n, none twice -/
def WfU (n : Nat) (u : List (List Int)) : Prop := u.length = n ∧ ∀ l ∈ u, l.Nodup ∧ ∀ x ∈ l, 0 ≤ x ∧ x < n
theorem nodup_len : ∀ {n : Nat} {l : List Int}, l.Nodup → (∀ x ∈ l, 0 ≤ x ∧ x < n) → l.length ≤ n
  | 0, l, _, hr => by
    cases l with
    | nil => exact Nat.le_refl _
    | cons x l => have := hr x List.mem_cons_self; omega
  | n + 1, l, hn, hr => by
    have h := nodup_len (n := n) (l := l.erase (n : Int)) (hn.erase _) fun x hx => by
      obtain ⟨h1, h2⟩ := (hn.mem_erase_iff).mp hx
      have := hr x h2
      omega
    have h2 := List.length_erase (a := (n : Int)) (l := l)
    by_cases e : (n : Int) ∈ l
    · rw [if_pos e] at h2; omega
    · rw [if_neg e] at h2; omega
theorem WfU.step {n : Nat} {u : List (List Int)} {p : Nat × Nat} (h : WfU n u) (h1 : p.1 < n) : WfU n (stepU u p) := by
  refine ⟨by unfold stepU; rw [List.length_set]; exact h.1, fun l hl => ?_⟩
  have get : ∀ i, (u.getD i []).Nodup ∧ ∀ x ∈ u.getD i [], 0 ≤ x ∧ x < n := fun i => by
    by_cases hi : i < u.length
    · rw [List.getD_eq_getElem?_getD, List.getElem?_eq_getElem hi]
      exact h.2 _ (List.getElem_mem hi)
    · rw [List.getD_eq_getElem?_getD, List.getElem?_eq_none (by omega)]
      exact ⟨List.nodup_nil, fun x hx => by cases hx⟩
  rcases List.mem_or_eq_of_mem_set hl with hl | rfl
  · exact h.2 l hl
  · refine ⟨nodup_mrgI _ _ (get p.2).1, fun x hx => ?_⟩
    rcases (mem_mrgI _ _).mp hx with hx | hx
    · exact (get p.2).2 x hx
    · exact (get p.1).2 x hx
theorem WfU.lap {n : Nat} : ∀ {pairs : List (Nat × Nat)} {u : List (List Int)}, WfU n u → (∀ p ∈ pairs, p.1 < n) → WfU n (lapU pairs u)
  | [], _, h, _ => h
  | p :: pairs, u, h, hp => WfU.lap (pairs := pairs) (h.step (hp p List.mem_cons_self)) fun q hq => hp q (List.mem_cons_of_mem _ hq)
theorem wfU_start (n : Nat) : WfU n (startU n) := by
  refine ⟨by unfold startU; rw [List.length_map, List.length_range], fun l hl => ?_⟩
  obtain ⟨y, hy, rfl⟩ := List.mem_map.mp hl
  have := List.mem_range.mp hy
  exact ⟨by simp, fun x hx => by rw [List.mem_singleton.mp hx]; omega⟩
theorem wfU_laps {n : Nat} {pairs : List (Nat × Nat)} {u : List (List Int)} (h : WfU n u) (hp : ∀ p ∈ pairs, p.1 < n) : ∀ k, WfU n (lapsU pairs k u)
  | 0 => h
  | k + 1 => (wfU_laps h hp k).lap hp
theorem wfU_at {n : Nat} {u : List (List Int)} (h : WfU n u) (i : Nat) : (u.getD i []).Nodup ∧ (∀ x ∈ u.getD i [], 0 ≤ x ∧ x < n) ∧ (u.getD i []).length ≤ n := by
  by_cases hi : i < u.length
  · rw [List.getD_eq_getElem?_getD, List.getElem?_eq_getElem hi]
    have := h.2 _ (List.getElem_mem hi)
    exact ⟨this.1, this.2, nodup_len this.1 this.2⟩
  · rw [List.getD_eq_getElem?_getD, List.getElem?_eq_none (by omega)]
    exact ⟨List.nodup_nil, fun x hx => (by cases hx), Nat.zero_le _⟩
/-! ### in the heap -/
/-- a list at u of dicts at ds, with keys us; all of it new behind H0 -/
structure UAt (H0 H : Hp) (u : Addr) (ds : List Addr) (us : List (List Int)) : Prop where
  same : Same H0 H
  nu : H0 u = none
  nd : ∀ d ∈ ds, H0 d = none
  dis : ds.Nodup
  unot : u ∉ ds
  len : ds.length = us.length
  lst : H u = some (.lst (ds.map V.ref))
  dk : ∀ (i : Nat) d k, ds[i]? = some d → us[i]? = some k → H d = some (.dK (kvI k))
/-- a new object, not ours -/
theorem UAt.new {H0 H : Hp} {u : Addr} {ds : List Addr} {us : List (List Int)} {p : Addr} {o : HO} (h : UAt H0 H u ds us) (n : H p = none) : UAt H0 (upd H p o) u ds us := by
  refine ⟨fun b x e => ?_, h.nu, h.nd, h.dis, h.unot, h.len, ?_, fun i d k e1 e2 => ?_⟩
  · have := h.same b x e
    rw [upd_ne (ne_of_none this n)]; exact this
  · rw [upd_ne (ne_of_none h.lst n)]; exact h.lst
  · have := h.dk i d k e1 e2
    rw [upd_ne (ne_of_none this n)]; exact this
/-- one of the dicts is changed -/
theorem UAt.upd {H0 H : Hp} {u : Addr} {ds : List Addr} {us : List (List Int)} {i : Nat} {d : Addr} {k : List Int} (h : UAt H0 H u ds us) (e : ds[i]? = some d) : UAt H0 (L2.upd H d (.dK (kvI k))) u ds (us.set i k) := by
  have hd : d ∈ ds := List.mem_of_getElem? e
  have hi : i < us.length := by rw [← h.len]; exact (List.getElem?_eq_some_iff.mp e).1
  refine ⟨fun b x e => ?_, h.nu, h.nd, h.dis, h.unot, by rw [List.length_set]; exact h.len, ?_, fun j d' k' e1 e2 => ?_⟩
  · rw [upd_ne (fun z => by rw [z, h.nd d hd] at e; cases e)]; exact h.same b x e
  · rw [upd_ne (fun z => h.unot (by rw [z]; exact hd))]; exact h.lst
  · by_cases hj : i = j
    · subst hj
      rw [e] at e1; cases e1
      rw [List.getElem?_set_self hi] at e2; cases e2
      exact upd_same
    · rw [List.getElem?_set_ne hj] at e2
      have hne : d' ≠ d := fun z => by
        subst z
        obtain ⟨l1, q1⟩ := List.getElem?_eq_some_iff.mp e
        obtain ⟨l2, q2⟩ := List.getElem?_eq_some_iff.mp e1
        exact hj ((List.getElem_inj h.dis).mp (q1.trans q2.symm))
      rw [upd_ne hne]; exact h.dk j d' k' e1 e2
/-- one dict more -/
theorem UAt.app {H0 H : Hp} {u : Addr} {ds : List Addr} {us : List (List Int)} {d : Addr} {k : List Int} (h : UAt H0 H u ds us) (n : H d = none) : UAt H0 (L2.upd (L2.upd H d (.dK (kvI k))) u (.lst ((ds ++ [d]).map V.ref))) u (ds ++ [d]) (us ++ [k]) := by
  have hne : d ≠ u := fun z => by rw [z, h.lst] at n; cases n
  have hnew : d ∉ ds := fun hd => by
    obtain ⟨i, hi, e⟩ := List.getElem_of_mem hd
    have e1 : ds[i]? = some d := by rw [List.getElem?_eq_getElem hi, e]
    have hi2 : i < us.length := by rw [← h.len]; exact hi
    have e2 : us[i]? = some us[i] := List.getElem?_eq_getElem hi2
    rw [h.dk i d _ e1 e2] at n; cases n
  have n0 : H0 d = none := h.same.free n
  refine ⟨fun b x e => ?_, h.nu, fun x hx => ?_, ?_, ?_, by rw [List.length_append, List.length_append, h.len]; rfl, upd_same, fun j d' k' e1 e2 => ?_⟩
  · rw [upd_ne (fun z => by rw [z, h.nu] at e; cases e), upd_ne (fun z => by rw [z, n0] at e; cases e)]
    exact h.same b x e
  · rcases List.mem_append.mp hx with hx | hx
    · exact h.nd x hx
    · rw [List.mem_singleton.mp hx]; exact n0
  · rw [List.nodup_append]
    refine ⟨h.dis, by simp, fun x hx y hy => ?_⟩
    rw [List.mem_singleton.mp hy]
    intro z; rw [z] at hx; exact hnew hx
  · intro hu
    rcases List.mem_append.mp hu with hu | hu
    · exact h.unot hu
    · exact hne (List.mem_singleton.mp hu).symm
  · by_cases hj : j < ds.length
    · rw [List.getElem?_append_left hj] at e1
      rw [List.getElem?_append_left (by rw [← h.len]; exact hj)] at e2
      have hd' : d' ∈ ds := List.mem_of_getElem? e1
      rw [upd_ne (fun z => h.unot (by rw [← z]; exact hd')), upd_ne (fun z => hnew (by rw [← z]; exact hd'))]
      exact h.dk j d' k' e1 e2
    · rw [List.getElem?_append_right (by omega)] at e1
      rw [List.getElem?_append_right (by rw [← h.len]; omega)] at e2
      have : j - ds.length = 0 := by
        have := (List.getElem?_eq_some_iff.mp e1).1
        simp at this; omega
      rw [this] at e1
      rw [← h.len, this] at e2
      cases e1
      cases e2
      rw [upd_ne hne]
      exact upd_same
theorem Fin.same {c : C} {F H H' : Hp} (h : Fin c F H) (s : Same H H') : Fin c F H' :=
  ⟨h.f0, fun a o e => s a o (h.fh a o e), fun a o e => s a o (h.bh a o e), h.bf, fun p ep => let ⟨x, r⟩ := h.src p ep; ⟨x.ex s, r⟩⟩
theorem Fin.upd {c : C} {F H : Hp} {p : Addr} {o : HO} (h : Fin c F H) (nF : F p = none) (nB : c.B p = none) (ns : ∀ q, c.sr = some q → p ≠ q.1 ∧ p ≠ q.2) : Fin c F (L2.upd H p o) := by
  refine ⟨h.f0, h.fh.upd2 nF, h.bh.upd2 nB, h.bf, fun q eq => ?_⟩
  obtain ⟨⟨cs, x, y, z, h1, h2⟩, r⟩ := h.src q eq
  obtain ⟨m1, m2⟩ := ns q eq
  exact ⟨⟨cs, x, y, z, by rw [upd_ne m1.symm]; exact h1, by rw [upd_ne m2.symm]; exact h2⟩, r⟩
theorem Fin.froz {c : C} {F H : Hp} {p : Addr} {o : HO} (h : Fin c F H) (n : H p = none) : Fin c (L2.upd F p o) (L2.upd H p o) := by
  have nF : F p = none := h.fh.back n
  have nB : c.B p = none := h.bh.back n
  have g := Grow.new h.fh (o := o) n
  refine ⟨h.f0.trans g.kF, g.fh, h.bh.trans g.kH, fun a u e => ?_, fun q eq => ?_⟩
  · rw [upd_ne (ne_of_none e nB)]; exact h.bf a u e
  · obtain ⟨⟨cs, x, y, z, h1, h2⟩, n1, n2, b1, b2⟩ := h.src q eq
    have m1 : q.1 ≠ p := ne_of_none h1 n
    have m2 : q.2 ≠ p := ne_of_none h2 n
    exact ⟨⟨cs, x, y, z, by rw [upd_ne m1]; exact h1, by rw [upd_ne m2]; exact h2⟩, by rw [upd_ne m1]; exact n1, by rw [upd_ne m2]; exact n2, b1, b2⟩
/-- an object that stands, not frozen, changes -/
theorem UAt.oth {H0 H : Hp} {u : Addr} {ds : List Addr} {us : List (List Int)} {p : Addr} {o : HO} (h : UAt H0 H u ds us) (n0 : H0 p = none) (nu : p ≠ u) (nd : p ∉ ds) : UAt H0 (L2.upd H p o) u ds us := by
  refine ⟨fun b x e => ?_, h.nu, h.nd, h.dis, h.unot, h.len, ?_, fun i d k e1 e2 => ?_⟩
  · rw [upd_ne (fun z => by rw [z, n0] at e; cases e)]; exact h.same b x e
  · rw [upd_ne nu.symm]; exact h.lst
  · have hd : d ∈ ds := List.mem_of_getElem? e1
    rw [upd_ne (fun z => nd (by rw [← z]; exact hd))]; exact h.dk i d k e1 e2
end DL

/-! DL: methods of a list of one's own: pop, len, append; list(..); a list built anew. -/
namespace DL
open PySem L2
section
variable {X : Cx} {r : SR} {S : List Sl}
/-- x.pop(i), x a list of one's own -/
theorem je_popO {K : D → List Sl → Prop} {x : Str} {p apos pos : Pos} {a : Expr} (i : Nat) {xs0 : List D} (h0 : S[i]? = some (.own xs0)) (hp : PE X (.Call (.Attribute (.Name x p) "pop" apos) [a] [] pos) (tBM X.K "list" rPopAt (tVar i) (tCons (tE X a) tNil)))
    (h : JE X r a S fun d S1 => ∃ (xs : List D) (k : Nat) (d' : D), d = .int k ∧ S1[i]? = some (.own xs) ∧ xs.length ≤ 1000000 ∧ xs[k]? = some d' ∧ K d' (S1.set i (.own (xs.eraseIdx k)))) :
    JE X r (.Call (.Attribute (.Name x p) "pop" apos) [a] [] pos) S K := fun c F σ H hr E Q q => of_pe hp (by
  obtain ⟨y, e1, l, hh, e2, ha, rv, nF, nb, q0⟩ := E.sl i _ h0
  subst e2
  obtain ⟨vs, rfl, rv⟩ := obr_l rv
  refine ⟨.ref l, e1, .inl ⟨rfl, _, .inl (.inl ha)⟩, h c F σ H hr E _ fun v d F1 H1 S1 h1 E1 k1 r1 => ?_⟩
  obtain ⟨xs, k, d', rfl, e3, hl, hk, kd⟩ := h1
  cases r1
  obtain ⟨y, e1', l', hh', e2', ha', rv', _⟩ := E1.sl i _ e3
  rw [e1] at e1'; cases e1'; cases e2'
  obtain ⟨vs', rfl, rv'⟩ := obr_l rv'
  obtain ⟨v, ev, rp⟩ := rv'.get' hk
  have hlt : k < xs.length := (List.getElem?_eq_some_iff.mp hk).1
  refine ⟨l, vs', (k : Int), k, v, rfl, rfl, ha', by omega, by omega, ?_, ev, ?_⟩
  · unfold seqIndex?
    have := rv'.length
    simp
    omega
  · exact q v d' F1 _ _ kd (E1.write (vs := .lst (vs'.eraseIdx k)) (ds := .l (xs.eraseIdx k)) e3 e1 (rv'.erase k)) k1 rp)
/-- len(x), x a list of one's own -/
theorem je_lenO {K : D → List Sl → Prop} {x : Str} {p p2 pos : Pos} (i : Nat) {xs : List D} (hm : X.mg "len" = none) (k : K (.int (xs.length : Nat)) S) (e : S[i]? = some (.own xs) := by rfl) (hg : Gl X "len" := by rfl) (hN : X.N[i]? = some x := by rfl) (hv : Vis X.env.scope x := by first | exact Or.inl rfl | exact Or.inr (Or.inl rfl) | exact Or.inr (Or.inr rfl)) (hd : (x == ("__debug__" : Str)) = false := by decide) (hcd : (x == ("__classdict__" : Str)) = false := by decide)
    (hs : starEach [.Name x p2] X.env = (false, eval (.Name x p2) X.env) :: starEach [] X.env := by rfl) :
    JE X r (.Call (.Name "len" p) [.Name x p2] [] pos) S K := fun c F σ H hr E Q q => of_pe (pe_callB call_len_seq hg hm PySem.boot_len (pa_cons (pe_var hN hv hd hcd) pa_nil hs) (by decide) (by decide) hs rfl) (by
  obtain ⟨y, e1, l, hh, e2, ha, rv, nF, nb, q0⟩ := E.sl i _ e
  subst e2
  obtain ⟨vs, rfl, rv⟩ := obr_l rv
  refine ⟨_, e1, l, vs, rfl, .inl (.inl (.inl ha)), ?_⟩
  rw [rv.length]
  exact q _ _ F H S k E (Ex.refl F) (.int _))
/-- list(x) -/
theorem jlist {K : List D → List Sl → Prop} {a : Expr} {p pos : Pos} (hm : X.mg "list" = none) (h : JE X r a S fun d S1 => ∃ xs, (d = .list xs ∨ d = .tuple xs) ∧ K xs S1) (hg : Gl X "list" := by rfl) (hs : starEach [a] X.env = (false, eval a X.env) :: starEach [] X.env := by rfl) : JN X r (.Call (.Name "list" p) [a] [] pos) S K :=
  jnTy call_list_of hm (ja1 (h.mono fun d S1 ⟨xs, e, k⟩ => ⟨[d], rfl, cn_list e k⟩) hs) hg (by decide +kernel) (by decide) (by decide) hs rfl
theorem jts_nil {K : Bool → List Sl → Prop} (h : K true S) : JTs X r [] S K := h
end
theorem perm_of_map {α β : Type} {f : α → β} {es : List β} {m : List β} (h : es.Perm m) : ∀ l : List α, m = l.map f → ∃ l' : List α, es = l'.map f ∧ l'.Perm l := by
  induction h with
  | nil => intro l e; exact ⟨[], rfl, by cases l with | nil => exact .nil | cons a l => cases e⟩
  | cons x _ ih =>
    intro l e
    cases l with
    | nil => cases e
    | cons a l =>
      injection e with e1 e2
      obtain ⟨l', rfl, p⟩ := ih l e2
      exact ⟨a :: l', by rw [e1]; rfl, p.cons a⟩
  | swap x y t =>
    intro l e
    match l, e with
    | a :: b :: l, e =>
      injection e with e1 e2
      injection e2 with e2 e3
      exact ⟨b :: a :: l, by rw [e1, e2, e3]; rfl, List.Perm.swap _ _ _⟩
  | trans _ _ ih1 ih2 =>
    intro l e
    obtain ⟨l1, e1, p1⟩ := ih2 l e
    obtain ⟨l2, e2, p2⟩ := ih1 l1 e1
    exact ⟨l2, e2, p2.trans p1⟩
theorem eraseIdx_perm {α : Type} : ∀ (l : List α) (j : Nat) (h : j < l.length), (l[j] :: l.eraseIdx j).Perm l
  | a :: l, 0, _ => List.Perm.refl _
  | a :: l, j + 1, h => by
    have h : j < l.length := Nat.lt_of_succ_lt_succ h
    show (l[j] :: a :: l.eraseIdx j).Perm (a :: l)
    exact (List.Perm.swap _ _ _).trans (List.Perm.cons _ (eraseIdx_perm l j h))
end DL

/-! DL: sorted(..) of a list of data. -/
namespace DL
open PySem L2
section
variable {X : Cx} {r : SR} {S : List Sl}
def rSortD (X : Cx) : List V → Hp → VK → Prop := fun vs H Q => ∃ F x ds, vs = [x] ∧ Ex F H ∧ Rp F x (.list ds) ∧ PyData.plainAll ds = true ∧ PySem.W.AllAlike ds ∧ PySem.W.Sortable ds ∧ (∀ d ∈ ds, X.A.units + 2 + d.depth < cLine) ∧
  ∀ p ws, RpA F ws (ds.mergeSort (PySem.W.dataLe false id)) → H p = none → Q (.ref p) (upd H p (.lst ws))
theorem each_of {P : Program} {w : World} {F H : Hp} {h : Heap} (k : Ex F H) (ok : HOk P w H h) : ∀ {vs : List V} {us : List Value} {ds : List D}, RpA F vs ds → Vals vs us → PyData.plainAll ds = true →
    PySem.W.EachIs (fun u (d : D) => ∃ v, RelV v u ∧ Rp F v d) us ds ∧ PySem.W.EachIs (fun u (d : D) => ∃ as, Reads h u (id d) as) us ds
  | _, _, _, .nil, e, _ => by cases e; exact ⟨.nil, .nil⟩
  | _, _, _, .cons r t, e, hp => by
    cases e with
    | cons e1 e2 =>
      rw [PyData.plainAll, Bool.and_eq_true] at hp
      obtain ⟨a, b⟩ := each_of k ok t e2 hp.2
      exact ⟨.cons ⟨_, e1, r⟩ a, .cons (Rp.reads k ok r e1 hp.1) b⟩
theorem of_each {F : Hp} : ∀ {us : List Value} {ds : List D}, PySem.W.EachIs (fun u (d : D) => ∃ v, RelV v u ∧ Rp F v d) us ds → ∃ vs, Vals vs us ∧ RpA F vs ds
  | _, _, .nil => ⟨[], .nil, .nil⟩
  | _, _, .cons ⟨v, e, r⟩ t => by
    obtain ⟨vs, a, b⟩ := of_each t
    exact ⟨v :: vs, .cons e a, .cons r b⟩
theorem call_sortD : CallR X (.builtin "sorted") (rSortD X) := by
  intro pins s σ H xs us Q I rr h
  obtain ⟨F, x, ds, rfl, k, rp, hpl, hal, hso, hu, q⟩ := h
  obtain ⟨u, rfl, rx⟩ := vals1 rr
  cases rp with
  | @lst a ws _ ha rv =>
    cases rx
    obtain ⟨z, its, n, rw', ho⟩ := I.hok _ _ (k _ _ ha)
    obtain ⟨e, er⟩ := each_of k I.hok rv rw' hpl
    have hz : ds.length ≤ sizeLine := by rw [← rv.length]; exact z
    refine PySem.W.sorted_data (bs := ds) (enc := id) (vs := its) (R := fun u (d : D) => ∃ v, RelV v u ∧ Rp F v d) ?_ e er (by rw [List.map_id]; exact hal) (by rw [List.map_id]; exact hso) hz hu ?_
    · exact ⟨_, ho, rfl, _, rfl⟩
    · intro out hl he
      obtain ⟨vs, v1, v2⟩ := of_each he
      obtain ⟨ep, he'⟩ := PyProof.Rows.sortedAll_at s.heap its out.toArray
      have hlen : vs.length ≤ sizeLine := by rw [v2.length, List.length_mergeSort]; exact hz
      exact ⟨.ref _, upd H (s.heap.objs.size + 1) (.lst vs), I.laid (t' := s.toks) (fun _ _ => PyProof.Rows.sortedAll_old) (Nat.le_succ _) ⟨hlen, out, ep, v1, he'⟩, rfl, q _ vs v2 (I.hok.fresh (Nat.le_succ _))⟩
theorem cn_sort {ds : List D} {K : List D → Prop} {k : Nat} (hr : Room k X.A) (h1 : ∀ d ∈ ds, Nice 50 d) (h2 : PySem.W.AllAlike ds) (h3 : PySem.W.Sortable ds) (kd : K (ds.mergeSort (PySem.W.dataLe false id))) : CallN (rSortD X) [.list ds] K := fun F H vs kF rv Q q => by
  cases rv with
  | cons r1 t =>
    cases t
    refine ⟨F, _, ds, rfl, kF, r1, plainAll_of fun d hd => (h1 d hd).pl, h2, h3, fun d hd => ?_, fun p ws rw n => q p ws _ kd n rw⟩
    have := (h1 d hd).dp
    have := hr.un
    omega
theorem jsorted {K : List D → List Sl → Prop} {a : Expr} {p pos : Pos} {k : Nat} (hr : Room k X.A) (hm : X.mg "sorted" = none) (h : JE X r a S fun d S1 => ∃ ds, d = .list ds ∧ (∀ d ∈ ds, Nice 50 d) ∧ PySem.W.AllAlike ds ∧ PySem.W.Sortable ds ∧ K (ds.mergeSort (PySem.W.dataLe false id)) S1) (hg : Gl X "sorted" := by rfl) (hs : starEach [a] X.env = (false, eval a X.env) :: starEach [] X.env := by rfl) : JN X r (.Call (.Name "sorted" p) [a] [] pos) S K :=
  jnB call_sortD hm (ja1 (h.mono fun d S1 ⟨ds, e, h1, h2, h3, k⟩ => ⟨[d], rfl, by rw [e]; exact cn_sort hr h1 h2 h3 k⟩) hs) hg (by decide +kernel) (by decide) (by decide) hs rfl
theorem sort_map {β : Type} {enc : β → D} {le : β → β → Bool} (e : PySem.W.dataLe false enc = le) (l : List β) : (l.map enc).mergeSort (PySem.W.dataLe false id) = (l.mergeSort le).map enc := by
  subst e
  exact (List.map_mergeSort (f := enc) (r := PySem.W.dataLe false enc) (s := PySem.W.dataLe false id) fun a _ b _ => rfl).symm
theorem alike_map {β : Type} {enc : β → D} {l : List β} (h : ∀ b b', PySem.W.alike (enc b) (enc b') = true) : PySem.W.AllAlike (l.map enc) := PySem.W.AllAlike.of h
/-- of ints -/
theorem jsortI {K : List D → List Sl → Prop} {a : Expr} {p pos : Pos} {k : Nat} (hr : Room k X.A) (hm : X.mg "sorted" = none) (h : JE X r a S fun d S1 => ∃ ns : List Int, d = .list (ns.map .int) ∧ ∀ ns' : List Int, ns'.Perm ns → ns'.Pairwise (· ≤ ·) → K (ns'.map .int) S1) (hg : Gl X "sorted" := by rfl) (hs : starEach [a] X.env = (false, eval a X.env) :: starEach [] X.env := by rfl) : JN X r (.Call (.Name "sorted" p) [a] [] pos) S K :=
  jsorted hr hm (h.mono fun d S1 ⟨ns, e, k⟩ => ⟨_, e, nice_map fun a => nice_int a, alike_map fun a b => by simp [PySem.W.alike], PySem.W.Sortable.others fun b => ⟨(by intro z; cases z), (by intro _ z; cases z)⟩, by
    rw [sort_map (PySem.W.dataLe_int fun b => b)]
    refine k _ (List.mergeSort_perm _ _) ?_
    have := List.pairwise_mergeSort (le := fun a b : Int => decide (a ≤ b)) (by intro a b c; simp; omega) (by intro a b; simp; omega) ns
    simpa using this⟩) hg hs
end
end DL

/-! DL: a, b = x, y; truth values without a trace; slices. -/
namespace DL
open PySem L2
section
variable {X : Cx} {r : SR} {S : List Sl}
/-- a, b = x, y: data -/
theorem jpar2 {x y : Str} {a b : Expr} {px py pt pos : Pos} {kt k2 pt2} {E : DE} {rest : List Stmt} (i j : Nat) (h : JE X r a S fun d1 S1 => JE X r b S1 fun d2 S2 => JSs X r rest ((S2.set i (.val d1)).set j (.val d2)) E)
    (hc : X.calm = true := by rfl) (hN : X.N.Nodup := by assumption) (hi : X.N[i]? = some x := by rfl) (hj : X.N[j]? = some y := by rfl) (hij : i ≠ j := by decide) (hx : X.env.scope.names.lookup x = some .local := by rfl) (hy : X.env.scope.names.lookup y = some .local := by rfl)
    (hw : swappedStores [.Tuple [.Name x px, .Name y py] kt pt] (.Tuple [a, b] k2 pt2) X.env = pure (some [x, y]) := by rfl) (hs : swapsWithSole [.Tuple [.Name x px, .Name y py] kt pt] (.Tuple [a, b] k2 pt2) pos.line X.env = pure false := by rfl)
    (s1 : starEach [a, b] X.env = (false, eval a X.env) :: starEach [b] X.env := by rfl) (s2 : starEach [b] X.env = (false, eval b X.env) :: starEach [] X.env := by rfl) :
    JSs X r (.Assign [.Tuple [.Name x px, .Name y py] kt pt] (.Tuple [a, b] k2 pt2) pos :: rest) S E := jss_cons fun c F σ H hr Ev G g =>
  of_ps (ps_par hc hN hi hj hij hx hy (pa_cons pe_tE (pa_cons pe_tE pa_nil s2) s1) hw hs) (h c F σ H hr Ev _ fun v d F1 H1 S1 h1 E1 k1 r1 => h1 c F1 σ H1 hr E1 _ fun v2 d2 F2 H2 S2 h2 E2 k2 r2 =>
    ⟨v, v2, rfl, g.nx F2 _ H2 _ h2 ((E2.set (r1.ex k2)).set r2) (k1.trans k2)⟩)
/-- a, b, c = x, y, z: data -/
theorem jpar3 {x y z : Str} {a b e : Expr} {px py pz pt pos : Pos} {kt k2 pt2} {E : DE} {rest : List Stmt} (i j l : Nat) (h : JE X r a S fun d1 S1 => JE X r b S1 fun d2 S2 => JE X r e S2 fun d3 S3 => JSs X r rest (((S3.set i (.val d1)).set j (.val d2)).set l (.val d3)) E)
    (hc : X.calm = true := by rfl) (hN : X.N.Nodup := by assumption) (hi : X.N[i]? = some x := by rfl) (hj : X.N[j]? = some y := by rfl) (hl : X.N[l]? = some z := by rfl) (hij : i ≠ j := by decide) (hil : i ≠ l := by decide) (hjl : j ≠ l := by decide) (hx : X.env.scope.names.lookup x = some .local := by rfl) (hy : X.env.scope.names.lookup y = some .local := by rfl) (hz : X.env.scope.names.lookup z = some .local := by rfl)
    (hw : swappedStores [.Tuple [.Name x px, .Name y py, .Name z pz] kt pt] (.Tuple [a, b, e] k2 pt2) X.env = pure (some [x, y, z]) := by rfl) (hs : swapsWithSole [.Tuple [.Name x px, .Name y py, .Name z pz] kt pt] (.Tuple [a, b, e] k2 pt2) pos.line X.env = pure false := by rfl)
    (s1 : starEach [a, b, e] X.env = (false, eval a X.env) :: starEach [b, e] X.env := by rfl) (s2 : starEach [b, e] X.env = (false, eval b X.env) :: starEach [e] X.env := by rfl) (s3 : starEach [e] X.env = (false, eval e X.env) :: starEach [] X.env := by rfl) :
    JSs X r (.Assign [.Tuple [.Name x px, .Name y py, .Name z pz] kt pt] (.Tuple [a, b, e] k2 pt2) pos :: rest) S E := jss_cons fun c F σ H hr Ev G g =>
  of_ps (ps_par3 hc hN hi hj hl hij hil hjl hx hy hz (pa_cons pe_tE (pa_cons pe_tE (pa_cons pe_tE pa_nil s3) s2) s1) hw hs) (h c F σ H hr Ev _ fun v d F1 H1 S1 h1 E1 k1 r1 => h1 c F1 σ H1 hr E1 _ fun v2 d2 F2 H2 S2 h2 E2 k2 r2 => h2 c F2 σ H2 hr E2 _ fun v3 d3 F3 H3 S3 h3 E3 k3 r3 =>
    ⟨v, v2, v3, rfl, g.nx F3 _ H3 _ h3 (((E3.set (r1.ex (k2.trans k3))).set (r2.ex k3)).set r3) ((k1.trans k2).trans k3)⟩)
/-- .. the last one a new list -/
theorem jpar3N {x y z : Str} {a b e : Expr} {px py pz pt pos : Pos} {kt k2 pt2} {E : DE} {rest : List Stmt} (i j l : Nat) (h : JE X r a S fun d1 S1 => JE X r b S1 fun d2 S2 => JN X r e S2 fun ds S3 => S3[i]? = some .emp ∧ S3[j]? = some .emp ∧ JSs X r rest (((S3.set i (.val d1)).set j (.val d2)).set l (.own ds)) E)
    (hc : X.calm = true := by rfl) (hN : X.N.Nodup := by assumption) (hi : X.N[i]? = some x := by rfl) (hj : X.N[j]? = some y := by rfl) (hl : X.N[l]? = some z := by rfl) (hij : i ≠ j := by decide) (hil : i ≠ l := by decide) (hjl : j ≠ l := by decide) (hx : X.env.scope.names.lookup x = some .local := by rfl) (hy : X.env.scope.names.lookup y = some .local := by rfl) (hz : X.env.scope.names.lookup z = some .local := by rfl)
    (hw : swappedStores [.Tuple [.Name x px, .Name y py, .Name z pz] kt pt] (.Tuple [a, b, e] k2 pt2) X.env = pure (some [x, y, z]) := by rfl) (hs : swapsWithSole [.Tuple [.Name x px, .Name y py, .Name z pz] kt pt] (.Tuple [a, b, e] k2 pt2) pos.line X.env = pure false := by rfl)
    (s1 : starEach [a, b, e] X.env = (false, eval a X.env) :: starEach [b, e] X.env := by rfl) (s2 : starEach [b, e] X.env = (false, eval b X.env) :: starEach [e] X.env := by rfl) (s3 : starEach [e] X.env = (false, eval e X.env) :: starEach [] X.env := by rfl) :
    JSs X r (.Assign [.Tuple [.Name x px, .Name y py, .Name z pz] kt pt] (.Tuple [a, b, e] k2 pt2) pos :: rest) S E := jss_cons fun c F σ H hr Ev G g =>
  of_ps (ps_par3 hc hN hi hj hl hij hil hjl hx hy hz (pa_cons pe_tE (pa_cons pe_tE (pa_cons pe_tE pa_nil s3) s2) s1) hw hs) (h c F σ H hr Ev _ fun v d F1 H1 S1 h1 E1 k1 r1 => h1 c F1 σ H1 hr E1 _ fun v2 d2 F2 H2 S2 h2 E2 k2 r2 => h2 c F2 σ H2 hr E2 _ fun p ds F3 H3 S3 h3 n k3 => by
    obtain ⟨hh, E3, hp, hv, nF, b, q, no⟩ := n
    obtain ⟨e1, e2, kk⟩ := h3
    have E4 := (E3.set (i := i) (r1.ex (k2.trans k3))).set (i := j) (r2.ex k3)
    refine ⟨v, v2, .ref p, rfl, g.nx F3 _ H3 _ kk (E4.setOwn hp hv nF b q fun m xs em => ?_) ((k1.trans k2).trans k3)⟩
    have hli : i < S3.length := (List.getElem?_eq_some_iff.mp e1).1
    have hlj : j < S3.length := (List.getElem?_eq_some_iff.mp e2).1
    by_cases hm : j = m
    · subst hm
      rw [List.getElem?_set_self (by rw [List.length_set]; exact hlj)] at em; cases em
    · rw [List.getElem?_set_ne hm] at em ⊢
      by_cases hm : i = m
      · subst hm
        rw [List.getElem?_set_self hli] at em; cases em
      · rw [List.getElem?_set_ne hm] at em ⊢
        exact no m xs em)
/-! ### a truth value, whichever; the slots as before -/
def JB (X : Cx) (r : SR) (e : Expr) (S : List Sl) : Prop := JE X r e S fun d S' => S' = S ∧ ∃ k : Bool, d = .bool k
def JBT (X : Cx) (r : SR) (e : Expr) (S : List Sl) : Prop := JT X r e S fun _ S' => S' = S
def JBW (X : Cx) (r : SR) (e : Expr) (S : List Sl) : Prop := JW X r e S fun _ S' => S' = S
theorem jb_one {op : BoolOp} {a : Expr} {pos : Pos} (h : JB X r a S) : JB X r (.BoolOp op [a] pos) S := je_one h
theorem jb_and {a b : Expr} {rest : List Expr} {pos : Pos} (h : JB X r a S) (h2 : JB X r (.BoolOp .And (b :: rest) pos) S) : JB X r (.BoolOp .And (a :: b :: rest) pos) S :=
  je_and (h.mono fun d S' ⟨e, k, ed⟩ => ⟨k, ed, by subst e; exact ifb (fun _ => h2) fun _ => ⟨rfl, false, rfl⟩⟩)
theorem jb_or {a b : Expr} {rest : List Expr} {pos : Pos} (h : JB X r a S) (h2 : JB X r (.BoolOp .Or (b :: rest) pos) S) : JB X r (.BoolOp .Or (a :: b :: rest) pos) S :=
  je_or (h.mono fun d S' ⟨e, k, ed⟩ => ⟨k, ed, by subst e; exact ifb (fun _ => ⟨rfl, true, rfl⟩) fun _ => h2⟩)
theorem jbw_and1 {a : Expr} {pos : Pos} (h : JBT X r a S) : JBW X r (.BoolOp .And [a] pos) S := jw_and1 h
theorem jbw_or1 {a : Expr} {pos : Pos} (h : JBT X r a S) : JBW X r (.BoolOp .Or [a] pos) S := jw_or1 h
theorem jbw_and {a b : Expr} {rest : List Expr} {pos : Pos} (h : JBT X r a S) (h2 : JBW X r (.BoolOp .And (b :: rest) pos) S) : JBW X r (.BoolOp .And (a :: b :: rest) pos) S :=
  jw_and (h.mono fun d S' e => by subst e; exact ifb (fun _ => h2) fun _ => rfl)
theorem jbw_or {a b : Expr} {rest : List Expr} {pos : Pos} (h : JBT X r a S) (h2 : JBW X r (.BoolOp .Or (b :: rest) pos) S) : JBW X r (.BoolOp .Or (a :: b :: rest) pos) S :=
  jw_or (h.mono fun d S' e => by subst e; exact ifb (fun _ => rfl) fun _ => h2)
theorem JBW.t {a : Expr} (h : JBW X r a S) : JBT X r a S := JW.jt h
/-- if, whichever way -/
theorem jifB {t : Expr} {a b rest : List Stmt} {pos : Pos} {E : DE} (h : JBT X r t S) (h1 : JSs X r a S { E with nx := fun S2 => JSs X r rest S2 E }) (h2 : JSs X r b S { E with nx := fun S2 => JSs X r rest S2 E }) : JSs X r (.If t a b pos :: rest) S E :=
  jif (h.mono fun k S' e => by subst e; exact ifb (fun _ => h1) fun _ => h2)
/-- if, never taken -/
theorem jifF {t : Expr} {a b rest : List Stmt} {pos : Pos} {E : DE} (h : JT X r t S fun k S' => k = false ∧ S' = S) (h2 : JSs X r b S { E with nx := fun S2 => JSs X r rest S2 E }) : JSs X r (.If t a b pos :: rest) S E :=
  jif (h.mono fun k S' ⟨e1, e2⟩ => by subst e1; subst e2; exact iff' rfl h2)
/-- .. and both ways meet -/
theorem jifM {N : List Sl → Prop} {t : Expr} {a b rest : List Stmt} {pos : Pos} {E : DE} (h : JBT X r t S) (h1 : JSs X r a S { E with nx := N }) (h2 : JSs X r b S { E with nx := N }) (h3 : ∀ S2, N S2 → JSs X r rest S2 E) : JSs X r (.If t a b pos :: rest) S E :=
  jifB h (h1.mono h3 (fun _ z => z) (fun _ z => z) (fun _ z => z)) (h2.mono h3 (fun _ z => z) (fun _ z => z) (fun _ z => z))
/-- x.append(e), x a list of one's own -/
theorem jappend {e : Expr} {x : Str} {p apos cpos pos : Pos} {E : DE} {rest : List Stmt} (i : Nat) (xs0 : List D)
    (h : JE X r e S fun d S1 => ∃ xs, S1[i]? = some (.own xs) ∧ xs.length < sizeLine ∧ JSs X r rest (S1.set i (.own (xs ++ [d]))) E) (h0 : S[i]? = some (.own xs0) := by rfl)
    (hp : PS X (.Expr (.Call (.Attribute (.Name x p) "append" apos) [e] [] cpos) pos) (tDrop (tBM X.K "list" rAppend (tVar i) (tCons (tE X e) tNil))) := by exact ps_expr (pe_bm PySem.F.plainAttrs_list PySem.F.slot_list_append PySem.F.type_list_append mt_append (pv _) (pa_cons pe_tE pa_nil))) :
    JSs X r (.Expr (.Call (.Attribute (.Name x p) "append" apos) [e] [] cpos) pos :: rest) S E := jss_cons (js_append (rr := fun _ _ _ _ => True) i hp h h0)
/-! ### small displays -/
theorem jtup0 {K : D → List Sl → Prop} {k : Nat} {pos : Pos} (h : K (.tuple []) S) : JE X r (.Tuple [] k pos) S K := je_tup (jA0 ⟨[], rfl, Nat.zero_le _, h⟩)
theorem jtup1 {K : D → List Sl → Prop} {a : Expr} {k : Nat} {pos : Pos} (h : JE X r a S fun d S1 => K (.tuple [d]) S1) (s1 : starEach [a] X.env = (false, eval a X.env) :: starEach [] X.env := by rfl) : JE X r (.Tuple [a] k pos) S K :=
  je_tup (ja1 (h.mono fun d S1 k => ⟨[d], rfl, by show 1 ≤ sizeLine; decide, k⟩) s1)
theorem jtup2 {K : D → List Sl → Prop} {a b : Expr} {k : Nat} {pos : Pos} (h : JE X r a S fun d1 S1 => JE X r b S1 fun d2 S2 => K (.tuple [d1, d2]) S2) (s1 : starEach [a, b] X.env = (false, eval a X.env) :: starEach [b] X.env := by rfl) (s2 : starEach [b] X.env = (false, eval b X.env) :: starEach [] X.env := by rfl) : JE X r (.Tuple [a, b] k pos) S K :=
  je_tup (jA (h.mono fun d1 S1 h2 => ja1 (h2.mono fun d2 S2 k => ⟨[d1, d2], rfl, by show 2 ≤ sizeLine; decide, k⟩) s2) s1)
theorem jlst1 {K : List D → List Sl → Prop} {a : Expr} {pos : Pos} (h : JE X r a S fun d S1 => K [d] S1) (s1 : starEach [a] X.env = (false, eval a X.env) :: starEach [] X.env := by rfl) : JN X r (.List [a] pos) S K :=
  jn_lst (ja1 (h.mono fun d S1 k => ⟨[d], rfl, by show 1 ≤ sizeLine; decide, k⟩) s1)
theorem jlst2 {K : List D → List Sl → Prop} {a b : Expr} {pos : Pos} (h : JE X r a S fun d1 S1 => JE X r b S1 fun d2 S2 => K [d1, d2] S2) (s1 : starEach [a, b] X.env = (false, eval a X.env) :: starEach [b] X.env := by rfl) (s2 : starEach [b] X.env = (false, eval b X.env) :: starEach [] X.env := by rfl) : JN X r (.List [a, b] pos) S K :=
  jn_lst (jA (h.mono fun d1 S1 h2 => ja1 (h2.mono fun d2 S2 k => ⟨[d1, d2], rfl, by show 2 ≤ sizeLine; decide, k⟩) s2) s1)
theorem jA2 {K : List Ar → List Sl → Prop} {a b : Expr} (h : JE X r a S fun d1 S1 => JE X r b S1 fun d2 S2 => K [.d d1, .d d2] S2) (s1 : starEach [a, b] X.env = (false, eval a X.env) :: starEach [b] X.env := by rfl) (s2 : starEach [b] X.env = (false, eval b X.env) :: starEach [] X.env := by rfl) : JA X r [a, b] S K :=
  jA (h.mono fun d1 S1 h2 => ja1 h2 s2) s1
/-! ### slices -/
theorem cutD_from (ds : List D) (k : Nat) : cutD ds (some (k : Int)) none = ds.drop k := by
  unfold cutD
  rw [HT.sIx_none, HT.sIx_nat]
  by_cases h : k ≤ ds.length
  · rw [Nat.min_eq_left h, List.take_of_length_le (by rw [List.length_drop]; exact Nat.le_refl _)]
  · have e : min k ds.length = ds.length := Nat.min_eq_right (by omega)
    rw [e, List.drop_of_length_le (Nat.le_refl _), List.drop_of_length_le (by omega), List.take_nil]
theorem cutD_to (ds : List D) (k : Nat) : cutD ds none (some (k : Int)) = ds.take k := by
  unfold cutD
  rw [HT.sIx_none, HT.sIx_nat, List.drop_zero, Nat.sub_zero]
  by_cases h : k ≤ ds.length
  · rw [Nat.min_eq_left h]
  · rw [Nat.min_eq_right (by omega), List.take_length, List.take_of_length_le (by omega)]
theorem cutD_last (ds : List D) : cutD ds none (some (-1)) = ds.dropLast := by
  unfold cutD
  rw [HT.sIx_none, List.drop_zero, Nat.sub_zero]
  have e : HT.sIx ds.length ds.length (some (-1)) = ds.length - 1 := by
    show (if (-1 : Int) < 0 then ((-1 : Int) + (ds.length : Int)).toNat else min (-1 : Int).toNat ds.length) = _
    rw [if_pos (by decide)]; omega
  rw [e, List.dropLast_eq_take]
theorem atI_last {ds : List D} {d : D} (h : ds.getLast? = some d) : atI ds (-1) = some d := by
  rw [List.getLast?_eq_getElem?] at h
  have hl := (List.getElem?_eq_some_iff.mp h).1
  unfold atI
  have e : ixN ds.length (-1) = some (ds.length - 1) := by
    unfold ixN
    rw [if_neg (by decide)]
    split
    · congr 1; omega
    · omega
  rw [e]
  exact h
end
end DL

/-! DL: dicts whose keys are tuples of ints. -/
namespace DL
open PySem L2
/-! ### the data -/
def putD (kvs : List (List Int × D)) (k : List Int) (d : D) : List (List Int × D) :=
  if (kvs.any fun kv => decide (kv.1 = k)) = true then kvs.map (fun kv => if kv.1 = k then (kv.1, d) else kv) else kvs ++ [(k, d)]
def mergeD (kvs more : List (List Int × D)) : List (List Int × D) := more.foldl (fun acc p => putD acc p.1 p.2) kvs
def entD (p : List Int × D) : D := .tuple [.tuple (p.1.map .int), p.2]
/-- keys alone, as a set -/
def uni {α : Type} [DecidableEq α] (a b : List α) : List α := b.foldl (fun acc k => if k ∈ acc then acc else acc ++ [k]) a
def kvL (ks : List (List Int)) : List (List Int × D) := ks.map fun k => (k, .int 0)
section
variable {α : Type} [DecidableEq α]
theorem mem_uni {x : α} : ∀ (b a : List α), x ∈ uni a b ↔ x ∈ a ∨ x ∈ b
  | [], a => by show x ∈ a ↔ _; simp
  | k :: b, a => by
    show x ∈ uni (if k ∈ a then a else a ++ [k]) b ↔ _
    rw [mem_uni b]
    by_cases e : k ∈ a
    · rw [if_pos e, List.mem_cons]
      constructor
      · rintro (h | h)
        · exact .inl h
        · exact .inr (.inr h)
      · rintro (h | rfl | h)
        · exact .inl h
        · exact .inl e
        · exact .inr h
    · rw [if_neg e, List.mem_append, List.mem_singleton, List.mem_cons, or_assoc]
theorem nodup_uni : ∀ (b a : List α), a.Nodup → (uni a b).Nodup
  | [], _, h => h
  | k :: b, a, h => by
    show (uni (if k ∈ a then a else a ++ [k]) b).Nodup
    by_cases e : k ∈ a
    · rw [if_pos e]; exact nodup_uni b a h
    · rw [if_neg e]
      refine nodup_uni b _ ?_
      rw [List.nodup_append]
      refine ⟨h, by simp, fun x hx y hy => ?_⟩
      rw [List.mem_singleton.mp hy]
      intro z; rw [z] at hx; exact e hx
theorem uni_len : ∀ (b a : List α), (uni a b).length ≤ a.length + b.length
  | [], a => Nat.le_refl _
  | k :: b, a => by
    have h := uni_len b (if k ∈ a then a else a ++ [k])
    show (uni (if k ∈ a then a else a ++ [k]) b).length ≤ _
    rw [List.length_cons]
    by_cases e : k ∈ a
    · rw [if_pos e] at h ⊢; omega
    · rw [if_neg e] at h ⊢
      rw [List.length_append, List.length_singleton] at h
      omega
end
theorem putD_kvL (a : List (List Int)) (k : List Int) : putD (kvL a) k (.int 0) = kvL (uni a [k]) := by
  unfold putD uni
  simp only [List.foldl_cons, List.foldl_nil]
  have e : ((kvL a).any fun kv => decide (kv.1 = k)) = decide (k ∈ a) := by
    unfold kvL
    rw [List.any_map]
    induction a with
    | nil => rfl
    | cons x a ih =>
      rw [List.any_cons, ih]
      by_cases h : x = k
      · subst h; simp
      · have : ¬ k = x := fun z => h z.symm
        simp [h, this]
  rw [e]
  by_cases h : k ∈ a
  · rw [if_pos (by simpa using h), if_pos h]
    unfold kvL
    rw [List.map_map]
    refine List.map_congr_left fun x hx => ?_
    by_cases e2 : x = k
    · subst e2; simp
    · simp [e2]
  · rw [if_neg (by simpa using h), if_neg h]
    unfold kvL
    rw [List.map_append]
    rfl
theorem mergeD_kvL : ∀ (b a : List (List Int)), mergeD (kvL a) (kvL b) = kvL (uni a b)
  | [], _ => rfl
  | k :: b, a => by
    show mergeD (putD (kvL a) k (.int 0)) (kvL b) = _
    rw [putD_kvL, mergeD_kvL b]
    rfl
theorem kvL_length (ks : List (List Int)) : (kvL ks).length = ks.length := by unfold kvL; rw [List.length_map]
theorem putD_len (kvs : List (List Int × D)) (k : List Int) (d : D) : (putD kvs k d).length ≤ kvs.length + 1 := by
  unfold putD
  split
  · rw [List.length_map]; omega
  · rw [List.length_append]; exact Nat.le_refl _
theorem mergeD_len : ∀ (more kvs : List (List Int × D)), (mergeD kvs more).length ≤ kvs.length + more.length
  | [], kvs => Nat.le_refl _
  | p :: more, kvs => by
    have := mergeD_len more (putD kvs p.1 p.2)
    have := putD_len kvs p.1 p.2
    show (mergeD (putD kvs p.1 p.2) more).length ≤ _
    rw [List.length_cons]
    omega
/-! ### its values -/
def kI (k : List Int) : List Key := k.map Sum.inl
theorem kI_inj {a b : List Int} (h : kI a = kI b) : a = b := by
  induction a generalizing b with
  | nil => cases b with
    | nil => rfl
    | cons y b => cases h
  | cons x a ih => cases b with
    | nil => cases h
    | cons y b =>
      have h : (Sum.inl x : Key) :: kI a = Sum.inl y :: kI b := h
      injection h with h1 h2
      injection h1 with h1
      rw [h1, ih h2]
theorem RpK.length {F : Hp} : ∀ {ws : List (List Key × V)} {kvs : List (List Int × D)}, RpK F ws kvs → ws.length = kvs.length
  | _, _, .nil => rfl
  | _, _, .cons _ t => by rw [List.length_cons, List.length_cons, RpK.length t]
theorem RpK.any {F : Hp} (k : List Int) : ∀ {ws : List (List Key × V)} {kvs : List (List Int × D)}, RpK F ws kvs → (ws.any fun kv => decide (kv.1 = kI k)) = kvs.any fun kv => decide (kv.1 = k)
  | _, _, .nil => rfl
  | _, _, .cons (k := k0) _ t => by
    rw [List.any_cons, List.any_cons, RpK.any k t]
    have e : decide (List.map Sum.inl k0 = kI k) = decide (k0 = k) := decide_eq_decide.mpr ⟨fun z => kI_inj z, fun z => by rw [z]; rfl⟩
    rw [e]
theorem RpK.repl {F : Hp} {v : V} {d : D} (k : List Int) (r : Rp F v d) : ∀ {ws : List (List Key × V)} {kvs : List (List Int × D)}, RpK F ws kvs → RpK F (ws.map fun kv => if kv.1 = kI k then (kv.1, v) else kv) (kvs.map fun kv => if kv.1 = k then (kv.1, d) else kv)
  | _, _, .nil => .nil
  | _, _, .cons (k := k0) r0 t => by
    rw [List.map_cons, List.map_cons]
    by_cases e : k0 = k
    · subst e
      rw [if_pos rfl, if_pos (show List.map Sum.inl k0 = kI k0 from rfl)]
      exact .cons r (RpK.repl k0 r t)
    · rw [if_neg e, if_neg (show ¬ (List.map Sum.inl k0 = kI k) from fun z => e (kI_inj z))]
      exact .cons r0 (RpK.repl k r t)
theorem RpK.snoc {F : Hp} {v : V} {d : D} (k : List Int) (r : Rp F v d) : ∀ {ws : List (List Key × V)} {kvs : List (List Int × D)}, RpK F ws kvs → RpK F (ws ++ [(kI k, v)]) (kvs ++ [(k, d)])
  | _, _, .nil => .cons r .nil
  | _, _, .cons r0 t => .cons r0 (RpK.snoc k r t)
theorem RpK.put {F : Hp} {v : V} {d : D} {k : List Int} {ws : List (List Key × V)} {kvs : List (List Int × D)} (h : RpK F ws kvs) (r : Rp F v d) : RpK F (putK ws (kI k) v) (putD kvs k d) := by
  unfold putK putD
  rw [h.any k]
  split
  · exact h.repl k r
  · exact h.snoc k r
def mergeT (ws more : List (List Key × V)) : List (List Key × V) := more.foldl (fun acc p => putK acc p.1 p.2) ws
theorem RpK.merge {F : Hp} : ∀ {ws2 : List (List Key × V)} {kvs2 : List (List Int × D)} {ws : List (List Key × V)} {kvs : List (List Int × D)}, RpK F ws2 kvs2 → RpK F ws kvs → RpK F (mergeT ws ws2) (mergeD kvs kvs2)
  | _, _, _, _, .nil, h => h
  | _, _, ws, kvs, .cons (k := k) (v := v) (d := d) (ws := ws2) (kvs := kvs2) r t, h => by
    show RpK F (mergeT (putK ws (kI k) v) ws2) (mergeD (putD kvs k d) kvs2)
    exact RpK.merge t (h.put (k := k) r)
theorem KT.merge {H : Hp} : ∀ {more : List (List Key × V)} {xs2 : List (List Key × Addr × Value)} {ws : List (List Key × V)} {xs : List (List Key × Addr × Value)}, KT H more xs2 → KT H ws xs → KT H (mergeT ws more) (storedAllH xs xs2)
  | _, _, _, _, .nil, h => h
  | (k, v) :: m2, (k', b, u) :: x2, ws, xs, .cons z t, h => by
    obtain ⟨e, hb, r⟩ := z
    simp only at e hb r
    subst e
    show KT H (mergeT (putK ws k v) m2) (storedAllH (storedH xs k b u) x2)
    exact KT.merge t (KT.put h k hb r)
/-! ### dict(xs) -/
section
variable {X : Cx}
theorem RpA.tupI {F : Hp} {k : List Int} {vs : List V} (r : RpA F vs (k.map .int)) : vs = (kI k).map kV := by
  rw [RpA.ints_of r]
  unfold kI
  rw [List.map_map]
  rfl
theorem ents_of {P : Program} {w : World} {F H : Hp} {h : Heap} (k : Ex F H) (ok : HOk P w H h) : ∀ {vs : List V} {us : List Value} {ps : List (List Int × D)}, RpA F vs (ps.map entD) → Vals vs us →
    ∃ (ts : List Addr) (xs : List (List Key × Addr × Value)) (ws : List (List Key × V)), us = ts.map Value.ref ∧ xs.length = ts.length ∧ RpK F ws ps ∧ KT H ws xs ∧ ∀ (j : Nat) x, xs[j]? = some x → ∃ t, ts[j]? = some t ∧ PairAt h t (.ref x.2.1) x.2.2
  | _, _, [], r, v => by
    cases r
    cases v
    exact ⟨[], [], [], rfl, rfl, .nil, .nil, fun j x e => by simp at e⟩
  | _, _, p :: ps, r, v => by
    rw [List.map_cons] at r
    cases r with
    | cons r1 rt =>
      cases v with
      | cons v1 vt =>
        obtain ⟨ts, xs, ws, e1, e2, e3, e4, e5⟩ := ents_of k ok rt vt
        cases r1 with
        | @tup t zs _ ht hz =>
          cases hz with
          | @cons z1 _ zs1 _ a1 at1 =>
            cases at1 with
            | @cons z2 _ zs2 _ a2 at2 =>
              cases at2
              cases a1 with
              | @tup b ys _ hb hy =>
                have ey := RpA.tupI hy
                subst ey
                cases v1
                obtain ⟨_, its, rv, hT⟩ := (show ObjOk P w H h t (.tup [.ref b, z2]) from ok _ _ (k _ _ ht))
                obtain ⟨u1, u2, ei, r1, r2⟩ := vals2 rv
                subst ei
                cases r1
                refine ⟨t :: ts, (kI p.1, b, u2) :: xs, (kI p.1, z2) :: ws, by rw [e1]; rfl, by rw [List.length_cons, List.length_cons, e2], .cons a2 e3, .cons ⟨rfl, k _ _ hb, r2⟩ e4, fun j x e => ?_⟩
                cases j with
                | zero =>
                  cases e
                  exact ⟨t, rfl, .inl hT⟩
                | succ j =>
                  obtain ⟨t', f1, f2⟩ := e5 j x (by simpa using e)
                  exact ⟨t', by simpa using f1, f2⟩
def rDictT : List V → Hp → VK → Prop := fun vs H Q => ∃ F x ps, vs = [x] ∧ Ex F H ∧ Rp F x (.list (ps.map entD)) ∧ ∀ p ws, RpK F ws (mergeD [] ps) → H p = none → Q (.ref p) (upd H p (.dT ws))
theorem call_dictT (hcalm : X.calm = true) (hu : X.A.units + 2 < cLine) : CallR X (.type "dict") rDictT := by
  intro pins s σ H xs us Q I rr h
  obtain ⟨F, x, ps, rfl, k, rp, q⟩ := h
  obtain ⟨u, rfl, rx⟩ := vals1 rr
  cases rp with
  | @lst a ws _ ha rv =>
    cases rx
    obtain ⟨z, its, n, rw', ho⟩ := (show ObjOk X.prog X.w H s.heap a (.lst ws) from I.hok _ _ (k _ _ ha))
    obtain ⟨ts, ys, w2, e1, e2, e3, e4, e5⟩ := ents_of k I.hok rv rw'
    subst e1
    have hz : ys.length ≤ sizeLine := by
      have := rw'.length
      rw [List.length_map] at this
      omega
    have hp : PairItems s.heap (ts.map Value.ref).toArray (fun j => ts.getD j 0) (ys.map fun y => (Value.ref y.2.1, y.2.2)) := by
      refine ⟨by simp [e2], fun j kk v e => ?_⟩
      rw [List.getElem?_map] at e
      cases ey : ys[j]? with
      | none => rw [ey] at e; cases e
      | some y =>
        rw [ey] at e
        cases e
        obtain ⟨t, f1, f2⟩ := e5 j y ey
        have g : ts.getD j 0 = t := by rw [List.getD_eq_getElem?_getD, f1]; rfl
        show (List.map Value.ref ts).toArray[j]? = some (Value.ref (ts.getD j 0)) ∧ PairAt s.heap (ts.getD j 0) _ _
        rw [g]
        exact ⟨by simp [f1], f2⟩
    refine call_dict_pairsH (knd := tupleKind (mixKind X.prog X.w)) (ps := ys) (PairArg.list a (ts.map Value.ref).toArray (fun j => ts.getD j 0) (ys.map fun y => (Value.ref y.2.1, y.2.2))) (I.ok.hd hcalm) hu ⟨⟨_, n, ho, rfl, rfl, rfl⟩, hp⟩ ⟨by rw [List.length_map], fun i key v hrel => ?_⟩ (fun h' hk y hy => ?_) (by rw [List.length_map]; exact hz) fun h' tk hd' hk => ?_
    · have hrel : (ys.map fun y => (Value.ref y.2.1, y.2.2))[i]? = some (key, v) := hrel
      rw [List.getElem?_map] at hrel
      cases ey : ys[i]? with
      | none => rw [ey] at hrel; cases hrel
      | some y =>
        rw [ey] at hrel
        cases hrel
        exact ⟨y.1, y.2.1, rfl, rfl⟩
    · have all : ∀ {l : List (List Key × V)} {m : List (List Key × Addr × Value)}, KT H l m → ∀ x ∈ m, H x.2.1 = some (.tup (x.1.map kV)) := by
        intro l m q
        induction q with
        | nil => intro x hx; exact nomatch hx
        | @cons p q ps qs hq t ih =>
          intro x hx
          rcases List.mem_cons.mp hx with e | hx
          · subst e; rw [← hq.1]; exact hq.2.1
          · exact ih x hx
      have hb := all e4 y hy
      obtain ⟨_, its, r, o, h1, h2, n, h3⟩ := (show ObjOk X.prog X.w H s.heap y.2.1 (.tup (y.1.map kV)) from I.hok _ _ hb)
      exact ⟨o, its.toArray, n, hk _ _ (Nat.ne_of_lt (Heap.lt_size h1)) (by simp) h1, h2, h3, by simpa using items_are r⟩
    · have hm : (s.heap.objs.size == sysModules) = false := beq_eq_false_iff_ne.mpr (Nat.ne_of_gt I.big)
      have hlen : (mergeT [] w2).length ≤ sizeLine := by
        rw [(RpK.merge (ws := []) (kvs := []) e3 .nil).length]
        refine Nat.le_trans (mergeD_len _ _) ?_
        rw [List.length_nil, Nat.zero_add, ← e3.length]
        have := Paired.length e4
        omega
      obtain ⟨o, es, ep, g1, g2, g3, g4, _, g5⟩ := hd'
      refine ⟨.ref s.heap.objs.size, upd H s.heap.objs.size (.dT (mergeT [] w2)), I.laid (t' := tk) (fun b o e => hk b o (by simp) e) (Nat.le_refl _) ⟨hlen, hm, _, (KT.merge e4 .nil).keeps fun b ys eb => ?_, o, es, ep, g1, g2, g3, g4, g5⟩, rfl, q _ _ (RpK.merge e3 .nil) (I.hok.fresh (Nat.le_refl _))⟩
      rw [upd_ne (ne_of_none eb (I.hok.fresh (Nat.le_refl _)))]
      exact eb
/-! ### d.update(e) -/
def rUpdT : V → List V → Hp → VK → Prop := fun x vs H Q => ∃ (a b : Addr) (kvs more : List (List Key × V)), x = .ref a ∧ vs = [.ref b] ∧ a ≠ b ∧ H a = some (.dT kvs) ∧ H b = some (.dT more) ∧ kvs ≠ [] ∧ kvs.length + more.length ≤ sizeLine ∧ Q .non (upd H a (.dT (mergeT kvs more)))
theorem length_mergeT : ∀ (more kvs : List (List Key × V)), (mergeT kvs more).length ≤ kvs.length + more.length
  | [], kvs => Nat.le_refl _
  | p :: more, kvs => by
    have := length_mergeT more (putK kvs p.1 p.2)
    have := length_putK kvs p.1 p.2
    show (mergeT (putK kvs p.1 p.2) more).length ≤ _
    rw [List.length_cons]
    omega
theorem mt_updT (hu : X.A.units + 2 < cLine) : MtR X "dict.update" rUpdT := by
  intro pins s σ H x vs v us Q I rx rv h
  obtain ⟨a, b, kvs, more, ex, ev, hne, ha, hb, h0, hl, q⟩ := h
  subst ex
  subst ev
  obtain rfl : v = Value.ref a := rx
  obtain ⟨u, rfl, ru⟩ := rv.one
  obtain rfl : u = Value.ref b := ru
  obtain ⟨z1, d1, xs1, rel1, dd1⟩ := dt_of I.hok ha
  obtain ⟨z2, d2, xs2, rel2, dd2⟩ := dt_of I.hok hb
  have l1 := Paired.length rel1
  have l2 := Paired.length rel2
  have hx : xs1 ≠ [] := fun z => by rw [z] at l1; exact h0 (List.length_eq_zero_iff.mp l1)
  refine call_update_dictH (knd := tupleKind (mixKind X.prog X.w)) (show X.A.units + 1 < cLine by omega) hne d2 dd1 dd2 (.inl hx) (by omega) fun h' dd' _ hs => ?_
  have he : ∃ q, h'.get? a = some q := let ⟨q, _, _, hq, _⟩ := dd'; ⟨q, hq⟩
  have hlen : (mergeT kvs more).length ≤ sizeLine := Nat.le_trans (length_mergeT more kvs) hl
  obtain ⟨o, es, ep, g1, g2, g3, g4, _, g5⟩ := dd'
  refine ⟨.non, _, d_write (t' := s.toks) (ob := .dT (mergeT kvs more)) I (by rw [ha]; exact True.intro) hs he ⟨hlen, d1, _, (KT.merge rel2 rel1).keeps fun c ys ec => ?_, o, es, ep, g1, g2, g3, g4, g5⟩, rfl, q⟩
  rw [upd_ne (ne_of ec ha (fun z => nomatch z))]
  exact ec
end
end DL

/-! DL: dicts with tuple keys as objects of one's own: dict(..), update, comprehensions over them. -/
namespace DL
open PySem L2
section
variable {X : Cx} {r : SR} {S : List Sl}
/-- dict([(k, v), ..]) -/
theorem jdict {K : OB → List Sl → Prop} {a : Expr} {p pos : Pos} {k : Nat} (hr : Room k X.A) (hm : X.mg "dict" = none) (h : JE X r a S fun d S1 => ∃ ps : List (List Int × D), d = .list (ps.map entD) ∧ K (.d (mergeD [] ps)) S1) (hc : X.calm = true := by rfl) (hg : Gl X "dict" := by rfl) (hs : starEach [a] X.env = (false, eval a X.env) :: starEach [] X.env := by rfl) :
    JO X r (.Call (.Name "dict" p) [a] [] pos) S K := fun c F σ H hr' E Q q =>
  of_pe (pe_callTy (call_dictT hc (by have := hr.un; omega)) hg hm (by decide +kernel) (pa_cons pe_tE pa_nil hs) (by decide) (by decide) hs rfl) (h c F σ H hr' E _ fun v d F1 H1 S1 h1 E1 k1 r1 => by
    obtain ⟨ps, rfl, kd⟩ := h1
    exact ⟨F1, v, ps, rfl, E1.fin.fh, r1, fun p ws rw' n => q p _ F1 _ S1 kd (newL_ob (h := .dT ws) (o := .d (mergeD [] ps)) E1 n rw') k1⟩)
theorem int_map_inj : ∀ {a b : List Int}, a.map PyData.int = b.map PyData.int → a = b
  | [], [], _ => rfl
  | [], _ :: _, e => by cases e
  | _ :: _, [], e => by cases e
  | x :: a, y :: b, e => by
    rw [List.map_cons, List.map_cons] at e
    injection e with e1 e2
    injection e1 with e1
    rw [e1, int_map_inj e2]
theorem dctD_inj : ∀ {a b : List (List Int × D)}, dctD a = dctD b → a = b := fun {a b} h => by
  unfold dctD at h
  injection h with h
  induction a generalizing b with
  | nil => cases b with
    | nil => rfl
    | cons y b => cases h
  | cons x a ih => cases b with
    | nil => cases h
    | cons y b =>
      rw [List.map_cons, List.map_cons] at h
      injection h with h1 h2
      injection h1 with h1 h3
      injection h1 with h1
      obtain ⟨x1, x2⟩ := x
      obtain ⟨y1, y2⟩ := y
      simp only at h1 h3
      rw [int_map_inj h1, h3, ih h2]
theorem dctD_ne_ft {kvs : List (List Int × D)} {ds : List D} (e : dctD kvs = ft ds) : False := by
  unfold dctD ft at e
  injection e with e
  cases kvs with
  | nil => cases e
  | cons p t =>
    rw [List.map_cons] at e
    injection e with e1 _
    have := congrArg Prod.fst e1
    cases this
theorem rp_dct {F : Hp} {v : V} {kvs : List (List Int × D)} (r : Rp F v (dctD kvs)) : ∃ a ws, v = .ref a ∧ F a = some (.dT ws) ∧ RpK F ws kvs := by
  generalize e : dctD kvs = d at r
  cases r with
  | dct ha rk =>
    have := dctD_inj e
    subst this
    exact ⟨_, _, rfl, ha, rk⟩
  | ftup => exact (dctD_ne_ft e).elim
  | _ => unfold dctD at e; cases e
/-- x.update(e), x a dict of one's own, not empty -/
theorem jupd {e : Expr} {x : Str} {p apos cpos pos : Pos} {E : DE} {rest : List Stmt} {k : Nat} (hr : Room k X.A) (i : Nat) (kvs0 : List (List Int × D))
    (h : JE X r e S fun d S1 => ∃ kvs more, d = dctD more ∧ S1[i]? = some (.ob (.d kvs)) ∧ kvs ≠ [] ∧ kvs.length + more.length ≤ sizeLine ∧ JSs X r rest (S1.set i (.ob (.d (mergeD kvs more)))) E) (h0 : S[i]? = some (.ob (.d kvs0)) := by rfl)
    (hp : ∀ {rr : V → List V → Hp → VK → Prop}, MtR X "dict.update" rr → PS X (.Expr (.Call (.Attribute (.Name x p) "update" apos) [e] [] cpos) pos) (tDrop (tBM X.K "dict" rr (tVar i) (tCons (tE X e) tNil))) := by exact fun hm => ps_expr (pe_bm PySem.F.plainAttrs_dict PySem.F.slot_dict_update PySem.F.type_dict_update hm (pv _) (pa_cons pe_tE pa_nil))) :
    JSs X r (.Expr (.Call (.Attribute (.Name x p) "update" apos) [e] [] cpos) pos :: rest) S E := jss_cons fun c F σ H hr' Ev G g => of_ps (hp (mt_updT (by have := hr.un; omega))) (by
  obtain ⟨y, e1, a, hh, e2, ha, rv, nF, nb, q0⟩ := Ev.sl i _ h0
  subst e2
  obtain ⟨vs, rfl, rv⟩ := obr_d rv
  refine ⟨.ref a, e1, .inr (.inr (.inl ⟨rfl, .inr ⟨_, ha⟩⟩)), h c F σ H hr' Ev _ fun v d F1 H1 S1 h1 E1 k1 r1 => ?_⟩
  obtain ⟨kvs, more, rfl, e3, hne, hl, kx⟩ := h1
  obtain ⟨y, e1', a', hh', e2', ha', rv', nF', _⟩ := E1.sl i _ e3
  rw [e1] at e1'; cases e1'; cases e2'
  obtain ⟨ws, rfl, rv'⟩ := obr_d rv'
  obtain ⟨b, ws2, rfl, hb, rk⟩ := rp_dct r1
  have hab : a ≠ b := fun z => by rw [z, hb] at nF'; cases nF'
  have hw0 : ws ≠ [] := fun z => by
    have := rv'.length
    rw [z] at this
    exact hne (List.length_eq_zero_iff.mp this.symm)
  exact ⟨a, b, ws, ws2, rfl, rfl, hab, ha', E1.fin.fh _ _ hb, hw0, by rw [rv'.length, rk.length]; exact hl, g.nx F1 σ _ _ kx (E1.write (vs := .dT (mergeT ws ws2)) (ds := .d (mergeD kvs more)) e3 e1 (RpK.merge rk rv')) k1⟩)
/-! ### over the keys -/
def keysD (kvs : List (List Int × D)) : List D := kvs.map fun p => .tuple (p.1.map .int)
theorem RpK.key {F : Hp} : ∀ {ws : List (List Key × V)} {kvs : List (List Int × D)} {i : Nat} {k : List Key} {v : V}, RpK F ws kvs → ws[i]? = some (k, v) → ∃ k0 d, kvs[i]? = some (k0, d) ∧ k = kI k0
  | _, _, _, _, _, .nil, e => by simp at e
  | _, _, 0, _, _, .cons _ _, e => by simp at e; exact ⟨_, _, rfl, e.1.symm⟩
  | _, _, i + 1, k, v, .cons _ t, e => by
    obtain ⟨k0, d, h1, h2⟩ := RpK.key (i := i) (k := k) (v := v) t (by simpa using e)
    exact ⟨k0, d, by simpa using h1, h2⟩
theorem RpA.kI {F : Hp} : ∀ k : List Int, RpA F ((DL.kI k).map kV) (k.map .int)
  | [] => .nil
  | x :: k => .cons (.int x) (RpA.kI k)
theorem itkt_d {B F : Hp} {d : Addr} {od : Obj} {ws : List (List Key × V)} {kvs : List (List Int × D)} (hb : B d = some (.frz od (.dT ws))) (rk : RpK F ws kvs) : ItD (Itkt d od ws) B F (keysD kvs) := by
  have hl : (keysD kvs).length = ws.length := by unfold keysD; rw [List.length_map, rk.length]
  refine ⟨fun i H kb k hi => ⟨kb _ _ hb, by omega⟩, fun i H kb k hi => ⟨kb _ _ hb, by omega⟩, fun i H x H' kb k y hi => ?_⟩
  obtain ⟨e, kk, v, q, h1, h2, h3⟩ := y
  obtain ⟨k0, d0, g1, g2⟩ := rk.key h1
  refine .inr (.inr ⟨q, _, k0.map .int, h2, h3, e, by rw [g2]; exact RpA.kI k0, ?_⟩)
  unfold keysD
  rw [List.getElem?_map, g1]
  rfl
/-- [.. for y in x], x a dict of one's own -/
theorem jn_lcK {elt tg : Expr} {ifs : List Expr} {scope : Scope} {x : Str} {px pos : Pos} (i : Nat) (own : List (Str × Nat)) (ts : List Nat) {K : List D → List Sl → Prop} {kvs : List (List Int × D)} (e : S[i]? = some (.ob (.d kvs)))
    (h : ∃ I : Nat → List D → List Sl → Prop, I 0 [] (S.set i .emp) ∧ (∀ j acc S', I j acc S' → j ≤ kvs.length → acc.length < sizeLine ∧ S'[i]? = some .emp ∧ ∀ j ∈ own.map (·.2), ∀ xs, S'[j]? ≠ some (.ob xs)) ∧
      (∀ j d acc S', (keysD kvs)[j]? = some d → I j acc S' → LcTurn X r scope tg elt ifs (own.map (·.2)) ts d S' (fun y S4 => I (j + 1) (acc ++ [y]) S4) fun S4 => I (j + 1) acc S4) ∧ ∀ acc S', I kvs.length acc S' → K acc (S'.set i (.ob (.d kvs))))
    (hc : X.calm = true := by rfl) (hN : X.N.Nodup := by assumption) (ok : BlkOk X.N X.env.scope scope own := by exact blkOk_by rfl) (hs : ∀ y, foldedSetIterable (.Name x px) X.env y = pure y := by intro _; rfl) (hts : ∀ j ∈ ts, j ∈ own.map (·.2) := by decide)
    (hNi : X.N[i]? = some x := by rfl) (hv : Vis X.env.scope x := by first | exact Or.inl rfl | exact Or.inr (Or.inl rfl) | exact Or.inr (Or.inr rfl)) (hd : (x == ("__debug__" : Str)) = false := by decide) (hcd : (x == ("__classdict__" : Str)) = false := by decide) :
    JN X r (.ListComp elt [⟨tg, .Name x px, ifs, 0⟩] scope pos) S K := fun c F σ H hr E Q q => by
  obtain ⟨y, e1, d, hh, e2, ha, rv, nF, nB, ns⟩ := E.sl i _ e
  subst e2
  obtain ⟨ws, rfl, rk⟩ := obr_d rv
  have hl : i < S.length := (List.getElem?_eq_some_iff.mp e).1
  have nF0 : c.F0 d = none := E.fin.f0.back nF
  have E0 := E.hide (i := i) hl
  have no : ∀ (j : Nat) xs, (S.set i .emp)[j]? = some (.ob xs) → σ[j]? ≠ some (some (.ref d)) := fun j xs ej ea => by
    by_cases hj : i = j
    · subst hj; rw [List.getElem?_set_self hl] at ej; cases ej
    · rw [List.getElem?_set_ne hj] at ej
      exact hj (E.ds i j _ _ d e ej e1 ea)
  have kl : (keysD kvs).length = kvs.length := by unfold keysD; rw [List.length_map]
  obtain ⟨I, i0, side, step, fin⟩ := h
  refine of_pe (pe_lock (pe_lc hc hN (pi_keys (pe_var hNi hv hd hcd)) ok pg_tGb pts_tTsb pe_tEb hs)) ⟨d, .dT ws, ha, True.intro, fun od => ?_⟩
  have E1 : EvD c (S.set i .emp) F σ (upd H d (.frz od (.dT ws))) := E0.put nF nB ns no
  have E2 := E1.hold upd_same nF ns no
  have run : JIw (iKeys (tVar i)) (c.hold d (.frz od (.dT ws))) F σ (upd H d (.frz od (.dT ws))) fun ds S' => (∃ I : Nat → List D → List Sl → Prop, I 0 [] S' ∧ (∀ i acc S', I i acc S' → i ≤ ds.length → acc.length < sizeLine ∧ ∀ j ∈ own.map (·.2), ∀ xs, S'[j]? ≠ some (.ob xs)) ∧
      (∀ i d acc S', ds[i]? = some d → I i acc S' → LcTurn X r scope tg elt ifs (own.map (·.2)) ts d S' (fun y S4 => I (i + 1) (acc ++ [y]) S4) fun S4 => I (i + 1) acc S4) ∧ ∀ acc S', I ds.length acc S' → (S'[i]? = some .emp ∧ K acc (S'.set i (.ob (.d kvs))))) := fun R k => by
    refine ⟨.ref d, e1, d, od, rfl, .inr ⟨ws, upd_same, k _ (keysD kvs) F _ _ ⟨I, i0, fun j acc S' hI hj => ?_, step, fun acc S' hI => ?_⟩ E2 (Ex.refl F) (itkt_d (show upd c.B d _ d = _ from upd_same) rk)⟩⟩
    · obtain ⟨s1, _, s2⟩ := side j acc S' hI (by omega)
      exact ⟨s1, s2⟩
    · rw [kl] at hI
      exact ⟨(side _ acc S' hI (Nat.le_refl _)).2.1, fin acc S' hI⟩
  refine lc_runc (r := r) (K := fun acc S' => S'[i]? = some .emp ∧ K acc (S'.set i (.ob (.d kvs)))) ts hts (c.hold d (.frz od (.dT ws))) F σ _ (r.st _ _ _ nB hr) _ (fun p ds F' H' S' kk n kF => ?_) run
  obtain ⟨e3, kk⟩ := kk
  obtain ⟨h9, E3, g1, g2, g3, g4, g5, g6⟩ := n
  have hpd : p ≠ d := fun z => by rw [z, show (c.hold d (.frz od (.dT ws))).B d = some _ from upd_same] at g4; cases g4
  obtain ⟨E4, f1, f2, f3, f4⟩ := E3.unhold (vs := .frz od (.dT ws)) (fun _ z => nomatch z) nB nF0
  have E5 : EvD c S' F' σ (upd H' d (.dT ws)) := E4.put f2 nB f3 f4
  have es : σ.set i (some (.ref d)) = σ := by
    apply List.ext_getElem?
    intro j
    by_cases hj : i = j
    · subst hj
      rw [List.getElem?_set_self (by rw [E.len]; exact hl), e1]
    · rw [List.getElem?_set_ne hj]
  have rk' : RpK F' ws kvs := rk.ex kF
  have E6 := E5.setOwn (i := i) (a := d) (vs := .dT ws) (ds := .d kvs) upd_same rk' f2 nB f3 f4
  rw [es] at E6
  refine ⟨f1, q p _ F' _ _ kk ⟨h9, E6, by rw [upd_ne hpd]; exact g1, g2, g3, ?_, g5, fun j xs ej ea => ?_⟩ kF⟩
  · have g4' : upd c.B d (.frz od (.dT ws)) p = none := g4
    rw [upd_ne hpd] at g4'; exact g4'
  · by_cases hj : i = j
    · subst hj
      rw [e1] at ea
      cases ea
      exact hpd rfl
    · rw [List.getElem?_set_ne hj] at ej
      exact g6 j xs ej ea
end
end DL

/-! DL: the end of a law whose def calls repr: run where no repr is under way. -/
namespace DL
open PySem L2 PySem.Spec PyProof.Rows
/-- the promise of a def, where no repr is under way -/
def FnG (P : Program) (w : World) (K : PySem.W.Frag) (mg : Str → Option Value) (base : Heap) (k : Nat) (f : Addr) (fd : FuncData) (ps : List Str) (sp : Sp) : Prop :=
  ∀ (A : Around) (outer : List Env) (s : Shared) (H : Hp) (args : Args) (us : List Value) (vs : List V) (Q : VK) (E : XK), A.guards = some [] → Room k A → Env0 P w K mg base A outer s H →
    BindsTo s fd args (ps.zip us) → Vals vs us → sp vs H Q E → codeAny (model P w) A (.call (.ref f) args) (CR CX0 outer P w H s Q E) s
section
variable {P : Program} {w : World} {K : PySem.W.Frag} {mg : Str → Option Value} {base : Heap}
theorem fnG_of {x qual : Str} {st : Stmt} {f : Addr} {fd : FuncData} {N ps : List Str} {k : Nat} {sp : Sp} (F : Fun K x qual st f fd) (Sc : FnScope N ps (defScope st)) (len : ∀ vs H Q E, sp vs H Q E → vs.length = ps.length)
    (hbody : ∀ (cdv : Value) (A : Around) (outer : List Env) (s : Shared) (H : Hp) (vs : List V) (Q : VK) (E : XK), A.guards = some [] → Room k (A.deeper (envOfC qual (defScope st) s.heap.objs.size f cdv)) → sp vs H Q E →
      ∃ t, PSs (cxOf CX0 P w K mg base N qual (defScope st) f cdv A outer s H E).nox (defBody st) t ∧ t { nx := fun _ H' => Q .non H', rt := Q } (start N vs) H) : FnG P w K mg base (k + 1) f fd ps sp := by
  obtain ⟨oc, od, kV, doc, pm, an, cdv, ct, osl, rfl, lk, hcd⟩ := F.ex
  intro A outer s H args us vs Q E hg hr e0 hb rv hsp
  obtain ⟨t, ht, hq⟩ := hbody cdv A outer s H vs Q E hg (hr.deeper _) hsp
  have hlen := len _ _ _ _ hsp
  have up : ∀ b o, base.get? b = some o → s.heap.get? b = some o := fun b o e => (e0.bs b o e).1
  have KX : K.In s.heap := e0.mod.kin.keeps up
  have kinds : ∀ y ∈ ps.zip us, (defScope st).names.lookup y.1 = some .local ∨ ((defScope st).names.lookup y.1 = some .cell ∧ ((cellsFrom (s.heap.objs.size + 1) (defScope st).names []).lookup y.1).isSome = true) := by
    rintro ⟨a, b⟩ hy
    exact (Sc.par a (List.of_mem_zip hy).1).elim .inl fun z => .inr ⟨z, PySem.W.cellsFrom_some _ _ _ (.inl z)⟩
  refine codeAny_call_function hr.depth (KX _ _ lk) rfl Sc.co Sc.gen rfl (PySem.W.codeRec_of KX hcd) (hb _ _ _ _ (wpAny_newFunctionEnv_cells Sc.kind kinds ?_))
  rintro env rfl s1 x
  refine ⟨(e0.mod.nolimit.keeps up).keeps x.toInCall.keep, codeAny_func (wpAny_mono (ht.nox.run [] s1 (start N vs) H _ (inv_start Sc hr.hd e0 hlen rv x) hq) ?_ fun e s' hs => ?_)⟩
  · intro fl s' hs
    cases fl with
    | brk => exact hs.elim fun _ z => z.elim fun _ z => z.2.elim
    | cont => exact hs.elim fun _ z => z.elim fun _ z => z.2.elim
    | next => obtain ⟨σ', H', J, q⟩ := hs; exact ⟨V.non, H', J.os, J.bare, J.base, J.hok, rfl, q⟩
    | ret u => obtain ⟨v, σ', H', J, r, q⟩ := hs; exact ⟨v, H', J.os, J.bare, J.base, J.hok, r, q⟩
  · exact hs
/-- the law's promise, at the heap behind the top -/
theorem law_atG {mb : Str → Option Value} {k : Nat} {fa a : Addr} {fd : FuncData} {x : Str} {sp : Sp} {t : Shared} {us : List Value} {ns : List Int} (KX : K.In t.heap) (gn : t.heap.Ns mainGlobals mg) (bn : t.heap.Ns builtinsNs mb) (bb : ∀ y : Str, y ≠ "__name__" → mb y = bootBuiltins y)
    (nl : t.heap.NoLimit) (ng : t.gens = #[]) (ha : t.heap.get? a = some { cls := .type "list", data := .seq us.toArray }) (hi : IntsAre us ns) (hl : ns.length ≤ sizeLine) (hr : Room k callerA) (F : ∀ base : Heap, K.In base → base.Ns mainGlobals mg → FnG P w K mg base k fa fd [x] sp)
    (bd : ∀ (s : Shared) (u : Value), BindsTo s fd ⟨[u], []⟩ [(x, u)]) (hsp : ∀ H : Hp, Only H → SqL K H a (ns.map V.int) → sp [.ref a] H (fun v _ => v = .bl true) fun _ _ _ => False) :
    codeAny (model P w) callerA (.call (.ref fa) ⟨[.ref a], []⟩) (fun r s' => r = .ok (.ret (.bool true)) ∧ OldK t.heap s'.heap ∧ s'.os = t.os ∧ AllBare s'.gens) t := by
  have rv := vals_ints hi
  have lenU := hi.length
  let ob : Obj := { cls := .type "list", data := .seq us.toArray }
  let H : Hp := fun b => if b = a ∧ K.lookup a = none then some (.frz ob (.lst (ns.map V.int))) else none
  have Hat : ∀ {b : Addr} {u : HO}, H b = some u → b = a ∧ K.lookup a = none ∧ u = .frz ob (.lst (ns.map V.int)) := fun {b u} e => by
    by_cases z : b = a ∧ K.lookup a = none
    · have e2 : H b = some (.frz ob (.lst (ns.map V.int))) := if_pos z
      rw [e2] at e; cases e; exact ⟨z.1, z.2, rfl⟩
    · have e2 : H b = none := if_neg z
      rw [e2] at e; cases e
  have only : Only H := fun b => by
    cases e : H b with
    | none => exact .inl rfl
    | some u => obtain ⟨_, _, z⟩ := Hat e; exact .inr ⟨_, _, by rw [z]⟩
  have sq : SqL K H a (ns.map V.int) := by
    by_cases z : K.lookup a = none
    · exact .inl (.inr ⟨ob, if_pos ⟨rfl, z⟩⟩)
    · obtain ⟨o, eo⟩ := Option.ne_none_iff_exists'.mp z
      have e := KX a o eo
      rw [ha] at e
      cases e
      exact .inr ⟨ob, us.toArray, _, eo, rfl, rfl, rfl, by rw [List.size_toArray, lenU]; exact hl, by simpa using rv⟩
  have ok : HOk P w H t.heap := fun b u e => by
    obtain ⟨rfl, _, rfl⟩ := Hat e
    exact ⟨ha, by rw [List.length_map]; exact hl, us, _, rv, ha⟩
  have stay : ∀ {b : Addr} {o : Obj}, t.heap.get? b = some o → b ≠ a ∨ K.lookup a ≠ none → (hidT t.heap H).get? b = some o := fun {b o} e z => hidT_get e (if_neg fun y => z.elim (fun q => q y.1) fun q => q y.2)
  have nsUp : ∀ {b : Addr} {m : Str → Option Value}, t.heap.Ns b m → (hidT t.heap H).Ns b m := fun {b m} ⟨o, es, ep, e, d, r⟩ => ⟨o, es, ep, stay e (.inl fun z => by
    subst z
    rw [ha] at e; cases e
    have d2 : Data.seq us.toArray _ = Data.dict es ep := d
    cases d2), d, r⟩
  have KH : K.In (hidT t.heap H) := fun b o e => stay (KX b o e) (by
    by_cases z : b = a
    · subst z; exact .inr (by rw [e]; simp)
    · exact .inl z)
  have md : Mod K mg (hidT t.heap H) := by
    obtain ⟨mc, c1, c2⟩ := nl
    exact ⟨KH, nsUp gn, ⟨mb, nsUp bn, bb⟩, mc, nsUp c1, c2⟩
  have e0 : Env0 P w K mg (hidT t.heap H) callerA [] t H := ⟨rfl, md, fun b o e => of_hidT e, Nat.le_of_eq (hidT_size _ _), trivial, fun b hb => (by cases hb), ok, .of_eq ng⟩
  refine codeAny_mono (F _ KH (nsUp gn) callerA [] t H ⟨[.ref a], []⟩ [.ref a] [.ref a] _ _ rfl hr e0 (bd t (.ref a)) (.cons rfl .nil) (hsp H only sq)) ?_
  rintro (e | fl) s' h
  · exact False.elim h
  · cases fl with
    | next => exact False.elim h
    | brk => exact False.elim h
    | cont => exact False.elim h
    | ret u =>
      obtain ⟨v, H', hos, hbare, un, hok', r', q⟩ := h
      subst q
      obtain rfl : u = Value.bool true := r'
      refine ⟨rfl, OldK.of_keep fun b o e => ?_, hos, hbare⟩
      cases eb : H b with
      | none => exact un.keep b o e eb (fun z => by cases z) (by simp)
      | some y =>
        obtain ⟨_, _, rfl⟩ := Hat eb
        have g2 := (hok' b _ (un.frzs b _ _ eb)).1
        rw [(ok b _ eb).1] at e; cases e
        exact g2
end
/-- the goal that k_head leaves -/
theorem walk_G {l : PySem.W.OpenLaw} {n k : Nat} {q : Program} {loose : List Str} {XP : (Str → Option Value) → Heap → Prop} {YP : World → Heap → Prop} {d : DefRec} {K : Params → PySem.W.Frag} {sp : PySem.W.Frag → Sp} {x : Str} (hn : l.most = some n) (hn2 : n ≤ sizeLine) (hdf : d.params.defaults = []) (hr : Room k callerA)
    (hY : ∀ (w : World) (h : Heap), YP w h → (K w.params).In h) (F : ∀ (w : World) (mg : Str → Option Value) (fa : Addr) (h : Heap), (K w.params).In h → h.Ns mainGlobals mg → mg d.name = some (.ref fa) → ∃ fd : FuncData, (∀ (s : Shared) (u : Value), BindsTo s fd ⟨[u], []⟩ [(x, u)]) ∧
      ∀ base : Heap, (K w.params).In base → base.Ns mainGlobals mg → FnG l.prog w (K w.params) mg base k fa fd [x] (sp (K w.params)))
    (hsp : ∀ (K : PySem.W.Frag) (H : Hp) (a : Addr) (ns : List Int), ns.length ≤ n → Only H → SqL K H a (ns.map V.int) → sp K [.ref a] H (fun v _ => v = .bl true) fun _ _ _ => False) : PySem.W.WalkO q loose XP YP l.row.toRowW d [] (fun f vs => PySem.call f vs) := by
  refine Att.attach_call hn hdf fun w s₀ t mg mb fa o pm cd doc a us ns G Y ho hd hcd hmg hobj hints hlen hg => ?_
  obtain ⟨fd, bd, hF⟩ := F w mg fa _ (hY w _ Y) G.T.g hmg
  exact law_atG (hY w _ Y) G.T.g G.T.b G.T.builtins G.T.nolimit hg hobj hints (Nat.le_trans hlen hn2) hr hF bd fun H hO hS => hsp (K w.params) H a ns hlen hO hS
end DL

/-! DL: data that can be told by repr. -/
namespace DL
open PySem L2
structure ShD (k w : Nat) (d : D) : Prop where
  ni : Nice k d
  sh : d.showable = true
  hd : d.hasDict = false
  lv : d.leavesShort 13 = true
  wt : d.weight ≤ w
theorem ShD.mono {k k' w w' : Nat} {d : D} (h : ShD k w d) (hk : k ≤ k') (hw : w ≤ w') : ShD k' w' d := ⟨h.ni.mono hk, h.sh, h.hd, h.lv, Nat.le_trans h.wt hw⟩
theorem log2_small {a : Nat} (h : a < 1000000) : a.log2 < 20 := by
  by_cases z : a = 0
  · subst z; decide
  · exact (Nat.log2_lt z).mpr (by omega)
theorem sh_int {k : Nat} {i : Int} (h : i.natAbs < 1000000) : ShD k 20 (.int i) := by
  refine ⟨nice_int i, ?_, rfl, ?_, ?_⟩
  · simp only [PyData.showable, decide_eq_true_eq]
    have := log2_small h
    omega
  · simp only [PyData.leavesShort, decide_eq_true_eq]
    exact PyData.shown_int_le (by omega)
  · simp only [PyData.weight]
    have := log2_small h
    split <;> omega
theorem sh_bool {k w : Nat} (b : Bool) : ShD k w (.bool b) := ⟨nice_bool b, rfl, rfl, rfl, Nat.zero_le _⟩
theorem sh_none {k w : Nat} : ShD k w .none := ⟨nice_none, rfl, rfl, rfl, Nat.zero_le _⟩
theorem showableAll_of : ∀ {ds : List D}, (∀ d ∈ ds, d.showable = true) → PyData.showableAll ds = true
  | [], _ => rfl
  | d :: ds, h => by
    rw [PyData.showableAll, h d List.mem_cons_self, showableAll_of fun x hx => h x (List.mem_cons_of_mem _ hx)]; rfl
theorem hasDictAll_of : ∀ {ds : List D}, (∀ d ∈ ds, d.hasDict = false) → PyData.hasDictAll ds = false
  | [], _ => rfl
  | d :: ds, h => by
    rw [PyData.hasDictAll, h d List.mem_cons_self, hasDictAll_of fun x hx => h x (List.mem_cons_of_mem _ hx)]; rfl
theorem leavesShortAll_of {B : Nat} : ∀ {ds : List D}, (∀ d ∈ ds, d.leavesShort B = true) → PyData.leavesShortAll B ds = true
  | [], _ => rfl
  | d :: ds, h => by
    rw [PyData.leavesShortAll, h d List.mem_cons_self, leavesShortAll_of fun x hx => h x (List.mem_cons_of_mem _ hx)]; rfl
theorem weightAll_of {w : Nat} : ∀ {ds : List D}, (∀ d ∈ ds, d.weight ≤ w) → PyData.weightAll ds ≤ ds.length * (w + 1)
  | [], _ => Nat.zero_le _
  | d :: ds, h => by
    have h1 := h d List.mem_cons_self
    have h2 := weightAll_of (ds := ds) fun x hx => h x (List.mem_cons_of_mem _ hx)
    rw [PyData.weightAll, List.length_cons, Nat.add_mul]
    omega
theorem sh_tup {k w : Nat} {ds : List D} (h : ∀ d ∈ ds, ShD k w d) : ShD (k + 1) (ds.length * (w + 1)) (.tuple ds) :=
  ⟨nice_tup fun d hd => (h d hd).ni, by simp only [PyData.showable]; exact showableAll_of fun d hd => (h d hd).sh, by simp only [PyData.hasDict]; exact hasDictAll_of fun d hd => (h d hd).hd, by simp only [PyData.leavesShort]; exact leavesShortAll_of fun d hd => (h d hd).lv, by simp only [PyData.weight]; exact weightAll_of fun d hd => (h d hd).wt⟩
theorem sh_list {k w : Nat} {ds : List D} (h : ∀ d ∈ ds, ShD k w d) : ShD (k + 1) (ds.length * (w + 1)) (.list ds) :=
  ⟨nice_list fun d hd => (h d hd).ni, by simp only [PyData.showable]; exact showableAll_of fun d hd => (h d hd).sh, by simp only [PyData.hasDict]; exact hasDictAll_of fun d hd => (h d hd).hd, by simp only [PyData.leavesShort]; exact leavesShortAll_of fun d hd => (h d hd).lv, by simp only [PyData.weight]; exact weightAll_of fun d hd => (h d hd).wt⟩
section
variable {X : Cx} {r : SR} {S : List Sl}
theorem cd_repr {k : Nat} (hr : Room k X.A) {d : D} {K : D → Prop} (h : ShD 40 (2 ^ 20) d) (kd : K (.str d.shown)) : CallD (rRepr X) [d] K := fun F H vs kF rv Q q => by
  cases rv with
  | cons r1 t =>
    cases t
    exact ⟨F, _, d, rfl, kF, r1, h.ni.pl, h.sh, h.hd, by have := h.ni.dp; have := hr.un; omega, PyData.shown_fits (B := 13) (by decide) (by decide) h.lv h.wt, q _ _ F H kd (Grow.refl kF) (.str _)⟩
theorem jrepr {K : D → List Sl → Prop} {a : Expr} {p pos : Pos} {k : Nat} (hg0 : X.A.guards = some []) (hr : Room k X.A) (hm : X.mg "repr" = none) (h : JE X r a S fun d S1 => ShD 40 (2 ^ 20) d ∧ K (.str d.shown) S1) (hg : Gl X "repr" := by rfl) (hs : starEach [a] X.env = (false, eval a X.env) :: starEach [] X.env := by rfl) : JE X r (.Call (.Name "repr" p) [a] [] pos) S K :=
  jB (call_repr hg0) hm (ja1 (h.mono fun d S1 ⟨h1, k⟩ => ⟨[d], rfl, cd_repr hr h1 k⟩) hs) hg (by decide +kernel) (by decide) (by decide) hs rfl
end
end DL

/-! DL: sorted(..) of tuples, some of them empty. -/
namespace DL
open PySem L2 PyProof.Rows PySem.W
section
variable {prog : Program} {w : World} {A : Around} {s : Shared}
/-- the call of tuple's own __lt__, as sorting makes it -/
theorem call_tup_lt {E : Value → Shared → Prop} {Q : Value → Shared → Prop} {l b : Addr} {items items2 : Array Value} {e r : Nat → Bool} (hl : s.heap.IsTuple l items) (hb : s.heap.IsTuple b items2)
    (he : ∀ j (h1 : j < items.size) (h2 : j < items2.size), SeqAt.EqAt A.in1 s items[j] items2[j] (e j)) (hr : ∀ j (h1 : j < items.size) (h2 : j < items2.size), e j = false → SeqAt.RcLt A.in1 s items[j] items2[j] (r j))
    (h : Q (.bool (SeqAt.firstLt e r (decide (items.size < items2.size)) (List.range (min items.size items2.size)))) s) : wpAny (model prog w) A (call (.builtin "tuple.__lt__") [.ref l, .ref b]) Q E s := by
  obtain ⟨⟨c1, d1, t1, s1⟩, h1, h2, n1, h3⟩ := id hl
  obtain ⟨⟨c2, d2, t2, s2⟩, k1, k2, n2, k3⟩ := id hb
  simp only at h2 h3 k2 k3
  subst h2 h3 k2 k3
  exact call_meets F.slot_tuple_lt ⟨_, h1, rfl⟩ F.entry_tuple_lt (F.args_tuple_lt_2 _ _) (SeqAt.tuple_ltAt l b items items2 n1 n2 d1 d2 s1 s2 e r) ⟨h1, k1, he, hr, h⟩
theorem oneLt_tups {xs ys : List PyData} {a b : Value} {as bs : List Addr} {E : Value → Shared → Prop} {Q : Bool → Shared → Prop} (ra : Reads s.heap a (.tuple xs) as) (rb : Reads s.heap b (.tuple ys) bs) (h : alikeAll xs ys = true)
    (hu : A.units + min (PyData.tuple xs).depth (PyData.tuple ys).depth < cLine) (hq : Q (dataLt (.tuple xs) (.tuple ys)) s) : wpAny (model prog w) A (oneLt' true a b) Q E s := by
  cases ra with
  | @tuple l o vs n _ as1 h1 h2 h3 h4 =>
    cases rb with
    | @tuple l2 o2 vs2 n2 _ bs1 k1 k2 k3 k4 =>
      have e1 : vs.size = xs.length := by simpa using SeqAt.ReadsAll.length _ _ _ h4
      have e2 : vs2.size = ys.length := by simpa using SeqAt.ReadsAll.length _ _ _ k4
      rw [dataLt_tuple, ← firstLt_toks xs ys h, ← e1, ← e2] at hq
      rw [oneLt'_eq]
      simp only [if_true]
      refine wpAny_bind (wpAny_cRoomFor (SeqAt.room_here hu) (wpAny_bind (wpAny_callSpecialIfBound?_slot (T := "tuple") ⟨_, h1, h2⟩ F.slot_tuple_lt (call_tup_lt (e := SeqAt.pairEq xs ys) (r := fun j => dataLt (xs.getD j .none) (ys.getD j .none)) ⟨_, h1, h2, _, h3⟩ ⟨_, k1, k2, _, k3⟩ (fun j j1 j2 => ?_) (fun j j1 j2 hj => ?_) (wpAny_truthy_bool hq)))))
      · exact eqAt_alikeAll xs ys A.in1 s vs.toList vs2.toList _ _ h4 k4 h (SeqAt.room_in hu) j (by simpa using j1) (by simpa using j2)
      · exact rcLt_alikeAll xs ys A.in1 s vs.toList vs2.toList _ _ h4 k4 h (SeqAt.room_in hu) j (by simpa using j1) (by simpa using j2) hj
/-- the first items of tuples, where they have any -/
theorem firsts_mapM {M : Model} {E : Value → Shared → Prop} : ∀ {vs : List Value} {ds : List PyData}, EachIs (fun v d => ∃ as, Reads s.heap v d as) vs ds → (∀ d ∈ ds, ∃ xs, d = .tuple xs) →
    ∃ fs : List (Option Value), EachIs (fun o d => ∃ xs, d = PyData.tuple xs ∧ o.isSome = !xs.isEmpty) fs ds ∧ ∀ {Q : List (Option Value) → Shared → Prop}, Q fs s → wpAny M A (vs.mapM firstOfTuple') Q E s
  | _, _, .nil, _ => ⟨[], .nil, fun {Q} h => by rw [List.mapM_nil]; exact wpAny_pure h⟩
  | _, _, .cons (a := v) (as := vs) (b := d) (bs := ds) ⟨as, r⟩ t, ht => by
    obtain ⟨fs, g1, g2⟩ := firsts_mapM (M := M) (E := E) t fun d hd => ht d (List.mem_cons_of_mem _ hd)
    obtain ⟨xs, rfl⟩ := ht d List.mem_cons_self
    cases r with
    | @tuple a o its n _ _ h1 h2 h3 h4 =>
      have hl : its.size = xs.length := by simpa using SeqAt.ReadsAll.length _ _ _ h4
      refine ⟨its[0]? :: fs, .cons ⟨xs, rfl, ?_⟩ g1, fun {Q} h => ?_⟩
      · cases xs with
        | nil =>
          rw [Array.getElem?_eq_none (by have h0 : its.size = 0 := hl; omega)]
          rfl
        | cons x xs =>
          rw [Array.getElem?_eq_getElem (by have h0 : its.size = xs.length + 1 := hl; omega)]
          rfl
      · rw [List.mapM_cons]
        refine wpAny_bind ?_
        rw [kas_first_eq]
        refine wpAny_bind (Looks.here (show Looks M s.heap (typeOf (.ref a)) o.cls from (Looks.ld h1).andThen .now) ?_)
        rw [h2, if_neg (by first | decide | simp)]
        exact wpAny_bind (listItems_at h1 h3 (wpAny_pure (wpAny_bind (g2 (Q := fun bs s' => wpAny M A (pure (its[0]? :: bs)) Q E s') (wpAny_pure h)))))
theorem each_len {α β : Type} {R : α → β → Prop} : ∀ {as : List α} {bs : List β}, EachIs R as bs → as.length = bs.length
  | _, _, .nil => rfl
  | _, _, .cons _ t => by rw [List.length_cons, List.length_cons, each_len t]
theorem each_all {fs : List (Option Value)} {ds : List PyData} (h : EachIs (fun o d => ∃ xs, d = PyData.tuple xs ∧ o.isSome = !xs.isEmpty) fs ds) (ha : fs.all (·.isSome) = true) : ∀ d ∈ ds, ∃ x r, d = PyData.tuple (x :: r) := by
  induction h with
  | nil => intro d hd; cases hd
  | @cons o d fs ds r t ih =>
    intro e he
    rw [List.all_cons, Bool.and_eq_true] at ha
    rcases List.mem_cons.mp he with rfl | he
    · obtain ⟨xs, rfl, h2⟩ := r
      rw [ha.1] at h2
      cases xs with
      | nil => cases h2
      | cons x xs => exact ⟨x, xs, rfl⟩
    · exact ih ha.2 e he
theorem sortsAt_tups {vs : List Value} {ds : List PyData} (e : EachIs (fun v d => ∃ as, Reads s.heap v d as) vs ds) (hal : AllAlike ds) (ht : ∀ d ∈ ds, ∃ xs, d = PyData.tuple xs) (hu : ∀ d, d ∈ ds → A.units + d.depth < cLine) : SortsAt prog w A s (dataKind s.heap ds) vs := by
  by_cases hne : ∀ d ∈ ds, ∃ x r, d = PyData.tuple (x :: r)
  · exact SortsAt.data e hal (.inl hne) hu
  have room : ∀ {d d' : PyData}, d ∈ ds → A.units + min d.depth d'.depth < cLine := fun {d d'} hd => Nat.lt_of_le_of_lt (Nat.add_le_add_left (Nat.min_le_left _ _) _) (hu d hd)
  refine ⟨fun v hv => ?_, ?_⟩
  · obtain ⟨d, hd, as, r⟩ := e.left v hv
    exact ⟨_, dataKind_some hal hd r⟩
  have both : ∀ f : Bool, ∀ (E : Value → Shared → Prop) (x y : Value) (a b : (dataKind s.heap ds).α) {Q : Bool → Shared → Prop}, (dataKind s.heap ds).keyOf x = some a → (dataKind s.heap ds).keyOf y = some b → Q ((dataKind s.heap ds).blt a b) s → wpAny (model prog w) A (oneLt' f x y) Q E s := by
    intro f E x y a b Q ha hb hq
    obtain ⟨d, as, hd, ra, rfl⟩ := dataKind_inv ha
    obtain ⟨d', as', hd', rb, rfl⟩ := dataKind_inv hb
    obtain ⟨xs, rfl⟩ := ht d hd
    obtain ⟨ys, rfl⟩ := ht d' hd'
    have al := hal _ hd _ hd'
    cases f with
    | false => exact oneLt_alike (fun z => by cases z) ra rb al (fun z => by cases z) (room hd) hq
    | true => exact oneLt_tups ra rb (by simpa [alike] using al) (room hd) hq
  cases ds with
  | nil => exact absurd (fun d hd => by cases hd) hne
  | cons d0 ds0 =>
    obtain ⟨xs0, e0⟩ := ht d0 List.mem_cons_self
    refine ⟨if xs0 = [] then oneType' else general', ?_, fun h2 E Q hq => ?_⟩
    · intro E x y a b Q ha hb hq
      by_cases z : xs0 = []
      · rw [if_pos z]
        exact both true E x y a b ha hb hq
      · rw [if_neg z]
        exact both false E x y a b ha hb hq
    · obtain ⟨fs, g1, g2⟩ := firsts_mapM (M := model prog w) (A := A) (E := E) e ht
      rw [keyKind'_eq, List.mapM_toArray, map_eq_pure_bind]
      refine wpAny_bind (wpAny_bind (g2 (wpAny_pure ?_)))
      have hall : fs.toArray.all (·.isSome) = false := by
        cases q : fs.toArray.all (·.isSome) with
        | false => rfl
        | true =>
          rw [List.all_toArray] at q
          exact absurd (each_all g1 q) hne
      rw [if_neg (by rw [hall]; exact Bool.false_ne_true)]
      cases g1 with
      | @cons o _ fs1 _ r t =>
        obtain ⟨xs, e1, h1⟩ := r
        rw [e0] at e1
        cases e1
        have hf : (((o :: fs1).toArray)[0]?.bind id) = o := by simp
        rw [hf]
        by_cases z : xs0 = []
        · rw [if_pos z] at hq
          subst z
          rw [if_neg (by rw [h1]; decide)]
          rw [oneTypeOnly'_eq, List.mapM_toArray, map_eq_pure_bind]
          have looks : ∀ v ∈ vs, Looks (model prog w) s.heap (typeOf v) (Value.type "tuple") := fun v hv => by
            obtain ⟨d, hd, as, r⟩ := e.left v hv
            obtain ⟨ys, rfl⟩ := ht d hd
            exact looks_reads r
          refine wpAny_bind (wpAny_bind (wpAny_bind (kas_mapM (r := Value.type "tuple") _ (fun v hv Q' hq => (looks v hv).here hq) (wpAny_pure ?_))))
          obtain ⟨v1, vr, rfl⟩ : ∃ v1 vr, vs = v1 :: vr := by
            cases vs with
            | nil => simp at h2
            | cons v1 vr => exact ⟨v1, vr, rfl⟩
          have hall2 : ((List.map (fun _ => Value.type "tuple") (v1 :: vr)).toArray.all fun x => x == Value.type "tuple") = true := by
            simp only [List.all_toArray, List.all_map, List.all_eq_true]
            intro _ _
            exact beq_self_eq_true _
          have h0 : (List.map (fun _ => Value.type "tuple") (v1 :: vr)).toArray[0]? = some (Value.type "tuple") := by simp
          rw [h0]
          simp only [hall2, if_true]
          exact wpAny_pure (wpAny_pure hq)
        · rw [if_neg z] at hq
          have hs : o.isSome = true := by
            rw [h1]
            cases xs0 with
            | nil => exact absurd rfl z
            | cons x xs => rfl
          rw [if_pos hs]
          exact wpAny_pure hq
end
end DL

/-! DL: tuples of ints in order; sorted(..) of them, of a dict's keys; a dict's get, in, store; isinstance, sum, stars. -/
namespace DL
open PySem L2
def tupI (l : List Int) : D := .tuple (l.map .int)
theorem tupI_inj {a b : List Int} (h : tupI a = tupI b) : a = b := int_map_inj (by unfold tupI at h; injection h)
theorem nice_tupI {n : Nat} (l : List Int) : Nice (n + 1) (tupI l) := nice_tup (nice_map fun i => nice_int i)
/-! ### the order -/
abbrev ltL : List Int → List Int → Bool := PySem.W.listLt (α := Int)
def leL (a b : List Int) : Bool := !ltL b a
theorem lt_tupI (a b : List Int) : PySem.W.dataLt (tupI a) (tupI b) = ltL a b := PySem.W.DatumOrd.lt_eq (α := PySem.W.Tup Int) ⟨a⟩ ⟨b⟩
theorem dataLe_tupI : PySem.W.dataLe false tupI = leL := by
  funext a b
  show (!PySem.W.dataLt (tupI b) (tupI a)) = _
  rw [lt_tupI]
  rfl
theorem ltL_nil (b : List Int) : ltL [] b = !b.isEmpty := by cases b <;> rfl
theorem ltL_cons (x y : Int) (a b : List Int) : ltL (x :: a) (y :: b) = if x = y then ltL a b else decide (x < y) := rfl
theorem ltL_irrefl : ∀ a : List Int, ltL a a = false
  | [] => rfl
  | x :: a => by rw [ltL_cons, if_pos rfl]; exact ltL_irrefl a
theorem ltL_tri : ∀ {a b : List Int}, ltL a b = false → ltL b a = false → a = b
  | [], [], _, _ => rfl
  | [], _ :: _, h, _ => by cases h
  | _ :: _, [], _, h => by cases h
  | x :: a, y :: b, h1, h2 => by
    rw [ltL_cons] at h1 h2
    by_cases e : x = y
    · subst e
      rw [if_pos rfl] at h1 h2
      rw [ltL_tri h1 h2]
    · rw [if_neg e] at h1
      rw [if_neg (fun z => e z.symm)] at h2
      have := of_decide_eq_false h1
      have := of_decide_eq_false h2
      omega
theorem ltL_trans : ∀ {a b c : List Int}, ltL a b = true → ltL b c = true → ltL a c = true
  | [], [], [], h, _ => by cases h
  | [], _ :: _, [], _, h2 => by cases h2
  | [], _, _ :: _, _, _ => rfl
  | _ :: _, [], _, h, _ => by cases h
  | _ :: _, _ :: _, [], _, h => by cases h
  | x :: a, y :: b, z :: c, h1, h2 => by
    rw [ltL_cons] at h1 h2 ⊢
    by_cases e1 : x = y
    · subst e1
      rw [if_pos rfl] at h1
      by_cases e2 : x = z
      · subst e2
        rw [if_pos rfl] at h2 ⊢
        exact ltL_trans h1 h2
      · rw [if_neg e2] at h2 ⊢
        exact h2
    · rw [if_neg e1] at h1
      have l1 := of_decide_eq_true h1
      by_cases e2 : y = z
      · subst e2
        rw [if_neg e1]
        exact h1
      · rw [if_neg e2] at h2
        have l2 := of_decide_eq_true h2
        rw [if_neg (by omega)]
        exact decide_eq_true (by omega)
theorem ltL_asymm {a b : List Int} (h : ltL a b = true) : ltL b a = false := by
  cases e : ltL b a with
  | false => rfl
  | true =>
    have := ltL_trans h e
    rw [ltL_irrefl] at this; cases this
theorem leL_trans (a b c : List Int) (h1 : leL a b = true) (h2 : leL b c = true) : leL a c = true := by
  unfold leL at *
  rw [Bool.not_eq_true'] at *
  cases e : ltL c a with
  | false => rfl
  | true =>
    cases e2 : ltL a b with
    | true =>
      have := ltL_trans e e2
      rw [h2] at this; cases this
    | false =>
      have := ltL_tri e2 h1
      subst this
      rw [e] at h2; cases h2
theorem leL_total (a b : List Int) : (leL a b || leL b a) = true := by
  unfold leL
  cases e : ltL b a with
  | false => rfl
  | true => rw [ltL_asymm e]; rfl
def sortL (ls : List (List Int)) : List (List Int) := ls.mergeSort leL
theorem sortL_perm (ls : List (List Int)) : (sortL ls).Perm ls := List.mergeSort_perm _ _
theorem sortL_le (ls : List (List Int)) : (sortL ls).Pairwise fun a b => leL a b = true := List.pairwise_mergeSort leL_trans leL_total ls
theorem sortL_lt {ls : List (List Int)} (nd : ls.Nodup) : (sortL ls).Pairwise fun a b => ltL a b = true := by
  have h1 := sortL_le ls
  have h2 : (sortL ls).Pairwise (· ≠ ·) := List.nodup_iff_pairwise_ne.mp ((sortL_perm ls).nodup_iff.mpr nd)
  refine (h1.and h2).imp fun {a b} ⟨x, y⟩ => ?_
  unfold leL at x
  rw [Bool.not_eq_true'] at x
  cases e : ltL a b with
  | true => rfl
  | false => exact absurd (ltL_tri e x) y
/-- two lists in this order, of the same members, are one -/
theorem sorted_one : ∀ {a b : List (List Int)}, (a.Pairwise fun x y => ltL x y = true) → (b.Pairwise fun x y => ltL x y = true) → (∀ x, x ∈ a ↔ x ∈ b) → a = b
  | [], [], _, _, _ => rfl
  | [], y :: b, _, _, h => by have := (h y).mpr List.mem_cons_self; cases this
  | x :: a, [], _, _, h => by have := (h x).mp List.mem_cons_self; cases this
  | x :: a, y :: b, h1, h2, h => by
    rw [List.pairwise_cons] at h1 h2
    have e : x = y := by
      rcases List.mem_cons.mp ((h x).mp List.mem_cons_self) with e | hx
      · exact e
      · rcases List.mem_cons.mp ((h y).mpr List.mem_cons_self) with e | hy
        · exact e.symm
        · have l1 := h2.1 x hx
          have l2 := h1.1 y hy
          rw [ltL_asymm l1] at l2; cases l2
    subst e
    refine congrArg _ (sorted_one h1.2 h2.2 fun z => ?_)
    have no : ∀ {l : List (List Int)}, (∀ a ∈ l, ltL x a = true) → x ∉ l := fun hl hx => by
      have := hl x hx
      rw [ltL_irrefl] at this; cases this
    constructor
    · intro hz
      rcases List.mem_cons.mp ((h z).mp (List.mem_cons_of_mem _ hz)) with e | hz2
      · subst e; exact absurd hz (no h1.1)
      · exact hz2
    · intro hz
      rcases List.mem_cons.mp ((h z).mpr (List.mem_cons_of_mem _ hz)) with e | hz2
      · subst e; exact absurd hz (no h2.1)
      · exact hz2
/-! ### sorted(..) -/
section
variable {X : Cx} {r : SR} {S : List Sl}
theorem alike_tupI (a b : List Int) : PySem.W.alike (tupI a) (tupI b) = true := by
  unfold tupI
  simp only [PySem.W.alike, PySem.W.alike_ints]
def rSortT (X : Cx) : List V → Hp → VK → Prop := fun vs H Q => ∃ F x ls, vs = [x] ∧ Ex F H ∧ Rp F x (.list (ls.map tupI)) ∧ X.A.units + 5 < cLine ∧ ∀ p ws, RpA F ws ((sortL ls).map tupI) → H p = none → Q (.ref p) (upd H p (.lst ws))
theorem depth_tupI (l : List Int) : (tupI l).depth = 1 := by
  unfold tupI
  simp only [PyData.depth, PySem.W.depth_ints]
theorem call_sortT : CallR X (.builtin "sorted") (rSortT X) := by
  intro pins s σ H xs us Q I rr h
  obtain ⟨F, x, ls, rfl, k, rp, hu, q⟩ := h
  obtain ⟨u, rfl, rx⟩ := vals1 rr
  cases rp with
  | @lst a ws _ ha rv =>
    cases rx
    obtain ⟨z, its, n, rw', ho⟩ := (show ObjOk X.prog X.w H s.heap a (.lst ws) from I.hok _ _ (k _ _ ha))
    obtain ⟨e, er⟩ := each_of k I.hok rv rw' (plainAll_of fun d hd => by obtain ⟨l, _, rfl⟩ := List.mem_map.mp hd; exact (nice_tupI (n := 1) l).pl)
    have hz : (ls.map tupI).length ≤ sizeLine := by rw [← rv.length]; exact z
    have hal : PySem.W.AllAlike (ls.map tupI) := PySem.W.AllAlike.of alike_tupI
    have ht : ∀ d ∈ ls.map tupI, ∃ xs, d = PyData.tuple xs := fun d hd => by
      obtain ⟨l, _, rfl⟩ := List.mem_map.mp hd
      exact ⟨_, rfl⟩
    have hd : ∀ d ∈ ls.map tupI, d.depth = 1 := fun d hd => by
      obtain ⟨l, _, rfl⟩ := List.mem_map.mp hd
      exact depth_tupI l
    have er' : PySem.W.EachIs (fun v d => ∃ as, Reads (PySem.W.sortingHeap (PySem.W.copyHeap s.heap its) (s.heap.objs.size + 1) its) v d as) its (ls.map tupI) := er.mono fun _ _ ⟨as, r⟩ => ⟨as, PyProof.Rows.Reads.keeps (fun _ _ => PySem.W.sorting_copy_old) r⟩
    refine PySem.W.sorted_vals (vs := its) ⟨_, ho, rfl, _, rfl⟩ (sortsAt_tups (s := { s with heap := PySem.W.sortingHeap (PySem.W.copyHeap s.heap its) (s.heap.objs.size + 1) its }) er' hal ht fun d h => by rw [hd d h]; show X.A.units + 1 + 1 + 1 < cLine; omega) (by rw [e.length]; exact hz) ?_
    have out := PySem.W.sortVals_data (enc := id) false e er' (by rw [List.map_id]; exact hal)
    rw [List.map_id, sort_map dataLe_tupI] at out
    obtain ⟨vs, v1, v2⟩ := of_each out
    obtain ⟨ep, he'⟩ := PyProof.Rows.sortedAll_at s.heap its (PySem.W.sortVals (PySem.W.dataKind (PySem.W.sortingHeap (PySem.W.copyHeap s.heap its) (s.heap.objs.size + 1) its) (ls.map tupI)) false its its).toArray
    have hlen : vs.length ≤ sizeLine := by
      rw [v2.length, List.length_map, List.length_mergeSort]
      rw [List.length_map] at hz; exact hz
    exact ⟨.ref _, upd H (s.heap.objs.size + 1) (.lst vs), I.laid (t' := s.toks) (fun _ _ => PyProof.Rows.sortedAll_old) (Nat.le_succ _) ⟨hlen, _, ep, v1, he'⟩, rfl, q _ vs v2 (I.hok.fresh (Nat.le_succ _))⟩
/-- sorted(xs), xs a list of tuples of ints -/
theorem jsortL {K : List D → List Sl → Prop} {a : Expr} {p pos : Pos} {k : Nat} (hr : Room k X.A) (hm : X.mg "sorted" = none) (h : JE X r a S fun d S1 => ∃ ls : List (List Int), d = .list (ls.map tupI) ∧ K ((sortL ls).map tupI) S1) (hg : Gl X "sorted" := by rfl) (hs : starEach [a] X.env = (false, eval a X.env) :: starEach [] X.env := by rfl) : JN X r (.Call (.Name "sorted" p) [a] [] pos) S K :=
  jnB call_sortT hm (ja1 (h.mono fun d S1 ⟨ls, e, kk⟩ => ⟨[d], rfl, by
    rw [e]
    intro F H vs kF rv Q q
    cases rv with
    | cons r1 t =>
      cases t
      exact ⟨F, _, ls, rfl, kF, r1, by have := hr.un; omega, fun p ws rw' n => q p ws _ kk n rw'⟩⟩) hs) hg (by decide +kernel) (by decide) (by decide) hs rfl
/-! ### a dict's keys -/
/-- tuples of ints that stand are frozen -/
theorem EvD.freezeAll {c : C} {σ : St} {H : Hp} : ∀ {bs : List Addr} {ks : List (List Int)} {F : Hp}, EvD c S F σ H → (∀ (i : Nat) b k, bs[i]? = some b → ks[i]? = some k → H b = some (.tup ((kI k).map kV))) → bs.length = ks.length →
    ∃ F', Ex F F' ∧ EvD c S F' σ H ∧ RpA F' (bs.map V.ref) (ks.map tupI)
  | [], [], F, E, _, _ => ⟨F, Ex.refl F, E, .nil⟩
  | [], _ :: _, _, _, _, h => by cases h
  | _ :: _, [], _, _, _, h => by cases h
  | b :: bs, k :: ks, F, E, h, hl => by
    have hb := h 0 b k rfl rfl
    obtain ⟨F1, k1, E1, e1⟩ : ∃ F1, Ex F F1 ∧ EvD c S F1 σ H ∧ F1 b = some (.tup ((kI k).map kV)) := by
      cases q : F b with
      | none => exact ⟨_, Ex.new q, E.freezeT hb q, upd_same⟩
      | some u =>
        have h2 := E.fin.fh _ _ q
        rw [hb] at h2; cases h2
        exact ⟨F, Ex.refl F, E, q⟩
    obtain ⟨F2, k2, E2, r2⟩ := EvD.freezeAll (bs := bs) (ks := ks) E1 (fun i b k e1 e2 => h (i + 1) b k (by simpa using e1) (by simpa using e2)) (by simpa using hl)
    exact ⟨F2, k1.trans k2, E2, .cons (.tup (k2 _ _ e1) (RpA.kI k)) r2⟩
theorem isKeys_at {H : Hp} {F : Hp} {ws : List (List Key × V)} {bs : List Addr} (hk : IsKeys H ws bs) : ∀ {kvs : List (List Int × D)}, RpK F ws kvs → bs.length = kvs.length ∧ ∀ (i : Nat) b k, bs[i]? = some b → (kvs.map (·.1))[i]? = some k → H b = some (.tup ((kI k).map kV)) := by
  unfold IsKeys at hk
  induction hk with
  | nil =>
    intro kvs rk
    cases rk
    exact ⟨rfl, fun i b k e => by simp at e⟩
  | @cons p b0 ws bs h t ih =>
    intro kvs rk
    cases rk with
    | @cons k0 v d _ kvs r rt =>
    obtain ⟨h1, h2⟩ := ih rt
    refine ⟨by rw [List.length_cons, List.length_cons, h1], fun i b k e1 e2 => ?_⟩
    cases i with
    | zero =>
      simp at e1 e2
      subst e1 e2
      exact h
    | succ i => exact h2 i b k (by simpa using e1) (by simpa using e2)
/-- list(x), x a dict of one's own -/
theorem jlistK {K : List D → List Sl → Prop} {x : Str} {px p pos : Pos} (i : Nat) {kvs : List (List Int × D)} (hc : X.calm = true) (hm : X.mg "list" = none) (k : K (keysD kvs) S) (e : S[i]? = some (.ob (.d kvs)) := by rfl) (hg : Gl X "list" := by rfl) (hN : X.N[i]? = some x := by rfl) (hv : Vis X.env.scope x := by first | exact Or.inl rfl | exact Or.inr (Or.inl rfl) | exact Or.inr (Or.inr rfl))
    (hd : (x == ("__debug__" : Str)) = false := by decide) (hcd : (x == ("__classdict__" : Str)) = false := by decide) (hs : starEach [.Name x px] X.env = (false, eval (.Name x px) X.env) :: starEach [] X.env := by rfl) : JN X r (.Call (.Name "list" p) [.Name x px] [] pos) S K := fun c F σ H hr E Q q =>
  of_pe (pe_callTy (call_list_dT hc) hg hm (by decide +kernel) (pa_cons (pe_var hN hv hd hcd) pa_nil hs) (by decide) (by decide) hs rfl) (by
    obtain ⟨y, e1, l, hh, e2, ha, rv, nF, nb, q0⟩ := E.sl i _ e
    subst e2
    obtain ⟨ws, rfl, rk⟩ := obr_d rv
    refine ⟨_, e1, l, ws, rfl, .inl ha, fun p bs n hk => ?_⟩
    obtain ⟨h1, h2⟩ := isKeys_at hk rk
    obtain ⟨F', k1, E', ra⟩ := E.freezeAll (bs := bs) (ks := kvs.map (·.1)) h2 (by rw [List.length_map]; exact h1)
    have ek : (kvs.map (·.1)).map tupI = keysD kvs := by unfold keysD; rw [List.map_map]; rfl
    rw [ek] at ra
    exact q p _ F' _ S k (newL_of E' n ra) k1)
/-- len(x), x a dict of one's own -/
theorem je_lenK {K : D → List Sl → Prop} {x : Str} {p p2 pos : Pos} (i : Nat) {kvs : List (List Int × D)} (hm : X.mg "len" = none) (k : K (.int (kvs.length : Nat)) S) (e : S[i]? = some (.ob (.d kvs)) := by rfl) (hg : Gl X "len" := by rfl) (hN : X.N[i]? = some x := by rfl) (hv : Vis X.env.scope x := by first | exact Or.inl rfl | exact Or.inr (Or.inl rfl) | exact Or.inr (Or.inr rfl)) (hd : (x == ("__debug__" : Str)) = false := by decide) (hcd : (x == ("__classdict__" : Str)) = false := by decide)
    (hs : starEach [.Name x p2] X.env = (false, eval (.Name x p2) X.env) :: starEach [] X.env := by rfl) : JE X r (.Call (.Name "len" p) [.Name x p2] [] pos) S K := fun c F σ H hr E Q q => of_pe (pe_callB call_len_dT hg hm PySem.boot_len (pa_cons (pe_var hN hv hd hcd) pa_nil hs) (by decide) (by decide) hs rfl) (by
  obtain ⟨y, e1, l, hh, e2, ha, rv, nF, nb, q0⟩ := E.sl i _ e
  subst e2
  obtain ⟨ws, rfl, rk⟩ := obr_d rv
  refine ⟨_, e1, l, ws, rfl, ha, ?_⟩
  rw [rk.length]
  exact q _ _ F H S k E (Ex.refl F) (.int _))
/-! ### what a dict holds -/
def valD (kvs : List (List Int × D)) (k : List Int) : Option D := (kvs.find? fun kv => decide (kv.1 = k)).map (·.2)
inductive RpO (F : Hp) : Option V → Option D → Prop
  | none : RpO F none none
  | some {v d} : Rp F v d → RpO F (some v) (some d)
theorem RpO.isSome {F : Hp} {v : Option V} {d : Option D} (h : RpO F v d) : v.isSome = d.isSome := by cases h <;> rfl
theorem RpK.val {F : Hp} (k : List Int) : ∀ {ws : List (List Key × V)} {kvs : List (List Int × D)}, RpK F ws kvs → RpO F (valV ws (kI k)) (valD kvs k)
  | _, _, .nil => .none
  | _, _, .cons (k := k0) (v := v) (d := d) (ws := ws) (kvs := kvs) r t => by
    by_cases e : k0 = k
    · have h1 : valV ((List.map Sum.inl k0, v) :: ws) (kI k) = some v := by
        subst e
        unfold valV
        rw [List.find?_cons_of_pos (by simpa using (show List.map Sum.inl k0 = kI k0 from rfl))]
        rfl
      have h2 : valD ((k0, d) :: kvs) k = some d := by
        unfold valD
        rw [List.find?_cons_of_pos (by simpa using e)]
        rfl
      rw [h1, h2]
      exact .some r
    · have h1 : valV ((List.map Sum.inl k0, v) :: ws) (kI k) = valV ws (kI k) := by
        unfold valV
        rw [List.find?_cons_of_neg (by simpa using (show ¬ (List.map Sum.inl k0 = kI k) from fun z => e (kI_inj z)))]
      have h2 : valD ((k0, d) :: kvs) k = valD kvs k := by
        unfold valD
        rw [List.find?_cons_of_neg (by simpa using e)]
      rw [h1, h2]
      exact RpK.val k t
theorem rp_tupI {F : Hp} {v : V} {k : List Int} (r : Rp F v (tupI k)) : ∃ b, v = .ref b ∧ F b = some (.tup ((kI k).map kV)) := by
  unfold tupI at r
  cases r with
  | @tup b ys _ hb hy =>
    have := RpA.tupI hy
    subst this
    exact ⟨b, rfl, hb⟩
theorem dget_of {F H : Hp} {v : V} {k : List Int} {a : Addr} {ws : List (List Key × V)} (kF : Ex F H) (r : Rp F v (tupI k)) (h : H a = some (.dT ws)) : DGet H a v (valV ws (kI k)) := by
  obtain ⟨b, rfl, hb⟩ := rp_tupI r
  exact DGet.t h (kF _ _ hb)
/-- a in b, b a dict -/
theorem jdin {K : D → List Sl → Prop} {a b : Expr} {pos : Pos} {k : Nat} (hr : Room k X.A) (h : JE X r a S fun d1 S1 => JE X r b S1 fun d2 S2 => ∃ ky kvs, d1 = tupI ky ∧ d2 = dctD kvs ∧ K (.bool (valD kvs ky).isSome) S2) (hm : behindInMarks .In b = false := by rfl) : JE X r (.Compare a [.In] [b] pos) S K :=
  fun c F σ H hr' E Q q => of_pe (pe_cmp (pc_din (by have := hr.un; omega) pe_tE pe_tE) hm) (h c F σ H hr' E _ fun v1 d1 F1 H1 S1 h1 E1 k1 r1 => h1 c F1 σ H1 hr' E1 _ fun v2 d2 F2 H2 S2 h2 E2 k2 r2 => by
    obtain ⟨ky, kvs, rfl, rfl, kk⟩ := h2
    obtain ⟨l, ws, rfl, hl, rk⟩ := rp_dct r2
    refine ⟨l, _, rfl, dget_of E2.fin.fh (r1.ex k2) (E2.fin.fh _ _ hl), ?_⟩
    rw [(rk.val ky).isSome]
    exact q _ _ F2 H2 S2 kk E2 (k1.trans k2) (.bl _))
theorem jtdnin {K : Bool → List Sl → Prop} {a b : Expr} {pos : Pos} {k : Nat} (hr : Room k X.A) (h : JE X r a S fun d1 S1 => JE X r b S1 fun d2 S2 => ∃ ky kvs, d1 = tupI ky ∧ d2 = dctD kvs ∧ K (!(valD kvs ky).isSome) S2) (hm : behindInMarks .NotIn b = false := by rfl) : JT X r (.Compare a [.NotIn] [b] pos) S K :=
  fun c F σ H hr' E Q q => of_pt (pt_cmp (pc_dnotin (by have := hr.un; omega) pe_tE pe_tE) hm) (h c F σ H hr' E _ fun v1 d1 F1 H1 S1 h1 E1 k1 r1 => h1 c F1 σ H1 hr' E1 _ fun v2 d2 F2 H2 S2 h2 E2 k2 r2 => by
    obtain ⟨ky, kvs, rfl, rfl, kk⟩ := h2
    obtain ⟨l, ws, rfl, hl, rk⟩ := rp_dct r2
    refine ⟨l, _, rfl, dget_of E2.fin.fh (r1.ex k2) (E2.fin.fh _ _ hl), ?_⟩
    rw [(rk.val ky).isSome]
    exact ⟨_, rfl, q _ F2 H2 S2 kk E2 (k1.trans k2)⟩)
/-- {} -/
theorem jemptyD {K : OB → List Sl → Prop} {pos : Pos} (k : K (.d []) S) : JO X r (.Dict [] [] pos) S K := fun c F σ H hr E Q q => of_pe pe_dnewT fun p n => q p _ F _ S k (newL_ob (h := .dT []) (o := .d []) E n .nil) (Ex.refl F)
end
end DL

/-! DL: get, store of dicts; stars; isinstance; sum; tuples compared. -/
namespace DL
open PySem L2
section
variable {X : Cx} {r : SR} {S : List Sl}
/-- x[k] = v, x a dict of one's own -/
theorem jdput {x : Str} {px pos pos' : Pos} {a b : Expr} {E : DE} {rest : List Stmt} {k : Nat} (hr : Room k X.A) (i : Nat) (o0 : OB) (h : JE X r b S fun d2 S1 => JE X r a S1 fun d1 S2 => ∃ ky kvs, d1 = tupI ky ∧ S2[i]? = some (.ob (.d kvs)) ∧ kvs.length < sizeLine ∧ JSs X r rest (S2.set i (.ob (.d (putD kvs ky d2)))) E)
    (h0 : S[i]? = some (.ob o0) := by rfl) (hN : X.N[i]? = some x := by rfl) (hv : Vis X.env.scope x := by first | exact Or.inl rfl | exact Or.inr (Or.inl rfl) | exact Or.inr (Or.inr rfl)) (hd : (x == ("__debug__" : Str)) = false := by decide) (hcd : (x == ("__classdict__" : Str)) = false := by decide)
    (hs : swapsWith b (some (.Subscript (.Name x px) a pos')) pos.line X.env = pure false := by rfl) : JSs X r (.Assign [.Subscript (.Name x px) a pos'] b pos :: rest) S E := jss_cons fun c F σ H hr' Ev G g =>
  of_ps (ps_dput (by have := hr.un; omega) (pe_var hN hv hd hcd) pe_tE pe_tE hs) (by
    obtain ⟨y, e1, l, hh, e2, ha, rv, nF, nb, q0⟩ := Ev.sl i _ h0
    subst e2
    refine h c F σ H hr' Ev _ fun v2 d2 F1 H1 S1 h1 E1 k1 r1 => ⟨.ref l, e1, h1 c F1 σ H1 hr' E1 _ fun v1 d1 F2 H2 S2 h2 E2 k2 r2 => ?_⟩
    obtain ⟨ky, kvs, rfl, es, hl, kk⟩ := h2
    obtain ⟨y, e1', l', hh', e2', ha', rv', _⟩ := E2.sl i _ es
    rw [e1] at e1'; cases e1'; cases e2'
    obtain ⟨ws, rfl, rk⟩ := obr_d rv'
    obtain ⟨b, rfl, hb⟩ := rp_tupI r2
    exact ⟨l, _, rfl, DPut.t ha' (E2.fin.fh _ _ hb) (by rw [rk.length]; exact hl), g.nx F2 σ _ _ kk (E2.write (vs := .dT (putK ws (kI ky) v2)) (ds := .d (putD kvs ky d2)) es e1 (rk.put (r1.ex k2))) (k1.trans k2)⟩)
/-- x.get(k, v), x a dict of one's own -/
theorem je_getO {K : D → List Sl → Prop} {x : Str} {px apos cpos : Pos} {a b : Expr} {k : Nat} (hr : Room k X.A) (i : Nat) (kvs0 : List (List Int × D)) (h : JE X r a S fun d1 S1 => JE X r b S1 fun d2 S2 => ∃ ky kvs, d1 = tupI ky ∧ S2[i]? = some (.ob (.d kvs)) ∧ K ((valD kvs ky).getD d2) S2)
    (h0 : S[i]? = some (.ob (.d kvs0)) := by rfl) (hN : X.N[i]? = some x := by rfl) (hv : Vis X.env.scope x := by first | exact Or.inl rfl | exact Or.inr (Or.inl rfl) | exact Or.inr (Or.inr rfl)) (hd : (x == ("__debug__" : Str)) = false := by decide) (hcd : (x == ("__classdict__" : Str)) = false := by decide)
    (m : M2 X (.Name x px) "get" apos a b cpos := by exact ⟨rfl, rfl, rfl, rfl⟩) : JE X r (.Call (.Attribute (.Name x px) "get" apos) [a, b] [] cpos) S K := fun c F σ H hr' E Q q =>
  of_pe (pe_dget2 (by have := hr.un; omega) (pe_var hN hv hd hcd) pe_tE pe_tE m) (by
    obtain ⟨y, e1, l, hh, e2, ha, rv, nF, nb, q0⟩ := E.sl i _ h0
    subst e2
    obtain ⟨ws0, rfl, rk0⟩ := obr_d rv
    refine ⟨.ref l, e1, l, rfl, .inr ⟨ws0, .inl ha⟩, h c F σ H hr' E _ fun v1 d1 F1 H1 S1 h1 E1 k1 r1 => h1 c F1 σ H1 hr' E1 _ fun v2 d2 F2 H2 S2 h2 E2 k2 r2 => ?_⟩
    obtain ⟨ky, kvs, rfl, es, kk⟩ := h2
    obtain ⟨y, e1', l', hh', e2', ha', rv', _⟩ := E2.sl i _ es
    rw [e1] at e1'; cases e1'; cases e2'
    obtain ⟨ws, rfl, rk⟩ := obr_d rv'
    refine ⟨_, dget_of E2.fin.fh (r1.ex k2) ha', ?_⟩
    have ro := rk.val ky
    generalize valV ws (kI ky) = ov at *
    generalize valD kvs ky = od at *
    cases ro with
    | none => exact q _ _ F2 H2 S2 kk E2 (k1.trans k2) r2
    | some r => exact q _ _ F2 H2 S2 kk E2 (k1.trans k2) r)
/-- d.get(k, v), d a dict -/
theorem je_getD {K : D → List Sl → Prop} {o a b : Expr} {apos cpos : Pos} {k : Nat} (hr : Room k X.A) (h : JE X r o S fun d0 S0 => ∃ kvs, d0 = dctD kvs ∧ JE X r a S0 fun d1 S1 => JE X r b S1 fun d2 S2 => ∃ ky, d1 = tupI ky ∧ K ((valD kvs ky).getD d2) S2)
    (m : M2 X o "get" apos a b cpos := by exact ⟨rfl, rfl, rfl, rfl⟩) : JE X r (.Call (.Attribute o "get" apos) [a, b] [] cpos) S K := fun c F σ H hr' E Q q =>
  of_pe (pe_dget2 (by have := hr.un; omega) pe_tE pe_tE pe_tE m) (h c F σ H hr' E _ fun v0 d0 F0 H0 S0 h0 E0 k0 r0 => by
    obtain ⟨kvs, rfl, h1⟩ := h0
    obtain ⟨l, ws, rfl, hl, rk⟩ := rp_dct r0
    refine ⟨l, rfl, .inr ⟨ws, .inl (E0.fin.fh _ _ hl)⟩, h1 c F0 σ H0 hr' E0 _ fun v1 d1 F1 H1 S1 h1 E1 k1 r1 => h1 c F1 σ H1 hr' E1 _ fun v2 d2 F2 H2 S2 h2 E2 k2 r2 => ?_⟩
    obtain ⟨ky, rfl, kk⟩ := h2
    refine ⟨_, dget_of E2.fin.fh (r1.ex k2) (E2.fin.fh _ _ (k2 _ _ (k1 _ _ hl))), ?_⟩
    have ro := (rk.ex (k1.trans k2)).val ky
    generalize valV ws (kI ky) = ov at *
    generalize valD kvs ky = od at *
    cases ro with
    | none => exact q _ _ F2 H2 S2 kk E2 ((k0.trans k1).trans k2) r2
    | some r => exact q _ _ F2 H2 S2 kk E2 ((k0.trans k1).trans k2) r)
/-- d[k], d a dict -/
theorem je_subD {K : D → List Sl → Prop} {o a : Expr} {pos : Pos} {k : Nat} (hr : Room k X.A) (h : JE X r o S fun d0 S0 => JE X r a S0 fun d1 S1 => ∃ ky kvs d, d0 = dctD kvs ∧ d1 = tupI ky ∧ valD kvs ky = some d ∧ K d S1) (hs : NoSl a := by exact fun _ _ => rfl) : JE X r (.Subscript o a pos) S K := fun c F σ H hr' E Q q =>
  of_pe (pe_dget (by have := hr.un; omega) pe_tE pe_tE hs) (h c F σ H hr' E _ fun v0 d0 F0 H0 S0 h0 E0 k0 r0 => h0 c F0 σ H0 hr' E0 _ fun v1 d1 F1 H1 S1 h1 E1 k1 r1 => by
    obtain ⟨ky, kvs, d, rfl, rfl, ed, kk⟩ := h1
    obtain ⟨l, ws, rfl, hl, rk⟩ := rp_dct r0
    have g := dget_of E1.fin.fh r1 (E1.fin.fh _ _ (k1 _ _ hl))
    have ro := (rk.ex k1).val ky
    rw [ed] at ro
    generalize valV ws (kI ky) = ov at *
    cases ro with
    | some r => exact ⟨l, _, rfl, g, q _ _ F1 H1 S1 kk E1 (k0.trans k1) r⟩)
/-! ### stars -/
theorem ArA.ofRp {c : C} {F : Hp} : ∀ {vs : List V} {ds : List D}, RpA F vs ds → ArA c F vs (ds.map Ar.d)
  | _, _, .nil => .nil
  | _, _, .cons r t => .cons (show ArR c F _ (.d _) from r) (ArA.ofRp t)
theorem ArA.app {c : C} {F : Hp} : ∀ {vs ws : List V} {as bs : List Ar}, ArA c F vs as → ArA c F ws bs → ArA c F (vs ++ ws) (as ++ bs)
  | _, _, _, _, .nil, h => h
  | _, _, _, _, .cons r t, h => .cons r (ArA.app t h)
theorem dats_map : ∀ ds : List D, dats (ds.map Ar.d) = some ds
  | [] => rfl
  | d :: ds => by rw [List.map_cons]; unfold dats; rw [dats_map ds]; rfl
theorem jA_star {K : List Ar → List Sl → Prop} {e : Expr} {p : Pos} {es : List Expr} (h : JE X r e S fun d S1 => ∃ ds, (d = .tuple ds ∨ d = .list ds) ∧ JA X r es S1 fun as S2 => K (ds.map Ar.d ++ as) S2) (hs : starEach (.Starred e p :: es) X.env = (true, eval e X.env) :: starEach es X.env := by rfl) : JA X r (.Starred e p :: es) S K := fun c F σ H hr E Q q =>
  of_pa (StX.pa_star pe_tE pa_tA hs) (h c F σ H hr E _ fun v d F1 H1 S1 h1 E1 k1 r1 => by
    obtain ⟨ds, ed, h2⟩ := h1
    rcases ed with rfl | rfl
    · cases r1 with
      | @tup a vs _ ha rv => exact ⟨a, vs, rfl, .inl (.inl (.inl (E1.fin.fh _ _ ha))), h2 c F1 σ H1 hr E1 _ fun ws as F2 H2 S2 h3 E2 k2 r2 => q _ _ F2 H2 S2 h3 E2 (k1.trans k2) (ArA.app (ArA.ofRp (rv.ex k2)) r2)⟩
    · cases r1 with
      | @lst a vs _ ha rv => exact ⟨a, vs, rfl, .inr (.inl (.inl (E1.fin.fh _ _ ha))), h2 c F1 σ H1 hr E1 _ fun ws as F2 H2 S2 h3 E2 k2 r2 => q _ _ F2 H2 S2 h3 E2 (k1.trans k2) (ArA.app (ArA.ofRp (rv.ex k2)) r2)⟩)
/-! ### isinstance -/
def tyD : D → String
  | .none => "NoneType"
  | .bool _ => "bool"
  | .int _ => "int"
  | .str _ => "str"
  | .list _ => "list"
  | .tuple _ => "tuple"
  | .dict ((.none, _) :: _) => "tuple"
  | .dict _ => "dict"
theorem tyD_dct (kvs : List (List Int × D)) : tyD (dctD kvs) = "dict" := by cases kvs <;> rfl
theorem rp_ty {K : PySem.W.Frag} {F H : Hp} {v : V} {d : D} (k : Ex F H) (r : Rp F v d) : TyX K H v (.type (tyD d)) := by
  cases r with
  | non => exact .base .non
  | bl b => exact .base (.bl b)
  | int i => exact .base (.int i)
  | str x => exact .base (.str x)
  | tup h _ => exact .base (.tup (k _ _ h))
  | lst h _ => exact .base (.lst (k _ _ h))
  | dct h _ => rw [tyD_dct]; exact .base (.dT (k _ _ h))
  | ftup h _ _ => exact .fTuple (k _ _ h)
theorem jisi {K : D → List Sl → Prop} {T : Str} {Tn : String} {e : Expr} {p p2 pos : Pos} (hm : X.mg "isinstance" = none) (hmT : X.mg T = none) (h : JE X r e S fun d S1 => ∃ b, kitB (tyD d) Tn = some b ∧ K (.bool b) S1) (hg : Gl X "isinstance" := by rfl) (hgT : Gl X T := by rfl) (hvT : bootBuiltins T = some (.type Tn) := by decide +kernel) (hnT : T ≠ "__name__" := by decide) (hdT : (T == ("__debug__" : Str)) = false := by decide)
    (s1 : starEach [e, .Name T p2] X.env = (false, eval e X.env) :: starEach [.Name T p2] X.env := by rfl) (s2 : starEach [.Name T p2] X.env = (false, eval (.Name T p2) X.env) :: starEach [] X.env := by rfl) (hpl : (backTo pos (starEach [.Name T p2] X.env)).any (·.1) = false := by rfl) :
    JE X r (.Call (.Name "isinstance" p) [e, .Name T p2] [] pos) S K := fun c F σ H hr E Q q =>
  of_pe (pe_callB call_isi hg hm (by decide +kernel) (pa_cons pe_tE (pa_cons (pe_bltn (v := .ty Tn) hgT hmT hvT rfl hnT hdT) pa_nil s2) s1) (by decide) (by decide) s1 hpl) (h c F σ H hr E _ fun v d F1 H1 S1 h1 E1 k1 r1 => by
    obtain ⟨b, e1, kk⟩ := h1
    exact ⟨v, .ty Tn, _, _, b, rfl, .ty Tn, rp_ty E1.fin.fh r1, kit_ty e1, q _ _ F1 H1 S1 kk E1 k1 (.bl b)⟩)
/-! ### sum -/
theorem jsum {K : D → List Sl → Prop} {a : Expr} {p pos : Pos} (hc : X.calm = true) (hm : X.mg "sum" = none) (h : JE X r a S fun d S1 => ∃ ns : List Int, d = .list (ns.map .int) ∧ K (.int ns.sum) S1) (hg : Gl X "sum" := by rfl) (hs : starEach [a] X.env = (false, eval a X.env) :: starEach [] X.env := by rfl) : JE X r (.Call (.Name "sum" p) [a] [] pos) S K :=
  jB (cr_sum hc) hm (ja1 (h.mono fun d S1 ⟨ns, e, kk⟩ => ⟨[d], rfl, by
    rw [e]
    intro F H vs kF rv Q q
    cases rv with
    | cons r1 t =>
      cases t
      cases r1 with
      | @lst a ws _ ha rw' =>
        have := RpA.ints_of rw'
        subst this
        exact ⟨a, ns, rfl, .inl (.inl (kF _ _ ha)), q _ _ F H kk (Grow.refl kF) (.int _)⟩⟩) hs) hg (by decide +kernel) (by decide) (by decide) hs rfl
/-! ### tuples of ints compared -/
def rLeTI (X : Cx) : R2 := fun x y H Q => ∃ F a b, Ex F H ∧ Rp F x (tupI a) ∧ Rp F y (tupI b) ∧ X.A.units + 1 < cLine ∧ Q (.bl (!ltL b a)) H
theorem op_leTI : OpR X (compareOp .LtE) (rLeTI X) := by
  intro pins s σ H x y v u Q I rx ry h
  obtain ⟨F, a, b, k, r1, r2, hu, q⟩ := h
  obtain ⟨as, h1⟩ := Rp.reads k I.hok r1 rx (nice_tupI (n := 1) a).pl
  obtain ⟨bs, h2⟩ := Rp.reads k I.hok r2 ry (nice_tupI (n := 1) b).pl
  exact PySem.W.le_datum (x := (⟨a⟩ : PySem.W.Tup Int)) (y := ⟨b⟩) ⟨as, h1⟩ ⟨bs, h2⟩ hu ⟨.bl _, H, I, rfl, q⟩
theorem od_leTI {k : Nat} (hr : Room k X.A) {a b : List Int} {K : D → Prop} (h : K (.bool (!ltL b a))) : OpD (rLeTI X) (tupI a) (tupI b) K := fun F H v1 v2 kF r1 r2 Q q => ⟨F, a, b, kF, r1, r2, by have := hr.un; omega, q _ _ F H h (Grow.refl kF) (.bl _)⟩
end
end DL

/-! DL: update of a dict that may be empty; hashes of tuples of ints. -/
namespace DL
open PySem L2
def hI (k : List Int) : Int := PySem.reduceHash (PySem.Builtin.Tuple.tupleHashOf (k.map PySem.hashInt))
theorem hash_kI (P : Program) (w : World) (k : List Int) : (tupleKind (mixKind P w)).hash (kI k) = hI k := by
  show PySem.tupleKeyHash _ _ = _
  unfold PySem.tupleKeyHash kI hI
  rw [List.map_map]
  rfl
theorem RpK.hash {F : Hp} (P : Program) (w : World) : ∀ {ws : List (List Key × V)} {kvs : List (List Int × D)}, RpK F ws kvs → (ws.map fun p => (tupleKind (mixKind P w)).hash p.1) = kvs.map fun p => hI p.1
  | _, _, .nil => rfl
  | _, _, .cons (k := k) _ t => by
    rw [List.map_cons, List.map_cons, RpK.hash P w t]
    exact congrArg (· :: _) (hash_kI P w k)
theorem KT.same {H : Hp} {α : Type} (f : List Key → α) : ∀ {more : List (List Key × V)} {xs : List (List Key × Addr × Value)}, KT H more xs → (xs.map fun x => f x.1) = more.map fun p => f p.1
  | _, _, .nil => rfl
  | _, _, .cons z t => by rw [List.map_cons, List.map_cons, KT.same f t, z.1]
section
variable {X : Cx} {r : SR} {S : List Sl}
def rUpdT2 (X : Cx) : V → List V → Hp → VK → Prop := fun x vs H Q => ∃ (a b : Addr) (kvs more : List (List Key × V)), x = .ref a ∧ vs = [.ref b] ∧ a ≠ b ∧ H a = some (.dT kvs) ∧ H b = some (.dT more) ∧
  (kvs ≠ [] ∨ (more.map fun p => (tupleKind (mixKind X.prog X.w)).hash p.1).Nodup) ∧ kvs.length + more.length ≤ sizeLine ∧ Q .non (upd H a (.dT (mergeT kvs more)))
theorem mt_updT2 (hu : X.A.units + 2 < cLine) : MtR X "dict.update" (rUpdT2 X) := by
  intro pins s σ H x vs v us Q I rx rv h
  obtain ⟨a, b, kvs, more, ex, ev, hne, ha, hb, h0, hl, q⟩ := h
  subst ex
  subst ev
  obtain rfl : v = Value.ref a := rx
  obtain ⟨u, rfl, ru⟩ := rv.one
  obtain rfl : u = Value.ref b := ru
  obtain ⟨z1, d1, xs1, rel1, dd1⟩ := dt_of I.hok ha
  obtain ⟨z2, d2, xs2, rel2, dd2⟩ := dt_of I.hok hb
  have l1 := Paired.length rel1
  have l2 := Paired.length rel2
  have hap : xs1 ≠ [] ∨ ((∀ x ∈ xs2, s.TypeIs (.ref x.2.1) "tuple") ∧ (xs2.map fun x => (tupleKind (mixKind X.prog X.w)).hash x.1).Nodup) := by
    rcases h0 with h0 | h0
    · exact .inl fun z => by rw [z] at l1; exact h0 (List.length_eq_zero_iff.mp l1)
    · refine .inr ⟨?_, by rw [KT.same _ rel2]; exact h0⟩
      have all : ∀ {l : List (List Key × V)} {m : List (List Key × Addr × Value)}, KT H l m → ∀ x ∈ m, H x.2.1 = some (.tup (x.1.map kV)) := by
        intro l m q
        induction q with
        | nil => intro x hx; exact nomatch hx
        | @cons p q ps qs hq t ih =>
          intro x hx
          rcases List.mem_cons.mp hx with e | hx
          · subst e; rw [← hq.1]; exact hq.2.1
          · exact ih x hx
      intro x hx
      obtain ⟨_, _, _, o, g1, g2, _⟩ := (show ObjOk X.prog X.w H s.heap x.2.1 (.tup (x.1.map kV)) from I.hok _ _ (all rel2 x hx))
      exact ⟨o, g1, g2⟩
  refine call_update_dictH (knd := tupleKind (mixKind X.prog X.w)) (show X.A.units + 1 < cLine by omega) hne d2 dd1 dd2 hap (by omega) fun h' dd' _ hs => ?_
  have he : ∃ q, h'.get? a = some q := let ⟨q, _, _, hq, _⟩ := dd'; ⟨q, hq⟩
  have hlen : (mergeT kvs more).length ≤ sizeLine := Nat.le_trans (length_mergeT more kvs) hl
  obtain ⟨o, es, ep, g1, g2, g3, g4, _, g5⟩ := dd'
  refine ⟨.non, _, d_write (t' := s.toks) (ob := .dT (mergeT kvs more)) I (by rw [ha]; exact True.intro) hs he ⟨hlen, d1, _, (KT.merge rel2 rel1).keeps fun c ys ec => ?_, o, es, ep, g1, g2, g3, g4, g5⟩, rfl, q⟩
  rw [upd_ne (ne_of ec ha (fun z => nomatch z))]
  exact ec
/-- x.update(e), x a dict of one's own, perhaps empty -/
theorem jupd2 {e : Expr} {x : Str} {p apos cpos pos : Pos} {E : DE} {rest : List Stmt} {k : Nat} (hr : Room k X.A) (i : Nat) (kvs0 : List (List Int × D))
    (h : JE X r e S fun d S1 => ∃ kvs more, d = dctD more ∧ S1[i]? = some (.ob (.d kvs)) ∧ (kvs ≠ [] ∨ (more.map fun p => hI p.1).Nodup) ∧ kvs.length + more.length ≤ sizeLine ∧ JSs X r rest (S1.set i (.ob (.d (mergeD kvs more)))) E) (h0 : S[i]? = some (.ob (.d kvs0)) := by rfl)
    (hp : ∀ {rr : V → List V → Hp → VK → Prop}, MtR X "dict.update" rr → PS X (.Expr (.Call (.Attribute (.Name x p) "update" apos) [e] [] cpos) pos) (tDrop (tBM X.K "dict" rr (tVar i) (tCons (tE X e) tNil))) := by exact fun hm => ps_expr (pe_bm PySem.F.plainAttrs_dict PySem.F.slot_dict_update PySem.F.type_dict_update hm (pv _) (pa_cons pe_tE pa_nil))) :
    JSs X r (.Expr (.Call (.Attribute (.Name x p) "update" apos) [e] [] cpos) pos :: rest) S E := jss_cons fun c F σ H hr' Ev G g => of_ps (hp (mt_updT2 (by have := hr.un; omega))) (by
  obtain ⟨y, e1, a, hh, e2, ha, rv, nF, nb, q0⟩ := Ev.sl i _ h0
  subst e2
  obtain ⟨vs, rfl, rv⟩ := obr_d rv
  refine ⟨.ref a, e1, .inr (.inr (.inl ⟨rfl, .inr ⟨_, ha⟩⟩)), h c F σ H hr' Ev _ fun v d F1 H1 S1 h1 E1 k1 r1 => ?_⟩
  obtain ⟨kvs, more, rfl, e3, hne, hl, kx⟩ := h1
  obtain ⟨y, e1', a', hh', e2', ha', rv', nF', _⟩ := E1.sl i _ e3
  rw [e1] at e1'; cases e1'; cases e2'
  obtain ⟨ws, rfl, rv'⟩ := obr_d rv'
  obtain ⟨b, ws2, rfl, hb, rk⟩ := rp_dct r1
  have hab : a ≠ b := fun z => by rw [z, hb] at nF'; cases nF'
  refine ⟨a, b, ws, ws2, rfl, rfl, hab, ha', E1.fin.fh _ _ hb, ?_, by rw [rv'.length, rk.length]; exact hl, g.nx F1 σ _ _ kx (E1.write (vs := .dT (mergeT ws ws2)) (ds := .d (mergeD kvs more)) e3 e1 (RpK.merge rk rv')) k1⟩
  rcases hne with hne | hne
  · exact .inl fun z => by
      have := rv'.length
      rw [z] at this
      exact hne (List.length_eq_zero_iff.mp this.symm)
  · exact .inr (by rw [rk.hash]; exact hne))
end
end DL

/-! DL: sorted(..) of a dict's keys; a, b = x, []. -/
namespace DL
open PySem L2 PyProof.Rows
section
variable {X : Cx} {r : SR} {S : List Sl}
theorem sort_read {h : Heap} {H : Hp} {P : Program} {w : World} (ok : HOk P w H h) : ∀ {bs : List Addr} {ks : List (List Int)}, (∀ (i : Nat) b k, bs[i]? = some b → ks[i]? = some k → H b = some (.tup ((kI k).map kV))) → bs.length = ks.length →
    PySem.W.EachIs (fun u (d : D) => ∃ b k, u = Value.ref b ∧ d = tupI k ∧ H b = some (.tup ((kI k).map kV))) (bs.map Value.ref) (ks.map tupI) ∧ PySem.W.EachIs (fun u (d : D) => ∃ as, Reads h u d as) (bs.map Value.ref) (ks.map tupI)
  | [], [], _, _ => ⟨.nil, .nil⟩
  | [], _ :: _, _, e => by cases e
  | _ :: _, [], _, e => by cases e
  | b :: bs, k :: ks, hb, e => by
    obtain ⟨h1, h2⟩ := sort_read ok (bs := bs) (ks := ks) (fun i b k e1 e2 => hb (i + 1) b k (by simpa using e1) (by simpa using e2)) (by simpa using e)
    have h0 := hb 0 b k rfl rfl
    refine ⟨.cons ⟨b, k, rfl, rfl, h0⟩ h1, .cons ?_ h2⟩
    exact Rp.reads (F := H) (Ex.refl H) ok (.tup h0 (RpA.kI k)) rfl (nice_tupI (n := 1) k).pl
theorem of_keys {H : Hp} : ∀ {us : List Value} {ks : List (List Int)}, PySem.W.EachIs (fun u (d : D) => ∃ b k, u = Value.ref b ∧ d = tupI k ∧ H b = some (.tup ((kI k).map kV))) us (ks.map tupI) →
    ∃ bs : List Addr, us = bs.map Value.ref ∧ bs.length = ks.length ∧ ∀ (i : Nat) b k, bs[i]? = some b → ks[i]? = some k → H b = some (.tup ((kI k).map kV))
  | _, [], h => by cases h; exact ⟨[], rfl, rfl, fun i b k e => by simp at e⟩
  | _, k :: ks, h => by
    rw [List.map_cons] at h
    cases h with
    | cons h1 t =>
      obtain ⟨b, k', rfl, ek, hb⟩ := h1
      have := tupI_inj ek
      subst this
      obtain ⟨bs, rfl, h2, h3⟩ := of_keys t
      refine ⟨b :: bs, rfl, by rw [List.length_cons, List.length_cons, h2], fun i b k e1 e2 => ?_⟩
      cases i with
      | zero => simp at e1 e2; subst e1 e2; exact hb
      | succ i => exact h3 i b k (by simpa using e1) (by simpa using e2)
/-- sorted(d), d a dict whose keys are tuples of ints -/
def rSortK (X : Cx) : List V → Hp → VK → Prop := fun vs H Q => ∃ (a : Addr) (ws : List (List Key × V)) (ks : List (List Int)), vs = [.ref a] ∧ Rd H a (.dT ws) ∧ ws.map (·.1) = ks.map kI ∧ X.A.units + 5 < cLine ∧
  ∀ (p : Addr) (bs : List Addr), bs.length = (sortL ks).length → (∀ (i : Nat) b k, bs[i]? = some b → (sortL ks)[i]? = some k → H b = some (.tup ((kI k).map kV))) → H p = none → Q (.ref p) (upd H p (.lst (bs.map V.ref)))
theorem call_sortK (hcalm : X.calm = true) : CallR X (.builtin "sorted") (rSortK X) := by
  intro pins s σ H xs us Q I r q
  obtain ⟨a, ws, ks, ex, hd, hks, hu, q⟩ := q
  subst ex
  obtain ⟨u, eu, rx⟩ := vals1 r
  subst eu
  cases rx
  obtain ⟨z, hs, ys, pr, o, es, ep, ho, hx, hdt, he, hn⟩ := (show ObjOk X.prog X.w H s.heap a (.dT ws) from hd.ok I.hok)
  have l1 : es.size = ys.length := size_of_entries he
  have l2 : ws.length = ys.length := Paired.length pr
  have l3 : ws.length = ks.length := by have := congrArg List.length hks; rw [List.length_map, List.length_map] at this; exact this
  refine Calls.call_function_entry PyProof.Rows.kind_sorted PyProof.Rows.plain_sorted PyProof.Rows.entry_sorted (PyProof.Rows.args_sorted1 _) ?_
  unfold Builtin.«sorted»
  refine wpAny_bind (m := checkCount "sorted" 1 1 _) (wpAny_pure ?_)
  refine wpAny_bind (PySem.W.kdu_collect (A := X.A.in1) (kdl_raw hs hx hdt) (I.ok.hd hcalm) ho (by omega) fun h' tk acc hk it => ?_)
  have ea : acc.toList = ys.map fun y => Value.ref y.2.1 := by
    have hl : acc.toList.length = ys.length := by rw [Array.length_toList, it.1]; exact l1
    apply List.ext_getElem?
    intro j
    rw [List.getElem?_map]
    cases hj : acc.toList[j]? with
    | none =>
      have h1 := List.getElem?_eq_none_iff.mp hj
      rw [List.getElem?_eq_none (by omega)]
      rfl
    | some v =>
      obtain ⟨en, hen, hv⟩ := it.2 j v (by rw [← Array.getElem?_toList]; exact hj)
      have qe := entry_at he j
      rw [hen] at qe
      cases hb : ys[j]? with
      | none => rw [hb] at qe; exact nomatch (show some en = none from qe)
      | some b =>
        rw [hb] at qe
        have e2 : en = entryOfKey (tupleKind (mixKind X.prog X.w)) b := Option.some.inj qe
        rw [hv, e2]
        rfl
  have I1 : Inv X pins σ H { s with heap := h', toks := tk } := I.kept hk
  have hB : ∀ (i : Nat) b k, (ys.map fun y => y.2.1)[i]? = some b → ks[i]? = some k → H b = some (.tup ((kI k).map kV)) := fun i b k e1 e2 => by
    rw [List.getElem?_map] at e1
    cases ey : ys[i]? with
    | none => rw [ey] at e1; cases e1
    | some y =>
      rw [ey] at e1
      cases e1
      have hi : i < ws.length := by rw [l2]; exact (List.getElem?_eq_some_iff.mp ey).1
      obtain ⟨y', ey', g1, g2, _⟩ := paired_get pr (List.getElem?_eq_getElem hi)
      rw [ey] at ey'
      cases ey'
      have e3 : (ws.map (·.1))[i]? = some ws[i].1 := by rw [List.getElem?_map, List.getElem?_eq_getElem hi]; rfl
      rw [hks, List.getElem?_map, e2] at e3
      have e4 : kI k = ws[i].1 := Option.some.inj e3
      rw [e4]
      exact g2
  have hlen : (ys.map fun y => y.2.1).length = ks.length := by rw [List.length_map]; omega
  have ea2 : acc.toList = (ys.map fun y => y.2.1).map Value.ref := by rw [ea, List.map_map]; rfl
  obtain ⟨e1, er1⟩ := sort_read I1.hok hB hlen
  rw [← ea2] at e1 er1
  have hz : acc.toList.length ≤ sizeLine := by rw [ea, List.length_map]; omega
  refine wpAny_bind (wpAny_newList ?_ hz)
  have hoL : (h'.push (seqObj "list" acc.toList.toArray 0)).get? h'.objs.size = some (seqObj "list" acc.toList.toArray 0) := Heap.get?_push_size _ rfl
  show wpAny _ _ _ _ _ { s with heap := h'.push (seqObj "list" acc.toList.toArray 0), toks := tk }
  have hal : PySem.W.AllAlike (ks.map tupI) := PySem.W.AllAlike.of alike_tupI
  have ht : ∀ d ∈ ks.map tupI, ∃ xs, d = PyData.tuple xs := fun d hd => by
    obtain ⟨l, _, rfl⟩ := List.mem_map.mp hd
    exact ⟨_, rfl⟩
  have hdp : ∀ d ∈ ks.map tupI, d.depth = 1 := fun d hd => by
    obtain ⟨l, _, rfl⟩ := List.mem_map.mp hd
    exact depth_tupI l
  have keepS : ∀ b u, h'.get? b = some u → (PySem.W.sortingHeap (h'.push (seqObj "list" acc.toList.toArray 0)) h'.objs.size acc.toList).get? b = some u := fun b u e =>
    PySem.W.sortingHeap_old (Nat.ne_of_lt (Heap.lt_size e)) (Heap.get?_push_of_some _ e)
  have er2 : PySem.W.EachIs (fun v d => ∃ as, Reads (PySem.W.sortingHeap (h'.push (seqObj "list" acc.toList.toArray 0)) h'.objs.size acc.toList) v d as) acc.toList (ks.map tupI) := er1.mono fun _ _ ⟨as, r⟩ => ⟨as, PyProof.Rows.Reads.keeps keepS r⟩
  refine wpAny_bind (wpAny_holding (wpAny_call_entry PyProof.Rows.slot_list_sort ⟨_, hoL, rfl⟩ PyProof.Rows.entry_list_sort
    (PySem.W.list_sort_vals (s := { s with heap := h'.push (seqObj "list" acc.toList.toArray 0), toks := tk }) hoL (sortsAt_tups (s := { s with heap := PySem.W.sortingHeap (h'.push (seqObj "list" acc.toList.toArray 0)) h'.objs.size acc.toList, toks := tk }) er2 hal ht fun d h => by rw [hdp d h]; show X.A.units + 1 + 1 + 1 < cLine; omega) hz ⟨_, rfl, ?_⟩) (PyProof.Rows.args_list_sort _)))
  have out := PySem.W.sortVals_data (enc := id) (R := fun u (d : D) => ∃ b k, u = Value.ref b ∧ d = tupI k ∧ H b = some (.tup ((kI k).map kV))) false e1 er2 (by rw [List.map_id]; exact hal)
  rw [List.map_id, sort_map dataLe_tupI] at out
  obtain ⟨bs, eo, g1, g2⟩ := of_keys out
  obtain ⟨e', he'⟩ := PyProof.Rows.sortedHeap_at (vs := acc.toList) (out := (PySem.W.sortVals (PySem.W.dataKind (PySem.W.sortingHeap (h'.push (seqObj "list" acc.toList.toArray 0)) h'.objs.size acc.toList) (ks.map tupI)) false acc.toList acc.toList).toArray) hoL
  have hlen2 : (bs.map V.ref).length ≤ sizeLine := by
    rw [List.length_map, g1, List.length_mergeSort, ← hlen, List.length_map]
    omega
  refine wpAny_pure ⟨_, rfl, .ref h'.objs.size, upd H h'.objs.size (.lst (bs.map V.ref)), I1.laid (t' := tk) (fun b u e => ?_) (Nat.le_refl _) (show ObjOk X.prog X.w _ _ _ (.lst (bs.map V.ref)) from ⟨hlen2, _, e', by rw [eo]; exact vals_refs bs, he'⟩), rfl, q _ bs g1 g2 (I1.hok.fresh (Nat.le_refl _))⟩
  have hb : b < h'.objs.size := Heap.lt_size e
  rw [PyProof.Rows.sortedHeap_old (Nat.ne_of_lt hb) (by rw [size_push']; exact Nat.lt_succ_of_lt hb)]
  exact Heap.get?_push_of_some _ e
theorem RpK.keys {F : Hp} : ∀ {ws : List (List Key × V)} {kvs : List (List Int × D)}, RpK F ws kvs → ws.map (·.1) = (kvs.map (·.1)).map kI
  | _, _, .nil => rfl
  | _, _, .cons _ t => by rw [List.map_cons, List.map_cons, List.map_cons, RpK.keys t]; rfl
theorem jsortK {K : List D → List Sl → Prop} {a : Expr} {p pos : Pos} {k : Nat} (hr : Room k X.A) (hc : X.calm = true) (hm : X.mg "sorted" = none) (h : JE X r a S fun d S1 => ∃ kvs : List (List Int × D), d = dctD kvs ∧ K ((sortL (kvs.map (·.1))).map tupI) S1) (hg : Gl X "sorted" := by rfl) (hs : starEach [a] X.env = (false, eval a X.env) :: starEach [] X.env := by rfl) : JN X r (.Call (.Name "sorted" p) [a] [] pos) S K := fun c F σ H hr' E Q q =>
  of_pe (pe_callB (call_sortK hc) hg hm (by decide +kernel) (pa_cons pe_tE pa_nil hs) (by decide) (by decide) hs rfl) (h c F σ H hr' E _ fun v d F1 H1 S1 h1 E1 k1 r1 => by
    obtain ⟨kvs, rfl, kk⟩ := h1
    obtain ⟨l, ws, rfl, hl, rk⟩ := rp_dct r1
    refine ⟨l, ws, kvs.map (·.1), rfl, .inl (E1.fin.fh _ _ hl), rk.keys, by have := hr.un; omega, fun p bs hb1 hb2 n => ?_⟩
    obtain ⟨F', k2, E', ra⟩ := E1.freezeAll hb2 hb1
    exact q p _ F' _ S1 kk (newL_of E' n ra) (k1.trans k2))
/-- a, b = x, []: the second a new list -/
theorem jpar2N {x y : Str} {a b : Expr} {px py pt pos : Pos} {kt k2 pt2} {E : DE} {rest : List Stmt} (i j : Nat) (h : JE X r a S fun d1 S1 => JN X r b S1 fun ds S2 => S2[i]? = some .emp ∧ JSs X r rest ((S2.set i (.val d1)).set j (.own ds)) E)
    (hc : X.calm = true := by rfl) (hN : X.N.Nodup := by assumption) (hi : X.N[i]? = some x := by rfl) (hj : X.N[j]? = some y := by rfl) (hij : i ≠ j := by decide) (hx : X.env.scope.names.lookup x = some .local := by rfl) (hy : X.env.scope.names.lookup y = some .local := by rfl)
    (hw : swappedStores [.Tuple [.Name x px, .Name y py] kt pt] (.Tuple [a, b] k2 pt2) X.env = pure (some [x, y]) := by rfl) (hs : swapsWithSole [.Tuple [.Name x px, .Name y py] kt pt] (.Tuple [a, b] k2 pt2) pos.line X.env = pure false := by rfl)
    (s1 : starEach [a, b] X.env = (false, eval a X.env) :: starEach [b] X.env := by rfl) (s2 : starEach [b] X.env = (false, eval b X.env) :: starEach [] X.env := by rfl) :
    JSs X r (.Assign [.Tuple [.Name x px, .Name y py] kt pt] (.Tuple [a, b] k2 pt2) pos :: rest) S E := jss_cons fun c F σ H hr Ev G g =>
  of_ps (ps_par hc hN hi hj hij hx hy (pa_cons pe_tE (pa_cons pe_tE pa_nil s2) s1) hw hs) (h c F σ H hr Ev _ fun v d F1 H1 S1 h1 E1 k1 r1 => h1 c F1 σ H1 hr E1 _ fun p ds F2 H2 S2 h2 n k2 => by
    obtain ⟨hh, E2, hp, hv, nF, b, q, no⟩ := n
    obtain ⟨e1, kk⟩ := h2
    refine ⟨v, .ref p, rfl, g.nx F2 _ H2 _ kk ((E2.set (i := i) (r1.ex k2)).setOwn hp hv nF b q fun m xs em => ?_) (k1.trans k2)⟩
    have hli : i < S2.length := (List.getElem?_eq_some_iff.mp e1).1
    by_cases hm : i = m
    · subst hm
      rw [List.getElem?_set_self hli] at em; cases em
    · rw [List.getElem?_set_ne hm] at em ⊢
      exact no m xs em)
end
end DL

/-! DL: plain facts of dicts with keys that are tuples of ints; walks over range(1, n). -/
namespace DL
open PySem L2
def keyL (kvs : List (List Int × D)) : List (List Int) := kvs.map (·.1)
theorem valD_none {kvs : List (List Int × D)} {k : List Int} : valD kvs k = none ↔ k ∉ keyL kvs := by
  unfold valD keyL
  rw [Option.map_eq_none_iff, List.find?_eq_none]
  constructor
  · intro h hk
    obtain ⟨p, hp, rfl⟩ := List.mem_map.mp hk
    exact h p hp (by simp)
  · intro h p hp e
    rw [decide_eq_true_eq] at e
    exact h (List.mem_map.mpr ⟨p, hp, e⟩)
theorem any_key (kvs : List (List Int × D)) (k : List Int) : (kvs.any fun kv => decide (kv.1 = k)) = decide (k ∈ keyL kvs) := by
  rw [Bool.eq_iff_iff, List.any_eq_true, decide_eq_true_eq]
  unfold keyL
  rw [List.mem_map]
  exact ⟨fun ⟨p, h, e⟩ => ⟨p, h, of_decide_eq_true e⟩, fun ⟨p, h, e⟩ => ⟨p, h, decide_eq_true e⟩⟩
theorem putD_keys (kvs : List (List Int × D)) (k : List Int) (d : D) : keyL (putD kvs k d) = if k ∈ keyL kvs then keyL kvs else keyL kvs ++ [k] := by
  unfold putD
  rw [any_key]
  by_cases h : k ∈ keyL kvs
  · rw [if_pos (decide_eq_true h), if_pos h]
    unfold keyL
    rw [List.map_map]
    refine List.map_congr_left fun p _ => ?_
    show (if p.1 = k then (p.1, d) else p).1 = p.1
    split <;> rfl
  · rw [if_neg (by rw [decide_eq_false h]; exact Bool.false_ne_true), if_neg h]
    unfold keyL
    rw [List.map_append]; rfl
theorem putD_nodup {kvs : List (List Int × D)} (h : (keyL kvs).Nodup) (k : List Int) (d : D) : (keyL (putD kvs k d)).Nodup := by
  rw [putD_keys]
  split
  · exact h
  · rename_i n
    rw [List.nodup_append]
    refine ⟨h, List.nodup_cons.mpr ⟨List.not_mem_nil, List.nodup_nil⟩, fun a ha b hb e => ?_⟩
    rw [List.mem_singleton] at hb
    exact n (by rw [← hb, ← e]; exact ha)
theorem valD_put (kvs : List (List Int × D)) (k k' : List Int) (d : D) : valD (putD kvs k d) k' = if k' = k then some d else valD kvs k' := by
  unfold putD
  rw [any_key]
  by_cases h : k ∈ keyL kvs
  · rw [if_pos (decide_eq_true h)]
    induction kvs with
    | nil => cases h
    | cons p kvs ih =>
      unfold valD at ih ⊢
      rw [List.map_cons]
      by_cases e : p.1 = k
      · rw [if_pos e]
        by_cases e2 : k' = k
        · rw [if_pos e2, List.find?_cons_of_pos (by simp [e, e2])]; rfl
        · rw [if_neg e2, List.find?_cons_of_neg (by simp [e]; exact fun z => e2 z.symm), List.find?_cons_of_neg (by simp [e]; exact fun z => e2 z.symm)]
          by_cases h2 : k ∈ keyL kvs
          · rw [ih h2, if_neg e2]
          · have : kvs.map (fun kv => if kv.1 = k then (kv.1, d) else kv) = kvs := by
              conv => rhs; rw [← List.map_id kvs]
              refine List.map_congr_left fun q hq => ?_
              rw [if_neg (fun z => h2 (List.mem_map.mpr ⟨q, hq, z⟩))]; rfl
            rw [this]
      · have h2 : k ∈ keyL kvs := (List.mem_cons.mp h).resolve_left fun z => e z.symm
        rw [if_neg e]
        by_cases e2 : p.1 = k'
        · rw [List.find?_cons_of_pos (by simp [e2]), List.find?_cons_of_pos (by simp [e2]), if_neg (fun z => e (e2.trans z))]
        · rw [List.find?_cons_of_neg (by simp [e2]), List.find?_cons_of_neg (by simp [e2])]
          exact ih h2
  · rw [if_neg (by rw [decide_eq_false h]; exact Bool.false_ne_true)]
    unfold valD
    rw [List.find?_append]
    by_cases e2 : k' = k
    · subst e2
      have := valD_none.mpr h
      unfold valD at this
      rw [Option.map_eq_none_iff] at this
      rw [if_pos rfl, this, Option.none_or, List.find?_cons_of_pos (by simp)]; rfl
    · rw [if_neg e2, List.find?_cons_of_neg (by simp; exact fun z => e2 z.symm), List.find?_nil, Option.or_none]
theorem mem_keys_merge {k : List Int} : ∀ (ps kvs : List (List Int × D)), k ∈ keyL (mergeD kvs ps) ↔ k ∈ keyL kvs ∨ k ∈ keyL ps
  | [], kvs => by
    show k ∈ keyL kvs ↔ k ∈ keyL kvs ∨ k ∈ []
    simp
  | p :: ps, kvs => by
    show k ∈ keyL (mergeD (putD kvs p.1 p.2) ps) ↔ _
    rw [mem_keys_merge ps, putD_keys]
    show _ ↔ k ∈ keyL kvs ∨ k ∈ p.1 :: keyL ps
    rw [List.mem_cons]
    split
    · rename_i h
      constructor
      · rintro (h1 | h1)
        · exact .inl h1
        · exact .inr (.inr h1)
      · rintro (h1 | rfl | h1)
        · exact .inl h1
        · exact .inl h
        · exact .inr h1
    · rw [List.mem_append, List.mem_singleton, or_assoc]
theorem nodup_merge : ∀ (ps : List (List Int × D)) {kvs : List (List Int × D)}, (keyL kvs).Nodup → (keyL (mergeD kvs ps)).Nodup
  | [], _, h => h
  | p :: ps, _, h => nodup_merge ps (putD_nodup h p.1 p.2)
theorem valD_isSome (kvs : List (List Int × D)) (k : List Int) : (valD kvs k).isSome = decide (k ∈ keyL kvs) := by
  by_cases h : k ∈ keyL kvs
  · rw [decide_eq_true h]
    cases e : valD kvs k with
    | none => exact absurd h (valD_none.mp e)
    | some d => rfl
  · rw [decide_eq_false h, valD_none.mpr h]; rfl
/-- a dict that says of some lots that they are there -/
def knownD (fam : List (List Int)) : List (List Int × D) := mergeD [] (fam.map fun l => (l, PyData.bool true))
theorem known_isSome (fam : List (List Int)) (k : List Int) : (valD (knownD fam) k).isSome = decide (k ∈ fam) := by
  rw [valD_isSome]
  congr 1
  unfold knownD
  rw [mem_keys_merge, eq_iff_iff]
  unfold keyL
  rw [List.map_map]
  have : (fam.map ((fun p : List Int × D => p.1) ∘ fun l => (l, PyData.bool true))) = fam := by
    conv => rhs; rw [← List.map_id fam]
    rfl
  rw [this]
  simp
/-! ### slices of tuples, int(..), isinstance -/
section
variable {X : Cx} {r : SR} {S : List Sl}
theorem je_cutTo {K : D → List Sl → Prop} {e hi : Expr} {p2 pos : Pos} (h : JE X r e S fun d S1 => JE X r hi S1 fun d2 S2 => ∃ (ds : List D) (k : Nat), d = .tuple ds ∧ d2 = .int k ∧ K (.tuple (ds.take k)) S2) : JE X r (.Subscript e (.Slice none (some hi) none p2) pos) S K :=
  je_cutT (h.mono fun d S1 h1 => (show JE X r hi S1 _ from h1.mono fun d2 S2 ⟨ds, k, e1, e2, kk⟩ => ⟨k, e2, ds, e1, by rw [cutD_to]; exact kk⟩))
theorem je_cutFrom {K : D → List Sl → Prop} {e lo : Expr} {p2 pos : Pos} (h : JE X r e S fun d S1 => JE X r lo S1 fun d2 S2 => ∃ (ds : List D) (k : Nat), d = .tuple ds ∧ d2 = .int k ∧ K (.tuple (ds.drop k)) S2) : JE X r (.Subscript e (.Slice (some lo) none none p2) pos) S K :=
  je_cutT (h.mono fun d S1 h1 => (show JE X r lo S1 _ from h1.mono fun d2 S2 ⟨ds, k, e1, e2, kk⟩ => ⟨k, e2, ds, e1, by rw [cutD_from]; exact kk⟩))
theorem jint {K : D → List Sl → Prop} {a : Expr} {p pos : Pos} (hm : X.mg "int" = none) (h : JE X r a S fun d S1 => ∃ i : Int, d = .int i ∧ K (.int i) S1) (hg : Gl X "int" := by rfl) (hs : starEach [a] X.env = (false, eval a X.env) :: starEach [] X.env := by rfl) : JE X r (.Call (.Name "int" p) [a] [] pos) S K :=
  jTy call_int1 hm (ja1 (h.mono fun d S1 ⟨i, e, k⟩ => ⟨[d], rfl, by
    rw [e]
    intro F H vs kF rv Q q
    cases rv with
    | cons r1 t =>
      cases t
      cases r1
      exact .inl ⟨i, rfl, q _ _ F H k (Grow.refl kF) (.int _)⟩⟩) hs) hg (by decide +kernel) (by decide) (by decide) hs rfl
end
theorem kt_tt (ds : List D) : kitB (tyD (.tuple ds)) "tuple" = some true := by show kitB "tuple" "tuple" = _; decide +kernel
theorem kt_ii (i : Int) : kitB (tyD (.int i)) "int" = some true := by show kitB "int" "int" = _; decide +kernel
theorem kt_ib (i : Int) : kitB (tyD (.int i)) "bool" = some false := by show kitB "int" "bool" = _; decide +kernel
/-! ### tuples of ints in a tuple, in a list of such -/
section
variable {X : Cx}
theorem mem_tup {k : List Int} {fam : List (List Int)} : ((⟨k⟩ : PySem.W.Tup Int) ∈ fam.map fun l => (⟨l⟩ : PySem.W.Tup Int)) = (k ∈ fam) := by
  rw [List.mem_map, eq_iff_iff]
  exact ⟨fun ⟨a, h, e⟩ => by injection e with e; rw [← e]; exact h, fun h => ⟨_, h, rfl⟩⟩
theorem dec_tup (k : List Int) (fam : List (List Int)) : decide ((⟨k⟩ : PySem.W.Tup Int) ∈ fam.map fun l => (⟨l⟩ : PySem.W.Tup Int)) = decide (k ∈ fam) := by
  rw [Bool.eq_iff_iff, decide_eq_true_eq, decide_eq_true_eq, mem_tup]
theorem tup_map (fam : List (List Int)) : (fam.map fun l => (⟨l⟩ : PySem.W.Tup Int)).map PySem.W.Datum.toD = fam.map tupI := by rw [List.map_map]; rfl
theorem od_inTT {n : Nat} (hr : Room n X.A) {k : List Int} {fam : List (List Int)} {K : D → Prop} (h : K (.bool (decide (k ∈ fam)))) : OpD (rInD X false) (tupI k) (.tuple (fam.map tupI)) K := by
  rw [← tup_map]
  exact od_inT (α := PySem.W.Tup Int) (x := ⟨k⟩) hr (by decide) (by rw [dec_tup]; exact h)
theorem od_niTT {n : Nat} (hr : Room n X.A) {k : List Int} {fam : List (List Int)} {K : D → Prop} (h : K (.bool (!decide (k ∈ fam)))) : OpD (rInD X true) (tupI k) (.tuple (fam.map tupI)) K := by
  rw [← tup_map]
  exact od_niT (α := PySem.W.Tup Int) (x := ⟨k⟩) hr (by decide) (by rw [dec_tup]; exact h)
theorem od_inLT {n : Nat} (hr : Room n X.A) {k : List Int} {fam : List (List Int)} {K : D → Prop} (h : K (.bool (decide (k ∈ fam)))) : OpD (rInD X false) (tupI k) (.list (fam.map tupI)) K := by
  rw [← tup_map]
  exact od_inL (α := PySem.W.Tup Int) (x := ⟨k⟩) hr (by decide) (by rw [dec_tup]; exact h)
theorem od_niLT {n : Nat} (hr : Room n X.A) {k : List Int} {fam : List (List Int)} {K : D → Prop} (h : K (.bool (!decide (k ∈ fam)))) : OpD (rInD X true) (tupI k) (.list (fam.map tupI)) K := by
  rw [← tup_map]
  exact od_niL (α := PySem.W.Tup Int) (x := ⟨k⟩) hr (by decide) (by rw [dec_tup]; exact h)
end
/-- over range(1, n) -/
theorem lcR1 {X : Cx} {r : SR} {S : List Sl} {scope : Scope} {tg elt : Expr} {ifs : List Expr} {vs ts : List Nat} {K : List D → Prop} {n : Int} {m : Nat} (p : Nat → Bool) (g : Nat → D) (turn : ∀ a, a < m → LcPure X r scope tg elt ifs vs ts (.int (1 + (a : Int))) S (p a) (g a)) (k : K (((List.range m).filter p).map g)) (e : (n - 1).toNat = m := by omega) (hm : m ≤ 1000000 := by omega) (hv : noOwn vs S = true := by rfl) :
    (∀ j ∈ vs, ∀ xs, S[j]? ≠ some (.ob xs)) ∧ LcAll X r scope tg elt ifs vs ts (rangeD 1 (n - 1).toNat) S K :=
  ⟨noOwn_of hv, Nat, List.range m, fun i => .int (1 + (i : Int)), p, g, by rw [e]; rfl, by rw [List.length_range]; exact hm, fun a ha => turn a (List.mem_range.mp ha), k⟩
end DL

/-! DL: the start of a law: its script's source of draws. -/
namespace DL
open PySem L2
def spLaw (K : PySem.W.Frag) : Sp := fun vs H Q _ => ∃ (a : Addr) (ns : List Int), vs = [.ref a] ∧ SqL K H a (ns.map V.int) ∧ ns.length ≤ 63 ∧ ∀ H', Q (.bl true) H'
theorem ev_src {H H' : Hp} {p : Addr × Addr} {σ : St} {m j : Nat} (hl : σ.length = m) (hj : σ[j]? = some (some (.ref p.1))) (sm : Ex H H') (n1 : H p.1 = none) (n2 : H p.2 = none) (ok : SrcOk H' p) :
    EvD ⟨H, fun _ => none, some p⟩ ((List.replicate m .emp).set j .src) (fun _ => none) σ H' := by
  have em : ∀ {i : Nat} {s : Sl}, ((List.replicate m .emp).set j .src)[i]? = some s → (i = j ∧ s = .src) ∨ s = .emp := fun {i s} e => by
    have hm := List.mem_of_getElem? e
    by_cases h : j = i
    · subst h
      have hj' := (List.getElem?_eq_some_iff.mp e).1
      rw [List.length_set] at hj'
      rw [List.getElem?_set_self hj'] at e
      cases e; exact .inl ⟨rfl, rfl⟩
    · rw [List.getElem?_set_ne h] at e
      exact .inr (List.eq_of_mem_replicate (List.mem_of_getElem? e))
  refine ⟨⟨Ex.refl _, fun a o e => (by cases e), sm, fun a o e => .inl rfl, fun q eq => ?_⟩, by rw [List.length_set, List.length_replicate]; exact hl, fun i s e => ?_, fun i k xs ys a e1 e2 _ _ => ?_⟩
  · cases eq
    exact ⟨ok, rfl, rfl, n1, n2⟩
  · rcases em e with ⟨rfl, rfl⟩ | rfl
    · exact ⟨_, hj, p, rfl, rfl⟩
    · have hi := (List.getElem?_eq_some_iff.mp e).1
      rw [List.length_set, List.length_replicate, ← hl] at hi
      exact ⟨σ[i], List.getElem?_eq_getElem hi, trivial⟩
  · rcases em e1 with ⟨_, z⟩ | z <;> cases z
/-- a slot that holds data, or nothing -/
def vS : Option D → Sl
  | none => .emp
  | some d => .val d
theorem ne_eq' {α : Type} [DecidableEq α] {x y : α} (h : x = y) : (!decide (x = y)) = false := by simp [h]
theorem ne_self {α : Type} [DecidableEq α] (x : α) : (!decide (x = x)) = false := by simp
theorem neqv_self {n : Nat} {d : D} (h : Nice n d) : (!PyData.eqv d d) = false := by rw [eqv_self h]; rfl
theorem mem2 {p : D → Prop} {a b : D} (ha : p a) (hb : p b) : ∀ d ∈ [a, b], p d := fun d hd => by
  rcases List.mem_cons.mp hd with rfl | hd
  · exact ha
  · rw [List.mem_singleton.mp hd]; exact hb
theorem get_map {α : Type} {l : List α} {f : α → D} {i : Nat} {d : D} (h : (l.map f)[i]? = some d) : ∃ x, x ∈ l ∧ l[i]? = some x ∧ d = f x := by
  rw [List.getElem?_map] at h
  cases e : l[i]? with
  | none => rw [e] at h; cases h
  | some x => rw [e] at h; exact ⟨x, List.mem_of_getElem? e, rfl, (Option.some.inj h).symm⟩
end DL

/-! DL: tuples that are known to have no dict: made, walked, compared, told; dict(..) of one. -/
namespace DL
open PySem L2
theorem ft_inj {a b : List D} (h : ft a = ft b) : a = b := by
  unfold ft at h
  injection h with h
  injection h with h _
  have := congrArg Prod.snd h
  injection this
theorem rp_ft {F : Hp} {v : V} {ds : List D} (r : Rp F v (ft ds)) : ∃ a o xs, v = .ref a ∧ F a = some (.frz o (.tup xs)) ∧ o.dict = none ∧ RpA F xs ds := by
  generalize e : ft ds = d at r
  cases r with
  | ftup h n r =>
    have := ft_inj e
    subst this
    exact ⟨_, _, _, rfl, h, n, r⟩
  | dct => exact (dctD_ne_ft e.symm).elim
  | _ => unfold ft at e; cases e
theorem ft_reads {P : Program} {w : World} {F H : Hp} {h : Heap} (k : Ex F H) (ok : HOk P w H h) {v : V} {ds : List D} {u : Value} (r : Rp F v (ft ds)) (e : RelV v u) (hp : PyData.plainAll ds = true) : ∃ as, Reads h u (.tuple ds) as := by
  obtain ⟨a, o, xs, rfl, ha, _, rv⟩ := rp_ft r
  cases e
  obtain ⟨_, _, its, rw', o', ho, hc, n, hd⟩ := ok _ _ (k _ _ ha)
  obtain ⟨as, hr⟩ := RpA.reads k ok rv rw' hp
  exact ⟨_, .tuple ho hc hd (by simpa using hr)⟩
section
variable {X : Cx} {r : SR} {S : List Sl}
/-! ### made -/
def rTupF (X : Cx) : List V → Hp → VK → Prop := fun xs H Q => ∃ p ys, xs = [.ref p] ∧ SqL X.K H p ys ∧ ∀ l o, o.dict = none → H l = none → Q (.ref l) (upd H l (.frz o (.tup ys)))
theorem call_tupF : CallR X (.type "tuple") (rTupF X) := by
  intro pins s σ H xs us Q I rr h
  obtain ⟨p, ys, rfl, hq, q⟩ := h
  obtain ⟨u, rfl, rx⟩ := vals1 rr
  cases rx
  obtain ⟨its, r', pl, hz⟩ := I.list hq
  have hlen := r'.length
  refine call_tuple_list pl.isList (fun h' kp => ?_) (by simp only [List.size_toArray] <;> omega)
  have I1 : Inv X pins σ H { s with heap := h' } := I.kept (t' := s.toks) kp
  have I2 : Inv X pins σ (upd H h'.objs.size (.frz { cls := .type "tuple", data := .seq its.toArray } (.tup ys))) { s with heap := h'.push { cls := .type "tuple", data := .seq its.toArray } } :=
    I1.laid (t' := s.toks) (fun b o e => Heap.get?_push_of_some _ e) (Nat.le_refl _) (show ObjOk X.prog X.w _ _ _ (.frz _ (.tup ys)) from ⟨Heap.get?_push_size _ rfl, hz, its, r', ⟨_, Heap.get?_push_size _ rfl, rfl, _, rfl⟩⟩)
  exact ⟨.ref h'.objs.size, _, I2, rfl, q _ _ rfl (I1.hok.fresh (Nat.le_refl _))⟩
/-- tuple(xs), xs a new list: known to have no dict -/
theorem jtupF {K : D → List Sl → Prop} {a : Expr} {p pos : Pos} (hm : X.mg "tuple" = none) (h : JN X r a S fun xs S1 => K (ft xs) S1) (hg : Gl X "tuple" := by rfl) (hs : starEach [a] X.env = (false, eval a X.env) :: starEach [] X.env := by rfl) : JE X r (.Call (.Name "tuple" p) [a] [] pos) S K :=
  jTy call_tupF hm (ja1 ((JN.je (K := fun d S1 => ∃ ys, d = .list ys ∧ K (ft ys) S1) (h.mono fun xs S1 k => ⟨xs, rfl, k⟩)).mono fun d S1 ⟨xs, e, k⟩ => ⟨[d], rfl, by
    rw [e]
    intro F H vs kF rv Q q
    cases rv with
    | cons r1 t =>
      cases t
      cases r1 with
      | @lst a ws _ ha rv =>
        refine ⟨a, ws, rfl, .inl (.inl (kF _ _ ha)), fun l o ho n => ?_⟩
        have g := Grow.new kF (o := .frz o (.tup ws)) n
        exact q _ _ _ _ k g (.ftup upd_same ho (rv.ex g.kF))⟩) hs) hg (by decide +kernel) (by decide) (by decide) hs rfl
def tTupF (t : TA) : TE := fun σ H Q => t σ H fun xs H1 => xs.length ≤ sizeLine ∧ ∀ p o, o.dict = none → H1 p = none → Q (.ref p) (upd H1 p (.frz o (.tup xs)))
theorem pe_tupF {es : List Expr} {x1} {pos : Pos} {t : TA} (h : PA X es t) : PE X (.Tuple es x1 pos) (tTupF t) := by
  refine ⟨fun pins s σ H Q I hq => ?_⟩
  refine wpAny_Tuple_spliced (thn (h.run pos pins s σ H _ I hq) fun us s1 ⟨xs, H1, I1, r, z, q⟩ => ⟨by rw [← r.length]; exact z, ?_⟩)
  have hf : H1 s1.heap.objs.size = none := I1.hok.fresh (Nat.le_refl _)
  refine ⟨.ref s1.heap.objs.size, upd H1 s1.heap.objs.size (.frz { cls := .type "tuple", data := .seq us.toArray } (.tup xs)), I1.laid (t' := s1.toks) (fun b u e => Heap.get?_push_of_some _ e) (Nat.le_refl _) ?_, rfl, q _ _ rfl hf⟩
  exact ⟨Heap.get?_push_size _ rfl, z, us, r, ⟨_, Heap.get?_push_size _ rfl, rfl, _, rfl⟩⟩
/-- (a, b, ..), known to have no dict -/
theorem je_tupF {K : D → List Sl → Prop} {es : List Expr} {x1} {pos : Pos} (h : JA X r es S fun as S1 => ∃ ds, dats as = some ds ∧ ds.length ≤ sizeLine ∧ K (ft ds) S1) : JE X r (.Tuple es x1 pos) S K :=
  fun c F σ H hr E Q q => of_pe (pe_tupF pa_tA) (h c F σ H hr E _ fun vs as F1 H1 S1 h1 E1 k1 r1 => by
    obtain ⟨ds, e, hl, kd⟩ := h1
    have rp := r1.dats e
    refine ⟨by rw [rp.length]; exact hl, fun p o ho n => ?_⟩
    have g := Grow.new E1.fin.fh (o := .frz o (.tup vs)) n
    exact q _ _ _ _ S1 kd (E1.grow g) (k1.trans g.kF) (.ftup upd_same ho (rp.ex g.kF)))
theorem jtup1F {K : D → List Sl → Prop} {a : Expr} {k : Nat} {pos : Pos} (h : JE X r a S fun d S1 => K (ft [d]) S1) (s1 : starEach [a] X.env = (false, eval a X.env) :: starEach [] X.env := by rfl) : JE X r (.Tuple [a] k pos) S K :=
  je_tupF (ja1 (h.mono fun d S1 k => ⟨[d], rfl, by show 1 ≤ sizeLine; decide, k⟩) s1)
theorem jtup0F {K : D → List Sl → Prop} {k : Nat} {pos : Pos} (h : K (ft []) S) : JE X r (.Tuple [] k pos) S K := je_tupF (jA0 ⟨[], rfl, Nat.zero_le _, h⟩)
/-! ### walked -/
theorem itf_d {K : PySem.W.Frag} {B F : Hp} {a : Addr} {o : Obj} {vs : List V} {ds : List D} (h : F a = some (.frz o (.tup vs))) (rv : RpA F vs ds) : ItD (Itt K a) B F ds :=
  ⟨fun i H kb k hi => ⟨vs, .inl (.inr ⟨o, k _ _ h⟩), by rw [rv.length]; exact hi⟩,
   fun i H kb k hi => by
    obtain ⟨v, e, _⟩ := rv.get' (i := i) (List.getElem?_eq_getElem hi)
    exact ⟨vs, v, .inl (.inr ⟨o, k _ _ h⟩), e⟩,
   fun i H x H' kb k y hi => by
    obtain ⟨e, f⟩ := y
    obtain ⟨d, e1, e2⟩ := rv.get (f vs (.inl (.inr ⟨o, k _ _ h⟩)))
    exact .inl ⟨e, d, e1, e2⟩⟩
theorem jiF {tg e : Expr} {K : List D → List Sl → Prop} (h : JE X r e S fun d S1 => ∃ ds, d = ft ds ∧ K ds S1) : JI X r tg e S K :=
  fun c F σ H hr E R q => of_pi (pi_tup pe_tE) (h c F σ H hr E _ fun v d F1 H1 S1 h1 E1 k1 r1 => by
    obtain ⟨ds, rfl, kd⟩ := h1
    obtain ⟨a, o, xs, rfl, ha, _, hv⟩ := rp_ft r1
    exact ⟨_, rfl, ⟨_, .inl (.inr ⟨o, E1.fin.fh _ _ ha⟩)⟩, q _ ds F1 H1 S1 kd E1 k1 (itf_d ha hv)⟩)
/-! ### compared, told -/
def rEqF (X : Cx) (neg : Bool) : R2 := fun x y H Q => ∃ F d1 d2, Ex F H ∧ Rp F x (ft d1) ∧ Rp F y (ft d2) ∧ (PyData.tuple d1).plain = true ∧ (PyData.tuple d2).plain = true ∧ X.A.units + min (PyData.tuple d1).depth (PyData.tuple d2).depth < cLine ∧ Q (.bl (if neg = true then !PyData.eqv (.tuple d1) (.tuple d2) else PyData.eqv (.tuple d1) (.tuple d2))) H
theorem op_eqF : OpR X (compareOp .Eq) (rEqF X false) := by
  intro pins s σ H x y v u Q I rx ry h
  obtain ⟨F, d1, d2, k, r1, r2, p1, p2, hu, q⟩ := h
  obtain ⟨as, h1⟩ := ft_reads k I.hok r1 rx (by simpa only [PyData.plain] using p1)
  obtain ⟨bs, h2⟩ := ft_reads k I.hok r2 ry (by simpa only [PyData.plain] using p2)
  exact PySem.SeqAt.eq_plain h1 h2 p1 p2 hu ⟨.bl _, H, I, rfl, q⟩
theorem op_neF : OpR X (compareOp .NotEq) (rEqF X true) := by
  intro pins s σ H x y v u Q I rx ry h
  obtain ⟨F, d1, d2, k, r1, r2, p1, p2, hu, q⟩ := h
  obtain ⟨as, h1⟩ := ft_reads k I.hok r1 rx (by simpa only [PyData.plain] using p1)
  obtain ⟨bs, h2⟩ := ft_reads k I.hok r2 ry (by simpa only [PyData.plain] using p2)
  exact PySem.SeqAt.ne_plain h1 h2 p1 p2 hu ⟨.bl _, H, I, rfl, q⟩
theorem od_eqF {k : Nat} (hr : Room k X.A) {neg : Bool} {d1 d2 : List D} {K : D → Prop} (h1 : Nice 50 (.tuple d1)) (h2 : Nice 50 (.tuple d2)) (h : K (.bool (if neg = true then !PyData.eqv (.tuple d1) (.tuple d2) else PyData.eqv (.tuple d1) (.tuple d2)))) : OpD (rEqF X neg) (ft d1) (ft d2) K :=
  fun F H v1 v2 kF r1 r2 Q q => ⟨F, _, _, kF, r1, r2, h1.pl, h2.pl, (by
    have := units_le hr (Nat.le_trans h1.dp (by decide : 50 ≤ 60)); have := Nat.min_le_left (PyData.tuple d1).depth (PyData.tuple d2).depth; omega), q _ _ F H h (Grow.refl kF) (.bl _)⟩
def rReprF (X : Cx) : List V → Hp → VK → Prop := fun vs H Q => ∃ F x ds, vs = [x] ∧ Ex F H ∧ Rp F x (ft ds) ∧ (PyData.tuple ds).plain = true ∧ (PyData.tuple ds).showable = true ∧ (PyData.tuple ds).hasDict = false ∧ X.A.units + ((PyData.tuple ds).depth + 1) < cLine ∧ (PyData.tuple ds).shown.length ≤ sizeLine ∧ Q (.str (PyData.tuple ds).shown) H
theorem call_reprF (hg : X.A.guards = some []) : CallR X (.builtin "repr") (rReprF X) := by
  intro pins s σ H xs us Q I rr h
  obtain ⟨F, x, ds, rfl, k, rp, hpl, hs, hd, hu, hz, q⟩ := h
  obtain ⟨u, rfl, rx⟩ := vals1 rr
  obtain ⟨as, hr⟩ := ft_reads k I.hok rp rx (by simpa only [PyData.plain] using hpl)
  obtain ⟨a, o, zs, rfl, ha, _, rv⟩ := rp_ft rp
  cases rx
  exact repr_of_reads' hr hs (fun e => by rw [hd] at e; cases e) hg hu (fun _ _ e => e) (fun h' u tk hk => ⟨.str _, H, I.kept hk, ⟨_, rfl⟩, q⟩) hz
theorem jreprF {K : D → List Sl → Prop} {a : Expr} {p pos : Pos} {k : Nat} (hg0 : X.A.guards = some []) (hr : Room k X.A) (hm : X.mg "repr" = none) (h : JE X r a S fun d S1 => ∃ ds, d = ft ds ∧ ShD 40 (2 ^ 20) (.tuple ds) ∧ K (.str (PyData.tuple ds).shown) S1) (hg : Gl X "repr" := by rfl) (hs : starEach [a] X.env = (false, eval a X.env) :: starEach [] X.env := by rfl) : JE X r (.Call (.Name "repr" p) [a] [] pos) S K :=
  jB (call_reprF hg0) hm (ja1 (h.mono fun d S1 ⟨ds, e, h1, k⟩ => ⟨[d], rfl, by
    rw [e]
    intro F H vs kF rv Q q
    cases rv with
    | cons r1 t =>
      cases t
      exact ⟨F, _, ds, rfl, kF, r1, h1.ni.pl, h1.sh, h1.hd, by have := h1.ni.dp; have := hr.un; omega, PyData.shown_fits (B := 13) (by decide) (by decide) h1.lv h1.wt, q _ _ F H k (Grow.refl kF) (.str _)⟩⟩) hs) hg (by decide +kernel) (by decide) (by decide) hs rfl
/-! ### dict(..) of such a tuple of pairs -/
def rDictTF : List V → Hp → VK → Prop := fun vs H Q => ∃ F x ps, vs = [x] ∧ Ex F H ∧ Rp F x (ft (ps.map entD)) ∧ ∀ p ws, RpK F ws (mergeD [] ps) → H p = none → Q (.ref p) (upd H p (.dT ws))
theorem call_dictTF (hcalm : X.calm = true) (hu : X.A.units + 2 < cLine) : CallR X (.type "dict") rDictTF := by
  intro pins s σ H xs us Q I rr h
  obtain ⟨F, x, ps, rfl, k, rp, q⟩ := h
  obtain ⟨u, rfl, rx⟩ := vals1 rr
  obtain ⟨a, o, ws, rfl, ha, hod, rv⟩ := rp_ft rp
  cases rx
  obtain ⟨ho0, z, its, rw', o', ho', hc, n, hdat⟩ := (show ObjOk X.prog X.w H s.heap a (.frz o (.tup ws)) from I.hok _ _ (k _ _ ha))
  obtain rfl : o = o' := Option.some.inj (ho0.symm.trans ho')
  obtain ⟨ts, ys, w2, e1, e2, e3, e4, e5⟩ := ents_of k I.hok rv rw'
  subst e1
  have hz : ys.length ≤ sizeLine := by
    have := rw'.length
    rw [List.length_map] at this
    omega
  have hp : PairItems s.heap (ts.map Value.ref).toArray (fun j => ts.getD j 0) (ys.map fun y => (Value.ref y.2.1, y.2.2)) := by
    refine ⟨by simp [e2], fun j kk v e => ?_⟩
    rw [List.getElem?_map] at e
    cases ey : ys[j]? with
    | none => rw [ey] at e; cases e
    | some y =>
      rw [ey] at e
      cases e
      obtain ⟨t, f1, f2⟩ := e5 j y ey
      have g : ts.getD j 0 = t := by rw [List.getD_eq_getElem?_getD, f1]; rfl
      show (List.map Value.ref ts).toArray[j]? = some (Value.ref (ts.getD j 0)) ∧ PairAt s.heap (ts.getD j 0) _ _
      rw [g]
      exact ⟨by simp [f1], f2⟩
  refine call_dict_pairsH (knd := tupleKind (mixKind X.prog X.w)) (ps := ys) (PairArg.tuple a (ts.map Value.ref).toArray (fun j => ts.getD j 0) (ys.map fun y => (Value.ref y.2.1, y.2.2))) (I.ok.hd hcalm) hu ⟨⟨_, n, ho', hc, hod, hdat⟩, hp⟩ ⟨by rw [List.length_map], fun i key v hrel => ?_⟩ (fun h' hk y hy => ?_) (by rw [List.length_map]; exact hz) fun h' tk hd' hk => ?_
  · have hrel : (ys.map fun y => (Value.ref y.2.1, y.2.2))[i]? = some (key, v) := hrel
    rw [List.getElem?_map] at hrel
    cases ey : ys[i]? with
    | none => rw [ey] at hrel; cases hrel
    | some y =>
      rw [ey] at hrel
      cases hrel
      exact ⟨y.1, y.2.1, rfl, rfl⟩
  · have all : ∀ {l : List (List Key × V)} {m : List (List Key × Addr × Value)}, KT H l m → ∀ x ∈ m, H x.2.1 = some (.tup (x.1.map kV)) := by
      intro l m q
      induction q with
      | nil => intro x hx; exact nomatch hx
      | @cons p q ps qs hq t ih =>
        intro x hx
        rcases List.mem_cons.mp hx with e | hx
        · subst e; rw [← hq.1]; exact hq.2.1
        · exact ih x hx
    have hb := all e4 y hy
    obtain ⟨_, its, r, o, h1, h2, n, h3⟩ := (show ObjOk X.prog X.w H s.heap y.2.1 (.tup (y.1.map kV)) from I.hok _ _ hb)
    exact ⟨o, its.toArray, n, hk _ _ (Nat.ne_of_lt (Heap.lt_size h1)) (by simp) h1, h2, h3, by simpa using items_are r⟩
  · have hm : (s.heap.objs.size == sysModules) = false := beq_eq_false_iff_ne.mpr (Nat.ne_of_gt I.big)
    have hlen : (mergeT [] w2).length ≤ sizeLine := by
      rw [(RpK.merge (ws := []) (kvs := []) e3 .nil).length]
      refine Nat.le_trans (mergeD_len _ _) ?_
      rw [List.length_nil, Nat.zero_add, ← e3.length]
      have := Paired.length e4
      omega
    obtain ⟨o, es, ep, g1, g2, g3, g4, _, g5⟩ := hd'
    refine ⟨.ref s.heap.objs.size, upd H s.heap.objs.size (.dT (mergeT [] w2)), I.laid (t' := tk) (fun b o e => hk b o (by simp) e) (Nat.le_refl _) ⟨hlen, hm, _, (KT.merge e4 .nil).keeps fun b ys eb => ?_, o, es, ep, g1, g2, g3, g4, g5⟩, rfl, q _ _ (RpK.merge e3 .nil) (I.hok.fresh (Nat.le_refl _))⟩
    rw [upd_ne (ne_of_none eb (I.hok.fresh (Nat.le_refl _)))]
    exact eb
theorem jdictF {K : OB → List Sl → Prop} {a : Expr} {p pos : Pos} {k : Nat} (hr : Room k X.A) (hm : X.mg "dict" = none) (h : JE X r a S fun d S1 => ∃ ps : List (List Int × D), d = ft (ps.map entD) ∧ K (.d (mergeD [] ps)) S1) (hc : X.calm = true := by rfl) (hg : Gl X "dict" := by rfl) (hs : starEach [a] X.env = (false, eval a X.env) :: starEach [] X.env := by rfl) :
    JO X r (.Call (.Name "dict" p) [a] [] pos) S K := fun c F σ H hr' E Q q =>
  of_pe (pe_callTy (call_dictTF hc (by have := hr.un; omega)) hg hm (by decide +kernel) (pa_cons pe_tE pa_nil hs) (by decide) (by decide) hs rfl) (h c F σ H hr' E _ fun v d F1 H1 S1 h1 E1 k1 r1 => by
    obtain ⟨ps, rfl, kd⟩ := h1
    exact ⟨F1, v, ps, rfl, E1.fin.fh, r1, fun p ws rw' n => q p _ F1 _ S1 kd (newL_ob (h := .dT ws) (o := .d (mergeD [] ps)) E1 n rw') k1⟩)
end
/-! ### dicts that hold ints -/
abbrev DI := List (List Int × Int)
def dI (m : DI) : List (List Int × D) := m.map fun p => (p.1, .int p.2)
def keyI (m : DI) : List (List Int) := m.map (·.1)
def getI (m : DI) (k : List Int) : Int := ((m.find? fun p => decide (p.1 = k)).map (·.2)).getD 0
def putI (m : DI) (k : List Int) (c : Int) : DI := if k ∈ keyI m then m.map (fun p => if p.1 = k then (p.1, c) else p) else m ++ [(k, c)]
def mergeI (m ps : DI) : DI := ps.foldl (fun acc p => putI acc p.1 p.2) m
theorem keyL_dI (m : DI) : keyL (dI m) = keyI m := by
  unfold keyL dI keyI
  rw [List.map_map]; rfl
theorem dI_put (m : DI) (k : List Int) (c : Int) : putD (dI m) k (.int c) = dI (putI m k c) := by
  unfold putD putI
  rw [any_key, keyL_dI]
  by_cases h : k ∈ keyI m
  · rw [if_pos (decide_eq_true h), if_pos h]
    unfold dI
    rw [List.map_map, List.map_map]
    refine List.map_congr_left fun p _ => ?_
    show (if p.1 = k then (p.1, PyData.int c) else (p.1, PyData.int p.2)) = ((if p.1 = k then (p.1, c) else p).1, PyData.int (if p.1 = k then (p.1, c) else p).2)
    split <;> rfl
  · rw [if_neg (by rw [decide_eq_false h]; exact Bool.false_ne_true), if_neg h]
    unfold dI
    rw [List.map_append]; rfl
theorem dI_merge : ∀ (ps m : DI), mergeD (dI m) (dI ps) = dI (mergeI m ps)
  | [], _ => rfl
  | p :: ps, m => by
    show mergeD (putD (dI m) p.1 (.int p.2)) (dI ps) = _
    rw [dI_put]
    exact dI_merge ps _
theorem valD_dI (m : DI) (k : List Int) : valD (dI m) k = if k ∈ keyI m then some (.int (getI m k)) else none := by
  induction m with
  | nil => rfl
  | cons p m ih =>
    unfold valD getI keyI dI at *
    rw [List.map_cons, List.map_cons]
    by_cases e : p.1 = k
    · rw [List.find?_cons_of_pos (by simpa using e), List.find?_cons_of_pos (by simpa using e), if_pos (by rw [e]; exact List.mem_cons_self)]; rfl
    · rw [List.find?_cons_of_neg (by simpa using e), List.find?_cons_of_neg (by simpa using e), ih]
      have : (k ∈ p.1 :: List.map (fun x => x.1) m) = (k ∈ List.map (fun x => x.1) m) := by
        rw [List.mem_cons, eq_iff_iff]
        exact ⟨fun h => h.resolve_left fun z => e z.symm, .inr⟩
      simp only [this]
theorem getI_none {m : DI} {k : List Int} (h : k ∉ keyI m) : getI m k = 0 := by
  unfold getI
  have : (m.find? fun p => decide (p.1 = k)) = none := List.find?_eq_none.mpr fun p hp e => h (List.mem_map.mpr ⟨p, hp, of_decide_eq_true e⟩)
  rw [this]; rfl
theorem valD_getD (m : DI) (k : List Int) : (valD (dI m) k).getD (.int 0) = .int (getI m k) := by
  rw [valD_dI]
  by_cases h : k ∈ keyI m
  · rw [if_pos h]; rfl
  · rw [if_neg h, getI_none h]; rfl
theorem getI_put (m : DI) (k k' : List Int) (c : Int) : getI (putI m k c) k' = if k' = k then c else getI m k' := by
  have h := valD_put (dI m) k k' (.int c)
  rw [dI_put] at h
  have h2 := congrArg (fun o : Option D => o.getD (.int 0)) h
  simp only [valD_getD] at h2
  by_cases e : k' = k
  · rw [if_pos e] at h2 ⊢
    injection h2
  · rw [if_neg e] at h2 ⊢
    rw [valD_getD] at h2
    injection h2
theorem keyI_put (m : DI) (k : List Int) (c : Int) : keyI (putI m k c) = if k ∈ keyI m then keyI m else keyI m ++ [k] := by
  have := putD_keys (dI m) k (.int c)
  rw [dI_put, keyL_dI, keyL_dI] at this
  exact this
theorem mem_keyI_put {m : DI} {k k' : List Int} {c : Int} : k' ∈ keyI (putI m k c) ↔ k' ∈ keyI m ∨ k' = k := by
  rw [keyI_put]
  split
  · rename_i h
    exact ⟨.inl, fun z => z.elim id fun e => e ▸ h⟩
  · rw [List.mem_append, List.mem_singleton]
theorem nodup_put {m : DI} (h : (keyI m).Nodup) (k : List Int) (c : Int) : (keyI (putI m k c)).Nodup := by
  have := putD_nodup (kvs := dI m) (by rw [keyL_dI]; exact h) k (.int c)
  rw [dI_put, keyL_dI] at this
  exact this
theorem nodup_mergeI (ps : DI) {m : DI} (h : (keyI m).Nodup) : (keyI (mergeI m ps)).Nodup := by
  have := nodup_merge (dI ps) (kvs := dI m) (by rw [keyL_dI]; exact h)
  rw [dI_merge, keyL_dI] at this
  exact this
theorem mem_mergeI {k : List Int} (ps m : DI) : k ∈ keyI (mergeI m ps) ↔ k ∈ keyI m ∨ k ∈ keyI ps := by
  have := mem_keys_merge (k := k) (dI ps) (dI m)
  rw [dI_merge, keyL_dI, keyL_dI, keyL_dI] at this
  exact this
theorem getI_merge {k : List Int} : ∀ (ps : DI) {m : DI}, (keyI ps).Nodup → getI (mergeI m ps) k = if k ∈ keyI ps then getI ps k else getI m k
  | [], m, _ => by show getI m k = _; rw [if_neg (by intro h; cases h)]
  | p :: ps, m, h => by
    have h' : (p.1 :: keyI ps).Nodup := h
    rw [List.nodup_cons] at h'
    show getI (mergeI (putI m p.1 p.2) ps) k = _
    rw [getI_merge ps h'.2, getI_put]
    have e0 : getI (p :: ps) k = if p.1 = k then p.2 else getI ps k := by
      unfold getI
      by_cases e : p.1 = k
      · rw [if_pos e, List.find?_cons_of_pos (by simpa using e)]; rfl
      · rw [if_neg e, List.find?_cons_of_neg (by simpa using e)]
    have em : k ∈ keyI (p :: ps) ↔ k = p.1 ∨ k ∈ keyI ps := List.mem_cons
    by_cases e : p.1 = k
    · subst e
      rw [if_neg h'.1, if_pos rfl, if_pos (em.mpr (.inl rfl)), e0, if_pos rfl]
    · have en : ¬ k = p.1 := fun z => e z.symm
      rw [if_neg en, e0, if_neg e]
      by_cases e2 : k ∈ keyI ps
      · rw [if_pos e2, if_pos (em.mpr (.inr e2))]
      · rw [if_neg e2, if_neg (fun z => (em.mp z).elim en e2)]
end DL

/-! DL: x.index(y) of lists and of tuples known to have no dict; enumerate of such a tuple; {k: v}; a module's number. -/
namespace DL
open PySem L2 PySem.Spec PyProof.Rows
section
variable {X : Cx} {r : SR} {S : List Sl}
/-- a module's number -/
theorem je_gint {K : D → List Sl → Prop} {x : Str} {pos : Pos} {i : Int} {t : Tok} (hm : X.mg x = some (.int i t)) (k : K (.int i) S) (hg : Gl X x := by rfl) (hd : (x == ("__debug__" : Str)) = false := by decide) : JE X r (.Name x pos) S K :=
  fun c F σ H _ E Q q => of_pe (pe_glob (v := .int i) hg hm ⟨t, rfl⟩ hd) (q _ _ F H S k E (Ex.refl F) (.int i))
/-! ### index -/
def rIdxD (X : Cx) : V → List V → Hp → VK → Prop := fun x xs H Q => ∃ (F : Hp) (y : V) (d : D) (ds : List D) (j : Nat) (z : D), xs = [y] ∧ Ex F H ∧ Rp F x (.list ds) ∧ Rp F y d ∧ PyData.plainAll ds = true ∧ d.plain = true ∧
  X.A.units + 1 + min (PyData.depthAll ds) d.depth < cLine ∧ ds[j]? = some z ∧ PyData.eqv z d = true ∧ (∀ (m : Nat) (z' : D), m < j → ds[m]? = some z' → PyData.eqv z' d = false) ∧ Q (.int (j : Nat)) H
theorem mt_idxD : MtR X "list.index" (rIdxD X) := by
  intro pins s σ H x xs v us Q I rx rxs h
  obtain ⟨F, y, d, ds, j, z, rfl, k, rl, ry, hp, hd, hu, hz, hzj, hno, q⟩ := h
  obtain ⟨uy, rfl, ruy⟩ := vals1 rxs
  obtain ⟨bs, r1⟩ := Rp.reads k I.hok ry ruy hd
  obtain ⟨as, r2⟩ := Rp.reads k I.hok rl rx (by simpa only [PyData.plain] using hp)
  cases rl with
  | @lst a ws _ ha rv =>
    cases rx
    obtain ⟨its, rv', ⟨⟨cls, dd, data, sls⟩, n, ho, hc, hdn, hdt⟩, hlen⟩ := I.list (.inl (.inl (k _ _ ha)))
    simp only at hc hdt
    subst hc hdt
    cases r2 with
    | list h1 h2 h3 h4 =>
      rw [ho] at h1
      cases h1
      cases h3
      have hn : its.length = ds.length := by rw [← rv'.length, rv.length]
      have hmap : its.map (SeqAt.readOf s.heap) = ds := SeqAt.readsAll_map_plain ds its _ hp (by simpa using h4)
      have hsl := sizeLine_eq
      have hwd := rv.length
      obtain ⟨hjd, _⟩ := List.getElem?_eq_some_iff.mp hz
      have hj : j < its.toArray.size := by simp; omega
      have at_ : ∀ (m : Nat) (hm : m < its.toArray.size) (z' : D), ds[m]? = some z' → SeqAt.readOf s.heap its.toArray[m] = z' := by
        intro m hm z' hz'
        have hml : m < its.length := by simpa using hm
        rw [← hmap, List.getElem?_map, List.getElem?_eq_getElem hml] at hz'
        have e1 : SeqAt.readOf s.heap its[m] = z' := Option.some.inj (show some (SeqAt.readOf s.heap its[m]) = some z' from hz')
        simpa using e1
      refine call_meets PySem.F.slot_list_index ⟨_, ho, rfl⟩ PySem.F.entry_list_index (PySem.F.args_list_index_2 _ _)
        (SeqAt.list_indexAt a its.toArray n dd sls uy (fun u => PyData.eqv (SeqAt.readOf s.heap u) d) j hj (by omega) ?_ ?_) ⟨ho, SeqAt.items_plain h4 r1 hp hd hu, ?_⟩
      · show PyData.eqv (SeqAt.readOf s.heap its.toArray[j]) d = true
        rw [at_ j hj z hz]
        exact hzj
      · intro m hm hmj
        have hmd : m < ds.length := by omega
        have hz' : ds[m]? = some ds[m] := List.getElem?_eq_getElem hmd
        show PyData.eqv (SeqAt.readOf s.heap its.toArray[m]) d = false
        rw [at_ m hm _ hz']
        exact hno m _ hmj hz'
      · exact ⟨.int (j : Nat), H, I.tok _, ⟨_, rfl⟩, q⟩
/-- x.index(e), x a list -/
theorem je_idx {K : D → List Sl → Prop} {o e : Expr} {apos cpos : Pos} {k : Nat} (hr : Room k X.A) (h : JE X r o S fun d0 S0 => ∃ ds : List D, d0 = .list ds ∧ JE X r e S0 fun d1 S1 => ∃ (j : Nat) (z : D), (∀ d ∈ ds, Nice 50 d) ∧ Nice 50 d1 ∧ ds[j]? = some z ∧ PyData.eqv z d1 = true ∧ (∀ (m : Nat) (z' : D), m < j → ds[m]? = some z' → PyData.eqv z' d1 = false) ∧ K (.int (j : Nat)) S1)
    (hp : ∀ {rr : V → List V → Hp → VK → Prop}, MtR X "list.index" rr → PE X (.Call (.Attribute o "index" apos) [e] [] cpos) (tBM X.K "list" rr (tE X o) (tCons (tE X e) tNil)) := by exact fun hm => pe_bm PySem.F.plainAttrs_list PySem.F.slot_list_index PySem.F.type_list_index hm pe_tE (pa_cons pe_tE pa_nil)) :
    JE X r (.Call (.Attribute o "index" apos) [e] [] cpos) S K := fun c F σ H hr' E Q q =>
  of_pe (hp mt_idxD) (h c F σ H hr' E _ fun v0 d0 F0 H0 S0 h0 E0 k0 r0 => by
    obtain ⟨ds, rfl, h0⟩ := h0
    refine ⟨?_, h0 c F0 σ H0 hr' E0 _ fun v1 d1 F1 H1 S1 h1 E1 k1 r1 => ?_⟩
    · cases r0 with
      | @lst a ws _ ha rv => exact .inl ⟨rfl, _, .inl (.inl (E0.fin.fh _ _ ha))⟩
    · obtain ⟨j, z, n1, n2, hz, e1, e2, kk⟩ := h1
      refine ⟨F1, v1, d1, ds, j, z, rfl, E1.fin.fh, r0.ex k1, r1, plainAll_of fun d hd => (n1 d hd).pl, n2.pl, ?_, hz, e1, e2, q _ _ F1 H1 S1 kk E1 (k0.trans k1) (.int _)⟩
      have h50 : min (PyData.depthAll ds) d1.depth ≤ 50 := Nat.le_trans (Nat.min_le_right _ _) n2.dp
      have := units_le hr (n := 50) (by decide)
      omega)
/-- the same of a tuple known to have no dict -/
def tBMF (rr : V → List V → Hp → VK → Prop) (to : TE) (t : TA) : TE := fun σ H Q => to σ H fun x H1 => (∃ p o ys, x = .ref p ∧ H1 p = some (.frz o (.tup ys)) ∧ o.dict = none) ∧ t σ H1 fun xs H2 => rr x xs H2 Q
theorem pe_bmF {o e : Expr} {es : List Expr} {to : TE} {t : TA} {name : Str} {apos cpos : Pos} {id : String} {rr : V → List V → Hp → VK → Prop} (pa : PlainAttrs "tuple") (slot : Slot "tuple" name id) (hty : typeOf (.builtin id) = pure (.type "method_descriptor")) (hm : MtR X id rr) (ho : PE X o to) (ha : PA X (e :: es) t)
    (hbase : attributeBase o name X.env (eval o X.env) = eval o X.env := by rfl)
    (hfew : ((backTo cpos (starEach (e :: es) X.env)).all (fun x => !x.1) && (backToKw cpos (keywordEach [] X.env)).all (fun x => x.1.isSome)
      && decide ((e :: es).length + ([] : List Keyword).length + (if ([] : List Keyword).isEmpty then 0 else 1) < 30)) = true := by rfl)
    (hline : (apos.endLine == cpos.line) = true := by rfl) (hs : starEach (e :: es) X.env = (false, eval e X.env) :: starEach es X.env := by rfl) (hplain : (backTo cpos (starEach es X.env)).any (·.1) = false := by rfl) :
    PE X (.Call (.Attribute o name apos) (e :: es) [] cpos) (tBMF rr to t) := by
  refine ⟨fun pins s σ H Q I h => ?_⟩
  refine wpAny_Call_method_late hbase hfew hline rfl (thn (ho.run pins s σ H _ I h) fun v s1 ⟨x, H1, I1, r1, ty, q1⟩ => ?_)
  obtain ⟨p, ob, ys, rfl, hp, hod⟩ := ty
  obtain rfl : v = Value.ref p := r1
  obtain ⟨ho0, _, _, _, o', ho', hc, _⟩ := (show ObjOk X.prog X.w H1 s1.heap p (.frz ob (.tup ys)) from I1.hok _ _ hp)
  obtain rfl : ob = o' := Option.some.inj (ho0.symm.trans ho')
  refine ⟨"tuple", id, pa, slot, hty, ⟨_, ho0, hc⟩, fun a e2 => by cases e2; exact ⟨_, ho0, hod⟩, ?_⟩
  have hA := ha.run cpos pins s1 σ H1 _ I1 q1
  rw [hs] at hA ⊢
  refine Calls.callWith_builtin (by show (false || (backTo cpos (starEach es X.env)).any (·.1)) = false; rw [hplain] <;> rfl) (Calls.evalArgs_plain ?_)
  exact thn hA fun us s2 ⟨vs, H2, I2, r2, q2⟩ => hm pins s2 σ H2 (.ref p) vs _ us Q I2 rfl r2 q2
def rIdxF (X : Cx) : V → List V → Hp → VK → Prop := fun x xs H Q => ∃ (F : Hp) (y : V) (d : D) (ds : List D) (j : Nat) (z : D), xs = [y] ∧ Ex F H ∧ Rp F x (ft ds) ∧ Rp F y d ∧ PyData.plainAll ds = true ∧ d.plain = true ∧
  X.A.units + 1 + min (PyData.depthAll ds) d.depth < cLine ∧ ds[j]? = some z ∧ PyData.eqv z d = true ∧ (∀ (m : Nat) (z' : D), m < j → ds[m]? = some z' → PyData.eqv z' d = false) ∧ Q (.int (j : Nat)) H
theorem mt_idxF : MtR X "tuple.index" (rIdxF X) := by
  intro pins s σ H x xs v us Q I rx rxs h
  obtain ⟨F, y, d, ds, j, z, rfl, k, rl, ry, hp, hd, hu, hz, hzj, hno, q⟩ := h
  obtain ⟨uy, rfl, ruy⟩ := vals1 rxs
  obtain ⟨bs, r1⟩ := Rp.reads k I.hok ry ruy hd
  obtain ⟨as, r2⟩ := ft_reads k I.hok rl rx hp
  obtain ⟨a, ob, ws, rfl, ha, hod, rv⟩ := rp_ft rl
  cases rx
  obtain ⟨its, rv', ⟨⟨cls, dd, data, sls⟩, ho, hc, n, hdt⟩, hlen⟩ := I.tuple (.inl (.inr ⟨ob, k _ _ ha⟩))
  simp only at hc hdt
  subst hc hdt
  cases r2 with
  | tuple h1 h2 h3 h4 =>
    rw [ho] at h1
    cases h1
    cases h3
    have hn : its.length = ds.length := by rw [← rv'.length, rv.length]
    have hmap : its.map (SeqAt.readOf s.heap) = ds := SeqAt.readsAll_map_plain ds its _ hp (by simpa using h4)
    have hsl := sizeLine_eq
    have hwd := rv.length
    obtain ⟨hjd, _⟩ := List.getElem?_eq_some_iff.mp hz
    have hj : j < its.toArray.size := by simp; omega
    have at_ : ∀ (m : Nat) (hm : m < its.toArray.size) (z' : D), ds[m]? = some z' → SeqAt.readOf s.heap its.toArray[m] = z' := by
      intro m hm z' hz'
      have hml : m < its.length := by simpa using hm
      rw [← hmap, List.getElem?_map, List.getElem?_eq_getElem hml] at hz'
      have e1 : SeqAt.readOf s.heap its[m] = z' := Option.some.inj (show some (SeqAt.readOf s.heap its[m]) = some z' from hz')
      simpa using e1
    refine call_meets PySem.F.slot_tuple_index ⟨_, ho, rfl⟩ PySem.F.entry_tuple_index (PySem.F.args_tuple_index_2 _ _)
      (TI.tuple_indexAt a its.toArray n dd sls uy (fun u => PyData.eqv (SeqAt.readOf s.heap u) d) j hj ?_ ?_) ⟨ho, SeqAt.items_plain h4 r1 hp hd hu, ?_⟩
    · show PyData.eqv (SeqAt.readOf s.heap its.toArray[j]) d = true
      rw [at_ j hj z hz]
      exact hzj
    · intro m hm hmj
      have hmd : m < ds.length := by omega
      have hz' : ds[m]? = some ds[m] := List.getElem?_eq_getElem hmd
      show PyData.eqv (SeqAt.readOf s.heap its.toArray[m]) d = false
      rw [at_ m hm _ hz']
      exact hno m _ hmj hz'
    · exact ⟨.int (j : Nat), H, I.tok _, ⟨_, rfl⟩, q⟩
/-- x.index(e), x a tuple known to have no dict -/
theorem je_idxF {K : D → List Sl → Prop} {o e : Expr} {apos cpos : Pos} {k : Nat} (hr : Room k X.A) (h : JE X r o S fun d0 S0 => ∃ ds : List D, d0 = ft ds ∧ JE X r e S0 fun d1 S1 => ∃ (j : Nat) (z : D), (∀ d ∈ ds, Nice 50 d) ∧ Nice 50 d1 ∧ ds[j]? = some z ∧ PyData.eqv z d1 = true ∧ (∀ (m : Nat) (z' : D), m < j → ds[m]? = some z' → PyData.eqv z' d1 = false) ∧ K (.int (j : Nat)) S1)
    (hp : ∀ {rr : V → List V → Hp → VK → Prop}, MtR X "tuple.index" rr → PE X (.Call (.Attribute o "index" apos) [e] [] cpos) (tBMF rr (tE X o) (tCons (tE X e) tNil)) := by exact fun hm => pe_bmF PySem.F.plainAttrs_tuple PySem.F.slot_tuple_index PySem.F.type_tuple_index hm pe_tE (pa_cons pe_tE pa_nil)) :
    JE X r (.Call (.Attribute o "index" apos) [e] [] cpos) S K := fun c F σ H hr' E Q q =>
  of_pe (hp mt_idxF) (h c F σ H hr' E _ fun v0 d0 F0 H0 S0 h0 E0 k0 r0 => by
    obtain ⟨ds, rfl, h0⟩ := h0
    refine ⟨?_, h0 c F0 σ H0 hr' E0 _ fun v1 d1 F1 H1 S1 h1 E1 k1 r1 => ?_⟩
    · obtain ⟨a, ob, ws, rfl, ha, hod, rv⟩ := rp_ft r0
      exact ⟨a, ob, ws, rfl, E0.fin.fh _ _ ha, hod⟩
    · obtain ⟨j, z, n1, n2, hz, e1, e2, kk⟩ := h1
      refine ⟨F1, v1, d1, ds, j, z, rfl, E1.fin.fh, r0.ex k1, r1, plainAll_of fun d hd => (n1 d hd).pl, n2.pl, ?_, hz, e1, e2, q _ _ F1 H1 S1 kk E1 (k0.trans k1) (.int _)⟩
      have h50 : min (PyData.depthAll ds) d1.depth ≤ 50 := Nat.le_trans (Nat.min_le_right _ _) n2.dp
      have := units_le hr (n := 50) (by decide)
      omega)
/-! ### {k: v} -/
theorem jdisp1 {K : OB → List Sl → Prop} {ke ve : Expr} {pos : Pos} {k0 : Nat} (hr : Room k0 X.A) (h : JE X r ke S fun d1 S1 => JE X r ve S1 fun d2 S2 => ∃ ky, d1 = tupI ky ∧ K (.d [(ky, d2)]) S2) : JO X r (.Dict [some ke] [ve] pos) S K := fun c F σ H hr' E Q q pins s I => by
  have hn := I.hok.fresh (Nat.le_refl s.heap.objs.size)
  have I1 := I.laid (a := s.heap.objs.size) (o := .dT []) (h' := s.heap.push { cls := .type "dict", data := .dict #[] }) (t' := s.toks) (fun _ _ q => Heap.get?_push_of_some _ q) (Nat.le_refl _) (dt_empty s.heap I.big)
  obtain ⟨hh, E1, hp, hv, nF, nB, ns, no⟩ := newL_ob (h := .dT []) (o := .d []) E hn .nil
  rw [upd_same] at hp
  cases hp
  have E2 := E1.hold (vs := .dT []) upd_same nF ns no
  have hsh : (evalEachOpt [some ke] X.env).zip ((evalEach [ve] X.env).map fun v => do let x ← v; standAt pos; pure x) = (pairTrees [some ke] [ve] X.env pos).map fun p => (some p.1, p.2) := zip_pairTrees _ _ _ _ rfl rfl
  rw [arm_eval_Dict, hsh, dictDisplay_pairs (pairTrees [some ke] [ve] X.env pos) (by intro z; cases z) (by show 1 < _; decide)]
  refine wpAny_bind (wpAny_standAt (wpAny_bind (wpAny_subDictH (knd := tupleKind (mixKind X.prog X.w)) (by show X.A.units < cLine; have := hr.un; omega) (by show 1 ≤ 15; decide) ?_)))
  refine thn ((pps_cons pe_tE pe_tE pps_nil : PPs X pos [some ke] [ve] _).run pins _ σ _ (fun ps H2 => ∃ ky d2 v1 v2 F2 S2, ps = [(v1, v2)] ∧ K (.d [(ky, d2)]) S2 ∧ EvD (c.hold s.heap.objs.size (.dT [])) S2 F2 σ H2 ∧ Ex F F2 ∧ Rp F2 v1 (tupI ky) ∧ Rp F2 v2 d2) I1
    (h (c.hold s.heap.objs.size (.dT [])) F σ _ (r.st _ _ _ nB hr') E2 _ fun v1 d1 F1 H1 S1 h1 E3 k1 r1 => h1 (c.hold s.heap.objs.size (.dT [])) F1 σ H1 (r.st _ _ _ nB hr') E3 _ fun v2 d2 F2 H2 S2 h2 E4 k2 r2 => by
      obtain ⟨ky, rfl, kk⟩ := h2
      exact ⟨ky, d2, v1, v2, F2, S2, rfl, kk, E4, k1.trans k2, r1.ex k2, r2⟩)) fun ws s2 ⟨ps, H2, I2, rel, ky, d2, v1, v2, F2, S2, eps, kk, E4, kF, r1, r2⟩ => ?_
  subst eps
  cases rel with
  | @cons p0 q0 _ _ hrel t =>
  cases t
  obtain ⟨u1, u2⟩ := q0
  obtain ⟨b, rfl, hb⟩ := rp_tupI r1
  have hbH := E4.fin.fh _ _ hb
  have hr1 : u1 = Value.ref b := hrel.1
  subst hr1
  have hB : H2 s.heap.objs.size = some (.dT []) := E4.fin.bh _ _ upd_same
  obtain ⟨z1, d1, xs1, rel1, dd1⟩ := dt_of I2.hok hB
  cases rel1
  refine ⟨[(kI ky, b, u2)], ⟨rfl, rfl, key_of I2.hok hbH, True.intro⟩, dd1, fun h' tk hd' hs => wpAny_pure ?_⟩
  have he : ∃ q, h'.get? s.heap.objs.size = some q := let ⟨q, _, _, hq, _⟩ := hd'; ⟨q, hq⟩
  obtain ⟨o, es, ep, g1, g2, g3, g4, _, g5⟩ := hd'
  have rel2 : KT H2 [(kI ky, v2)] [(kI ky, b, u2)] := .cons ⟨rfl, hbH, hrel.2⟩ .nil
  have nF0 : c.F0 s.heap.objs.size = none := E.fin.f0.back nF
  obtain ⟨E7, h7, f7, s7, o7⟩ := E4.unhold (vs := .dT []) (fun _ z => nomatch z) nB nF0
  refine ⟨.ref s.heap.objs.size, upd H2 s.heap.objs.size (.dT [(kI ky, v2)]), d_write (t' := tk) (ob := .dT [(kI ky, v2)]) I2 (by rw [hB]; exact True.intro) hs he ⟨by show 1 ≤ sizeLine; decide, d1, _, (KT.merge rel2 .nil).keeps fun x ys ex => ?_, o, es, ep, g1, g2, g3, g4, g5⟩, rfl, ?_⟩
  · rw [upd_ne (ne_of ex hB (fun z => nomatch z))]
    exact ex
  · exact q s.heap.objs.size (.d [(ky, d2)]) F2 _ S2 kk ⟨.dT [(kI ky, v2)], E7.put f7 nB s7 o7, upd_same, (RpK.cons r2 .nil : RpK F2 [((ky.map Sum.inl), v2)] [(ky, d2)]), f7, nB, s7, o7⟩ kF
/-! ### enumerate of a tuple -/
theorem meets_enumerate_newB1 {v : Value} {o : Obj} {H : Heap → Prop} (B : Begins v o H) :
    Meets (Builtin.«enumerate.__new__» ⟨[.type "enumerate", v], []⟩) (fun _ R s => H s.heap ∧
      R (.ok (.ret (.ref (s.heap.push o).objs.size))) { s with heap := (s.heap.push o).push { cls := .type "enumerate", data := .fields #[.none, .bool false, .ref s.heap.objs.size, rawInt 0, .none, .none] } }) :=
  .of_wp fun prog w A R s h => by
    obtain ⟨hp, g, d, tk, os⟩ := s; obtain ⟨h1, h⟩ := h
    have hsub := sub_enumerate
    have q1 : ∀ {A' : Around} {E : Value → Shared → Prop} {Q : Value → Shared → Prop}, Q (.ref hp.objs.size) ⟨hp.push o, g, d, tk, os⟩ → wpAny (model prog w) A' (pyIter v) Q E ⟨hp, g, d, tk, os⟩ :=
      fun q => B.iter prog w _ _ ⟨hp, g, d, tk, os⟩ _ h1 q
    wp_walk using q1
    refine wpAny_stack_any fun st => wpAny_pure ?_
    split
    · rename_i c _ _ _ _ _
      cases (c == Value.type "enumerate")
      · wp_walk using q1
        exact ⟨_, rfl, h⟩
      · wp_walk using q1
        exact ⟨_, rfl, h⟩
    · wp_walk using q1
      exact ⟨_, rfl, h⟩
theorem call_enumerate_B1 {prog : Program} {w : World} {A : Around} {E : Value → Shared → Prop} {s : Shared} {v : Value} {o : Obj} {H : Heap → Prop} {Q : Value → Shared → Prop} (B : Begins v o H) (h1 : H s.heap)
    (h : ∀ h', IsEnum h' (s.heap.objs.size + 1) s.heap.objs.size 0 .none → h'.get? s.heap.objs.size = some o → h'.objs.size = s.heap.objs.size + 2 →
      (∀ b o, s.heap.get? b = some o → h'.get? b = some o) → Q (.ref (s.heap.objs.size + 1)) { s with heap := h' }) :
    wpAny (model prog w) A (call (.type "enumerate") [v]) Q E s := by
  refine callType_new PySem.F.called_enumerate (by decide) (PySem.F.typeCall_enumerate_1 _) (PySem.F.newCall_enumerate_1 _) (fun obj => PySem.F.args_object_init_2 obj _) PySem.F.entry_enumerate_new
    (meets_enumerate_newB1 B) ⟨h1, ?_⟩
  have hz : (s.heap.push o).objs.size = s.heap.objs.size + 1 := Heap.size_push ..
  show _ ∧ _
  rw [hz]
  have he : IsEnum ((s.heap.push o).push { cls := .type "enumerate", data := .fields #[.none, .bool false, .ref s.heap.objs.size, rawInt 0, .none, .none] }) (s.heap.objs.size + 1) s.heap.objs.size 0 .none := by
    have := Heap.get?_push_size (s.heap.push o) (o := { cls := .type "enumerate", data := .fields #[.none, .bool false, .ref s.heap.objs.size, rawInt 0, .none, .none] }) rfl
    rw [hz] at this; exact this
  refine ⟨⟨_, he, rfl⟩, h _ he (Heap.get?_push_of_some _ (Heap.get?_push_size _ B.free)) (by rw [Heap.size_push, hz]) fun b o x => Heap.get?_push_of_some _ (Heap.get?_push_of_some _ x)⟩
def IteT (a : Addr) : It :=
  ⟨fun i H => ∃ (xs : List V) (x : V), Rd H a (.tup xs) ∧ xs[i]? = some x, fun i H v H' => ∃ T x, v = .ref T ∧ H T = none ∧ H' = upd H T (.tup [.int (i : Nat), x]) ∧ ∀ xs, Rd H a (.tup xs) → xs[i]? = some x, fun i H => ∃ xs : List V, Rd H a (.tup xs) ∧ xs.length ≤ i⟩
theorem rd_ne {H : Hp} {a b : Addr} {u : HO} (h : Rd H a u) (n : H b = none) : a ≠ b := fun e => by
  subst e
  rcases h with h | ⟨o, h⟩ <;> rw [n] at h <;> cases h
theorem rd_inj {H : Hp} {a : Addr} {xs ys : List V} (h1 : Rd H a (.tup xs)) (h2 : Rd H a (.tup ys)) : xs = ys := by
  rcases h1 with h1 | ⟨o1, h1⟩ <;> rcases h2 with h2 | ⟨o2, h2⟩ <;> rw [h1] at h2 <;> cases h2 <;> rfl
theorem turn_enumT {P : Program} {w : World} {K : PySem.W.Frag} {elts : List Expr} {kk : Nat} {tpos : Pos} (a e it : Addr) :
    Turn P w K (.Tuple elts kk tpos) (IteT a) [e, it] e (fun i h => (∃ old, IsEnum h e it ((i : Nat) : Int) old) ∧ h.IsTupleIter it a i ∧ e ≠ it) where
  mem := by simp
  obj := fun i h st b hb => by
    obtain ⟨⟨old, he⟩, ⟨o, ho, hc, hd⟩, _⟩ := st
    have e' : b = e ∨ b = it := by simpa using hb
    rcases e' with z | z
    · rw [z]; exact ⟨_, he, fun v q => nomatch q⟩
    · rw [z]; exact ⟨o, ho, fun v q => by rw [hd] at q; cases q⟩
  keep := fun i h h' st k => let ⟨⟨old, he⟩, hi, hne⟩ := st; ⟨⟨old, k e (by simp) _ he⟩, hi.at fun o q => k it (by simp) o q, hne⟩
  item := by
    intro X hP hw hK hc i pins s σ H E I hf st hg
    subst hP hw hK
    obtain ⟨⟨old, he⟩, hit, hne⟩ := st
    obtain ⟨xs, x, hq, hx⟩ := hg
    obtain ⟨its, rv, p, hz⟩ := I.tuple (.inl hq)
    obtain ⟨u, hu, ru⟩ := rv.get hx
    have hel : e < s.heap.objs.size := Heap.lt_size he
    have hil : it < s.heap.objs.size := by obtain ⟨_, q, _⟩ := hit; exact Heap.lt_size q
    have hae : a ≠ e := rd_ne hq (hf e (by simp)).1
    have hai : a ≠ it := rd_ne hq (hf it (by simp)).1
    have Dr : Draws X.prog X.w X.A.in1 it [it, a] its.toArray.size (fun i v => its.toArray[i]? = some v) (fun i h => h.IsTupleIter it a i ∧ h.IsTuple a its.toArray) := Draws.tuple (A := X.A.in1) (show X.A.in1.handled = none from I.ok.hd hc) it a hai its.toArray
    have hlt : i < its.toArray.size := by
      have := (List.getElem?_eq_some_iff.mp hu).1
      simpa using this
    refine wpAny_pyNext_enum_itemC Dr he ⟨hit, p⟩ hlt hne (by simp only [List.mem_cons, List.not_mem_nil, or_false]; rintro (z | z); exact hne z; exact hae z.symm) fun x' h' tk hP ho hst' hT hsz hk => ?_
    obtain rfl : u = x' := by
      have : its.toArray[i]? = some u := by simpa using hu
      rw [this] at hP
      exact Option.some.inj hP
    refine ⟨_, rfl, wpAny_letOwnedTupleGo_enum (s := { s with heap := h', toks := tk + 1 }) ho fun h'' he' sb => ?_⟩
    have hT2 : h''.get? s.heap.objs.size = some { cls := .type "tuple", data := .seq #[.int i tk, u] } := (sb.2 _ (Nat.ne_of_gt hel)).trans hT
    have new : ObjOk X.prog X.w (upd H s.heap.objs.size (.tup [.int (i : Nat), x])) h'' s.heap.objs.size (.tup [.int (i : Nat), x]) :=
      ⟨by show 2 ≤ sizeLine; decide, [.int i tk, u], .cons ⟨_, rfl⟩ (.cons ru .nil), ⟨_, hT2, rfl, _, rfl⟩⟩
    have I1 : Inv X pins σ (upd H s.heap.objs.size (.tup [.int (i : Nat), x])) { s with heap := h'', toks := tk + 1 } :=
      I.turnedNew (ch := [e, it]) (fun b ob hb q => (sb.2 b (fun z => hb (by simp [z]))).trans (hk b ob (fun z => hb (by simp [z])) (fun z => hb (by simp [z])) q)) hf (Nat.le_refl _) new
    refine ⟨.ref s.heap.objs.size, _, I1, rfl, ⟨_, x, rfl, I.hok.fresh (Nat.le_refl _), rfl, fun ys hy => by rw [rd_inj hy hq]; exact hx⟩, ⟨⟨u, ?_⟩, hst'.1.at fun o q => (sb.2 it (Ne.symm hne)).trans q, hne⟩, fun b hb => ?_⟩
    · have e1 : ((i + 1 : Nat) : Int) = (i : Int) + 1 := by omega
      rw [e1]; exact he'
    · have hb' : b < s.heap.objs.size := by
        have e' : b = e ∨ b = it := by simpa using hb
        rcases e' with z | z
        · rw [z]; exact hel
        · rw [z]; exact hil
      rw [upd_ne (Nat.ne_of_lt hb')]
      exact (hf b hb).1
  done := by
    intro X hP hw hK hc i pins s σ H E I hf st hg
    subst hP hw hK
    obtain ⟨⟨old, he⟩, hit, hne⟩ := st
    obtain ⟨xs, hq, hx⟩ := hg
    obtain ⟨its, rv, p, hz⟩ := I.tuple (.inl hq)
    obtain ⟨f0, f1, f2, f3, f4, f5⟩ := hf it (by simp)
    have hl := rv.length
    have hT : s.TypeIs (.ref e) "enumerate" := ⟨_, he, rfl⟩
    unfold pyNext
    refine wpAny_bind (wpAny_attempt (wpAny_callSpecial?_slot (name := Str.ofString "__next__") hT PySem.F.slot_enumerate_next
      (wpAny_call_entry PySem.F.slot_enumerate_next hT PySem.F.entry_enumerate_next ?_ (PySem.F.args_enumerate_next_1 _))))
    show wpAny _ _ (field (.ref e) 2 >>= _) _ _ _
    refine wpAny_bind (wpAny_field he rfl (x := .ref it) rfl ?_)
    refine wpAny_bind (wpAny_nextOf_tuple_end (show X.A.in1.handled = none from I.ok.hd hc) hit p (by simp; omega) fun h' x he' hx' => ?_)
    obtain ⟨o, ho, hc'⟩ := hx'
    refine wpAny_bind (wpAny_isInstance (T := "StopIteration") (b := true) ⟨o, ho, hc'⟩ isSubtype_stop ?_)
    exact wpAny_pure ⟨rfl, I.turned (t' := s.toks) (fun b o hb q => he' b o hb q) f0 f1 f3 f4 f5⟩
  self := fun A i s Q E st h => let ⟨⟨_, he⟩, _⟩ := st; wpAny_pyIter_enum he h
def iEnumT (ta : TA) : TI := fun σ H R => ta σ H fun vs H1 => ∃ a xs, vs = [.ref a] ∧ Rd H1 a (.tup xs) ∧ R (IteT a) H1
theorem pi_enumT {e : Expr} {ta : TA} {p pos tpos : Pos} {elts : List Expr} {kk : Nat} (hg : Gl X "enumerate") (hm : X.mg "enumerate" = none) (ha : PA X [e] ta) (hs : starEach [e] X.env = [(false, eval e X.env)] := by rfl) :
    PI X (.Tuple elts kk tpos) (.Call (.Name "enumerate" p) [e] [] pos) (iEnumT ta) := by
  refine ⟨fun pins s σ H R I h => ?_⟩
  refine Call_ (ld_blt I hg hm boot_enumerate (PyProof.Rows.callWith_type1 (thn (ha.run _ pins s σ H _ I h) fun us s1 ⟨vs, H1, I1, r1, q1⟩ => ?_) hs rfl))
  obtain ⟨a, xs, ex, hq, q⟩ := q1
  subst ex
  cases r1 with
  | cons r rr =>
    cases rr
    cases r
    obtain ⟨its, rv, p', hz⟩ := I1.tuple (.inl hq)
    refine call_enumerate_B1 (begins_tuple a its.toArray) p' fun h' he hit hsz hk => wpAny_pyIter_enum he ?_
    have I2 : Inv X pins σ H1 { s1 with heap := h' } := I1.kept (t' := s1.toks) hk
    refine ⟨s1.heap.objs.size + 1, [s1.heap.objs.size + 1, s1.heap.objs.size], _, _, H1, rfl, I2, turn_enumT a (s1.heap.objs.size + 1) s1.heap.objs.size, ⟨⟨.none, he⟩, ⟨_, hit, rfl, rfl⟩, Nat.succ_ne_self _⟩, fun b hb => ?_, q⟩
    have e' : b = s1.heap.objs.size + 1 ∨ b = s1.heap.objs.size := by simpa using hb
    have hle : s1.heap.objs.size ≤ b := by
      rcases e' with z | z
      · rw [z]; exact Nat.le_add_right _ _
      · rw [z]; exact Nat.le_refl _
    exact I1.fpOk hle (I1.hok.fresh hle)
theorem itet_d {B F : Hp} {a : Addr} {vs : List V} {ds : List D} (h : Rd F a (.tup vs)) (rv : RpA F vs ds) : ItD (IteT a) B F (enumD ds) := by
  have up : ∀ {H : Hp}, Ex F H → Rd H a (.tup vs) := fun k => h.elim (fun h => .inl (k _ _ h)) fun ⟨o, h⟩ => .inr ⟨o, k _ _ h⟩
  have hl : (enumD ds).length = ds.length := by unfold enumD; rw [List.length_map, List.length_range]
  refine ⟨fun i H kb k hi => ⟨vs, up k, by rw [rv.length, ← hl]; exact hi⟩, fun i H kb k hi => ?_, fun i H x H' kb k y hi => ?_⟩
  · rw [hl] at hi
    obtain ⟨v, e, _⟩ := rv.get' (i := i) (List.getElem?_eq_getElem hi)
    exact ⟨vs, v, up k, e⟩
  · obtain ⟨T, z, rfl, nT, rfl, f⟩ := y
    obtain ⟨d, e1, e2⟩ := rv.get (f vs (up k))
    rw [hl] at hi
    refine .inr (.inl ⟨T, _, [.int (i : Nat), d], rfl, nT, rfl, .cons (.int _) (.cons e2 .nil), ?_⟩)
    unfold enumD
    rw [List.getElem?_map, List.getElem?_range hi]
    show some (PyData.tuple [.int (i : Nat), ds.getD i .none]) = _
    rw [List.getD_eq_getElem?_getD, e1]; rfl
/-- enumerate(x), x a tuple known to have no dict -/
theorem jenumF {e : Expr} {p pos tpos : Pos} {elts : List Expr} {kk : Nat} {K : List D → List Sl → Prop} (hm : X.mg "enumerate" = none) (h : JE X r e S fun d S1 => ∃ ds, d = ft ds ∧ K (enumD ds) S1) (hg : Gl X "enumerate" := by rfl) (hs : starEach [e] X.env = [(false, eval e X.env)] := by rfl) : JI X r (.Tuple elts kk tpos) (.Call (.Name "enumerate" p) [e] [] pos) S K :=
  fun c F σ H hr E R q => of_pi (pi_enumT hg hm (pa_cons pe_tE pa_nil hs) hs) (h c F σ H hr E _ fun v d F1 H1 S1 h1 E1 k1 r1 => by
    obtain ⟨ds, rfl, kd⟩ := h1
    obtain ⟨a, o, xs, rfl, ha, _, hv⟩ := rp_ft r1
    exact ⟨_, xs, rfl, .inr ⟨o, E1.fin.fh _ _ ha⟩, q _ _ F1 H1 S1 kd E1 k1 (itet_d (.inr ⟨o, ha⟩) hv)⟩)
end
end DL

/-! DL: exceptions: raise of a class of the program's own, a def that may raise, try .. except. -/
namespace DL
open PySem L2 PySem.Spec PyProof.Rows
/-! ### raise -/
/-- what is known of the program's exception class at C -/
structure OwnExc (K : PySem.W.Frag) (mg : Str → Option Value) (x : Str) (C : Addr) : Prop where
  g : mg x = some (.ref C)
  k : PySem.W.keepIn K (.ref C) = true
  q : PySem.W.excIn K C [.type "ValueError", .type "Exception", .type "BaseException", .type "object"] "ValueError.__new__" = true
  s : PySem.W.subIn K (.ref C) (.type "BaseException") = some true
  t : PySem.W.typeIn K (.ref C) = some (.type "type")
  m : PySem.W.exmOne K (.ref C) (.ref C) = some true
section
variable {X : Cx} {r : SR} {S : List Sl}
theorem pmk_own0 {x : Str} {C : Addr} {p pos : Pos} (O : OwnExc X.K X.mg x C) (hg : Gl X x := by rfl) (hdb : (x == ("__debug__" : Str)) = false := by decide) : PMk X (.Call (.Name x p) [] [] pos) (fun _ H Q => Q (.ref C) none H) := by
  intro pins s σ H Q I h
  refine wpAny_Call_Name_kw (ld_glob I hg O.g ?_ hdb)
  refine PySem.W.callWith_K0 I.kIn O.k ?_
  show wpAny _ _ (call (.ref C) []) _ _ _
  obtain ⟨bm, N, nm, qn, bs, hdct, sn, sub, ab, col, dd, k0, k1, k2, k3, k5, mN, hC, hN, hni, T⟩ := exc_obj I.kIn O.q
  refine wpAny_call_exc_subT PySem.F.excBase_ValueError T hC hN hni (fun h' e hm => ?_) (by show 0 ≤ sizeLine; exact Nat.zero_le _)
  exact mk_of I hm (raises_own O.s O.t) h (I.hok.gone hm.new)
/-- where an exception of a class may be let out, the slots being as they are -/
def LetOut (X : Cx) (r : SR) (W : WX) (KE : Value → List Sl → Prop) : Prop := ∀ cls dd (c : C) S' F' σ' H', KE cls S' → r.q c → EvD c S' F' σ' H' → W cls dd σ' H'
theorem js_raise {e : Expr} {pos : Pos} {E : DE} {C : Addr} {W : WX} {KE : Value → List Sl → Prop} (hc : X.calm = true) (tk : Takes X W) (he : PMk X e (fun _ H Q => Q (.ref C) none H)) (lo : LetOut X r W KE) (k : KE (.ref C) S) : JS X r (.Raise (some e) none pos) S E :=
  fun c F σ H hr Ev G g => of_ps (ps_raise hc tk he) (lo _ _ c S F σ H k hr Ev)
theorem jraise {x : Str} {p cpos pos : Pos} {E : DE} {C : Addr} {W : WX} {rest : List Stmt} {KE : Value → List Sl → Prop} (tk : Takes X W) (O : OwnExc X.K X.mg x C) (lo : LetOut X r W KE) (k : KE (.ref C) S) (hc : X.calm = true := by rfl) (hg : Gl X x := by rfl) (hdb : (x == ("__debug__" : Str)) = false := by decide) :
    JSs X r (.Raise (some (.Call (.Name x p) [] [] cpos)) none pos :: rest) S E := jss_cons (js_raise hc tk (pmk_own0 O hg hdb) lo k)
/-! ### a def that may raise -/
def SpX (φ : List Ar → (D → Prop) → (Value → Prop) → Prop) : Sp := fun vs H Q XE => ∃ (c : C) (as : List Ar) (K : D → Prop) (KE : Value → Prop), Fin c c.F0 H ∧ ArA c c.F0 vs as ∧ φ as K KE ∧ (∀ v d F' H', K d → Fin c F' H' → Rp F' v d → Q v H') ∧ ∀ cls dd F' H', KE cls → Fin c F' H' → XE cls dd H'
end
section
variable {P : Program} {w : World} {K : PySem.W.Frag} {mg : Str → Option Value} {base : Heap}
theorem fn_X {x qual : Str} {st : Stmt} {f : Addr} {fd : FuncData} {N ps : List Str} {k : Nat} {φ : List Ar → (D → Prop) → (Value → Prop) → Prop} (F : Fun K x qual st f fd) (Sc : FnScope N ps (defScope st)) (len : ∀ as Kd KE, φ as Kd KE → as.length = ps.length)
    (hbody : ∀ (as : List Ar) (Kd : D → Prop) (KE : Value → Prop) (r : SR) (cdv : Value) (A : Around) (outer : List PySem.Env) (s : Shared) (H : Hp) (E : XK), Room k (A.deeper (PyProof.Rows.envOfC qual (defScope st) s.heap.objs.size f cdv)) → φ as Kd KE →
      Takes (cxOf (L2.CX P w) P w K mg base N qual (defScope st) f cdv A outer s H E) (fun cls d _ H => E cls d H) →
      PassesOwn (model P w) (cxOf (L2.CX P w) P w K mg base N qual (defScope st) f cdv A outer s H E).A (cxOf (L2.CX P w) P w K mg base N qual (defScope st) f cdv A outer s H E).env (cxOf (L2.CX P w) P w K mg base N qual (defScope st) f cdv A outer s H E).xe →
      LetOut (cxOf (L2.CX P w) P w K mg base N qual (defScope st) f cdv A outer s H E) r (fun cls d _ H => E cls d H) (fun cls _ => KE cls) →
      JSs (cxOf (L2.CX P w) P w K mg base N qual (defScope st) f cdv A outer s H E) r (defBody st) (startS N as) { nx := fun _ => Kd .none, rt := Kd }) : FnOk P w K mg base (L2.CX P w) (k + 1) f fd ps (SpX φ) := by
  refine F.okX Sc (fun vs H Q E h => ?_) (fun cdv A outer s H vs Q E hr h => ?_)
  · obtain ⟨c, as, Kd, KE, fn, ra, hφ, _⟩ := h
    rw [ra.length]; exact len as Kd KE hφ
  · obtain ⟨c, as, Kd, KE, fn, ra, hφ, q, qe⟩ := h
    refine ⟨_, pss_tSs, hbody as Kd KE (srL c) cdv A outer s H E hr hφ (takes_of rfl rfl rfl rfl) (passes_of rfl) (fun cls dd c' S' F' σ' H' ke hq Ev => qe cls dd F' H' ke (srL_fin hq Ev.fin)) c c.F0 _ H (srL_refl c) (env_start fn ra) _ ⟨fun F' σ' H' S' a E' k' => q .non .none F' H' a E'.fin .non, fun v d F' H' a fn' rp => q v d F' H' a fn' rp, fun _ _ _ _ a => a.elim, fun _ _ _ _ a => a.elim⟩⟩
end
/-! ### its call -/
section
variable {X : Cx} {r : SR} {S : List Sl}
theorem run_fnAt {CX : CXT} {k : Nat} {f : Addr} {fd : FuncData} {ps : List Str} {sp : Sp} {E : XK} {pins : List (Addr × Obj)} {σ : L2.St} {H : Hp} {s : Shared} {Q : VK} {us : List Value} {vs : List V} (F : FnOk X.prog X.w X.K X.mg X.base CX k f fd ps sp) (hr : Room k X.A) (hb : Binds X.K fd ps []) (hx : ∀ e s', CX X.stack H s E e s' → X.xe e s')
    (I : Inv X pins σ H s) (rr : Vals vs us) (h : sp vs H Q E) : wpAny (model X.prog X.w) X.A (call (.ref f) us) (EP X pins σ Q) X.xe s := by
  have hl : us.length = ps.length := by rw [← rr.length]; exact F.len _ _ _ _ h
  have hb' := hb s us I.kIn (by rw [List.append_nil]; exact hl)
  rw [List.append_nil] at hb'
  refine wpAny_call (codeAny_mono (F.run X.A X.stack s H ⟨us, []⟩ us vs Q E hr I.env0 hb' rr h) fun r s' hq => ?_)
  cases r with
  | error e => exact hx e s' hq
  | ok fl =>
    cases fl with
    | ret u => exact I.after hq
    | next => exact False.elim hq
    | brk => exact False.elim hq
    | cont => exact False.elim hq
theorem sp_callX {φ : List Ar → (D → Prop) → (Value → Prop) → Prop} {c : C} {F : Hp} {σ : L2.St} {H : Hp} {vs : List V} {as : List Ar} {Q : VK} {XE : XK} {K : D → Prop} {KE : Value → Prop} (E : EvD c S F σ H) (ra : ArA c F vs as) (h : φ as K KE)
    (q : ∀ v d F' H', K d → EvD c S F' σ H' → Ex F F' → Rp F' v d → Q v H') (qe : ∀ cls dd F' H', KE cls → EvD c S F' σ H' → Ex F F' → XE cls dd H') : SpX φ vs H Q XE := by
  have ns : ∀ a, (∃ p, c.sr = some p ∧ (a = p.1 ∨ a = p.2)) → F a = none ∧ c.B a = none := fun a ⟨p, ep, z⟩ => by
    obtain ⟨_, n1, n2, b1, b2⟩ := E.fin.src p ep
    rcases z with z | z <;> subst z
    · exact ⟨n1, b1⟩
    · exact ⟨n2, b2⟩
  let B' : Hp := fun a => match c.sr with
    | none => H a
    | some p => if a = p.1 ∨ a = p.2 then none else H a
  have hB : ∀ a o, B' a = some o → H a = some o := fun a o e => by
    show H a = some o
    cases hs : c.sr with
    | none => simp only [B', hs] at e; exact e
    | some p =>
      simp only [B', hs] at e
      by_cases z : a = p.1 ∨ a = p.2
      · rw [if_pos z] at e; cases e
      · rw [if_neg z] at e; exact e
  have hB2 : ∀ a, (∀ p, c.sr = some p → a ≠ p.1 ∧ a ≠ p.2) → B' a = H a := fun a z => by
    cases hs : c.sr with
    | none => simp only [B', hs]
    | some p =>
      obtain ⟨z1, z2⟩ := z p hs
      simp only [B', hs]
      rw [if_neg (by intro q; rcases q with q | q; exact z1 q; exact z2 q)]
  have back : ∀ F' H', Fin ⟨B', F, c.sr⟩ F' H' → EvD c S F' σ H' ∧ Ex F F' := fun F' H' fn => by
    have kF : Ex F F' := fn.f0
    refine ⟨?_, kF⟩
    have hk : ∀ a o, (∀ p, c.sr = some p → a ≠ p.1 ∧ a ≠ p.2) → H a = some o → H' a = some o ∧ (F' a = F a ∨ ∃ xs, o = .tup xs) := fun a o z e => by
      have e' : B' a = some o := by rw [hB2 a z]; exact e
      exact ⟨fn.bh a o e', fn.bf a o e'⟩
    have hcB : ∀ a o, c.B a = some o → (∀ p, c.sr = some p → a ≠ p.1 ∧ a ≠ p.2) := fun a o e p ep => by
      obtain ⟨_, _, _, b1, b2⟩ := E.fin.src p ep
      exact ⟨fun z => (by rw [z, b1] at e; cases e), fun z => (by rw [z, b2] at e; cases e)⟩
    refine ⟨⟨E.fin.f0.trans kF, fn.fh, fun a o e => (hk a o (hcB a o e) (E.fin.bh a o e)).1, fun a o e => ((hk a o (hcB a o e) (E.fin.bh a o e)).2).elim (fun z => (E.fin.bf a o e).elim (fun y => .inl (z.trans y)) .inr) .inr, fun p ep => ?_⟩, E.len, fun i s e => ?_, E.ds⟩
    · obtain ⟨s, n1, n2, _, _⟩ := fn.src p ep
      obtain ⟨_, _, _, b1, b2⟩ := E.fin.src p ep
      exact ⟨s, n1, n2, b1, b2⟩
    · obtain ⟨x, e1, rr⟩ := E.sl i s e
      refine ⟨x, e1, ?_⟩
      cases s with
      | emp => trivial
      | src => exact rr
      | val d =>
        obtain ⟨v, e2, rr⟩ := rr
        exact ⟨v, e2, rr.ex kF⟩
      | ob ds =>
        obtain ⟨a, ws, e2, h1, r1, n1, b1, q1⟩ := rr
        have za : ∀ p, c.sr = some p → a ≠ p.1 ∧ a ≠ p.2 := q1
        obtain ⟨g1, g2⟩ := hk a _ za h1
        rcases g2 with g2 | ⟨xs, g2⟩
        · exact ⟨a, ws, e2, g1, r1.ex kF, by rw [g2]; exact n1, b1, q1⟩
        · have m := r1.mut
          rw [g2] at m
          exact m.elim
  refine ⟨⟨B', F, c.sr⟩, as, K, KE, ⟨Ex.refl F, E.fin.fh, hB, fun _ _ _ => .inl rfl, fun p ep => ?_⟩, ?_, h, fun v d F' H' kd fn rp => q v d F' H' kd (back F' H' fn).1 (back F' H' fn).2 rp, fun cls dd F' H' ke fn => qe cls dd F' H' ke (back F' H' fn).1 (back F' H' fn).2⟩
  · obtain ⟨s, n1, n2, b1, b2⟩ := E.fin.src p ep
    have ep' : c.sr = some p := ep
    refine ⟨s, n1, n2, ?_, ?_⟩
    · show B' p.1 = none
      simp [B', ep']
    · show B' p.2 = none
      simp [B', ep']
  · clear q qe h
    induction ra with
    | nil => exact .nil
    | cons rr _ ih =>
      refine .cons ?_ ih
      revert rr
      cases ‹Ar› with
      | d d => exact fun z => z
      | src => exact fun z => z
/-- a call that may raise -/
theorem je_callX {K0 : D → List Sl → Prop} {W : WX} {k k' : Nat} {f : Addr} {fd : FuncData} {ps : List Str} {x : Str} {st : Stmt} {p pos : Pos} {e : Expr} {es : List Expr} {φ : List Ar → (D → Prop) → (Value → Prop) → Prop} (KS : Value → List Sl → Prop) (tk : Takes X W) (lo : LetOut X r W KS) (hr : Room k' X.A) (N : Dn X.K X.mg x st ps f fd) (F : FnOk X.prog X.w X.K X.mg X.base (L2.CX X.prog X.w) k f fd ps (SpX φ))
    (h : JA X r (e :: es) S fun as S1 => ∃ KE, φ as (fun d => K0 d S1) KE ∧ ∀ cls, KE cls → KS cls S1) (hk : k ≤ k' := by decide) (hg : Gl X x := by rfl) (hdb : (x == ("__debug__" : Str)) = false := by decide)
    (he : starEach (e :: es) X.env = (false, eval e X.env) :: starEach es X.env := by rfl) (hpl : (backTo pos (starEach es X.env)).any (·.1) = false := by rfl) : JE X r (.Call (.Name x p) (e :: es) [] pos) S K0 := fun c F0 σ H hr' Ev Q q pins s I => by
  refine wpAny_Call_Name_kw (ld_glob I hg N.g ?_ hdb)
  refine PySem.W.callWith_K (h₀ := X.base) I.ok.mod.kin N.F.kp (thn (h c F0 σ H hr' Ev (fun vs H1 => SpX φ vs H1 Q fun cls dd H' => W cls dd σ H') (fun vs as F1 H1 S1 ⟨KE, hφ, hKE⟩ E1 k1 r1 => ?_) pos pins s I) fun us s1 ⟨vs, H1, I1, rr, q1⟩ => ⟨I1.kIn, ?_⟩) he hpl
  · exact sp_callX E1 r1 hφ (fun v d F' H' kd Ev' kF rp => q v d F' H' S1 kd Ev' (k1.trans kF) rp) fun cls dd F' H' ke Ev' kF => lo cls dd c S1 F' σ H' (hKE cls ke) hr' Ev'
  · exact run_fnAt F (hr.mono hk) N.b (fun e' s' cx => tk e' s' (XE.of_call I1 (fun _ _ _ h => h) cx)) I1 rr q1
/-! ### try .. except -/
theorem EvD.to {c0 c : C} {F H : Hp} {σ : L2.St} (h : (srL c0).q c) (E : EvD c S F σ H) : EvD c0 S F σ H := by
  refine ⟨srL_fin h E.fin, E.len, fun i s e => ?_, E.ds⟩
  obtain ⟨a, b, ex⟩ := h
  obtain ⟨x, e1, rr⟩ := E.sl i s e
  refine ⟨x, e1, ?_⟩
  cases s with
  | emp => trivial
  | val d => exact rr
  | src =>
    obtain ⟨p, ep, z⟩ := rr
    exact ⟨p, a ▸ ep, z⟩
  | ob o =>
    obtain ⟨a', hh, z, ha, ro, nF, nB, ns⟩ := rr
    exact ⟨a', hh, z, ha, ro, nF, ex.back nB, fun p ep => ns p (a.trans ep)⟩
/-- the same place, from now on -/
def C.now (c : C) (F : Hp) : C := ⟨c.B, F, c.sr⟩
theorem EvD.now {c : C} {F H : Hp} {σ : L2.St} (E : EvD c S F σ H) : EvD (c.now F) S F σ H := by
  refine ⟨⟨Ex.refl F, E.fin.fh, E.fin.bh, fun _ _ _ => .inl rfl, E.fin.src⟩, E.len, fun i s e => ?_, E.ds⟩
  obtain ⟨x, e1, rr⟩ := E.sl i s e
  refine ⟨x, e1, ?_⟩
  cases s <;> exact rr
theorem fin_past {c : C} {F H F' H' : Hp} (f : Fin c F H) (f' : Fin (c.now F) F' H') : Fin c F' H' :=
  ⟨f.f0.trans f'.f0, f'.fh, f'.bh, fun a o e => (f'.bf a o e).elim (fun z => (f.bf a o e).elim (fun y => .inl (z.trans y)) .inr) .inr, f'.src⟩
theorem EvD.past {c : C} {F H F' H' : Hp} {σ : L2.St} {S' : List Sl} (f : Fin c F H) (E : EvD (c.now F) S' F' σ H') : EvD c S' F' σ H' := by
  refine ⟨fin_past f E.fin, E.len, fun i s e => ?_, E.ds⟩
  obtain ⟨x, e1, rr⟩ := E.sl i s e
  refine ⟨x, e1, ?_⟩
  cases s <;> exact rr
theorem js_try {body suite : List Stmt} {b₀ : Stmt} {x : Str} {np pos' pos : Pos} {C : Addr} {E : DE} (KH : Value → List Sl → Prop) (hc : Names X x (.ref C)) (hm : ∀ cls S', KH cls S' → PySem.W.exmOne X.K cls (.ref C) = some true)
    (hb : ∀ (W : WX) (pn : List (Addr × Obj)) (xe : Value → Shared → Prop) (r' : SR), Takes (X.tr pn xe) W → PassesOwn (model X.prog X.w) X.A X.env xe → LetOut (X.tr pn xe) r' W KH → JSs (X.tr pn xe) r' body S E)
    (hsu : ∀ cls S' (a : Addr) (pn : List (Addr × Obj)) (r' : SR), KH cls S' → JSs (X.suite a pn) r' (b₀ :: suite) S' E) (hs : X.stack = X.env :: X.outer := by rfl) (hf : X.env.frame = some X.env.locals := by rfl) :
    JS X r (.Try body [.ExceptHandler (some (.Name x np)) none (b₀ :: suite) pos'] [] [] pos) S E := fun c F σ H hr Ev G g => by
  have E1 := Ev.now
  have g1 : EndsR (c.now F) F E G := ⟨fun F' σ' H' S' a E' k' => g.nx F' σ' H' S' a (EvD.past Ev.fin E') k', fun v d F' H' a fn rp => g.rt v d F' H' a (fin_past Ev.fin fn) rp, fun F' σ' H' S' a E' k' => g.bk F' σ' H' S' a (EvD.past Ev.fin E') k', fun F' σ' H' S' a E' k' => g.ct F' σ' H' S' a (EvD.past Ev.fin E') k'⟩
  refine of_ps (ps_try_only (tb := fun W D σ H => ∀ (pn : List (Addr × Obj)) (xe : Value → Shared → Prop), Takes (X.tr pn xe) W → PassesOwn (model X.prog X.w) X.A X.env xe → tSs (X.tr pn xe) body D σ H)
    (ts := fun a cls d D σ H => ∀ pn : List (Addr × Obj), tSs (X.suite a pn) (b₀ :: suite) D σ H) (Wout := fun _ _ _ _ => False) hs hf hc takes0
    (fun W pn xe tk hp => ⟨fun pins s σ H D I h => h pn xe tk hp pins s I⟩) (fun a oe cls d pn _ _ => ⟨fun pins s σ H D I h => h _ pins s I⟩)) ?_
  intro pn xe tk hp
  refine hb _ pn xe (srL (c.now F)) tk hp (fun cls dd c' S' F' σ' H' ke hq Ev' => ⟨true, hm cls S' ke, fun _ a na pn' => ?_, fun z => by cases z⟩) (c.now F) F σ H (srL_refl _) E1 G g1
  have E2 := EvD.to hq Ev'
  exact hsu cls S' a pn' (srL (c.now F)) ke (c.now F) F' σ' H' (srL_refl _) E2 G (g1.ex E2.fin.f0)
theorem jtry {body suite rest : List Stmt} {b₀ : Stmt} {x : Str} {np pos' pos : Pos} {C : Addr} {E : DE} (KH : Value → List Sl → Prop) (hc : Names X x (.ref C)) (hm : ∀ cls S', KH cls S' → PySem.W.exmOne X.K cls (.ref C) = some true)
    (hb : ∀ (W : WX) (pn : List (Addr × Obj)) (xe : Value → Shared → Prop) (r' : SR), Takes (X.tr pn xe) W → PassesOwn (model X.prog X.w) X.A X.env xe → LetOut (X.tr pn xe) r' W KH → JSs (X.tr pn xe) r' body S { E with nx := fun S2 => JSs X r rest S2 E })
    (hsu : ∀ cls S' (a : Addr) (pn : List (Addr × Obj)) (r' : SR), KH cls S' → JSs (X.suite a pn) r' (b₀ :: suite) S' { E with nx := fun S2 => JSs X r rest S2 E }) (hs : X.stack = X.env :: X.outer := by rfl) (hf : X.env.frame = some X.env.locals := by rfl) :
    JSs X r (.Try body [.ExceptHandler (some (.Name x np)) none (b₀ :: suite) pos'] [] [] pos :: rest) S E := jss_cons (js_try KH hc hm hb hsu hs hf)
end
end DL

/-! DL: a, b, c = x, y, {}; k not in a dict of one's own. -/
namespace DL
open PySem L2
section
variable {X : Cx} {r : SR} {S : List Sl}
theorem jpar3O {x y z : Str} {a b e : Expr} {px py pz pt pos : Pos} {kt k2 pt2} {E : DE} {rest : List Stmt} (i j l : Nat) (h : JE X r a S fun d1 S1 => JE X r b S1 fun d2 S2 => JO X r e S2 fun o S3 => i < S3.length ∧ j < S3.length ∧ JSs X r rest (((S3.set i (.val d1)).set j (.val d2)).set l (.ob o)) E)
    (hc : X.calm = true := by rfl) (hN : X.N.Nodup := by assumption) (hi : X.N[i]? = some x := by rfl) (hj : X.N[j]? = some y := by rfl) (hl : X.N[l]? = some z := by rfl) (hij : i ≠ j := by decide) (hil : i ≠ l := by decide) (hjl : j ≠ l := by decide) (hx : X.env.scope.names.lookup x = some .local := by rfl) (hy : X.env.scope.names.lookup y = some .local := by rfl) (hz : X.env.scope.names.lookup z = some .local := by rfl)
    (hw : swappedStores [.Tuple [.Name x px, .Name y py, .Name z pz] kt pt] (.Tuple [a, b, e] k2 pt2) X.env = pure (some [x, y, z]) := by rfl) (hs : swapsWithSole [.Tuple [.Name x px, .Name y py, .Name z pz] kt pt] (.Tuple [a, b, e] k2 pt2) pos.line X.env = pure false := by rfl)
    (s1 : starEach [a, b, e] X.env = (false, eval a X.env) :: starEach [b, e] X.env := by rfl) (s2 : starEach [b, e] X.env = (false, eval b X.env) :: starEach [e] X.env := by rfl) (s3 : starEach [e] X.env = (false, eval e X.env) :: starEach [] X.env := by rfl) :
    JSs X r (.Assign [.Tuple [.Name x px, .Name y py, .Name z pz] kt pt] (.Tuple [a, b, e] k2 pt2) pos :: rest) S E := jss_cons fun c F σ H hr Ev G g =>
  of_ps (ps_par3 hc hN hi hj hl hij hil hjl hx hy hz (pa_cons pe_tE (pa_cons pe_tE (pa_cons pe_tE pa_nil s3) s2) s1) hw hs) (h c F σ H hr Ev _ fun v d F1 H1 S1 h1 E1 k1 r1 => h1 c F1 σ H1 hr E1 _ fun v2 d2 F2 H2 S2 h2 E2 k2 r2 => h2 c F2 σ H2 hr E2 _ fun p o F3 H3 S3 h3 n k3 => by
    obtain ⟨hh, E3, hp, hv, nF, b, q, no⟩ := n
    obtain ⟨hli, hlj, kk⟩ := h3
    have E4 := (E3.set (i := i) (r1.ex (k2.trans k3))).set (i := j) (r2.ex k3)
    refine ⟨v, v2, .ref p, rfl, g.nx F3 _ H3 _ kk (E4.setOwn hp hv nF b q fun m xs em => ?_) ((k1.trans k2).trans k3)⟩
    by_cases hm : j = m
    · subst hm
      rw [List.getElem?_set_self (by rw [List.length_set]; exact hlj)] at em; cases em
    · rw [List.getElem?_set_ne hm] at em ⊢
      by_cases hm : i = m
      · subst hm
        rw [List.getElem?_set_self hli] at em; cases em
      · rw [List.getElem?_set_ne hm] at em ⊢
        exact no m xs em)
/-- a list of one's own, from here on as data -/
theorem jss_frz {rest : List Stmt} {E : DE} (i : Nat) {xs : OB} (e : S[i]? = some (.ob xs)) (h : JSs X r rest (S.set i (.val (obD xs))) E) : JSs X r rest S E := fun c F σ H hr Ev G g => by
  obtain ⟨F', v, kF, _, _, E'⟩ := Ev.freezeAt e
  exact h c F' σ H hr E' G (g.ex kF)
/-- a not in x, x a dict of one's own -/
theorem jtdninO {K : Bool → List Sl → Prop} {a : Expr} {x : Str} {px pos : Pos} {k : Nat} (hr : Room k X.A) (i : Nat) (h : JE X r a S fun d1 S1 => ∃ ky kvs, d1 = tupI ky ∧ S1[i]? = some (.ob (.d kvs)) ∧ K (!(valD kvs ky).isSome) S1)
    (hN : X.N[i]? = some x := by rfl) (hv : Vis X.env.scope x := by first | exact Or.inl rfl | exact Or.inr (Or.inl rfl) | exact Or.inr (Or.inr rfl)) (hd : (x == ("__debug__" : Str)) = false := by decide) (hcd : (x == ("__classdict__" : Str)) = false := by decide) (hm : behindInMarks .NotIn (.Name x px) = false := by rfl) : JT X r (.Compare a [.NotIn] [.Name x px] pos) S K :=
  fun c F σ H hr' E Q q => of_pt (pt_cmp (pc_dnotin (by have := hr.un; omega) pe_tE (pe_var hN hv hd hcd)) hm) (h c F σ H hr' E _ fun v1 d1 F1 H1 S1 h1 E1 k1 r1 => by
    obtain ⟨ky, kvs, rfl, es, kk⟩ := h1
    obtain ⟨y, e1, l, hh, e2, ha, rv, nF, nb, q0⟩ := E1.sl i _ es
    subst e2
    obtain ⟨ws, rfl, rk⟩ := obr_d rv
    refine ⟨_, e1, l, _, rfl, dget_of E1.fin.fh r1 ha, ?_⟩
    rw [(rk.val ky).isSome]
    exact ⟨_, rfl, q _ F1 H1 S1 kk E1 k1⟩)
end
end DL

/-! DL: t[::-1]; t * 0, t * 1; xs * n; xs[i] = v; sorted(t); int(b); is not True. -/
namespace DL
open PySem L2
section
open PySem.Spec PyProof.Rows
open AutoSeq1 (wpAny_loadPart')
theorem tuple_mul1 (l : Addr) (items : Array Value) (n : Nat) (dd : Option Addr) (sl : Array (Option Value)) (u : Tok) :
    Meets (Builtin.«tuple.__mul__» ⟨[.ref l, .int 1 u], []⟩) (fun _ R s => s.heap.get? l = some { cls := .type "tuple", dict := dd, data := .seq items n, slots := sl } ∧ R (.ok (.ret (Value.ref l))) s) :=
  .of_wp fun prog w A R s h => by
    obtain ⟨hp, g, d, tk, os⟩ := s
    obtain ⟨hl, h⟩ := h
    have f1 := AutoSeq1.idx_int
    wp_walk using wpAny_loadPart' hl
    repeat (first
      | (refine wpAny_ite_false (decide_eq_false (by decide)) ?_; wp_walk using wpAny_loadPart' hl)
      | (refine wpAny_ite_true (decide_eq_true (by rw [Bool.or_eq_true]; exact .inr rfl)) ?_; wp_walk using wpAny_loadPart' hl))
    all_goals first | exact ⟨_, rfl, h⟩ | skip
theorem tuple_mul0 (l : Addr) (items : Array Value) (n : Nat) (dd : Option Addr) (sl : Array (Option Value)) (u : Tok) (hne : items.isEmpty = false) :
    Meets (Builtin.«tuple.__mul__» ⟨[.ref l, .int 0 u], []⟩) (fun _ R s => s.heap.get? l = some { cls := .type "tuple", dict := dd, data := .seq items n, slots := sl } ∧
      R (.ok (.ret (Value.ref s.heap.objs.size))) { s with heap := s.heap.push { cls := Value.type "tuple", data := Data.seq #[] }, toks := s.toks }) :=
  .of_wp fun prog w A R s h => by
    obtain ⟨hp, g, d, tk, os⟩ := s
    obtain ⟨hl, h⟩ := h
    have f1 := AutoSeq1.idx_int
    wp_walk using wpAny_loadPart' hl
    repeat (first
      | (refine wpAny_ite_false (decide_eq_false (by decide)) ?_; wp_walk using wpAny_loadPart' hl)
      | (refine wpAny_ite_false (decide_eq_false (by rw [hne]; decide)) ?_; wp_walk using wpAny_loadPart' hl)
      | (refine wpAny_ite_true (decide_eq_true (by rw [Bool.or_eq_true]; exact .inl rfl)) ?_; wp_walk using wpAny_loadPart' hl))
    all_goals first | exact ⟨_, rfl, h⟩ | skip
end
section
open PySem.Spec PyProof.Rows
variable {prog : Program} {w : World} {A : Around} {E : Value → Shared → Prop} {s : Shared}
theorem adjust_rev (n : Nat) : Builtin.Slice.sliceAdjust none none (-1) (n : Int) = ((n : Int) - 1, -1) := by
  have h1 : ((-1 : Int) < 0) := by omega
  unfold Builtin.Slice.sliceAdjust
  simp only [h1, if_true]
theorem places_rev (n : Nat) : Builtin.Slice.slicePlaces ((n : Int) - 1) (-1) (-1) = n := by
  unfold Builtin.Slice.slicePlaces
  have h1 : ¬ ((-1 : Int) > 0) := by omega
  simp only [h1, if_false]
  rw [show (- -1 : Int) = 1 by decide, Int.ediv_one]
  split <;> omega
theorem sliceApplied_rev {sl : Addr} {vl vu vs : Value} {n : Nat} {Q : Int × Int × Nat → Shared → Prop} (hs : s.heap.IsSliceOf sl vl vu vs) (pl : IsPart vl none) (pu : IsPart vu none) (pt : IsPart vs (some (-1)))
    (h : Q ((n : Int) - 1, -1, n) s) : wpAny (model prog w) A (Builtin.Slice.sliceApplied (.ref sl) (pure (n : Int))) Q E s := by
  obtain ⟨os, hos, hcs, hds⟩ := id hs
  unfold Builtin.Slice.sliceApplied Builtin.Slice.sliceFields
  refine wpAny_bind (wpAny_bind (wpAny_field hos hds (x := vl) rfl (wpAny_bind (wpAny_field hos hds (x := vu) rfl (wpAny_bind (wpAny_field hos hds (x := vs) rfl (wpAny_pure ?_)))))))
  refine wpAny_bind (HT.slicePart_ pt ?_)
  show wpAny _ _ (if ((-1 : Int) == 0) = true then _ else _) _ _ s
  rw [if_neg (by decide)]
  refine wpAny_bind (HT.slicePart_ pl (wpAny_bind (HT.slicePart_ pu (wpAny_bind (wpAny_pure ?_)))))
  show wpAny _ _ (match Builtin.Slice.sliceAdjust none none (-1) (n : Int) with | (lo, hi) => pure (lo, (-1 : Int), Builtin.Slice.slicePlaces lo hi (-1))) _ _ s
  rw [adjust_rev n]
  show wpAny _ _ (pure ((n : Int) - 1, (-1 : Int), Builtin.Slice.slicePlaces ((n : Int) - 1) (-1) (-1))) _ _ s
  rw [places_rev]
  exact wpAny_pure h
theorem fm_congr {α β : Type} {f g : α → Option β} : ∀ {l : List α}, (∀ x ∈ l, f x = g x) → l.filterMap f = l.filterMap g
  | [], _ => rfl
  | x :: l, h => by
    rw [List.filterMap_cons, List.filterMap_cons, h x List.mem_cons_self, fm_congr fun y hy => h y (List.mem_cons_of_mem _ hy)]
theorem pick_rev (xs : Array Value) : ((List.range xs.size).filterMap fun (m : Nat) => xs[(((xs.size : Nat) : Int) - 1 + (m : Int) * -1).toNat]?).toArray = xs.toList.reverse.toArray := by
  have h := PySem.W.krv_all xs
  have e : (List.range xs.size).filterMap (fun (m : Nat) => xs[(((xs.size : Nat) : Int) - 1 + (m : Int) * -1).toNat]?) = ((List.range xs.size).map fun k => xs.size - 1 - k).filterMap (xs[·]?) := by
    rw [List.filterMap_map]
    refine fm_congr fun m hm => ?_
    have hm := List.mem_range.mp hm
    have : (((xs.size : Nat) : Int) - 1 + (m : Int) * -1).toNat = xs.size - 1 - m := by omega
    rw [this]; rfl
  rw [e, PySem.W.krv_range, List.filterMap_reverse, h]
theorem getItem_tuple_rev {t sl : Addr} {items : Array Value} {vl vu vs : Value} {Q : Value → Shared → Prop} (ht : IsTup s.heap t items) (hs : s.heap.IsSliceOf sl vl vu vs) (pl : IsPart vl none) (pu : IsPart vu none) (pt : IsPart vs (some (-1)))
    (h : Q (.ref s.heap.objs.size) { s with heap := s.heap.push { cls := .type "tuple", data := .seq items.toList.reverse.toArray } })
    (hsz : items.size ≤ sizeLine) : wpAny (model prog w) A (getItem (.ref t) (.ref sl)) Q E s := by
  have htake : sizeOk (.seq items.toList.reverse.toArray) := by
    show items.toList.reverse.toArray.size ≤ sizeLine
    rw [List.size_toArray, List.length_reverse, Array.length_toList]
    exact hsz
  obtain ⟨os, hos, hcs, hds⟩ := id hs
  have hTs : s.TypeIs (.ref sl) "slice" := ⟨os, hos, hcs⟩
  unfold getItem
  try with_reducible refine wpAny_holding ?_
  first | refine wpAny_bind (wpAny_pure ?_) | skip
  refine wpAny_bind (wpAny_sequenceKey ht.typeIs (by decide) ?_)
  refine wpAny_bind (wpAny_callSpecial?_slot (name := Str.ofString "__getitem__") ht.typeIs PyProof.Rows.slot_tuple_getitem
    (wpAny_call_entry PyProof.Rows.slot_tuple_getitem ht.typeIs entry_tuple_getitem ?_ (args_tuple_getitem _ _)))
  show wpAny _ _ (Builtin.Tuple.tupleItemsOf (.ref t) >>= _) _ _ s
  refine wpAny_bind (tupleItemsOf_ ht ?_)
  refine wpAny_bind (wpAny_typeOf hTs ?_)
  rw [if_pos (by decide)]
  refine wpAny_bind (sliceApplied_rev hs pl pu pt ?_)
  have hno : ¬ (((((items.size : Nat) : Int) - 1) == 0 && (-1 : Int) == 1 && items.size == items.size) = true) := by
    intro q
    rw [Bool.and_eq_true, Bool.and_eq_true] at q
    have q1 : (-1 : Int) = 1 := eq_of_beq q.1.2
    omega
  show wpAny _ _ (if ((((items.size : Nat) : Int) - 1) == 0 && (-1 : Int) == 1 && items.size == items.size) = true then _ else _) _ _ s
  rw [if_neg hno, pick_rev]
  first
    | exact wpAny_bind (m := Builtin.Tuple.tupleExact _) (wpAny_newObj_type (wpAny_pure ⟨_, rfl, wpAny_pure h⟩) htake)
    | exact wpAny_bind (m := Builtin.Tuple.tupleExact _) (wpAny_newObj_type (wpAny_bind (wpAny_pure (wpAny_pure ⟨_, rfl, wpAny_pure h⟩))) htake)
end
section
variable {X : Cx} {r : SR} {S : List Sl}
open PySem.Spec PyProof.Rows
/-- t[::-1], t a tuple -/
def tRevT (te : TE) : TE := fun σ H Q => te σ H fun x H1 => ∃ a xs, x = .ref a ∧ H1 a = some (.tup xs) ∧ ∀ p, H1 p = none → Q (.ref p) (upd H1 p (.tup xs.reverse))
theorem pe_revT {e : Expr} {te : TE} {k : Nat} {p1 p2 p3 pos : Pos} (he : PE X e te) : PE X (.Subscript e (.Slice none none (some (.UnaryOp .USub (.Constant (.int 1) k p1) p2)) p3) pos) (tRevT te) := by
  refine ⟨fun pins s σ H Q I h => ?_⟩
  refine Subscript_ (thn (he.run pins s σ H _ I h) fun v s1 ⟨x, H1, I1, r1, q1⟩ => ?_)
  obtain ⟨a, xs, ex, hx, q⟩ := q1
  subst ex
  cases r1
  have hst : PO X (some (.UnaryOp .USub (.Constant (.int 1) k p1) p2)) (tPart (tUn (rU fun i => .int (-i)) (tC (.int 1)))) := po_some (pe_un un_neg pe_int)
  refine wpAny_Slice (thn (po_none.run pins s1 σ H1 (fun o H2 => o = none ∧ H2 = H1) I1 ⟨rfl, rfl⟩) fun vl s2 ⟨l, H2, I2, pl, el, e2⟩ => ?_)
  subst el e2
  refine thn (po_none.run pins s2 σ H2 (fun o H3 => o = none ∧ H3 = H2) I2 ⟨rfl, rfl⟩) fun vu s3 ⟨u, H3, I3, pu, eu, e3⟩ => ?_
  subst eu e3
  refine thn (hst.run pins s3 σ H3 (fun o H4 => o = some (-1) ∧ H4 = H3) I3 ⟨1, rfl, -1, rfl, rfl, rfl⟩) fun vs s4 ⟨o, H4, I4, ps, eo, e4⟩ => ?_
  subst eo e4
  have I5 : Inv X pins σ H4 { s4 with heap := s4.heap.push { cls := .type "slice", data := .fields #[vl, vu, vs] } } := I4.kept (t' := s4.toks) fun b ob q => Heap.get?_push_of_some _ q
  obtain ⟨its, r, ht, hz⟩ := I5.tuple (.inl (.inl hx))
  have hlen := r.length
  show wpAny (model X.prog X.w) X.A (subscriptTail e (.Slice none none (some (.UnaryOp .USub (.Constant (.int 1) k p1) p2)) p3) (.ref a) (.ref s4.heap.objs.size)) (EP X pins σ Q) X.xe { s4 with heap := s4.heap.push { cls := .type "slice", data := .fields #[vl, vu, vs] } }
  refine tail_any (ops := [.ref a, .ref s4.heap.objs.size]) ht.typeIs (PyProof.Rows.slot_tuple_getitem.lookup) ?_ (by with_unfolding_all rfl)
  refine getItem_tuple_rev ht (Heap.IsSliceOf.new _ vl vu vs) pl pu ps ?_ (by rw [List.size_toArray]; omega)
  refine ⟨.ref _, _, I5.laid (t' := s4.toks) (o := .tup xs.reverse) (fun b ob q => Heap.get?_push_of_some _ q) (Nat.le_refl _) ?_, rfl, q _ (I5.hok.fresh (Nat.le_refl _))⟩
  exact ⟨by rw [List.length_reverse]; exact hz, _, r.reverse, IsTup.new _ _⟩
theorem RpA.reverse {F : Hp} : ∀ {vs : List V} {ds : List D}, RpA F vs ds → RpA F vs.reverse ds.reverse
  | _, _, .nil => .nil
  | _, _, .cons r t => by rw [List.reverse_cons, List.reverse_cons]; exact (RpA.reverse t).append (.one r)
theorem je_revT {K : D → List Sl → Prop} {e : Expr} {k : Nat} {p1 p2 p3 pos : Pos} (h : JE X r e S fun d S1 => ∃ xs, d = .tuple xs ∧ K (.tuple xs.reverse) S1) : JE X r (.Subscript e (.Slice none none (some (.UnaryOp .USub (.Constant (.int 1) k p1) p2)) p3) pos) S K :=
  fun c F σ H hr E Q q => of_pe (pe_revT pe_tE) (h c F σ H hr E _ fun v d F1 H1 S1 h1 E1 k1 r1 => by
    obtain ⟨xs, rfl, kd⟩ := h1
    cases r1 with
    | @tup a ws _ ha rv =>
      refine ⟨a, ws, rfl, E1.fin.fh _ _ ha, fun p n => ?_⟩
      have g : Grow F1 H1 (upd F1 p (.tup ws.reverse)) (upd H1 p (.tup ws.reverse)) := Grow.new E1.fin.fh n
      exact q _ _ _ _ S1 kd (E1.grow g) (k1.trans g.kF) (.tup upd_same (rv.reverse.ex g.kF)))
end
section
open PySem.Spec PyProof.Rows
variable {X : Cx} {r : SR} {S : List Sl}
/-! ### t * 0, t * 1, xs * n -/
def rRep01 : R2 := fun x y H Q => ∃ l xs, x = .ref l ∧ H l = some (.tup xs) ∧ xs ≠ [] ∧ ((y = .int 1 ∧ Q (.ref l) H) ∨ (y = .int 0 ∧ ∀ p, H p = none → Q (.ref p) (upd H p (.tup []))))
theorem op_rep01 : OpR X (binaryOp .Mult) rRep01 := by
  intro pins s σ H x y v u Q I rx ry h
  obtain ⟨l, xs, rfl, hT, hne, h⟩ := h
  cases rx
  obtain ⟨its, rr, ⟨⟨cls, dd, data, sl⟩, ho, hc, n, hd⟩, hs⟩ := I.tuple (.inl (.inl hT))
  simp only at hc hd
  subst hc hd
  have hle : its.length = xs.length := rr.length.symm
  have hn : its ≠ [] := fun e => hne (by
    rw [e] at hle
    exact List.eq_nil_of_length_eq_zero hle.symm)
  have hi : its.toArray.isEmpty = false := by
    cases its with
    | nil => exact absurd rfl hn
    | cons a b => rfl
  rcases h with ⟨rfl, q⟩ | ⟨rfl, q⟩
  · obtain ⟨t, rfl⟩ := ry
    exact wpAny_binaryOp_repeat_ref (T := "tuple") (U := "int") (by decide) ⟨_, ho, rfl⟩ (fun s' => typeIs_int s' 1 t) noFill_tuple_mul PySem.F.fills_int_mul PySem.F.slot_int_rmul repeat_tuple PySem.F.slot_int_index.lookup
      (call_meets PySem.F.slot_int_rmul (typeIs_int s 1 t) PySem.F.entry_int_rmul (PySem.F.args_int_rmul_2 _ _) (int_rmul_tuple 1 t l its.toArray n dd sl)
        ⟨ho, rfl, ⟨_, ho, rfl⟩, call_meets PySem.F.slot_tuple_mul ⟨_, ho, rfl⟩ PySem.F.entry_tuple_mul (PySem.F.args_tuple_mul_2 _ _) (tuple_mul1 l its.toArray n dd sl t) ⟨ho, ⟨.ref l, H, I, rfl, q⟩⟩⟩)
  · obtain ⟨t, rfl⟩ := ry
    refine wpAny_binaryOp_repeat_ref (T := "tuple") (U := "int") (by decide) ⟨_, ho, rfl⟩ (fun s' => typeIs_int s' 0 t) noFill_tuple_mul PySem.F.fills_int_mul PySem.F.slot_int_rmul repeat_tuple PySem.F.slot_int_index.lookup
      (call_meets PySem.F.slot_int_rmul (typeIs_int s 0 t) PySem.F.entry_int_rmul (PySem.F.args_int_rmul_2 _ _) (int_rmul_tuple 0 t l its.toArray n dd sl)
        ⟨ho, rfl, ⟨_, ho, rfl⟩, call_meets PySem.F.slot_tuple_mul ⟨_, ho, rfl⟩ PySem.F.entry_tuple_mul (PySem.F.args_tuple_mul_2 _ _) (tuple_mul0 l its.toArray n dd sl t hi) ⟨ho, ?_⟩⟩)
    exact ⟨.ref s.heap.objs.size, _, I.laid (t' := s.toks) (o := .tup []) (fun b ob q => Heap.get?_push_of_some _ q) (Nat.le_refl _) ⟨Nat.zero_le _, [], .nil, IsTup.new _ _⟩, rfl, q _ (I.hok.fresh (Nat.le_refl _))⟩
theorem od_rep01 {ds : List D} {b : Bool} {K : D → Prop} (hne : ds ≠ []) (k : K (.tuple (if b = true then ds else []))) : OpD rRep01 (.tuple ds) (.int (if b = true then 1 else 0)) K := fun F H v1 v2 kF r1 r2 Q q => by
  cases r1 with
  | @tup a vs _ ha rv =>
    refine ⟨a, vs, rfl, kF _ _ ha, fun e => hne ?_, ?_⟩
    · subst e; cases rv; rfl
    · cases b with
      | true =>
        cases r2
        exact .inl ⟨rfl, q _ _ F H k (Grow.refl kF) (.tup ha rv)⟩
      | false =>
        cases r2
        exact .inr ⟨rfl, fun p n => q _ _ _ _ k (Grow.new kF n) (.tup upd_same .nil)⟩
theorem RpA.rep {F : Hp} {vs : List V} {ds : List D} (h : RpA F vs ds) : ∀ n : Nat, RpA F (List.replicate n vs).flatten (List.replicate n ds).flatten
  | 0 => .nil
  | n + 1 => by
    rw [List.replicate_succ, List.replicate_succ, List.flatten_cons, List.flatten_cons]
    exact h.append (RpA.rep h n)
/-- xs * n, a list -/
theorem jn_rep {K : List D → List Sl → Prop} {a b : Expr} {pos : Pos} (h : JE X r a S fun d1 S1 => JE X r b S1 fun d2 S2 => ∃ xs, ∃ n : Nat, d1 = .list xs ∧ d2 = .int n ∧ xs.length * n ≤ 1000000 ∧ n ≤ 1000000 ∧ K (List.replicate n xs).flatten S2) : JN X r (.BinOp a .Mult b pos) S K :=
  fun c F σ H hr E Q q => of_pe (pe_op op_rep pe_tE pe_tE) (h c F σ H hr E _ fun v1 d1 F1 H1 S1 h1 E1 k1 r1 => h1 c F1 σ H1 hr E1 _ fun v2 d2 F2 H2 S2 h2 E2 k2 r2 => by
    obtain ⟨xs, n, rfl, rfl, hl, hn, kd⟩ := h2
    cases r1.ex k2 with
    | @lst a vs _ ha rv =>
      cases r2
      refine ⟨a, n, vs, rfl, rfl, E2.fin.fh _ _ ha, by omega, by omega, ?_, fun p np => ?_⟩
      · rw [rv.length, Int.toNat_natCast, sizeLine_eq]; omega
      · rw [Int.toNat_natCast]
        exact q p _ F2 _ S2 kd (newL_of E2 np (rv.rep n)) (k1.trans k2))
/-! ### xs[i] = v, xs a list of one's own -/
theorem jlput {x : Str} {px pos pos' : Pos} {a b : Expr} {E : DE} {rest : List Stmt} (i : Nat) (o0 : List D) (h : JE X r b S fun d2 S1 => JE X r a S1 fun d1 S2 => ∃ (k : Nat) (xs : List D), d1 = .int k ∧ S2[i]? = some (.own xs) ∧ k < xs.length ∧ JSs X r rest (S2.set i (.own (xs.set k d2))) E)
    (h0 : S[i]? = some (.own o0) := by rfl) (hN : X.N[i]? = some x := by rfl) (hv : Vis X.env.scope x := by first | exact Or.inl rfl | exact Or.inr (Or.inl rfl) | exact Or.inr (Or.inr rfl)) (hd : (x == ("__debug__" : Str)) = false := by decide) (hcd : (x == ("__classdict__" : Str)) = false := by decide)
    (hs : swapsWithSole [.Subscript (.Name x px) a pos'] b pos.line X.env = pure false := by rfl) (hw : swappedStores [.Subscript (.Name x px) a pos'] b X.env = pure none := by rfl) (h1 : (assignEach [.Subscript (.Name x px) a pos'] X.env).map (·.2) = [assign (.Subscript (.Name x px) a pos') X.env] := by rfl)
    (hsb : ∀ v, assign (.Subscript (.Name x px) a pos') X.env v = (do
      let ov ← holding [v] (eval (.Name x px) X.env)
      let iv ← holding [v, ov] (eval a X.env)
      standAt pos'
      holding [v, ov, iv] (setItem ov iv v)
      release [v, ov, iv] []) := by intro _; rfl) : JSs X r (.Assign [.Subscript (.Name x px) a pos'] b pos :: rest) S E := jss_cons fun c F σ H hr' Ev G g =>
  of_ps (ps_asg pe_tE (pg_sub (pe_var hN hv hd hcd) pe_tE set_list hsb) hs hw h1) (by
    obtain ⟨y, e1, l, hh, e2, ha, rv, nF, nb, q0⟩ := Ev.sl i _ h0
    subst e2
    refine h c F σ H hr' Ev _ fun v2 d2 F1 H1 S1 h1 E1 k1 r1 => ⟨.ref l, e1, h1 c F1 σ H1 hr' E1 _ fun v1 d1 F2 H2 S2 h2 E2 k2 r2 => ?_⟩
    obtain ⟨k, xs, rfl, es, hl, kk⟩ := h2
    obtain ⟨y, e1', l', hh', e2', ha', rv', _⟩ := E2.sl i _ es
    rw [e1] at e1'; cases e1'; cases e2'
    obtain ⟨ws, rfl, rk⟩ := obr_l rv'
    cases r2
    refine ⟨l, ws, k, k, rfl, rfl, ha', ?_, g.nx F2 σ _ _ kk (E2.write (vs := .lst (ws.set k v2)) (ds := .l (xs.set k d2)) es e1 (rk.set (r1.ex k2) k)) (k1.trans k2)⟩
    have hk : k < ws.length := by rw [rk.length]; exact hl
    unfold ixN
    first
      | rw [if_pos (by omega), if_pos (by omega), Int.toNat_natCast]
      | (simp only [Int.toNat_natCast]; split <;> first | rfl | omega))
/-! ### sorted(t), t a tuple -/
def rSortU (X : Cx) : List V → Hp → VK → Prop := fun vs H Q => ∃ F x ds, vs = [x] ∧ Ex F H ∧ Rp F x (.tuple ds) ∧ PyData.plainAll ds = true ∧ PySem.W.AllAlike ds ∧ PySem.W.Sortable ds ∧ (∀ d ∈ ds, X.A.units + 2 + d.depth < cLine) ∧
  ∀ p ws, RpA F ws (ds.mergeSort (PySem.W.dataLe false id)) → H p = none → Q (.ref p) (upd H p (.lst ws))
theorem call_sortU : CallR X (.builtin "sorted") (rSortU X) := by
  intro pins s σ H xs us Q I rr h
  obtain ⟨F, x, ds, rfl, k, rp, hpl, hal, hso, hu, q⟩ := h
  obtain ⟨u, rfl, rx⟩ := vals1 rr
  cases rp with
  | @tup a ws _ ha rv =>
    cases rx
    obtain ⟨its, rw', ht, hz⟩ := I.tuple (.inl (.inl (k _ _ ha)))
    obtain ⟨o, ho, hc, n, hd⟩ := id ht
    have hl2 : its.length = ds.length := by rw [← rw'.length]; exact rv.length
    have hz2 : its.length ≤ sizeLine := by rw [← rw'.length]; exact hz
    refine Calls.call_function_entry PyProof.Rows.kind_sorted PyProof.Rows.plain_sorted PyProof.Rows.entry_sorted (PyProof.Rows.args_sorted1 _) ?_
    unfold Builtin.«sorted»
    refine wpAny_bind (m := checkCount "sorted" 1 1 _) (wpAny_pure ?_)
    refine wpAny_bind (wpAny_collect_seq a (T := "tuple") (.inr rfl) ho hc hd (fun h' hk => ?_) (by rw [List.size_toArray]; exact hz2))
    show wpAny _ _ _ _ _ { s with heap := h' }
    have I1 : Inv X pins σ H { s with heap := h' } := I.kept (t' := s.toks) hk
    obtain ⟨e1, er1⟩ := each_of k I1.hok rv rw' hpl
    refine wpAny_bind (wpAny_newList ?_ hz2)
    have hoL : (h'.push (seqObj "list" its.toArray 0)).get? h'.objs.size = some (seqObj "list" its.toArray 0) := Heap.get?_push_size _ rfl
    show wpAny _ _ _ _ _ { s with heap := h'.push (seqObj "list" its.toArray 0) }
    have keepS : ∀ b u, h'.get? b = some u → (PySem.W.sortingHeap (h'.push (seqObj "list" its.toArray 0)) h'.objs.size its).get? b = some u := fun b u e =>
      PySem.W.sortingHeap_old (Nat.ne_of_lt (Heap.lt_size e)) (Heap.get?_push_of_some _ e)
    have er2 : PySem.W.EachIs (fun v d => ∃ as, Reads (PySem.W.sortingHeap (h'.push (seqObj "list" its.toArray 0)) h'.objs.size its) v d as) its ds := er1.mono fun _ _ ⟨as, r⟩ => ⟨as, PyProof.Rows.Reads.keeps keepS r⟩
    refine wpAny_bind (wpAny_holding (wpAny_call_entry PyProof.Rows.slot_list_sort ⟨_, hoL, rfl⟩ PyProof.Rows.entry_list_sort
      (PySem.W.list_sort_vals (s := { s with heap := h'.push (seqObj "list" its.toArray 0) }) hoL (PySem.W.SortsAt.data (s := { s with heap := PySem.W.sortingHeap (h'.push (seqObj "list" its.toArray 0)) h'.objs.size its }) er2 hal hso fun d hd => by have := hu d hd; show X.A.units + 1 + 1 + d.depth < cLine; omega) hz2 ⟨_, rfl, ?_⟩) (PyProof.Rows.args_list_sort _)))
    have out := PySem.W.sortVals_data (enc := id) (R := fun u (d : D) => ∃ v, RelV v u ∧ Rp F v d) false e1 er2 (by rw [List.map_id]; exact hal)
    rw [List.map_id] at out
    obtain ⟨vs, v1, v2⟩ := of_each out
    obtain ⟨e', he'⟩ := PyProof.Rows.sortedHeap_at (vs := its) (out := (PySem.W.sortVals (PySem.W.dataKind (PySem.W.sortingHeap (h'.push (seqObj "list" its.toArray 0)) h'.objs.size its) ds) false its its).toArray) hoL
    have hlen2 : vs.length ≤ sizeLine := by rw [v2.length, List.length_mergeSort, ← hl2]; exact hz2
    refine wpAny_pure ⟨_, rfl, .ref h'.objs.size, upd H h'.objs.size (.lst vs), I1.laid (t' := s.toks) (fun b u e => ?_) (Nat.le_refl _) (show ObjOk X.prog X.w _ _ _ (.lst vs) from ⟨hlen2, _, e', v1, he'⟩), rfl, q _ vs v2 (I1.hok.fresh (Nat.le_refl _))⟩
    have hb : b < h'.objs.size := Heap.lt_size e
    rw [PyProof.Rows.sortedHeap_old (Nat.ne_of_lt hb) (by rw [size_push']; exact Nat.lt_succ_of_lt hb)]
    exact Heap.get?_push_of_some _ e
theorem cn_sortU {ds : List D} {K : List D → Prop} {k : Nat} (hr : Room k X.A) (h1 : ∀ d ∈ ds, Nice 50 d) (h2 : PySem.W.AllAlike ds) (h3 : PySem.W.Sortable ds) (kd : K (ds.mergeSort (PySem.W.dataLe false id))) : CallN (rSortU X) [.tuple ds] K := fun F H vs kF rv Q q => by
  cases rv with
  | cons r1 t =>
    cases t
    refine ⟨F, _, ds, rfl, kF, r1, plainAll_of fun d hd => (h1 d hd).pl, h2, h3, fun d hd => ?_, fun p ws rw n => q p ws _ kd n rw⟩
    have := (h1 d hd).dp
    have := hr.un
    omega
/-- of ints -/
theorem jsortTI {K : List D → List Sl → Prop} {a : Expr} {p pos : Pos} {k : Nat} (hr : Room k X.A) (hm : X.mg "sorted" = none) (h : JE X r a S fun d S1 => ∃ ns : List Int, d = .tuple (ns.map .int) ∧ ∀ ns' : List Int, ns'.Perm ns → ns'.Pairwise (· ≤ ·) → K (ns'.map .int) S1) (hg : Gl X "sorted" := by rfl) (hs : starEach [a] X.env = (false, eval a X.env) :: starEach [] X.env := by rfl) : JN X r (.Call (.Name "sorted" p) [a] [] pos) S K :=
  jnB call_sortU hm (ja1 (h.mono fun d S1 ⟨ns, e, k⟩ => ⟨[d], rfl, by
    rw [e]
    refine cn_sortU hr (nice_map fun a => nice_int a) (alike_map fun a b => by simp [PySem.W.alike]) (PySem.W.Sortable.others fun b => ⟨(by intro z; cases z), (by intro _ z; cases z)⟩) ?_
    rw [sort_map (PySem.W.dataLe_int fun b => b)]
    refine k _ (List.mergeSort_perm _ _) ?_
    have := List.pairwise_mergeSort (le := fun a b : Int => decide (a ≤ b)) (by intro a b c; simp; omega) (by intro a b; simp; omega) ns
    simpa using this⟩) hs) hg (by decide +kernel) (by decide) (by decide) hs rfl
/-! ### int(b), is not True -/
theorem jintB {K : D → List Sl → Prop} {a : Expr} {p pos : Pos} (hm : X.mg "int" = none) (h : JE X r a S fun d S1 => ∃ b : Bool, d = .bool b ∧ K (.int (if b = true then 1 else 0)) S1) (hg : Gl X "int" := by rfl) (hs : starEach [a] X.env = (false, eval a X.env) :: starEach [] X.env := by rfl) : JE X r (.Call (.Name "int" p) [a] [] pos) S K :=
  jTy call_int1 hm (ja1 (h.mono fun d S1 ⟨b, e, k⟩ => ⟨[d], rfl, by
    rw [e]
    intro F H vs kF rv Q q
    cases rv with
    | cons r1 t =>
      cases t
      cases r1
      exact .inr ⟨b, rfl, q _ _ F H k (Grow.refl kF) (.int _)⟩⟩) hs) hg (by decide +kernel) (by decide) (by decide) hs rfl
theorem od_notB {a b : Bool} {K : D → Prop} (h : K (.bool (!decide (a = b)))) : OpD (fun x y H Q => ∃ a b, x = .bl a ∧ y = .bl b ∧ Q (.bl (!decide (a = b))) H) (.bool a) (.bool b) K := fun F H v1 v2 kF r1 r2 Q q => by
  cases r1
  cases r2
  exact ⟨a, b, rfl, rfl, q _ _ F H h (Grow.refl kF) (.bl _)⟩
end
end DL

/-! DL: odd values: data within which {} may stand; told by repr; compared with (), []; {"a": 1, ..}.get(x, 0); t * n. -/
namespace DL
open PySem L2
mutual
/-- data with numbers up to B, short texts, tuples and lists of up to L items, {} -/
def okD (B L : Nat) : D → Bool
  | .none => true
  | .bool _ => true
  | .int i => decide (i.natAbs ≤ B)
  | .str x => decide (x.cps.size ≤ 20) && x.cps.toList.all fun c => decide (c < 16 ^ 8)
  | .list xs => decide (xs.length ≤ L) && okDAll B L xs
  | .tuple xs => decide (xs.length ≤ L) && okDAll B L xs
  | .dict kvs => kvs.isEmpty
def okDAll (B L : Nat) : List D → Bool
  | [] => true
  | x :: xs => okD B L x && okDAll B L xs
end
theorem okDAll_iff {B L : Nat} : ∀ {xs : List D}, okDAll B L xs = true ↔ ∀ x ∈ xs, okD B L x = true
  | [] => by simp [okDAll]
  | x :: xs => by simp [okDAll, okDAll_iff (xs := xs)]
theorem rp_dctE {F : Hp} {v : V} {kvs : List (D × D)} (h : kvs.isEmpty = true) (r : Rp F v (.dict kvs)) : ∃ a, v = .ref a ∧ F a = some (.dT []) ∧ kvs = [] := by
  cases kvs with
  | cons _ _ => cases h
  | nil =>
    obtain ⟨a, ws, rfl, hw, rk⟩ := rp_dct (kvs := []) (show Rp F v (dctD []) from r)
    cases rk
    exact ⟨a, rfl, hw, rfl⟩
theorem dE_obj {P : Program} {w : World} {H : Hp} {h : Heap} {a : Addr} (ok : HOk P w H h) (e : H a = some (.dT [])) : (a == sysModules) = false ∧ ∃ o es ep, h.get? a = some o ∧ o.cls = .type "dict" ∧ o.data = .dict es ep ∧ es.toList = [] := by
  obtain ⟨_, y, xs, r, o, es, ep, h1, h2, h3, h4, _⟩ := (show ObjOk P w H h a (.dT []) from ok _ _ e)
  cases r
  exact ⟨y, o, es, ep, h1, h2.1, h3, by simpa using h4⟩
mutual
theorem Rp.readsE {P : Program} {w : World} {F H : Hp} {h : Heap} {B L : Nat} (k : Ex F H) (ok : HOk P w H h) : ∀ {v : V} {d : D} {u : Value}, Rp F v d → RelV v u → okD B L d = true → ∃ as, Reads h u d as
  | _, _, _, .non, e, _ => by cases e; exact ⟨_, .none⟩
  | _, _, _, .bl b, e, _ => by cases e; exact ⟨_, .bool b⟩
  | _, _, _, .int i, e, _ => by obtain ⟨t, rfl⟩ := e; exact ⟨_, .int i t⟩
  | _, _, _, .str x, e, _ => by obtain ⟨t, rfl⟩ := e; exact ⟨_, .str x t⟩
  | _, _, _, .tup q r, e, hp => by
    cases e
    obtain ⟨_, its, rv, o, ho, hc, n, hd⟩ := ok _ _ (k _ _ q)
    rw [okD, Bool.and_eq_true] at hp
    obtain ⟨as, hr⟩ := RpA.readsE k ok r rv hp.2
    exact ⟨_, .tuple ho hc hd (by simpa using hr)⟩
  | _, _, _, .lst q r, e, hp => by
    cases e
    obtain ⟨_, its, n, rv, ho⟩ := ok _ _ (k _ _ q)
    rw [okD, Bool.and_eq_true] at hp
    obtain ⟨as, hr⟩ := RpA.readsE k ok r rv hp.2
    exact ⟨_, .list ho rfl rfl (by simpa using hr)⟩
  | _, _, _, .dct (a := a) (kvs := kvs) q r, e, hp => by
    cases e
    unfold dctD at hp ⊢
    rw [okD] at hp
    cases kvs with
    | cons _ _ => simp at hp
    | nil =>
      cases r
      obtain ⟨_, o, es, ep, h1, h2, h3, h4⟩ := dE_obj ok (k _ _ q)
      exact ⟨_, .dict (kvs := []) h1 h2 h3 (by rw [h4]; exact .nil) (by rw [h4]; exact .nil)⟩
  | _, _, _, .ftup q n r, e, hp => by
    unfold ft at hp
    rw [okD] at hp
    simp at hp
theorem RpA.readsE {P : Program} {w : World} {F H : Hp} {h : Heap} {B L : Nat} (k : Ex F H) (ok : HOk P w H h) : ∀ {vs : List V} {ds : List D} {us : List Value}, RpA F vs ds → Vals vs us → okDAll B L ds = true → ∃ as, ReadsAll h us ds as
  | _, _, _, .nil, e, _ => by cases e; exact ⟨_, .nil⟩
  | _, _, _, .cons r t, e, hp => by
    cases e with
    | cons e1 e2 =>
      rw [okDAll, Bool.and_eq_true] at hp
      obtain ⟨as, h1⟩ := Rp.readsE k ok r e1 hp.1
      obtain ⟨bs, h2⟩ := RpA.readsE k ok t e2 hp.2
      exact ⟨_, .cons h1 h2⟩
end
theorem shownKv_nil : PyData.shownKv [] = [] := by simp only [PyData.shownKv]
mutual
theorem Rp.reprK {P : Program} {w : World} {F H : Hp} {h : Heap} {B L : Nat} (k : Ex F H) (ok : HOk P w H h) : ∀ {v : V} {d : D} {u : Value}, Rp F v d → RelV v u → okD B L d = true → d.showable = true → d.shown.length ≤ sizeLine → ∃ bs, ReadAtMost h d.depth bs ∧ ReprK P w bs h d.depth u d.shown
  | _, _, _, .non, e, _, _, _ => by cases e; exact ⟨[], (fun _ h => nomatch h), by simp only [PyData.shown]; exact .of_is ReprIs.none _ _ _⟩
  | _, _, _, .bl b, e, _, _, _ => by cases e; exact ⟨[], (fun _ h => nomatch h), by simp only [PyData.shown]; exact .of_is (ReprIs.bool b) _ _ _⟩
  | _, _, _, .int i, e, _, hs, _ => by obtain ⟨t, rfl⟩ := e; exact ⟨[], (fun _ h => nomatch h), by simp only [PyData.shown]; exact .of_is (ReprIs.int t (by simpa [PyData.showable] using hs)) _ _ _⟩
  | _, _, _, .str x, e, _, _, hz => by obtain ⟨t, rfl⟩ := e; exact ⟨[], (fun _ h => nomatch h), by simp only [PyData.shown]; exact .of_is (ReprIs.str x t (by simpa only [PyData.shown] using hz)) _ _ _⟩
  | _, _, _, .tup (a := a) (ds := ds) q r, e, hp, hs, hz => by
    cases e
    obtain ⟨_, its, rv, o, ho, hc, n, hd⟩ := ok _ _ (k _ _ q)
    rw [okD, Bool.and_eq_true] at hp
    have hz' : (tupleText (PyData.shownAll ds)).length ≤ sizeLine := by simpa only [PyData.shown] using hz
    obtain ⟨bs, hb, hk⟩ := RpA.reprK k ok r rv hp.2 (by simpa [PyData.showable] using hs) (fun t ht => Nat.le_trans (tupleText_mem_le ht) hz')
    obtain ⟨as, hr⟩ := RpA.readsE k ok r rv hp.2
    have rr : Reads h (.ref a) (.tuple ds) as := .tuple ho hc hd (by simpa using hr)
    have hna : a ∉ bs := not_mem_of_deeper rr (by simp only [PyData.depth]; omega) hb
    refine ⟨a :: bs, ReadAtMost.cons rr (by simp only [PyData.depth]; omega) hb, ?_⟩
    simp only [PyData.depth, PyData.shown]
    exact ReprK.tuple ho hc hd hna (by simpa using hk)
  | _, _, _, .lst (a := a) (ds := ds) q r, e, hp, hs, hz => by
    cases e
    obtain ⟨_, its, n, rv, ho⟩ := ok _ _ (k _ _ q)
    rw [okD, Bool.and_eq_true] at hp
    have hz' : (listText (PyData.shownAll ds)).length ≤ sizeLine := by simpa only [PyData.shown] using hz
    obtain ⟨bs, hb, hk⟩ := RpA.reprK k ok r rv hp.2 (by simpa [PyData.showable] using hs) (fun t ht => Nat.le_trans (listText_mem_le ht) hz')
    obtain ⟨as, hr⟩ := RpA.readsE k ok r rv hp.2
    have rr : Reads h (.ref a) (.list ds) (a :: as) := .list ho rfl rfl (by simpa using hr)
    have hna : a ∉ bs := not_mem_of_deeper rr (by simp only [PyData.depth]; omega) hb
    refine ⟨a :: bs, ReadAtMost.cons rr (by simp only [PyData.depth]; omega) hb, ?_⟩
    simp only [PyData.depth, PyData.shown]
    cases its with
    | nil =>
      cases hr
      simp only [PyData.shownAll, listText_nil]
      exact ReprK.listEmpty ho rfl rfl
    | cons x l => exact ReprK.list ho rfl rfl hna (by simpa using hk.length_eq) (fun i y e => hk.item i y (by simpa using e))
  | _, _, _, .dct (a := a) (kvs := kvs) q r, e, hp, hs, hz => by
    cases e
    unfold dctD at hp hz ⊢
    rw [okD] at hp
    cases kvs with
    | cons _ _ => simp at hp
    | nil =>
      cases r
      obtain ⟨hsys, o, es, ep, h1, h2, h3, h4⟩ := dE_obj ok (k _ _ q)
      have rr : Reads h (.ref a) (.dict []) (a :: [] ++ []) := .dict (kvs := []) h1 h2 h3 (by rw [h4]; exact .nil) (by rw [h4]; exact .nil)
      refine ⟨[a], ?_, ?_⟩
      · intro b hb
        rw [List.mem_singleton.mp hb]
        exact ⟨_, _, rr, Nat.le_refl _⟩
      · simp only [List.map_nil, PyData.depth, PyData.shown, shownKv_nil]
        exact ReprK.dict (as := []) h1 h2 h3 hsys (by simp) (by rw [h4]; exact .nil)
  | _, _, _, .ftup q n r, e, hp, _, _ => by
    unfold ft at hp
    rw [okD] at hp
    simp at hp
theorem RpA.reprK {P : Program} {w : World} {F H : Hp} {h : Heap} {B L : Nat} (k : Ex F H) (ok : HOk P w H h) : ∀ {vs : List V} {ds : List D} {us : List Value}, RpA F vs ds → Vals vs us → okDAll B L ds = true → PyData.showableAll ds = true → (∀ t ∈ PyData.shownAll ds, t.length ≤ sizeLine) → ∃ bs, ReadAtMost h (PyData.depthAll ds) bs ∧ ReprAllK P w bs h (PyData.depthAll ds) us (PyData.shownAll ds)
  | _, _, _, .nil, e, _, _, _ => by cases e; exact ⟨[], (fun _ h => nomatch h), by simp only [PyData.shownAll]; exact .nil⟩
  | _, _, _, .cons (d := d) (ds := ds) r t, e, hp, hs, hz => by
    cases e with
    | cons e1 e2 =>
      rw [okDAll, Bool.and_eq_true] at hp
      have hs' : d.showable = true ∧ PyData.showableAll ds = true := by simpa [PyData.showableAll] using hs
      obtain ⟨b1, hb1, k1⟩ := Rp.reprK k ok r e1 hp.1 hs'.1 (hz _ (by simp only [PyData.shownAll]; exact List.mem_cons_self ..))
      obtain ⟨b2, hb2, k2⟩ := RpA.reprK k ok t e2 hp.2 hs'.2 (fun t ht => hz t (by simp only [PyData.shownAll]; exact List.mem_cons_of_mem _ ht))
      refine ⟨b1 ++ b2, ?_, ?_⟩
      · intro b hm
        simp only [PyData.depthAll]
        rcases List.mem_append.mp hm with hm | hm
        · obtain ⟨d', as', r', hd'⟩ := hb1 b hm
          exact ⟨d', as', r', Nat.le_trans hd' (Nat.le_max_left _ _)⟩
        · obtain ⟨d', as', r', hd'⟩ := hb2 b hm
          exact ⟨d', as', r', Nat.le_trans hd' (Nat.le_max_right _ _)⟩
      · simp only [PyData.depthAll, PyData.shownAll]
        exact .cons ((k1.more fun b hb => List.mem_append_left _ hb).level_le (Nat.le_max_left _ _)) (k2.more_le (fun b hb => List.mem_append_right _ hb) (Nat.le_max_right _ _))
end
theorem Rp.shows {P : Program} {w : World} {F H : Hp} {h : Heap} {B L : Nat} (k : Ex F H) (ok : HOk P w H h) {a : Addr} {d : D} (r : Rp F (.ref a) d) (hp : okD B L d = true) (hs : d.showable = true) (hsz : d.shown.length ≤ sizeLine) : ∃ T idr, ShowsBy P w h a d T idr := by
  generalize ev : V.ref a = v at r
  cases r with
  | non => cases ev
  | bl => cases ev
  | int => cases ev
  | str => cases ev
  | ftup q n r =>
    unfold ft at hp
    rw [okD] at hp
    simp at hp
  | @tup a' xs ds q r =>
    cases ev
    obtain ⟨_, its, rv, o, ho, hc, n, hd⟩ := ok _ _ (k _ _ q)
    rw [okD, Bool.and_eq_true] at hp
    have hz' : (tupleText (PyData.shownAll ds)).length ≤ sizeLine := by simpa only [PyData.shown] using hsz
    obtain ⟨bs, hb, hk⟩ := RpA.reprK k ok r rv hp.2 (by simpa [PyData.showable] using hs) (fun t ht => Nat.le_trans (tupleText_mem_le ht) hz')
    obtain ⟨as, hr⟩ := RpA.readsE k ok r rv hp.2
    have rr : Reads h (.ref a) (.tuple ds) as := .tuple ho hc hd (by simpa using hr)
    have hna : a ∉ bs := not_mem_of_deeper rr (by simp only [PyData.depth]; omega) hb
    refine ⟨"tuple", "tuple.__repr__", PySem.F.slot_tuple_repr, PySem.F.slot_tuple_str, PySem.F.slot_tuple_format, fun s hk0 => ⟨o, hk0 _ _ ho, hc⟩, fun A E s Q hg hu hk0 hQ => ?_⟩
    simp only [PyData.depth] at hu
    simp only [PyData.shown] at hQ
    exact call_tuple_reprK ho hc hd hna (by simpa using hk) hg (fun b _ => Clear.nil b) hu hk0 hQ hz'
  | @lst a' xs ds q r =>
    cases ev
    obtain ⟨_, its, n, rv, ho⟩ := ok _ _ (k _ _ q)
    rw [okD, Bool.and_eq_true] at hp
    have hz' : (listText (PyData.shownAll ds)).length ≤ sizeLine := by simpa only [PyData.shown] using hsz
    obtain ⟨bs, hb, hk⟩ := RpA.reprK k ok r rv hp.2 (by simpa [PyData.showable] using hs) (fun t ht => Nat.le_trans (listText_mem_le ht) hz')
    obtain ⟨as, hr⟩ := RpA.readsE k ok r rv hp.2
    have rr : Reads h (.ref a) (.list ds) (a :: as) := .list ho rfl rfl (by simpa using hr)
    have hna : a ∉ bs := not_mem_of_deeper rr (by simp only [PyData.depth]; omega) hb
    refine ⟨"list", "list.__repr__", PySem.F.slot_list_repr.toG, PySem.F.slot_list_str, PySem.F.slot_list_format, fun s hk0 => ⟨_, hk0 _ _ ho, rfl⟩, fun A E s Q hg hu hk0 hQ => ?_⟩
    simp only [PyData.depth] at hu
    simp only [PyData.shown] at hQ
    cases its with
    | nil =>
      cases hr
      simp only [PyData.shownAll, listText_nil] at hQ
      exact call_list_repr_empty ⟨_, hk0 _ _ ho, rfl⟩ (hk0 _ _ ho) rfl (hQ s.heap _ _ fun _ _ e => e)
    | cons x l =>
      exact call_list_reprK ho rfl rfl hna (by simpa using hk.length_eq) (fun i y e => hk.item i y (by simpa using e)) hg (fun b _ => Clear.nil b) hu hk0 hQ hz'
  | @dct a' ws kvs q r =>
    cases ev
    unfold dctD at hp hsz ⊢
    rw [okD] at hp
    cases kvs with
    | cons _ _ => simp at hp
    | nil =>
      cases r
      obtain ⟨hsys, o, es, ep, h1, h2, h3, h4⟩ := dE_obj ok (k _ _ q)
      refine ⟨"dict", "dict.__repr__", PySem.F.slot_dict_repr, PySem.F.slot_dict_str, PySem.F.slot_dict_format, fun s hk0 => ⟨o, hk0 _ _ h1, h2⟩, fun A E s Q hg hu hk0 hQ => ?_⟩
      simp only [List.map_nil, PyData.depth] at hu
      simp only [List.map_nil, PyData.shown, shownKv_nil] at hQ
      exact call_dict_reprK (as := []) h1 h2 h3 hsys (by simp) (by rw [h4]; exact .nil) hg (fun b _ => Clear.nil b) hu hk0 hQ (by simpa only [List.map_nil, PyData.shown, shownKv_nil] using hsz)
/-! ### bounds -/
structure Odd (B L k : Nat) (d : D) : Prop where
  ok : okD B L d = true
  dp : d.depth ≤ k
def wtO (L : Nat) : Nat → Nat
  | 0 => 40
  | k + 1 => L * (wtO L k + 1) + 40
theorem wtO_ge (L : Nat) : ∀ k, 40 ≤ wtO L k
  | 0 => Nat.le_refl _
  | k + 1 => by rw [wtO]; omega
theorem wtO_step (L : Nat) : ∀ k, wtO L k ≤ wtO L (k + 1)
  | 0 => wtO_ge L 1
  | k + 1 => by
    have h := Nat.mul_le_mul_left L (Nat.succ_le_succ (wtO_step L k))
    rw [Nat.succ_eq_add_one, Nat.succ_eq_add_one] at h
    show L * (wtO L k + 1) + 40 ≤ L * (wtO L (k + 1) + 1) + 40
    omega
theorem wtO_mono {L k m : Nat} (h : k ≤ m) : wtO L k ≤ wtO L m := by
  induction h with
  | refl => exact Nat.le_refl _
  | step _ ih => exact Nat.le_trans ih (wtO_step L _)
theorem log2_lt40 {a : Nat} (h : a ≤ 2 ^ 38) : a.log2 < 39 := by
  by_cases e : a = 0
  · subst e; decide
  · exact (Nat.log2_lt e).mpr (by omega)
mutual
theorem okD_weight {B L : Nat} (hB : B ≤ 2 ^ 38) : ∀ {d : D} (k : Nat), okD B L d = true → d.depth ≤ k → d.weight ≤ wtO L k
  | .none, k, _, _ => by rw [PyData.weight]; omega
  | .bool _, k, _, _ => by rw [PyData.weight]; omega
  | .int i, k, h, _ => by
    rw [okD, decide_eq_true_eq] at h
    have h1 := log2_lt40 (Nat.le_trans h hB)
    have := wtO_ge L k
    rw [PyData.weight]
    split <;> omega
  | .str x, k, h, _ => by
    rw [okD, Bool.and_eq_true, decide_eq_true_eq] at h
    have := wtO_ge L k
    rw [PyData.weight]
    omega
  | .list xs, 0, h, hd => by rw [PyData.depth] at hd; omega
  | .tuple xs, 0, h, hd => by rw [PyData.depth] at hd; omega
  | .list xs, k + 1, h, hd => by
    rw [okD, Bool.and_eq_true, decide_eq_true_eq] at h
    rw [PyData.depth] at hd
    have h1 := okDAll_weight hB k h.2 (by omega)
    have h2 := Nat.mul_le_mul_right (wtO L k + 1) h.1
    rw [PyData.weight, wtO]
    omega
  | .tuple xs, k + 1, h, hd => by
    rw [okD, Bool.and_eq_true, decide_eq_true_eq] at h
    rw [PyData.depth] at hd
    have h1 := okDAll_weight hB k h.2 (by omega)
    have h2 := Nat.mul_le_mul_right (wtO L k + 1) h.1
    rw [PyData.weight, wtO]
    omega
  | .dict kvs, k, h, _ => by
    rw [okD] at h
    cases kvs with
    | cons _ _ => cases h
    | nil => rw [PyData.weight, PyData.weightKv]; omega
theorem okDAll_weight {B L : Nat} (hB : B ≤ 2 ^ 38) : ∀ {xs : List D} (k : Nat), okDAll B L xs = true → PyData.depthAll xs ≤ k → PyData.weightAll xs ≤ xs.length * (wtO L k + 1)
  | [], k, _, _ => Nat.zero_le _
  | x :: xs, k, h, hd => by
    rw [okDAll, Bool.and_eq_true] at h
    rw [PyData.depthAll] at hd
    have h1 := okD_weight hB k h.1 (by omega)
    have h2 := okDAll_weight hB k h.2 (by omega)
    rw [PyData.weightAll, List.length_cons, Nat.succ_mul]
    omega
end
mutual
theorem okD_show {B L : Nat} (hB : B < 2 ^ 38) : ∀ {d : D}, okD B L d = true → d.showable = true
  | .none, _ => rfl
  | .bool _, _ => rfl
  | .str _, _ => rfl
  | .int i, h => by
    rw [okD, decide_eq_true_eq] at h
    have h1 := log2_lt40 (a := i.natAbs) (by omega)
    rw [PyData.showable, decide_eq_true_eq]
    omega
  | .list xs, h => by
    rw [okD, Bool.and_eq_true] at h
    rw [PyData.showable]
    exact okDAll_show hB h.2
  | .tuple xs, h => by
    rw [okD, Bool.and_eq_true] at h
    rw [PyData.showable]
    exact okDAll_show hB h.2
  | .dict kvs, h => by
    rw [okD] at h
    cases kvs with
    | cons _ _ => cases h
    | nil => rw [PyData.showable, PyData.showableKv]
theorem okDAll_show {B L : Nat} (hB : B < 2 ^ 38) : ∀ {xs : List D}, okDAll B L xs = true → PyData.showableAll xs = true
  | [], _ => rfl
  | x :: xs, h => by
    rw [okDAll, Bool.and_eq_true] at h
    rw [PyData.showableAll, okD_show hB h.1, okDAll_show hB h.2]; rfl
end
theorem pow12 : (10 : Nat) ^ 12 = 1000000000000 := by decide
theorem pow38 : (2 : Nat) ^ 38 = 274877906944 := by decide
mutual
theorem okD_short {B L : Nat} (hB : B < 2 ^ 38) : ∀ {d : D}, okD B L d = true → d.leavesShort 13 = true
  | .none, _ => rfl
  | .bool _, _ => rfl
  | .str x, h => by
    rw [okD, Bool.and_eq_true] at h
    rw [PyData.leavesShort]
    exact h.2
  | .int i, h => by
    rw [okD, decide_eq_true_eq] at h
    rw [PyData.leavesShort, decide_eq_true_eq]
    refine PyData.shown_int_le ?_
    rw [pow12]
    rw [pow38] at hB
    omega
  | .list xs, h => by
    rw [okD, Bool.and_eq_true] at h
    rw [PyData.leavesShort]
    exact okDAll_short hB h.2
  | .tuple xs, h => by
    rw [okD, Bool.and_eq_true] at h
    rw [PyData.leavesShort]
    exact okDAll_short hB h.2
  | .dict kvs, h => by
    rw [okD] at h
    cases kvs with
    | cons _ _ => cases h
    | nil => rw [PyData.leavesShort, PyData.leavesShortKv]
theorem okDAll_short {B L : Nat} (hB : B < 2 ^ 38) : ∀ {xs : List D}, okDAll B L xs = true → PyData.leavesShortAll 13 xs = true
  | [], _ => rfl
  | x :: xs, h => by
    rw [okDAll, Bool.and_eq_true] at h
    rw [PyData.leavesShortAll, okD_short hB h.1, okDAll_short hB h.2]; rfl
end
mutual
theorem okD_mono {B B' L L' : Nat} (hB : B ≤ B') (hL : L ≤ L') : ∀ {d : D}, okD B L d = true → okD B' L' d = true
  | .none, _ => rfl
  | .bool _, _ => rfl
  | .str x, h => by rw [okD] at h ⊢; exact h
  | .int i, h => by rw [okD, decide_eq_true_eq] at h ⊢; omega
  | .list xs, h => by
    rw [okD, Bool.and_eq_true, decide_eq_true_eq] at h ⊢
    exact ⟨by omega, okDAll_mono hB hL h.2⟩
  | .tuple xs, h => by
    rw [okD, Bool.and_eq_true, decide_eq_true_eq] at h ⊢
    exact ⟨by omega, okDAll_mono hB hL h.2⟩
  | .dict kvs, h => by rw [okD] at h ⊢; exact h
theorem okDAll_mono {B B' L L' : Nat} (hB : B ≤ B') (hL : L ≤ L') : ∀ {xs : List D}, okDAll B L xs = true → okDAll B' L' xs = true
  | [], _ => rfl
  | x :: xs, h => by
    rw [okDAll, Bool.and_eq_true] at h ⊢
    exact ⟨okD_mono hB hL h.1, okDAll_mono hB hL h.2⟩
end
theorem Odd.mono {B B' L L' k k' : Nat} {d : D} (h : Odd B L k d) (hB : B ≤ B') (hL : L ≤ L') (hk : k ≤ k') : Odd B' L' k' d := ⟨okD_mono hB hL h.ok, Nat.le_trans h.dp hk⟩
theorem odd_int {B L k : Nat} {i : Int} (h : i.natAbs ≤ B) : Odd B L k (.int i) := ⟨by rw [okD]; exact decide_eq_true h, Nat.zero_le _⟩
theorem odd_bool {B L k : Nat} (b : Bool) : Odd B L k (.bool b) := ⟨rfl, Nat.zero_le _⟩
theorem odd_none {B L k : Nat} : Odd B L k .none := ⟨rfl, Nat.zero_le _⟩
theorem odd_dct0 {B L k : Nat} : Odd B L (k + 1) (dctD []) := ⟨rfl, by show PyData.depth (.dict []) ≤ _; rw [PyData.depth, PyData.depthKv]; omega⟩
theorem odd_list {B L k : Nat} {ds : List D} (hl : ds.length ≤ L) (h : ∀ d ∈ ds, Odd B L k d) : Odd B L (k + 1) (.list ds) := by
  refine ⟨?_, ?_⟩
  · rw [okD, decide_eq_true hl, okDAll_iff.mpr fun d hd => (h d hd).ok]; rfl
  · rw [PyData.depth]
    exact Nat.succ_le_succ (depthAll_of fun d hd => (h d hd).dp)
theorem odd_tup {B L k : Nat} {ds : List D} (hl : ds.length ≤ L) (h : ∀ d ∈ ds, Odd B L k d) : Odd B L (k + 1) (.tuple ds) := by
  refine ⟨?_, ?_⟩
  · rw [okD, decide_eq_true hl, okDAll_iff.mpr fun d hd => (h d hd).ok]; rfl
  · rw [PyData.depth]
    exact Nat.succ_le_succ (depthAll_of fun d hd => (h d hd).dp)
theorem Odd.tup {B L k : Nat} {ds : List D} (h : Odd B L (k + 1) (.tuple ds)) : ds.length ≤ L ∧ ∀ d ∈ ds, Odd B L k d := by
  obtain ⟨h1, h2⟩ := h
  rw [okD, Bool.and_eq_true, decide_eq_true_eq] at h1
  rw [PyData.depth] at h2
  refine ⟨h1.1, fun d hd => ⟨okDAll_iff.mp h1.2 d hd, ?_⟩⟩
  have : ∀ {xs : List D}, d ∈ xs → d.depth ≤ PyData.depthAll xs := by
    intro xs
    induction xs with
    | nil => intro z; cases z
    | cons x xs ih =>
      intro z
      rw [PyData.depthAll]
      rcases List.mem_cons.mp z with rfl | z
      · exact Nat.le_max_left _ _
      · exact Nat.le_trans (ih z) (Nat.le_max_right _ _)
  have := this hd
  omega
theorem Odd.tup0 {B L : Nat} {ds : List D} (h : Odd B L 0 (.tuple ds)) : False := by
  have := h.dp
  rw [PyData.depth] at this
  omega
/-! ### repr -/
variable {X : Cx} {r : SR} {S : List Sl}
def rReprE (X : Cx) : List V → Hp → VK → Prop := fun vs H Q => ∃ F x d B L, vs = [x] ∧ Ex F H ∧ Rp F x d ∧ okD B L d = true ∧ d.showable = true ∧ X.A.units + (d.depth + 1) < cLine ∧ d.shown.length ≤ sizeLine ∧ Q (.str d.shown) H
theorem call_reprE (hg : X.A.guards = some []) : CallR X (.builtin "repr") (rReprE X) := by
  intro pins s σ H xs us Q I rr h
  obtain ⟨F, x, d, B, L, rfl, k, rp, hpl, hs, hu, hz, q⟩ := h
  obtain ⟨u, rfl, rx⟩ := vals1 rr
  have main : ∀ a : Addr, x = V.ref a → u = Value.ref a → wpAny (model X.prog X.w) X.A (call (.builtin "repr") [u]) (EP X pins σ Q) X.xe s := by
    rintro a rfl rfl
    obtain ⟨T, idr, S⟩ := Rp.shows k I.hok rp hpl hs hz
    exact call_repr_slot (by omega) (S.typeIs s fun _ _ e => e) S.slotRepr (S.call X.A.in1 X.xe s _ hg (by show X.A.units + 1 + d.depth < cLine; omega) (fun _ _ e => e) fun h' u tk hk => ⟨_, _, rfl, ⟨.str _, H, I.kept hk, ⟨_, rfl⟩, q⟩⟩)
  cases rp with
  | non =>
    cases rx
    exact PySem.P.repr_of_none ⟨.str _, H, I.tok _, ⟨_, rfl⟩, by simpa only [PyData.shown] using q⟩
  | bl b =>
    cases rx
    exact PySem.P.repr_of_bool ⟨.str _, H, I.tok _, ⟨_, rfl⟩, by simpa only [PyData.shown] using q⟩
  | int i =>
    obtain ⟨t, rfl⟩ := rx
    exact PySem.P.repr_of_int (by simpa only [PyData.showable, decide_eq_true_eq] using hs) ⟨.str _, H, I.tok _, ⟨_, rfl⟩, by simpa only [PyData.shown] using q⟩
  | str x =>
    obtain ⟨t, rfl⟩ := rx
    exact PySem.P.repr_of_str ⟨.str _, H, I.tok _, ⟨_, rfl⟩, by simpa only [PyData.shown] using q⟩ (by simpa only [PyData.shown] using hz)
  | @tup a ws ds ha rv =>
    cases rx
    exact main a rfl rfl
  | @lst a ws ds ha rv =>
    cases rx
    exact main a rfl rfl
  | @dct a ws kvs ha rv =>
    cases rx
    exact main a rfl rfl
  | @ftup a o ws ds ha n rv =>
    cases rx
    exact main a rfl rfl
/-- what may be told by repr -/
structure ShO (d : D) : Prop where
  ex : ∃ B L k, Odd B L k d ∧ B < 2 ^ 38 ∧ wtO L k ≤ 2 ^ 20 ∧ k ≤ 40
theorem Odd.sho {B L k : Nat} {d : D} (h : Odd B L k d) (hB : B < 2 ^ 38) (hw : wtO L k ≤ 2 ^ 20) (hk : k ≤ 40) : ShO d := ⟨B, L, k, h, hB, hw, hk⟩
theorem cd_reprE {k : Nat} (hr : Room k X.A) {d : D} {K : D → Prop} (h : ShO d) (kd : K (.str d.shown)) : CallD (rReprE X) [d] K := fun F H vs kF rv Q q => by
  obtain ⟨B, L, m, h, hB, hw, hk⟩ := h.ex
  cases rv with
  | cons r1 t =>
    cases t
    exact ⟨F, _, d, B, L, rfl, kF, r1, h.ok, okD_show hB h.ok, by have := h.dp; have := hr.un; omega, PyData.shown_fits (B := 13) (by decide) (by decide) (okD_short hB h.ok) (Nat.le_trans (okD_weight (Nat.le_of_lt hB) m h.ok h.dp) hw), q _ _ F H kd (Grow.refl kF) (.str _)⟩
theorem jreprE {K : D → List Sl → Prop} {a : Expr} {p pos : Pos} {k : Nat} (hg0 : X.A.guards = some []) (hr : Room k X.A) (hm : X.mg "repr" = none) (h : JE X r a S fun d S1 => ShO d ∧ K (.str d.shown) S1)
    (hg : Gl X "repr" := by rfl) (hs : starEach [a] X.env = (false, eval a X.env) :: starEach [] X.env := by rfl) : JE X r (.Call (.Name "repr" p) [a] [] pos) S K :=
  jB (call_reprE hg0) hm (ja1 (h.mono fun d S' ⟨sh, k⟩ => ⟨[d], rfl, cd_reprE hr sh k⟩) hs) hg (he := hs)
/-! ### == of tuples, of lists with [] -/
theorem isTuple_of {P : Program} {w : World} {F H : Hp} {h : Heap} (k : Ex F H) (ok : HOk P w H h) {v : V} {ds : List D} {u : Value} (r : Rp F v (.tuple ds)) (e : RelV v u) : ∃ a us vs, v = .ref a ∧ u = .ref a ∧ h.IsTuple a us ∧ Vals vs us.toList ∧ RpA F vs ds := by
  cases r with
  | @tup a vs _ q r =>
    cases e
    obtain ⟨_, its, rv, o, ho, hc, n, hd⟩ := ok _ _ (k _ _ q)
    exact ⟨a, its.toArray, vs, rfl, rfl, ⟨_, ho, hc, _, hd⟩, by simpa using rv, r⟩
theorem isList_of {P : Program} {w : World} {F H : Hp} {h : Heap} (k : Ex F H) (ok : HOk P w H h) {v : V} {ds : List D} {u : Value} (r : Rp F v (.list ds)) (e : RelV v u) : ∃ a us vs, v = .ref a ∧ u = .ref a ∧ h.IsList a us ∧ Vals vs us.toList ∧ RpA F vs ds := by
  cases r with
  | @lst a vs _ q r =>
    cases e
    obtain ⟨_, its, n, rv, ho⟩ := ok _ _ (k _ _ q)
    exact ⟨a, its.toArray, vs, rfl, rfl, ⟨_, ho, rfl, _, rfl⟩, by simpa using rv, r⟩
theorem vals_length {vs : List V} {us : List Value} (h : Vals vs us) : vs.length = us.length := h.length
/-- a tuple, whatever its items, == () -/
def rEqT0 (X : Cx) : R2 := fun x y H Q => ∃ F ds, Ex F H ∧ Rp F x (.tuple ds) ∧ Rp F y (.tuple []) ∧ X.A.units < cLine ∧ Q (.bl ds.isEmpty) H
theorem op_eqT0 : OpR X (compareOp .Eq) (rEqT0 X) := by
  intro pins s σ H x y v u Q I rx ry h
  obtain ⟨F, ds, k, r1, r2, hu, q⟩ := h
  obtain ⟨a, us, vs, rfl, rfl, t1, v1, p1⟩ := isTuple_of k I.hok r1 rx
  obtain ⟨b, us2, vs2, rfl, rfl, t2, v2, p2⟩ := isTuple_of k I.hok r2 ry
  cases p2
  have h2 : us2.size = 0 := by have := vals_length v2; simpa using this.symm
  have h1 : us.size = ds.length := by
    have e1 : vs.length = us.size := by have := vals_length v1; simpa using this
    have e2 := p1.length
    omega
  refine PySem.SeqAt.eq_tupleAt (e := fun _ => true) t1 t2 hu (fun j _ j2 => absurd j2 (by omega)) ⟨.bl _, H, I, rfl, ?_⟩
  rw [h1, h2, Nat.min_zero]
  cases ds with
  | nil => exact q
  | cons _ _ => exact q
theorem od_eqT0 {k : Nat} (hr : Room k X.A) {ds : List D} {K : D → Prop} (h : K (.bool ds.isEmpty)) : OpD (rEqT0 X) (.tuple ds) (.tuple []) K := fun F H v1 v2 k r1 r2 Q q =>
  ⟨F, ds, k, r1, r2, by have := hr.un; omega, q _ _ F H h (Grow.refl k) (.bl _)⟩
/-- a tuple that begins with a text == (another text,) -/
def rEqT1 (X : Cx) : R2 := fun x y H Q => ∃ F s t ds, Ex F H ∧ Rp F x (.tuple (.str s :: ds)) ∧ Rp F y (.tuple [.str t]) ∧ X.A.units < cLine ∧ Q (.bl (decide (s = t) && ds.isEmpty)) H
theorem op_eqT1 : OpR X (compareOp .Eq) (rEqT1 X) := by
  intro pins s σ H x y v u Q I rx ry h
  obtain ⟨F, sx, tx, ds, k, r1, r2, hu, q⟩ := h
  obtain ⟨a, us, vs, rfl, rfl, t1, v1, p1⟩ := isTuple_of k I.hok r1 rx
  obtain ⟨b, us2, vs2, rfl, rfl, t2, v2, p2⟩ := isTuple_of k I.hok r2 ry
  obtain ⟨us⟩ := us
  obtain ⟨us2⟩ := us2
  cases p2 with
  | cons pa pb =>
    cases pb
    cases pa
    cases v2 with
    | cons va vb =>
      cases vb
      obtain ⟨tk2, rfl⟩ := va
      cases p1 with
      | cons qa qb =>
        cases qa
        cases v1 with
        | @cons _ u0 _ us' wa wb =>
          obtain ⟨tk1, rfl⟩ := wa
          have hl : us'.length = ds.length := by
            have e1 := vals_length wb
            have e2 := qb.length
            omega
          refine PySem.SeqAt.eq_tupleAt (e := fun _ => sx == tx) t1 t2 hu (fun j _ j2 => ?_) ⟨.bl _, H, I, rfl, ?_⟩
          · have j0 : j = 0 := by
              have : j < 1 := j2
              omega
            subst j0
            exact PySem.SeqAt.EqAt.str_str sx tk1 tx tk2
          · have e : ((List.range (min (Value.str sx tk1 :: us').toArray.size [Value.str tx tk2].toArray.size)).all (fun _ => sx == tx) && (Value.str sx tk1 :: us').toArray.size == [Value.str tx tk2].toArray.size) = (decide (sx = tx) && ds.isEmpty) := by
              rw [List.size_toArray, List.size_toArray, List.length_cons, List.length_singleton, show min (us'.length + 1) 1 = 1 by omega, hl]
              have e1 : (sx == tx) = decide (sx = tx) := PySem.W.beq_decide sx tx
              rw [e1]
              cases ds with
              | nil => simp
              | cons _ _ => simp
            rw [e]
            exact q
theorem od_eqT1 {k : Nat} (hr : Room k X.A) {s t : Str} {ds : List D} {K : D → Prop} (h : K (.bool (decide (s = t) && ds.isEmpty))) : OpD (rEqT1 X) (.tuple (.str s :: ds)) (.tuple [.str t]) K := fun F H v1 v2 k r1 r2 Q q =>
  ⟨F, s, t, ds, k, r1, r2, by have := hr.un; omega, q _ _ F H h (Grow.refl k) (.bl _)⟩
/-- a list, whatever its items, == [], != [] -/
def rEqL0 (X : Cx) (neg : Bool) : R2 := fun x y H Q => ∃ F ds, Ex F H ∧ Rp F x (.list ds) ∧ Rp F y (.list []) ∧ X.A.units < cLine ∧ Q (.bl (if neg = true then !ds.isEmpty else ds.isEmpty)) H
theorem op_eqL0 : OpR X (compareOp .Eq) (rEqL0 X false) := by
  intro pins s σ H x y v u Q I rx ry h
  obtain ⟨F, ds, k, r1, r2, hu, q⟩ := h
  obtain ⟨a, us, vs, rfl, rfl, t1, v1, p1⟩ := isList_of k I.hok r1 rx
  obtain ⟨b, us2, vs2, rfl, rfl, t2, v2, p2⟩ := isList_of k I.hok r2 ry
  cases p2
  have h2 : us2.size = 0 := by have := vals_length v2; simpa using this.symm
  have h1 : us.size = ds.length := by
    have e1 : vs.length = us.size := by have := vals_length v1; simpa using this
    have e2 := p1.length
    omega
  cases ds with
  | nil =>
    refine PySem.SeqAt.eq_listAt (e := fun _ => true) t1 t2 (by rw [h1, h2]; rfl) hu (fun j _ j2 => absurd j2 (by omega)) ⟨.bl _, H, I, rfl, ?_⟩
    rw [h1]; exact q
  | cons z zs =>
    refine PySem.SeqAt.eq_list_lengthsAt t1 t2 (by rw [h1, h2]; rfl) hu ⟨.bl _, H, I, rfl, q⟩
theorem op_neL0 : OpR X (compareOp .NotEq) (rEqL0 X true) := by
  intro pins s σ H x y v u Q I rx ry h
  obtain ⟨F, ds, k, r1, r2, hu, q⟩ := h
  obtain ⟨a, us, vs, rfl, rfl, t1, v1, p1⟩ := isList_of k I.hok r1 rx
  obtain ⟨b, us2, vs2, rfl, rfl, t2, v2, p2⟩ := isList_of k I.hok r2 ry
  cases p2
  have h2 : us2.size = 0 := by have := vals_length v2; simpa using this.symm
  have h1 : us.size = ds.length := by
    have e1 : vs.length = us.size := by have := vals_length v1; simpa using this
    have e2 := p1.length
    omega
  cases ds with
  | nil =>
    refine PySem.SeqAt.RcNeAt.lists (e := fun _ => true) t1 t2 (by rw [h1, h2]; rfl) hu (fun j _ j2 => absurd j2 (by omega)) _ _ _ _ ⟨.bl _, H, I, rfl, ?_⟩
    rw [h1]; exact q
  | cons z zs =>
    exact PySem.SeqAt.RcNeAt.lists_lengths t1 t2 (by rw [h1, h2]; rfl) hu _ _ _ _ ⟨.bl _, H, I, rfl, q⟩
theorem od_eqL0 {k : Nat} (hr : Room k X.A) {neg : Bool} {ds : List D} {K : D → Prop} (h : K (.bool (if neg = true then !ds.isEmpty else ds.isEmpty))) : OpD (rEqL0 X neg) (.list ds) (.list []) K := fun F H v1 v2 k r1 r2 Q q =>
  ⟨F, ds, k, r1, r2, by have := hr.un; omega, q _ _ F H h (Grow.refl k) (.bl _)⟩
/-! ### {"a": 1, ..}.get(x, 0) -/
def trsC (cs : List (Str × Int)) : List (TE × TE) := cs.map fun c => (tC (.str c.1), tC (.int c.2))
def getC (cs : List (Str × Int)) (s : Str) : Option Int := ((cs.foldl (fun acc c => putK acc (.inr c.1) (V.int c.2)) ([] : List (Key × V))) |> fun kvs => valV kvs (.inr s)).bind fun v => match v with
  | .int i => some i
  | _ => none
theorem tPairs_C (σ : St) (H : Hp) (Q : List (V × V) → Hp → Prop) : ∀ cs : List (Str × Int), Q (cs.map fun c => (V.str c.1, V.int c.2)) H → tPairs (trsC cs) σ H Q
  | [], q => q
  | c :: cs, q => tPairs_C σ H (fun ps H' => Q ((V.str c.1, V.int c.2) :: ps) H') cs q
def allInt (kvs : List (Key × V)) : Prop := ∀ p ∈ kvs, ∃ i, p.2 = V.int i
theorem allInt_put {kvs : List (Key × V)} (h : allInt kvs) (k : Key) (i : Int) : allInt (putK kvs k (.int i)) := by
  intro p hp
  unfold putK at hp
  split at hp
  · obtain ⟨q, hq, rfl⟩ := List.mem_map.mp hp
    split
    · exact ⟨i, rfl⟩
    · exact h q hq
  · rcases List.mem_append.mp hp with hp | hp
    · exact h p hp
    · rw [List.mem_singleton.mp hp]; exact ⟨i, rfl⟩
theorem allInt_fold : ∀ (cs : List (Str × Int)) {kvs : List (Key × V)}, allInt kvs → allInt (cs.foldl (fun acc c => putK acc (.inr c.1) (V.int c.2)) kvs)
  | [], _, h => h
  | c :: cs, _, h => allInt_fold cs (allInt_put h _ _)
theorem je_dispGet {K : D → List Sl → Prop} {keys : List (Option Expr)} {vals : List Expr} {a b : Expr} {dpos apos cpos : Pos} {k : Nat} (hr : Room k X.A) (cs : List (Str × Int)) (hp : PPs X dpos keys vals (trsC cs)) (h : JE X r a S fun d1 S1 => JE X r b S1 fun d2 S2 => ∃ s i0, d1 = .str s ∧ d2 = .int i0 ∧ K (.int ((getC cs s).getD i0)) S2)
    (hall : keys.all (·.isSome) = true := by rfl) (hl : keys.length = vals.length := by rfl) (h0 : keys ≠ [] := by decide) (h15 : keys.length ≤ 15 := by decide) (hc15 : cs.length ≤ 15 := by decide)
    (m : M2 X (.Dict keys vals dpos) "get" apos a b cpos := by exact ⟨rfl, rfl, rfl, rfl⟩) : JE X r (.Call (.Attribute (.Dict keys vals dpos) "get" apos) [a, b] [] cpos) S K := fun c F σ H hr' E Q q =>
  of_pe (pe_dget2 (by have := hr.un; omega) (pe_disp hp hall hl h0 h15) pe_tE pe_tE m) (fun p hn => tPairs_C σ _ _ cs ⟨upd_same, cs.map (fun c => (Sum.inr c.1, V.int c.2)), by rw [List.map_map]; rfl, by rw [List.length_map]; exact hc15, by
    rw [upd_upd]
    have e : mergeK [] (cs.map (fun c => ((Sum.inr c.1 : Key), V.int c.2))) = cs.foldl (fun acc c => putK acc (.inr c.1) (V.int c.2)) [] := by
      unfold mergeK
      rw [List.foldl_map]
    rw [e]
    have hi := allInt_fold cs (kvs := []) (fun p hp => nomatch hp)
    have eg : ∀ s, getC cs s = (valV (cs.foldl (fun acc c => putK acc (.inr c.1) (V.int c.2)) ([] : List (Key × V))) (.inr s)).bind fun v => match v with | .int i => some i | _ => none := fun s => rfl
    generalize cs.foldl (fun acc c => putK acc (.inr c.1) (V.int c.2)) ([] : List (Key × V)) = kvs at *
    have E0 : EvD c S F σ (upd H p (.dK kvs)) := E.laid hn
    refine ⟨p, rfl, .inl ⟨kvs, .inl upd_same⟩, h (c.hold p (.dK kvs)) F σ _ (r.st c p _ (E.fin.bh.back hn) hr') (E0.hold upd_same (E.fin.fh.back hn) ?_ ?_) _ fun v1 d1 F1 H1 S1 h1 E1 k1 r1 => h1 (c.hold p (.dK kvs)) F1 σ H1 (r.st c p _ (E.fin.bh.back hn) hr') E1 _ fun v2 d2 F2 H2 S2 h2 E2 k2 r2 => ?_⟩
    · intro qq eq
      obtain ⟨⟨_, _, _, _, s1, s2⟩, _⟩ := E.fin.src qq eq
      exact ⟨fun z => (by rw [z, s1] at hn; cases hn), fun z => (by rw [z, s2] at hn; cases hn)⟩
    · intro j xs ej es
      obtain ⟨x, e1, a', vs', e2, hh, _⟩ := E.sl j _ ej
      rw [es] at e1
      cases e1
      cases e2
      rw [hn] at hh
      cases hh
    · obtain ⟨s, i0, rfl, rfl, kk⟩ := h2
      obtain ⟨E3, hp2, _⟩ := EvD.unhold (vs := .dK kvs) (fun xs z => nomatch z) E2 (E.fin.bh.back hn) (by
        cases z : c.F0 p with
        | none => rfl
        | some u =>
          have := E.fin.fh _ _ (E.fin.f0 _ _ z)
          rw [hn] at this; cases this)
      cases r1
      refine ⟨valV kvs (.inr s), .inl ⟨kvs, .inr s, .inl hp2, rfl, rfl⟩, ?_⟩
      rw [eg] at kk
      cases r2
      cases z : valV kvs (.inr s) with
      | none =>
        rw [z] at kk
        exact q _ _ F2 H2 S2 kk E3 (k1.trans k2) (.int _)
      | some v =>
        rw [z] at kk
        obtain ⟨i, ei⟩ : ∃ i, v = V.int i := by
          unfold valV at z
          cases z2 : kvs.find? (fun kv => decide (kv.1 = Sum.inr s)) with
          | none => rw [z2] at z; cases z
          | some pr =>
            rw [z2] at z
            obtain ⟨i, e⟩ := hi pr (List.mem_of_find?_eq_some z2)
            exact ⟨i, by rw [← e]; exact (Option.some.inj z).symm⟩
        subst ei
        exact q _ _ F2 H2 S2 kk E3 (k1.trans k2) (.int _)⟩)
end DL

/-! DL: kinds of odd values; tests that keep the slots; a test a < b < c; {..}.get of a display named aside. -/
namespace DL
open PySem L2
structure Txo (mg : Str → Option Value) : Prop where
  isi : mg "isinstance" = none
  int : mg "int" = none
  bol : mg "bool" = none
  tup : mg "tuple" = none
  str : mg "str" = none
def isInt : D → Bool
  | .int _ => true
  | _ => false
def isBool : D → Bool
  | .bool _ => true
  | _ => false
def isTup : D → Bool
  | .tuple _ => true
  | _ => false
def isStr : D → Bool
  | .str _ => true
  | _ => false
def noF : D → Bool
  | .dict ((.none, _) :: _) => false
  | _ => true
theorem noF_ok {B L : Nat} {d : D} (h : okD B L d = true) : noF d = true := by
  cases d with
  | dict kvs =>
    rw [okD] at h
    cases kvs with
    | nil => rfl
    | cons _ _ => cases h
  | _ => rfl
theorem tyD_dict : ∀ {kvs : List (D × D)}, noF (.dict kvs) = true → tyD (.dict kvs) = "dict"
  | [], _ => rfl
  | (a, b) :: t, h => by
    cases a <;> first | rfl | cases h
theorem kt_int : ∀ {d : D}, noF d = true → kitB (tyD d) "int" = some (isInt d || isBool d)
  | .none, _ => rfl
  | .bool _, _ => rfl
  | .int _, _ => rfl
  | .str _, _ => rfl
  | .list _, _ => rfl
  | .tuple _, _ => rfl
  | .dict kvs, h => by rw [tyD_dict h]; rfl
theorem kt_bool : ∀ {d : D}, noF d = true → kitB (tyD d) "bool" = some (isBool d)
  | .none, _ => rfl
  | .bool _, _ => rfl
  | .int _, _ => rfl
  | .str _, _ => rfl
  | .list _, _ => rfl
  | .tuple _, _ => rfl
  | .dict kvs, h => by rw [tyD_dict h]; rfl
theorem kt_tup : ∀ {d : D}, noF d = true → kitB (tyD d) "tuple" = some (isTup d)
  | .none, _ => rfl
  | .bool _, _ => rfl
  | .int _, _ => rfl
  | .str _, _ => rfl
  | .list _, _ => rfl
  | .tuple _, _ => rfl
  | .dict kvs, h => by rw [tyD_dict h]; rfl
theorem kt_str : ∀ {d : D}, noF d = true → kitB (tyD d) "str" = some (isStr d)
  | .none, _ => rfl
  | .bool _, _ => rfl
  | .int _, _ => rfl
  | .str _, _ => rfl
  | .list _, _ => rfl
  | .tuple _, _ => rfl
  | .dict kvs, h => by rw [tyD_dict h]; rfl
theorem isTup_of {d : D} (h : isTup d = true) : ∃ ds, d = .tuple ds := by
  cases d <;> first | exact ⟨_, rfl⟩ | cases h
theorem isInt_of {d : D} (h : isInt d = true) : ∃ i, d = .int i := by
  cases d <;> first | exact ⟨_, rfl⟩ | cases h
theorem isStr_of {d : D} (h : isStr d = true) : ∃ i, d = .str i := by
  cases d <;> first | exact ⟨_, rfl⟩ | cases h
def nbD (d : D) (m : Int) : Bool := match d with
  | .int i => decide (0 ≤ i) && decide (i < m)
  | _ => false
theorem odd_tupG {B L k : Nat} {ds es : List D} (h : Odd B L (k + 1) (.tuple ds)) (hl : es.length ≤ L + 1) (hm : ∀ e ∈ es, e ∈ ds ∨ Odd (B + 2) (L + 1) (k + 1) e) : Odd (B + 2) (L + 1) (k + 2) (.tuple es) := by
  obtain ⟨_, h2⟩ := h.tup
  refine odd_tup hl fun d hd => ?_
  rcases hm d hd with h | h
  · exact (h2 d h).mono (by omega) (by omega) (by omega)
  · exact h
theorem odd_listG {B L k : Nat} {ds es : List D} (h : Odd B L (k + 1) (.tuple ds)) (hl : es.length ≤ L + 1) (hm : ∀ e ∈ es, e ∈ ds) : Odd (B + 2) (L + 1) (k + 2) (.list es) := by
  obtain ⟨_, h2⟩ := h.tup
  exact odd_list hl fun d hd => (h2 d (hm d hd)).mono (by omega) (by omega) (by omega)
theorem je_cutLast {X : Cx} {r : SR} {S : List Sl} {K : D → List Sl → Prop} {e : Expr} {k : Nat} {p1 p2 p3 pos : Pos} (h : JE X r e S fun d S1 => ∃ ds : List D, d = .tuple ds ∧ K (.tuple ds.dropLast) S1) : JE X r (.Subscript e (.Slice none (some (.UnaryOp .USub (.Constant (.int 1) k p1) p2)) none p3) pos) S K :=
  je_cutT (h.mono fun d S1 ⟨ds, e, kk⟩ => je_un un_neg <| je_int <| ud_neg ⟨-1, rfl, ds, e, by rw [cutD_last]; exact kk⟩)
theorem bent_put {B L k : Nat} {ds : List D} {x : D} {j : Nat} (h : Odd B L (k + 1) (.tuple ds)) (hj : j < ds.length) (hx : Odd (B + 2) (L + 1) (k + 1) x) : Odd (B + 2) (L + 1) (k + 2) (.tuple (ds.take j ++ [x] ++ ds.drop (j + 1))) := by
  have hl := h.tup.1
  refine odd_tupG h ?_ fun e he => ?_
  · rw [List.length_append, List.length_append, List.length_take, List.length_drop, List.length_singleton]
    omega
  · rcases List.mem_append.mp he with he | he
    · rcases List.mem_append.mp he with he | he
      · exact .inl (List.mem_of_mem_take he)
      · rw [List.mem_singleton.mp he]; exact .inr hx
    · exact .inl (List.mem_of_mem_drop he)
theorem JT.keep {X : Cx} {r : SR} {S : List Sl} {t : Expr} {K : Bool → List Sl → Prop} (p : Bool) (h : JT X r t S fun b S' => S' = S ∧ b = p) (k : K p S) : JT X r t S K := h.mono fun b S' ⟨e1, e2⟩ => by rw [e1, e2]; exact k
theorem JE.keep {X : Cx} {r : SR} {S : List Sl} {t : Expr} {K : D → List Sl → Prop} (p : D) (h : JE X r t S fun b S' => S' = S ∧ b = p) (k : K p S) : JE X r t S K := h.mono fun b S' ⟨e1, e2⟩ => by rw [e1, e2]; exact k
theorem filter_first {α : Type} {q : α → Bool} : ∀ {l : List α} {i : Nat} {p : α}, l[i]? = some p → q p = true → (∀ j z, j < i → l[j]? = some z → q z = false) → ∃ t, l.filter q = p :: t
  | [], _, _, h, _, _ => by simp at h
  | x :: l, 0, p, h, hq, _ => by
    cases h
    rw [List.filter_cons_of_pos hq]
    exact ⟨_, rfl⟩
  | x :: l, i + 1, p, h, hq, hb => by
    have hx := hb 0 x (by omega) rfl
    rw [List.filter_cons_of_neg (by rw [hx]; decide)]
    exact filter_first (l := l) h hq fun j z hj hz => hb (j + 1) z (by omega) hz
theorem v_cases (v : D) : isTup v = false ∨ v = .tuple [] ∨ (∃ x q, v = .tuple (x :: q) ∧ isStr x = false) ∨ ∃ s q, v = .tuple (.str s :: q) := by
  cases v with
  | tuple ds =>
    cases ds with
    | nil => exact .inr (.inl rfl)
    | cons x q =>
      cases x with
      | str s => exact .inr (.inr (.inr ⟨s, q, rfl⟩))
      | _ => exact .inr (.inr (.inl ⟨_, q, rfl, rfl⟩))
  | _ => exact .inl rfl
theorem any_filter {α : Type} (l : List α) (p : α → Bool) : (!(l.filter p).isEmpty) = l.any p := by
  induction l with
  | nil => rfl
  | cons x l ih =>
    rw [List.filter_cons, List.any_cons]
    cases e : p x with
    | true => rfl
    | false => rw [if_neg Bool.false_ne_true, ih]; rfl
theorem atI0 {x : D} {q : List D} : atI (x :: q) 0 = some x := atI_nat (j := 0) rfl
theorem okD_tail {B L : Nat} {x : D} {q : List D} (h : okD B L (.tuple (x :: q)) = true) : ∀ d ∈ q, okD B L d = true := fun d hd => by
  rw [okD, Bool.and_eq_true] at h
  exact okDAll_iff.mp h.2 d (List.mem_cons_of_mem _ hd)
theorem okD_len {B L : Nat} {q : List D} (h : okD B L (.tuple q) = true) : q.length ≤ L := by
  rw [okD, Bool.and_eq_true, decide_eq_true_eq] at h
  exact h.1
section
variable {X : Cx} {r : SR} {S : List Sl}
/-- a < b < c, a test -/
theorem jt_chain {K : Bool → List Sl → Prop} {a b c' : Expr} {op op' : CmpOp} {pos : Pos} {rr rr' : R2} (hp : PT X (.Compare a [op, op'] [b, c'] pos) (tTest (tChain rr rr' (tE X a) (tE X b) (tE X c')))) (h : JE X r a S fun d1 S1 => JE X r b S1 fun d2 S2 => OpD rr d1 d2 fun d => ∃ k, d = .bool k ∧ if k = true then JE X r c' S2 fun d3 S3 => OpD rr' d2 d3 fun d => ∃ b, d = .bool b ∧ K b S3 else K false S2) : JT X r (.Compare a [op, op'] [b, c'] pos) S K :=
  fun c F σ H hr E Q q => of_pt hp (h c F σ H hr E _ fun v1 d1 F1 H1 S1 h1 E1 k1 r1 => h1 c F1 σ H1 hr E1 _ fun v2 d2 F2 H2 S2 h2 E2 k2 r2 =>
    h2 F2 H2 v1 v2 E2.fin.fh (r1.ex k2) r2 _ fun v d F3 H3 kd g rp => by
      obtain ⟨b, rfl, kb⟩ := kd
      cases rp
      refine ⟨b, rfl, ?_⟩
      cases b with
      | true =>
        rw [if_pos rfl] at kb ⊢
        exact kb c F3 σ H3 hr (E2.grow g) _ fun v4 d4 F4 H4 S4 h4 E4 k4 r4 => h4 F4 H4 v2 v4 E4.fin.fh ((r2.ex g.kF).ex k4) r4 _ fun v5 d5 F5 H5 kd5 g5 rp5 => by
          obtain ⟨b5, rfl, kb5⟩ := kd5
          cases rp5
          exact ⟨b5, rfl, q b5 F5 H5 S4 kb5 (E4.grow g5) ((((k1.trans k2).trans g.kF).trans k4).trans g5.kF)⟩
      | false =>
        rw [if_neg Bool.false_ne_true] at kb ⊢
        exact ⟨false, rfl, q false F3 H3 S2 kb (E2.grow g) ((k1.trans k2).trans g.kF)⟩)
theorem je_dispGetP {K : D → List Sl → Prop} {dd a b : Expr} {apos cpos : Pos} {k : Nat} (hr : Room k X.A) (cs : List (Str × Int)) (hp : PE X dd (tDisp (trsC cs))) (hm : attributeBase dd "get" X.env (eval dd X.env) = eval dd X.env) (hc15 : cs.length ≤ 15) (h : JE X r a S fun d1 S1 => JE X r b S1 fun d2 S2 => ∃ s i0, d1 = .str s ∧ d2 = .int i0 ∧ K (.int ((getC cs s).getD i0)) S2)
    (h1 : ((backTo cpos (starEach [a, b] X.env)).all (fun x => !x.1) && (backToKw cpos (keywordEach [] X.env)).all (fun x => x.1.isSome) && decide (([a, b] : List Expr).length + ([] : List Keyword).length + (if ([] : List Keyword).isEmpty then 0 else 1) < 30)) = true := by rfl) (h2 : (apos.endLine == cpos.line) = true := by rfl) (h3 : backTo cpos (starEach [a, b] X.env) = [(false, eval a X.env), (false, eval b X.env)] := by rfl) : JE X r (.Call (.Attribute dd "get" apos) [a, b] [] cpos) S K := fun c F σ H hr' E Q q =>
  of_pe (pe_dget2 (by have := hr.un; omega) hp pe_tE pe_tE ⟨hm, h1, h2, h3⟩) (fun p hn => tPairs_C σ _ _ cs ⟨upd_same, cs.map (fun c => (Sum.inr c.1, V.int c.2)), by rw [List.map_map]; rfl, by rw [List.length_map]; exact hc15, by
    rw [upd_upd]
    have e : mergeK [] (cs.map (fun c => ((Sum.inr c.1 : Key), V.int c.2))) = cs.foldl (fun acc c => putK acc (.inr c.1) (V.int c.2)) [] := by
      unfold mergeK
      rw [List.foldl_map]
    rw [e]
    have hi := allInt_fold cs (kvs := []) (fun p hp => nomatch hp)
    have eg : ∀ s, getC cs s = (valV (cs.foldl (fun acc c => putK acc (.inr c.1) (V.int c.2)) ([] : List (Key × V))) (.inr s)).bind fun v => match v with | .int i => some i | _ => none := fun s => rfl
    generalize cs.foldl (fun acc c => putK acc (.inr c.1) (V.int c.2)) ([] : List (Key × V)) = kvs at *
    have E0 : EvD c S F σ (upd H p (.dK kvs)) := E.laid hn
    refine ⟨p, rfl, .inl ⟨kvs, .inl upd_same⟩, h (c.hold p (.dK kvs)) F σ _ (r.st c p _ (E.fin.bh.back hn) hr') (E0.hold upd_same (E.fin.fh.back hn) ?_ ?_) _ fun v1 d1 F1 H1 S1 h1 E1 k1 r1 => h1 (c.hold p (.dK kvs)) F1 σ H1 (r.st c p _ (E.fin.bh.back hn) hr') E1 _ fun v2 d2 F2 H2 S2 h2 E2 k2 r2 => ?_⟩
    · intro qq eq
      obtain ⟨⟨_, _, _, _, s1, s2⟩, _⟩ := E.fin.src qq eq
      exact ⟨fun z => (by rw [z, s1] at hn; cases hn), fun z => (by rw [z, s2] at hn; cases hn)⟩
    · intro j xs ej es
      obtain ⟨x, e1, a', vs', e2, hh, _⟩ := E.sl j _ ej
      rw [es] at e1
      cases e1
      cases e2
      rw [hn] at hh
      cases hh
    · obtain ⟨s, i0, rfl, rfl, kk⟩ := h2
      obtain ⟨E3, hp2, _⟩ := EvD.unhold (vs := .dK kvs) (fun xs z => nomatch z) E2 (E.fin.bh.back hn) (by
        cases z : c.F0 p with
        | none => rfl
        | some u =>
          have := E.fin.fh _ _ (E.fin.f0 _ _ z)
          rw [hn] at this; cases this)
      cases r1
      refine ⟨valV kvs (.inr s), .inl ⟨kvs, .inr s, .inl hp2, rfl, rfl⟩, ?_⟩
      rw [eg] at kk
      cases r2
      cases z : valV kvs (.inr s) with
      | none =>
        rw [z] at kk
        exact q _ _ F2 H2 S2 kk E3 (k1.trans k2) (.int _)
      | some v =>
        rw [z] at kk
        obtain ⟨i, ei⟩ : ∃ i, v = V.int i := by
          unfold valV at z
          cases z2 : kvs.find? (fun kv => decide (kv.1 = Sum.inr s)) with
          | none => rw [z2] at z; cases z
          | some pr =>
            rw [z2] at z
            obtain ⟨i, e⟩ := hi pr (List.mem_of_find?_eq_some z2)
            exact ⟨i, by rw [← e]; exact (Option.some.inj z).symm⟩
        subst ei
        exact q _ _ F2 H2 S2 kk E3 (k1.trans k2) (.int _)⟩)
/-- [e for x in ..], draws and all: the slots as before, each item of a kind -/
theorem jn_lcA {elt tg iter : Expr} {scope : Scope} {pos : Pos} (own : List (Str × Nat)) (ts : List Nat) (P : D → Prop) {K : List D → List Sl → Prop} (h : JI X r tg iter S fun ds S1 => noOwn (own.map (·.2)) S1 = true ∧ ds.length ≤ 1000000 ∧ (∀ d ∈ ds, Blk X scope fun Y => JG Y r tg ts d (wipeS S1 (own.map (·.2))) fun S2 => Blk X scope fun Y => JE Y r elt S2 fun y S4 => P y ∧ mrg (own.map (·.2)) S1 S4 = S1) ∧ ∀ zs : List D, zs.length = ds.length → (∀ z ∈ zs, P z) → K zs S1)
    (hc : X.calm = true := by rfl) (hN : X.N.Nodup := by assumption) (ok : BlkOk X.N X.env.scope scope own := by exact blkOk_by rfl) (hs : ∀ x, foldedSetIterable iter X.env x = pure x := by intro _; rfl) (hts : ∀ j ∈ ts, j ∈ own.map (·.2) := by decide) : JN X r (.ListComp elt [⟨tg, iter, [], 0⟩] scope pos) S K :=
  jn_lc own ts hc hN ok hs hts (h.mono fun ds S1 ⟨ho, hl, ht, hk⟩ => ⟨fun i acc S' => S' = S1 ∧ acc.length = i ∧ ∀ z ∈ acc, P z, ⟨rfl, rfl, fun z hz => nomatch hz⟩, fun i acc S' ⟨e, ha, _⟩ hi => by
    subst e
    refine ⟨?_, noOwn_of ho⟩
    have hz : sizeLine = 16777216 := sizeLine_eq
    omega, fun i d acc S' hd ⟨e, ha, hp⟩ => by
    subst e
    intro s1 H1 C1 cl1 fp1
    refine (ht d (List.mem_of_getElem? hd) s1 H1 C1 cl1 fp1).mono fun S2 h2 => ?_
    intro s2 H2 C2 cl2 fp2
    refine jts_nil ?_
    rw [if_pos rfl]
    intro s3 H3 C3 cl3 fp3
    refine (h2 s3 H3 C3 cl3 fp3).mono fun y S4 ⟨hy, hm⟩ => ⟨hm, by rw [List.length_append, ha]; rfl, fun z hz => ?_⟩
    rcases List.mem_append.mp hz with hz | hz
    · exact hp z hz
    · rw [List.mem_singleton.mp hz]; exact hy, fun acc S' ⟨e, ha, hp⟩ => by subst e; exact hk acc ha hp⟩)
/-- t * k, k at least 2 -/
theorem od_repT {ds : List D} {k : Int} {K : D → Prop} (hne : ds ≠ []) (h2 : 2 ≤ k) (hk : k ≤ 1000) (hl : ds.length ≤ 1000) (h : K (.tuple (List.replicate k.toNat ds).flatten)) : OpD (rRepT X.K) (.tuple ds) (.int k) K := fun F H v1 v2 kF r1 r2 Q q => by
  cases r2
  cases r1 with
  | @tup a vs _ ha rv =>
    have hlen := rv.length
    refine ⟨a, k, vs, rfl, rfl, .inl (.inl (kF _ _ ha)), (fun e => hne (by rw [e] at hlen; exact List.eq_nil_of_length_eq_zero hlen.symm)), h2, hk, by omega, fun p hp => ?_⟩
    exact q _ _ (upd F p _) _ h (Grow.new kF hp) (.tup upd_same ((rv.rep k.toNat).ex (Ex.new (by
      cases z : F p with
      | none => rfl
      | some u => have := kF _ _ z; rw [hp] at this; cases this))))
end
end DL

namespace K78
open PySem L2 DL
def topS (i : Nat) : Stmt := PySem.Challenge.pw_shelledlots_k78_whole_bases_and_base_pap.main.body.getD i (.Pass ⟨0, 0, 0, 0⟩)
theorem scall_above : FnScope ["order", "lot", "y", "x"] ["order", "lot"] (defScope (topS 7)) := ⟨rfl, rfl, rfl, by decide +kernel, rfl, by decide +kernel, by decide +kernel⟩
theorem sc_law_source : FnScope ["script", "mixed", "cell"] ["script"] (defScope (topS 21)) := ⟨rfl, rfl, rfl, by decide +kernel, rfl, by decide +kernel, by decide +kernel⟩
theorem sc_law_pick : FnScope ["source", "many", "left", "mixed"] ["source", "many"] (defScope (topS 22)) := ⟨rfl, rfl, rfl, by decide +kernel, rfl, by decide +kernel, by decide +kernel⟩
theorem sc_law_mixed : FnScope ["source", "things", "rest", "lap"] ["source", "things"] (defScope (topS 24)) := ⟨rfl, rfl, rfl, by decide +kernel, rfl, by decide +kernel, by decide +kernel⟩
theorem sc_law_closed : FnScope ["n", "pairs", "under", "lap", "x", "y", "lot"] ["n", "pairs"] (defScope (topS 27)) := ⟨rfl, rfl, rfl, by decide +kernel, rfl, by decide +kernel, by decide +kernel⟩
theorem sc_law_order : FnScope ["source", "most", "n", "way", "pairs", "names", "share", "j", "i", "is_let", "x"] ["source", "most"] (defScope (topS 28)) := ⟨rfl, rfl, rfl, by decide +kernel, rfl, by decide +kernel, by decide +kernel⟩
theorem sc_law_under : FnScope ["order", "x", "y"] ["order", "x", "y"] (defScope (topS 29)) := ⟨rfl, rfl, rfl, by decide +kernel, rfl, by decide +kernel, by decide +kernel⟩
theorem sc_law_all_above : FnScope ["order", "lot", "y", "x"] ["order", "lot"] (defScope (topS 30)) := ⟨rfl, rfl, rfl, by decide +kernel, rfl, by decide +kernel, by decide +kernel⟩
theorem sc_law_all_under : FnScope ["order", "lot", "x", "y"] ["order", "lot"] (defScope (topS 31)) := ⟨rfl, rfl, rfl, by decide +kernel, rfl, by decide +kernel, by decide +kernel⟩
theorem sc_law_join : FnScope ["order", "lot", "above", "some", "x", "y"] ["order", "lot"] (defScope (topS 32)) := ⟨rfl, rfl, rfl, by decide +kernel, rfl, by decide +kernel, by decide +kernel⟩
theorem sc_law_meet : FnScope ["order", "lot", "under", "some", "x", "y"] ["order", "lot"] (defScope (topS 33)) := ⟨rfl, rfl, rfl, by decide +kernel, rfl, by decide +kernel, by decide +kernel⟩
theorem sc_law_cuts : FnScope ["order", "found", "lot", "one", "x", "many"] ["order"] (defScope (topS 35)) := ⟨rfl, rfl, rfl, by decide +kernel, rfl, by decide +kernel, by decide +kernel⟩
theorem sc_law_within : FnScope ["one", "other", "x"] ["one", "other"] (defScope (topS 36)) := ⟨rfl, rfl, rfl, by decide +kernel, rfl, by decide +kernel, by decide +kernel⟩
theorem sc_law_of_lots : FnScope ["lots", "one", "k", "late"] ["lots"] (defScope (topS 37)) := ⟨rfl, rfl, rfl, by decide +kernel, rfl, by decide +kernel, by decide +kernel⟩
structure Txt (mg : Str → Option Value) : Prop where
  ran : mg "range" = none
  tup : mg "tuple" = none
  all : mg "all" = none
  len : mg "len" = none
  lst : mg "list" = none
  enu : mg "enumerate" = none
/-! ### data -/
def lotD (l : List Int) : D := .tuple (l.map .int)
def ordD (n : Nat) (lots : List (List Int)) : D := .tuple [.int n, .tuple (lots.map lotD)]
def optD : Option Int → D
  | none => .none
  | some i => .int i
theorem nice_lot {k : Nat} (l : List Int) : Nice (k + 1) (lotD l) := nice_tup (nice_map fun a => nice_int a)
theorem lot_at {lots : List (List Int)} {a : Nat} (h : a < lots.length) : (lots.map lotD)[a]? = some (lotD (lots.getD a [])) := by
  rw [List.getElem?_map, List.getElem?_eq_getElem h, List.getD_eq_getElem?_getD, List.getElem?_eq_getElem h]
  rfl
theorem lot_atI {lots : List (List Int)} {a : Int} (h0 : 0 ≤ a) (h : a < lots.length) : atI (lots.map lotD) a = some (lotD (lots.getD a.toNat [])) := by
  obtain ⟨j, rfl⟩ : ∃ j : Nat, a = j := ⟨a.toNat, by omega⟩
  exact atI_nn (lot_at (by omega))
/-- x under y -/
def leB (lots : List (List Int)) (x y : Int) : Bool := decide (x ∈ lots.getD y.toNat [])
def ups (n : Nat) (lots : List (List Int)) (lot : List Int) : List Int := ((List.range n).filter fun (y : Nat) => lot.all fun x => leB lots x (y : Int)).map Int.ofNat
def downs (n : Nat) (lots : List (List Int)) (lot : List Int) : List Int := ((List.range n).filter fun (x : Nat) => lot.all fun y => leB lots (x : Int) y).map Int.ofNat
def leasts (lots : List (List Int)) (l : List Int) : List Int := l.filter fun x => l.all fun y => leB lots x y
def greats (lots : List (List Int)) (l : List Int) : List Int := l.filter fun x => l.all fun y => leB lots y x
def joinO (n : Nat) (lots : List (List Int)) (lot : List Int) : Option Int := (leasts lots (ups n lots lot)).head?
def meetO (n : Nat) (lots : List (List Int)) (lot : List Int) : Option Int := (greats lots (downs n lots lot)).head?
def inR (n : Nat) (l : List Int) : Prop := ∀ x ∈ l, 0 ≤ x ∧ x < n
theorem ups_inR (n : Nat) (lots : List (List Int)) (lot : List Int) : inR n (ups n lots lot) := fun x hx => by
  obtain ⟨a, ha, rfl⟩ := List.mem_map.mp hx
  have := List.mem_range.mp (List.mem_filter.mp ha).1
  exact ⟨Int.natCast_nonneg a, by exact Int.ofNat_lt.mpr this⟩
theorem downs_inR (n : Nat) (lots : List (List Int)) (lot : List Int) : inR n (downs n lots lot) := fun x hx => by
  obtain ⟨a, ha, rfl⟩ := List.mem_map.mp hx
  have := List.mem_range.mp (List.mem_filter.mp ha).1
  exact ⟨Int.natCast_nonneg a, by exact Int.ofNat_lt.mpr this⟩
theorem ups_len (n : Nat) (lots : List (List Int)) (lot : List Int) : (ups n lots lot).length ≤ n := by
  unfold ups
  rw [List.length_map]
  have h := List.length_filter_le (fun (y : Nat) => lot.all fun x => leB lots x (y : Int)) (List.range n)
  rw [List.length_range] at h
  exact h
theorem downs_len (n : Nat) (lots : List (List Int)) (lot : List Int) : (downs n lots lot).length ≤ n := by
  unfold downs
  rw [List.length_map]
  have h := List.length_filter_le (fun (y : Nat) => lot.all fun x => leB lots (y : Int) x) (List.range n)
  rw [List.length_range] at h
  exact h
theorem map_ofNat (l : List Nat) : l.map (fun i : Nat => PyData.int (i : Int)) = (l.map Int.ofNat).map .int := by
  rw [List.map_map]; rfl
section
variable {P : Program} {w : World} {K : PySem.W.Frag} {mg : Str → Option Value} {base : Heap}
/-! ### the package -/
def φA : List Ar → (D → Prop) → Prop := fun as Kd => ∃ (n : Nat) (lots : List (List Int)) (lot : List Int), as = [.d (ordD n lots), .d (lotD lot)] ∧ lots.length = n ∧ n ≤ 1000 ∧ lot.length ≤ 1000 ∧ Kd (lotD (ups n lots lot))
theorem ok_all_above {f : Addr} {fd : FuncData} (F : Fun K "all_above" "all_above" (topS 7) f fd) (T : Txt mg) : FnOk P w K mg base CX0 1 f fd ["order", "lot"] (SpD φA) := by
  refine fn_D F scall_above (fun as Kd h => ?_) (fun as Kd r cdv A outer s H E hr h => ?_)
  · obtain ⟨n, lots, lot, rfl, _⟩ := h
    rfl
  · obtain ⟨n, lots, lot, rfl, hn, hl, hl2, k⟩ := h
    have nd := scall_above.nd
    refine jret (jtupN T.tup (jlc [("y", 2)] [2] (jrange1 T.ran (jix ix_tup (jv 0 (je_int (od_ixT (d := .int n) rfl ⟨n, rfl, by omega, by omega, ?_⟩)))))))
    refine lcR (fun y => lot.all fun x => leB lots x (y : Int)) (fun i => .int (i : Int)) ?_ ?_ (m := n)
    · intro y hy
      refine lp1 2 ?_
      intro _ _ _ _ _
      refine jtval (jall rfl T.all (jlc [("x", 3)] [3] (jiT (jv 1 ⟨_, rfl, ?_⟩))))
      refine lcL lot .int (fun _ => true) (fun x => .bool (leB lots x (y : Int))) ?_ ?_
      · intro x hx
        refine lp0 3 ?_
        intro _ _ _ _ _
        refine jcmp op_inD (jv 3 (jix ix_tup (jix ix_tup (jv 0 (je_int (od_ixT (d := .tuple (lots.map lotD)) rfl (jv 2 (od_ixT (lot_atI (lots := lots) (a := (y : Int)) (by omega) (by omega)) ?_))))))))
        exact od_inT (α := Int) hr (by decide) ⟨rfl, rfl⟩
      · rw [filter_true]
        exact ⟨lot.map fun x => leB lots x (y : Int), (by rw [List.map_map]; rfl), _, rfl, by rw [List.all_map]; rfl, fun _ => rfl, fun _ _ _ _ _ _ => jv 2 ⟨rfl, rfl⟩⟩
    · rw [map_ofNat]
      exact k
def φU : List Ar → (D → Prop) → Prop := fun as Kd => ∃ (n : Nat) (lots : List (List Int)) (lot : List Int), as = [.d (ordD n lots), .d (lotD lot)] ∧ lots.length = n ∧ n ≤ 1000 ∧ lot.length ≤ 1000 ∧ inR n lot ∧ Kd (lotD (downs n lots lot))
def φJ : List Ar → (D → Prop) → Prop := fun as Kd => ∃ (n : Nat) (lots : List (List Int)) (lot : List Int), as = [.d (ordD n lots), .d (lotD lot)] ∧ lots.length = n ∧ n ≤ 1000 ∧ lot.length ≤ 1000 ∧ Kd (optD (joinO n lots lot))
def φM : List Ar → (D → Prop) → Prop := fun as Kd => ∃ (n : Nat) (lots : List (List Int)) (lot : List Int), as = [.d (ordD n lots), .d (lotD lot)] ∧ lots.length = n ∧ n ≤ 1000 ∧ lot.length ≤ 1000 ∧ inR n lot ∧ Kd (optD (meetO n lots lot))
/-- is an order a lattice -/
def isLatB (n : Nat) (lots : List (List Int)) : Bool := (List.range n).all fun x => (List.range (x + 1)).all fun y => (joinO n lots [(x : Int), (y : Int)]).isSome && (meetO n lots [(x : Int), (y : Int)]).isSome
theorem isNone_opt (o : Option Int) : isNone (optD o) = !o.isSome := by cases o <;> rfl
def φOrd (g : Nat → List (List Int) → D) : List Ar → (D → Prop) → Prop := fun as Kd => ∃ (n : Nat) (lots : List (List Int)), as = [.d (ordD n lots)] ∧ lots.length = n ∧ n ≤ 1000 ∧ Kd (g n lots)
/-! ### the law's own looks -/
def φUn : List Ar → (D → Prop) → Prop := fun as Kd => ∃ (n : Nat) (lots : List (List Int)) (x y : Int), as = [.d (ordD n lots), .d (.int x), .d (.int y)] ∧ lots.length = n ∧ 0 ≤ y ∧ y < n ∧ Kd (.bool (leB lots x y))
theorem ok_law_under {f : Addr} {fd : FuncData} (F : Fun K "_law_under" "_law_under" (topS 29) f fd) : FnOk P w K mg base CX0 1 f fd ["order", "x", "y"] (SpD φUn) := by
  refine fn_D F sc_law_under (fun as Kd h => ?_) (fun as Kd r cdv A outer s H E hr h => ?_)
  · obtain ⟨n, lots, x, y, rfl, _⟩ := h
    rfl
  · obtain ⟨n, lots, x, y, rfl, hn, h0, h1, k⟩ := h
    have nd := sc_law_under.nd
    refine jret (jcmp op_inD (jv 1 (jix ix_tup (jix ix_tup (jv 0 (je_int (od_ixT (d := .tuple (lots.map lotD)) rfl (jv 2 (od_ixT (lot_atI (lots := lots) (a := y) h0 (by omega)) ?_)))))))))
    exact od_inT (α := Int) hr (by decide) k
theorem isEmpty_filter_not {α : Type} (l : List α) (p : α → Bool) : (l.filter fun x => !p x).isEmpty = l.all p := by
  induction l with
  | nil => rfl
  | cons x l ih =>
    rw [List.filter_cons, List.all_cons]
    cases p x with
    | true => simpa using ih
    | false => rfl
theorem isEmpty_map {α β : Type} (l : List α) (g : α → β) : (l.map g).isEmpty = l.isEmpty := by cases l <;> rfl
theorem ok_law_all_above {f fN : Addr} {fd fdN : FuncData} (F : Fun K "_law_all_above" "_law_all_above" (topS 30) f fd) (T : Txt mg) (NN : Dn K mg "_law_under" (topS 29) ["order", "x", "y"] fN fdN) : FnOk P w K mg base CX0 2 f fd ["order", "lot"] (SpD φA) := by
  refine fn_D F sc_law_all_above (fun as Kd h => ?_) (fun as Kd r cdv A outer s H E hr h => ?_)
  · obtain ⟨n, lots, lot, rfl, _⟩ := h
    rfl
  · obtain ⟨n, lots, lot, rfl, hn, hl, hl2, k⟩ := h
    have nd := sc_law_all_above.nd
    have GN := ok_law_under (P := P) (w := w) (mg := mg) (base := base) NN.F
    refine jret (jtupN T.tup (jlc [("y", 2)] [2] (jrange1 T.ran (jix ix_tup (jv 0 (je_int (od_ixT (d := .int n) rfl ⟨n, rfl, by omega, by omega, ?_⟩)))))))
    refine lcR (fun y => lot.all fun x => leB lots x (y : Int)) (fun i => .int (i : Int)) ?_ ?_ (m := n)
    · intro y hy
      refine lp1 2 ?_
      intro _ _ _ _ _
      refine jtcmp op_eqD (JN.je (jlc [("x", 3)] [3] (jiT (jv 1 ⟨_, rfl, ?_⟩))))
      refine lcL lot .int (fun x => !leB lots x (y : Int)) .int ?_ ?_
      · intro x hx
        refine lp1 3 ?_
        intro _ _ _ _ _
        refine jt_not (jtval (jcall hr NN GN (jA (jv 0 (jA (jv 3 (ja1 (jv 2 ?_))))))))
        exact ⟨n, lots, x, y, rfl, hn, by omega, by omega, _, rfl, rfl, fun _ => rfl, fun _ _ _ _ _ _ => jv 3 ⟨rfl, rfl⟩⟩
      · refine JN.je (jn_lst (jA0 ⟨[], rfl, Nat.zero_le _, od_eqNil hr (nice_map fun a => nice_int a) ⟨_, rfl, ?_⟩⟩))
        rw [isEmpty_map, isEmpty_filter_not]
        exact ⟨rfl, fun _ => rfl, fun _ _ _ _ _ _ => jv 2 ⟨rfl, rfl⟩⟩
    · rw [map_ofNat]
      exact k
theorem ok_law_all_under {f fN : Addr} {fd fdN : FuncData} (F : Fun K "_law_all_under" "_law_all_under" (topS 31) f fd) (T : Txt mg) (NN : Dn K mg "_law_under" (topS 29) ["order", "x", "y"] fN fdN) : FnOk P w K mg base CX0 2 f fd ["order", "lot"] (SpD φU) := by
  refine fn_D F sc_law_all_under (fun as Kd h => ?_) (fun as Kd r cdv A outer s H E hr h => ?_)
  · obtain ⟨n, lots, lot, rfl, _⟩ := h
    rfl
  · obtain ⟨n, lots, lot, rfl, hn, hl, hl2, hR, k⟩ := h
    have nd := sc_law_all_under.nd
    have GN := ok_law_under (P := P) (w := w) (mg := mg) (base := base) NN.F
    refine jret (jtupN T.tup (jlc [("x", 2)] [2] (jrange1 T.ran (jix ix_tup (jv 0 (je_int (od_ixT (d := .int n) rfl ⟨n, rfl, by omega, by omega, ?_⟩)))))))
    refine lcR (fun x => lot.all fun y => leB lots (x : Int) y) (fun i => .int (i : Int)) ?_ ?_ (m := n)
    · intro x hx
      refine lp1 2 ?_
      intro _ _ _ _ _
      refine jtcmp op_eqD (JN.je (jlc [("y", 3)] [3] (jiT (jv 1 ⟨_, rfl, ?_⟩))))
      refine lcL lot .int (fun y => !leB lots (x : Int) y) .int ?_ ?_
      · intro y hy
        have := hR y hy
        refine lp1 3 ?_
        intro _ _ _ _ _
        refine jt_not (jtval (jcall hr NN GN (jA (jv 0 (jA (jv 2 (ja1 (jv 3 ?_))))))))
        exact ⟨n, lots, x, y, rfl, hn, by omega, by omega, _, rfl, rfl, fun _ => rfl, fun _ _ _ _ _ _ => jv 3 ⟨rfl, rfl⟩⟩
      · refine JN.je (jn_lst (jA0 ⟨[], rfl, Nat.zero_le _, od_eqNil hr (nice_map fun a => nice_int a) ⟨_, rfl, ?_⟩⟩))
        rw [isEmpty_map, isEmpty_filter_not]
        exact ⟨rfl, fun _ => rfl, fun _ _ _ _ _ _ => jv 2 ⟨rfl, rfl⟩⟩
    · rw [map_ofNat]
      exact k
theorem ok_law_join {f fA fN : Addr} {fd fdA fdN : FuncData} (F : Fun K "_law_join" "_law_join" (topS 32) f fd) (T : Txt mg) (NA : Dn K mg "_law_all_above" (topS 30) ["order", "lot"] fA fdA) (NN : Dn K mg "_law_under" (topS 29) ["order", "x", "y"] fN fdN) : FnOk P w K mg base CX0 3 f fd ["order", "lot"] (SpD φJ) := by
  refine fn_D F sc_law_join (fun as Kd h => ?_) (fun as Kd r cdv A outer s H E hr h => ?_)
  · obtain ⟨n, lots, lot, rfl, _⟩ := h
    rfl
  · obtain ⟨n, lots, lot, rfl, hn, hl, hl2, k⟩ := h
    have nd := sc_law_join.nd
    have GN := ok_law_under (P := P) (w := w) (mg := mg) (base := base) NN.F
    refine jset 2 (jcall hr NA (ok_law_all_above NA.F T NN) (jA (jv 0 (ja1 (jv 1 ⟨n, lots, lot, rfl, hn, hl, hl2, ?_⟩)))))
    refine jsetLc 3 [("x", 4)] [4] (jiT (jv 2 ⟨_, rfl, ?_⟩))
    have hR := ups_inR n lots lot
    have hlen := ups_len n lots lot
    generalize hU : ups n lots lot = up at *
    refine lcL up .int (fun x => up.all fun y => leB lots x y) .int ?_ ?_
    · intro x hx
      have := hR x hx
      refine lp1 4 ?_
      intro _ _ _ _ _
      refine jtcmp op_eqD (JN.je (jlc [("y", 5)] [5] (jiT (jv 2 ⟨_, rfl, ?_⟩))))
      refine lcL up .int (fun y => !leB lots x y) .int ?_ ?_
      · intro y hy
        have := hR y hy
        refine lp1 5 ?_
        intro _ _ _ _ _
        refine jt_not (jtval (jcall hr NN GN (jA (jv 0 (jA (jv 4 (ja1 (jv 5 ?_))))))))
        exact ⟨n, lots, x, y, rfl, hn, by omega, by omega, _, rfl, rfl, fun _ => rfl, fun _ _ _ _ _ _ => jv 5 ⟨rfl, rfl⟩⟩
      · refine JN.je (jn_lst (jA0 ⟨[], rfl, Nat.zero_le _, od_eqNil hr (nice_map fun a => nice_int a) ⟨_, rfl, ?_⟩⟩))
        rw [isEmpty_map, isEmpty_filter_not]
        exact ⟨rfl, fun _ => rfl, fun _ _ _ _ _ _ => jv 4 ⟨rfl, rfl⟩⟩
    · refine jret (je_ife (jtcmp op_neD (jo 3 (JN.je (jn_lst (jA0 ⟨[], rfl, Nat.zero_le _, od_neNil hr ?_ ⟨_, rfl, ?_⟩⟩))))))
      · exact nice_map fun a => nice_int a
      · have ej : joinO n lots lot = (up.filter fun x => up.all fun y => leB lots x y).head? := by unfold joinO leasts; rw [hU]
        rw [ej] at k
        generalize up.filter (fun x => up.all fun y => leB lots x y) = zs at *
        cases zs with
        | nil => exact iff' rfl (je_non k)
        | cons z zs => exact ift rfl (jix ix_list (jv 3 (je_int (od_ixL (d := .int z) (atI_nat (j := 0) rfl) k))))
theorem ok_law_meet {f fA fN : Addr} {fd fdA fdN : FuncData} (F : Fun K "_law_meet" "_law_meet" (topS 33) f fd) (T : Txt mg) (NA : Dn K mg "_law_all_under" (topS 31) ["order", "lot"] fA fdA) (NN : Dn K mg "_law_under" (topS 29) ["order", "x", "y"] fN fdN) : FnOk P w K mg base CX0 3 f fd ["order", "lot"] (SpD φM) := by
  refine fn_D F sc_law_meet (fun as Kd h => ?_) (fun as Kd r cdv A outer s H E hr h => ?_)
  · obtain ⟨n, lots, lot, rfl, _⟩ := h
    rfl
  · obtain ⟨n, lots, lot, rfl, hn, hl, hl2, hL, k⟩ := h
    have nd := sc_law_meet.nd
    have GN := ok_law_under (P := P) (w := w) (mg := mg) (base := base) NN.F
    refine jset 2 (jcall hr NA (ok_law_all_under NA.F T NN) (jA (jv 0 (ja1 (jv 1 ⟨n, lots, lot, rfl, hn, hl, hl2, hL, ?_⟩)))))
    refine jsetLc 3 [("x", 4)] [4] (jiT (jv 2 ⟨_, rfl, ?_⟩))
    have hR := downs_inR n lots lot
    have hlen := downs_len n lots lot
    generalize hU : downs n lots lot = up at *
    refine lcL up .int (fun x => up.all fun y => leB lots y x) .int ?_ ?_
    · intro x hx
      have := hR x hx
      refine lp1 4 ?_
      intro _ _ _ _ _
      refine jtcmp op_eqD (JN.je (jlc [("y", 5)] [5] (jiT (jv 2 ⟨_, rfl, ?_⟩))))
      refine lcL up .int (fun y => !leB lots y x) .int ?_ ?_
      · intro y hy
        have := hR y hy
        refine lp1 5 ?_
        intro _ _ _ _ _
        refine jt_not (jtval (jcall hr NN GN (jA (jv 0 (jA (jv 5 (ja1 (jv 4 ?_))))))))
        exact ⟨n, lots, y, x, rfl, hn, by omega, by omega, _, rfl, rfl, fun _ => rfl, fun _ _ _ _ _ _ => jv 5 ⟨rfl, rfl⟩⟩
      · refine JN.je (jn_lst (jA0 ⟨[], rfl, Nat.zero_le _, od_eqNil hr (nice_map fun a => nice_int a) ⟨_, rfl, ?_⟩⟩))
        rw [isEmpty_map, isEmpty_filter_not]
        exact ⟨rfl, fun _ => rfl, fun _ _ _ _ _ _ => jv 4 ⟨rfl, rfl⟩⟩
    · refine jret (je_ife (jtcmp op_neD (jo 3 (JN.je (jn_lst (jA0 ⟨[], rfl, Nat.zero_le _, od_neNil hr ?_ ⟨_, rfl, ?_⟩⟩))))))
      · exact nice_map fun a => nice_int a
      · have ej : meetO n lots lot = (up.filter fun x => up.all fun y => leB lots y x).head? := by unfold meetO greats; rw [hU]
        rw [ej] at k
        generalize up.filter (fun x => up.all fun y => leB lots y x) = zs at *
        cases zs with
        | nil => exact iff' rfl (je_non k)
        | cons z zs => exact ift rfl (jix ix_list (jv 3 (je_int (od_ixL (d := .int z) (atI_nat (j := 0) rfl) k))))
/-- a lattice by the pairs of two -/
def isLatL (n : Nat) (lots : List (List Int)) : Bool := (List.range n).all fun x => (List.range x).all fun y => (joinO n lots [(x : Int), (y : Int)]).isSome && (meetO n lots [(x : Int), (y : Int)]).isSome
def turn (n : Nat) (lots : List (List Int)) : List (List Int) := (List.range n).map fun (x : Nat) => ups n lots [(x : Int)]
def within (one other : List Int) : Bool := one.all fun x => decide (x ∈ other)
def φW : List Ar → (D → Prop) → Prop := fun as Kd => ∃ (one other : List Int), as = [.d (lotD one), .d (lotD other)] ∧ one.length ≤ 1000 ∧ Kd (.bool (within one other))
theorem ok_law_within {f : Addr} {fd : FuncData} (F : Fun K "_law_within" "_law_within" (topS 36) f fd) : FnOk P w K mg base CX0 1 f fd ["one", "other"] (SpD φW) := by
  refine fn_D F sc_law_within (fun as Kd h => ?_) (fun as Kd r cdv A outer s H E hr h => ?_)
  · obtain ⟨one, other, rfl, _⟩ := h
    rfl
  · obtain ⟨one, other, rfl, hl, k⟩ := h
    have nd := sc_law_within.nd
    refine jret (jcmp op_eqD (JN.je (jlc [("x", 2)] [2] (jiT (jv 0 ⟨_, rfl, ?_⟩)))))
    refine lcL one .int (fun x => !decide (x ∈ other)) .int ?_ ?_
    · intro x hx
      refine lp1 2 ?_
      intro _ _ _ _ _
      refine jtcmp op_notInD (jv 2 (jv 1 ?_))
      exact od_niT (α := Int) hr (by decide) ⟨_, rfl, rfl, fun _ => rfl, fun _ _ _ _ _ _ => jv 2 ⟨rfl, rfl⟩⟩
    · refine JN.je (jn_lst (jA0 ⟨[], rfl, Nat.zero_le _, od_eqNil hr (nice_map fun a => nice_int a) ?_⟩))
      rw [isEmpty_map, isEmpty_filter_not]
      exact k
def ofLots (ls : List (List Int)) : List (List Int) := ls.map fun one => ((List.range ls.length).filter fun k => within (ls.getD k []) one).map Int.ofNat
theorem enumD_lots (ls : List (List Int)) : enumD (ls.map lotD) = (List.range ls.length).map fun (i : Nat) => PyData.tuple [.int (i : Int), lotD (ls.getD i [])] := by
  unfold enumD
  rw [List.length_map]
  refine List.map_congr_left fun i hi => ?_
  have := List.mem_range.mp hi
  rw [List.getD_eq_getElem?_getD, lot_at this]
  rfl
def φOL : List Ar → (D → Prop) → Prop := fun as Kd => ∃ (ls : List (List Int)), as = [.d (.list (ls.map lotD))] ∧ ls.length ≤ 1000 ∧ (∀ l ∈ ls, l.length ≤ 1000) ∧ Kd (ordD ls.length (ofLots ls))
theorem ok_law_of_lots {f fW : Addr} {fd fdW : FuncData} (F : Fun K "_law_of_lots" "_law_of_lots" (topS 37) f fd) (T : Txt mg) (NW : Dn K mg "_law_within" (topS 36) ["one", "other"] fW fdW) : FnOk P w K mg base CX0 2 f fd ["lots"] (SpD φOL) := by
  refine fn_D F sc_law_of_lots (fun as Kd h => ?_) (fun as Kd r cdv A outer s H E hr h => ?_)
  · obtain ⟨ls, rfl, _⟩ := h
    rfl
  · obtain ⟨ls, rfl, hl, hll, k⟩ := h
    have nd := sc_law_of_lots.nd
    have GW := ok_law_within (P := P) (w := w) (mg := mg) (base := base) NW.F
    refine jret (je_tup (jA (jlen T.len (jv 0 ⟨_, .inl rfl, ja1 ?_⟩))))
    refine jtupN T.tup (jlc [("one", 1)] [1] (jiL (jv 0 ⟨_, rfl, ?_⟩)))
    refine lcL ls lotD (fun _ => true) (fun one => lotD (((List.range ls.length).filter fun k => within (ls.getD k []) one).map Int.ofNat)) ?_ ?_
    · intro one ho
      refine lp0 1 ?_
      intro _ _ _ _ _
      refine jtupN T.tup (jlc [("k", 2), ("late", 3)] [2, 3] (jenum T.enu (jv 0 ⟨_, rfl, ?_⟩)))
      rw [enumD_lots]
      refine lcL (List.range ls.length) (fun (i : Nat) => PyData.tuple [.int (i : Int), lotD (ls.getD i [])]) (fun k => within (ls.getD k []) one) (fun (k : Nat) => .int (k : Int)) ?_ ?_ (by rw [List.length_range]; omega)
      · intro i hi
        have hi' := List.mem_range.mp hi
        refine lp1P 2 3 ?_
        intro _ _ _ _ _
        refine jtval (jcall hr NW GW (jA (jv 3 (ja1 (jv 1 ?_)))))
        refine ⟨ls.getD i [], one, rfl, hll _ ?_, _, rfl, rfl, fun _ => rfl, fun _ _ _ _ _ _ => jv 2 ⟨rfl, rfl⟩⟩
        rw [List.getD_eq_getElem?_getD, List.getElem?_eq_getElem hi']
        exact List.getElem_mem hi'
      · rw [map_ofNat]
        exact ⟨rfl, rfl⟩
    · rw [filter_true]
      refine ⟨_, rfl, by show 2 ≤ sizeLine; decide, ?_⟩
      have e : PyData.tuple [.int ((ls.map lotD).length : Nat), .tuple (ls.map fun one => lotD (((List.range ls.length).filter fun k => within (ls.getD k []) one).map Int.ofNat))] = ordD ls.length (ofLots ls) := by
        unfold ordD ofLots
        rw [List.map_map, List.length_map]
        rfl
      rw [e]
      exact k
end
end K78

namespace K78
open PySem L2 DL
structure Txs (mg : Str → Option Value) : Prop where
  len : mg "len" = none
  max : mg "max" = none
  int : mg "int" = none
  abs : mg "abs" = none
section
variable {P : Program} {w : World} {K : PySem.W.Frag} {mg : Str → Option Value} {base : Heap}
theorem ok_pick {f : Addr} {fd : FuncData} (F : Fun K "_law_pick" "_law_pick" (topS 22) f fd) (T : Txs mg) : FnOk P w K mg base CX0 1 f fd ["source", "many"] (SpD φPick) := by
  have sc := sc_law_pick
  refine F.ok sc (fun vs H Q E h => ?_) (fun cdv A outer s H vs Q E hr h => ?_)
  · obtain ⟨c, as, Kd, fn, ra, ⟨many, rfl, _⟩, _⟩ := h
    rw [ra.length]; rfl
  · obtain ⟨c, as, Kd, fn, ra, ⟨many, rfl, hm, k⟩, q⟩ := h
    have hu := hu_of hr
    cases ra with
    | @cons v1 _ vs1 _ r1 t1 =>
    cases t1 with
    | @cons v2 _ vs2 _ r2 t2 =>
    cases t2
    obtain ⟨p, ep, rfl⟩ := r1
    have r2 : Rp c.F0 v2 (.int many) := r2
    cases r2
    obtain ⟨⟨cs0, a0, b0, c0, h1, h2⟩, f1, f2, b1, b2⟩ := fn.src p ep
    have at0 : At p H H cs0.length := ⟨⟨cs0, a0, b0, c0, rfl, h1, h2⟩, fun _ _ _ _ e => e⟩
    have fin : ∀ {H' : Hp} {n : Nat} (v : Int), At p H H' n → 0 ≤ v → v < (if many > 1 then many else 1) → Q (.int v) H' := fun {H' n} v h v0 v1 => by
      refine q _ _ c.F0 H' (k v v0 v1) ?_ (.int v)
      obtain ⟨⟨cs, x, y, z, _, g1, g2⟩, kk⟩ := h
      refine ⟨Ex.refl _, fun a o e => kk a o ?_ ?_ (fn.fh a o e), fun a o e => kk a o ?_ ?_ (fn.bh a o e), fun _ _ _ => .inl rfl, fun p' ep' => ?_⟩
      · intro z; rw [z, f1] at e; cases e
      · intro z; rw [z, f2] at e; cases e
      · intro z; rw [z, b1] at e; cases e
      · intro z; rw [z, b2] at e; cases e
      · rw [ep] at ep'; cases ep'
        exact ⟨⟨cs, x, y, z, g1, g2⟩, f1, f2, b1, b2⟩
    refine ⟨_, pss_cons (ps_while PassesOwn.never (PW.pt (pw_and (pt_cmpR op_gt (pv 1) pe_int (nomark _)) (pw_and (pt_cmpR op_lt (pe_dget hu (pv 0) pe_str (fun _ _ => rfl)) pe_int (nomark _))
        (pw_and1 (pt_cmpR op_gt (pe_callB call_len_seq (by rfl) T.len PySem.boot_len (pa_cons (pe_dget hu (pv 0) pe_str (fun _ _ => rfl)) pa_nil)) pe_int (nomark _))))))
        (pss_one (ps_dput hu (pv 0) pe_str (pe_bm0 PySem.F.plainAttrs_list PySem.F.slot_list_pop PySem.F.type_list_pop mt_pop (pe_dget hu (pv 0) pe_str (fun _ _ => rfl))) rfl)))
      (pss_cons (ps_set (i := 2) sc.nd rfl (.inl rfl) (pe_dget hu (pv 0) pe_str (fun _ _ => rfl)))
      (pss_cons (ps_if (PW.pt (pw_or (pt_cmpR op_lt (pv 1) pe_int (nomark _)) (pw_or1 (pt_cmpR op_gt (pv 2) pe_int (nomark _)))))
        (pss_cons (ps_dput hu (pv 0) pe_str (pe_op op_fdiv (pv 2) (pe_callB (call_max2 rfl) (by rfl) T.max (by decide +kernel) (pa_cons pe_int (pa_cons (pv 1) pa_nil)))) rfl)
          (pss_one (ps_ret (pe_op op_mod (pe_callTy call_int1 (by rfl) T.int (by decide +kernel) (pa_cons (pv 2) pa_nil)) (pe_callB (call_max2 rfl) (by rfl) T.max (by decide +kernel) (pa_cons pe_int (pa_cons (pv 1) pa_nil))))))) pss_nil)
      (pss_cons (ps_dput hu (pv 0) pe_str (pe_op op_add (pe_dget hu (pv 0) pe_str (fun _ _ => rfl)) pe_int) rfl)
      (pss_cons (ps_set (i := 3) sc.nd rfl (.inl rfl) (pe_op op_mod (pe_callTy call_int1 (by rfl) T.int (by decide +kernel) (pa_cons (pe_op op_add (pe_dget hu (pv 0) pe_str (fun _ _ => rfl)) (pe_op op_mul (pe_dget hu (pv 0) pe_str (fun _ _ => rfl)) pe_int)) pa_nil)) pe_int))
      (pss_cons (ps_set (i := 3) sc.nd rfl (.inl rfl) (pe_op op_mod (pe_callTy call_int1 (by rfl) T.int (by decide +kernel) (pa_cons (pe_op op_add (pe_op op_mul (pv 3) (pv 3)) (pe_op op_mul (pe_dget hu (pv 0) pe_str (fun _ _ => rfl)) pe_int)) pa_nil)) pe_int))
      (pss_cons (ps_dput hu (pv 0) pe_str (pv 3) rfl)
      (pss_one (ps_ret (pe_op op_mod (pe_callTy call_int1 (by rfl) T.int (by decide +kernel) (pa_cons (pe_op op_fdiv (pv 3) pe_int) pa_nil)) (pv 1)))))))))), ?_⟩
    -- the loop
    refine whl (fun m σ H' => σ = [some (.ref p.1), some (.int many), none, none] ∧ At p H H' m) cs0.length ⟨rfl, at0⟩ ?_ ?_
    · rintro m σ H' ⟨rfl, hat⟩
      obtain ⟨⟨cs, x, y, z, el, g1, g2⟩, _⟩ := id hat
      -- left = source['left']
      refine ⟨_, rfl, _, _, rfl, dgL g1, ?_⟩
      -- if many < 2 or left > 1
      have hlast : 0 < (if many > 1 then many else 1) := by split <;> omega
      have thn : ∀ b : Bool, (b = true → tSeq (sDPut (tVar 0) (tC (.str "left")) (tOp (rI CDiv fun i j => .int (i / j)) (tVar 2) (tCB (fun xs H Q => ∃ i j, xs = [.int i, .int j] ∧ Q (.int (if j > i then j else i)) H) (tCons (tC (.int 1)) (tCons (tVar 1) tNil)))))
          (tRet (tOp (rI (fun _ j => 0 < j) fun i j => .int (i % j)) (tCB (fun xs H Q => (∃ i, xs = [.int i] ∧ Q (.int i) H) ∨ ∃ k, xs = [.bl k] ∧ Q (.int (if k then 1 else 0)) H) (tCons (tVar 2) tNil)) (tCB (fun xs H Q => ∃ i j, xs = [.int i, .int j] ∧ Q (.int (if j > i then j else i)) H) (tCons (tC (.int 1)) (tCons (tVar 1) tNil))))) { nx := fun _ H' => Q .non H', rt := Q } [some (.ref p.1), some (.int many), some (.int x), none] H') := fun b _ => by
        refine ⟨.int x, rfl, .int many, rfl, 1, many, rfl, x, _, rfl, rfl, ⟨hlast, ?_⟩, ?_⟩
        · split <;> omega
        · refine ⟨_, rfl, p.1, _, rfl, dpL _ g1, ?_⟩
          refine ⟨_, rfl, Or.inl ⟨x, rfl, .int many, rfl, 1, many, rfl, x, _, rfl, rfl, hlast, ?_⟩⟩
          exact fin _ (hat.put _ _ _) (Int.emod_nonneg _ (by omega)) (Int.emod_lt_of_pos _ hlast)
      refine ⟨_, rfl, many, 2, rfl, rfl, _, rfl, ?_⟩
      refine ite2 (fun h1 => iteT (thn true rfl)) (fun h1 => ?_)
      refine ⟨_, rfl, x, 1, rfl, rfl, _, rfl, ?_⟩
      refine ite2 (fun h2 => thn true rfl) (fun h2 => ?_)
      have hm2 : 1 < many := by
        have := of_decide_eq_false (Bool.not_eq_true _ ▸ h1)
        omega
      -- turn, mixed
      refine ⟨_, rfl, p.1, _, rfl, dgT g1, z, 1, rfl, rfl, _, rfl, p.1, _, rfl, dpT _ g1, ?_⟩
      have hat1 := hat.put x y (z + 1)
      have g3 : (upd H' p.1 (srcO p.2 x y (z + 1))) p.1 = some (srcO p.2 x y (z + 1)) := upd_same
      generalize upd H' p.1 (srcO p.2 x y (z + 1)) = H1 at *
      refine ⟨_, rfl, p.1, _, rfl, dgM g3, _, rfl, p.1, _, rfl, dgT g3, z + 1, 104729, rfl, rfl, .inr ⟨by decide, by decide⟩, y, _, rfl, rfl, Or.inl ⟨_, rfl, _, 998244353, rfl, rfl, by show (0 : Int) < 998244353; decide, ?_⟩⟩
      have e0 := Int.emod_nonneg (y + (z + 1) * 104729) (show (998244353 : Int) ≠ 0 by decide)
      have e1 := Int.emod_lt_of_pos (y + (z + 1) * 104729) (show (0 : Int) < 998244353 by decide)
      refine ⟨.int ((y + (z + 1) * 104729) % 998244353), rfl, .int ((y + (z + 1) * 104729) % 998244353), rfl, ((y + (z + 1) * 104729) % 998244353), ((y + (z + 1) * 104729) % 998244353), rfl, rfl, .inl ⟨by omega, by omega⟩, _, rfl, p.1, _, rfl, dgT g3, z + 1, 17, rfl, rfl, .inr ⟨by decide, by decide⟩, _, _, rfl, rfl, Or.inl ⟨_, rfl, _, 2147483647, rfl, rfl, by show (0 : Int) < 2147483647; decide, ?_⟩⟩
      refine ⟨.int ((((y + (z + 1) * 104729) % 998244353) * ((y + (z + 1) * 104729) % 998244353) + (z + 1) * 17) % 2147483647), rfl, _, rfl, p.1, _, rfl, dpM ((((y + (z + 1) * 104729) % 998244353) * ((y + (z + 1) * 104729) % 998244353) + (z + 1) * 17) % 2147483647) g3, ?_⟩
      refine ⟨.int ((((y + (z + 1) * 104729) % 998244353) * ((y + (z + 1) * 104729) % 998244353) + (z + 1) * 17) % 2147483647), rfl, ((((y + (z + 1) * 104729) % 998244353) * ((y + (z + 1) * 104729) % 998244353) + (z + 1) * 17) % 2147483647), 16, rfl, rfl, ⟨by decide, by decide⟩, Or.inl ⟨_, rfl, _, rfl, _, many, rfl, rfl, by omega, ?_⟩⟩
      have hlast : (if many > 1 then many else 1) = many := if_pos hm2
      refine fin _ (hat1.put _ _ _) (Int.emod_nonneg _ (by omega)) ?_
      rw [hlast]
      exact Int.emod_lt_of_pos _ (by omega)
    · rintro X hX m σ H' ⟨rfl, hat⟩
      obtain ⟨⟨cs, x, y, z, el, g1, g2⟩, _⟩ := id hat
      refine ⟨_, rfl, _, _, rfl, rfl, _, rfl, ?_⟩
      refine ite2 (fun h1 => ?_) (fun h1 => iteF (hX m _ _ ⟨rfl, hat⟩))
      refine ⟨_, rfl, p.1, _, rfl, dgL g1, _, _, rfl, rfl, _, rfl, ?_⟩
      refine ite2 (fun h2 => ?_) (fun h2 => iteF (hX m _ _ ⟨rfl, hat⟩))
      refine ⟨_, rfl, p.1, _, rfl, dgC g1, p.2, _, rfl, Or.inl (Or.inl (Or.inl g2)), _, _, rfl, rfl, _, rfl, ?_⟩
      refine ite2 (fun h3 => ?_) (fun h3 => hX m _ _ ⟨rfl, hat⟩)
      refine ⟨fun σ' H2 => σ' = [some (.ref p.1), some (.int many), none, none] ∧ At p H H2 cs.dropLast.length, fun σ' H2 ⟨e, h⟩ => ⟨cs.dropLast.length, ?_, e, h⟩, ?_⟩
      · have := of_decide_eq_true h3
        rw [List.length_map] at this
        rw [List.length_dropLast]
        omega
      · have hpos : 0 < cs.length := by
          have := of_decide_eq_true h3
          rw [List.length_map] at this
          omega
        refine ⟨_, rfl, p.1, _, rfl, dgC g1, Or.inl ⟨rfl, _, Or.inl (Or.inl g2)⟩, p.2, _, .int (cs.getLast (by intro e; rw [e] at hpos; cases hpos)), rfl, rfl, g2, ?_, ?_⟩
        · rw [List.length_map, List.getElem?_map, ← List.getLast?_eq_getElem?, List.getLast?_eq_some_getLast]
          rfl
        · have hp := hat.pop (cs := cs.dropLast) g1
          have e2 : (cs.map V.int).dropLast = cs.dropLast.map V.int := List.map_dropLast.symm
          rw [e2]
          have g1' : (upd H' p.2 (.lst (cs.dropLast.map V.int))) p.1 = some (srcO p.2 x y z) := by rw [upd_ne hat.ne.symm]; exact g1
          refine ⟨_, rfl, p.1, _, rfl, dpL _ g1', rfl, ?_⟩
          exact hp.put _ _ _
theorem ok_source {f : Addr} {fd : FuncData} (F : Fun K "_law_source" "_law_source" (topS 21) f fd) (T : Txs mg) : FnOk P w K mg base CX0 1 f fd ["script"] (spSource K) := by
  have sc := sc_law_source
  refine F.ok sc (fun vs H Q E h => ?_) (fun cdv A outer s H vs Q E hr h => ?_)
  · obtain ⟨a, ns, rfl, _⟩ := h
    rfl
  · obtain ⟨a, ns, rfl, hS, hl, q⟩ := h
    refine ⟨_, pss_cons (ps_set (i := 1) sc.nd rfl (.inl rfl) pe_int)
      (pss_cons (ps_for PassesOwn.never rfl (pi_list (pv 0)) (pg_name (i := 2) sc.nd rfl (.inl rfl)) (pss_one (ps_set (i := 1) sc.nd rfl (.inl rfl)
        (pe_op op_mod (pe_callTy call_int1 (by rfl) T.int (by decide +kernel) (pa_cons (pe_op op_add (pe_op op_add (pe_op op_mul (pv 1) pe_int) (pe_op op_mul (pv 2) pe_int)) pe_int) pa_nil)) pe_int))))
      (pss_one (ps_ret (pe_disp (pps_cons pe_str (pe_revL (pe_lc (own := [("cell", 2)]) (g := gName 2) (tt := tYes) rfl sc.nd (pi_list (pv 0)) (blkOk_by rfl) (fun _ _ _ _ _ => pg_name (i := 2) sc.nd rfl (Or.inl rfl)) (fun _ _ _ _ _ => pts_nil)
          (fun _ _ _ _ _ => pe_callB call_abs (by rfl) T.abs (by decide +kernel) (pa_cons (pv 2) pa_nil))))
        (pps_cons pe_str pe_int (pps_cons pe_str (pv 1) (pps_cons pe_str pe_int pps_nil)))) rfl rfl (by intro e; cases e) (by decide))))), ?_⟩
    refine ⟨_, rfl, a, rfl, ⟨_, hS⟩, for_list (K := K) (a := a) (xs := ns.map V.int) (fun i σ H' => H' = H ∧ ∃ (m : Int) (y : Option V), 0 ≤ m ∧ m < 2147483629 ∧ σ = [some (.ref a), some (.int m), y]) ⟨rfl, 11, none, by decide, by decide, rfl⟩ (fun i σ H' _ h => by rw [h.1]; exact hS) ?_ ?_⟩
    · rintro i x σ H' hx ⟨rfl, m, y, m0, m1, rfl⟩
      obtain ⟨u, rfl⟩ : ∃ u, x = V.int u := by
        rw [List.getElem?_map] at hx
        cases e : ns[i]? with
        | none => rw [e] at hx; cases hx
        | some u => rw [e] at hx; exact ⟨u, (Option.some.inj hx).symm⟩
      refine ⟨.int m, rfl, m, 69069, rfl, rfl, .inr ⟨by decide, by decide⟩, .int u, rfl, u, 31, rfl, rfl, .inr ⟨by decide, by decide⟩, _, _, rfl, rfl, _, 5, rfl, rfl, Or.inl ⟨_, rfl, _, 2147483629, rfl, rfl, by show (0 : Int) < 2147483629; decide, ?_⟩⟩
      exact ⟨rfl, _, _, Int.emod_nonneg _ (by decide), Int.emod_lt_of_pos _ (by decide), rfl⟩
    · rintro σ H' ⟨rfl, m, y, m0, m1, rfl⟩
      intro p hp
      have s1 : Same H' (upd H' p (.dK [])) := same_upd hp
      refine ⟨_, rfl, a, rfl, ⟨_, s1.seq hS⟩, fun D nD => ?_⟩
      have nDp : D ≠ p := fun e => by rw [e, upd_same] at nD; cases nD
      have nD0 : H' D = none := by rw [upd_ne nDp] at nD; exact nD
      refine lc_list (K := K) (a := a) (xs := ns.map V.int) (fun i H2 => Same H' H2 ∧ H2 p = some (.dK []) ∧ ∃ cs : List Int, cs.length = i ∧ H2 D = some (.lst (cs.map V.int))) ⟨same_upd2 s1 nD0, by rw [upd_ne nDp.symm]; exact upd_same, [], rfl, upd_same⟩ (fun i H2 _ h => h.1.seq hS) ?_ ?_
      · rintro i x H2 hx ⟨sm, hp2, cs, ec, hD⟩
        have hi : i < ns.length := by
          have := (List.getElem?_eq_some_iff.mp hx).1
          rw [List.length_map] at this; exact this
        obtain ⟨u, rfl⟩ : ∃ u, x = V.int u := by
          rw [List.getElem?_map] at hx
          cases e : ns[i]? with
          | none => rw [e] at hx; cases hx
          | some u => rw [e] at hx; exact ⟨u, (Option.some.inj hx).symm⟩
        refine ⟨rfl, ?_⟩
        unfold tYes
        dsimp only
        rw [if_pos rfl]
        refine ⟨.int u, rfl, u, rfl, cs.map V.int, hD, ?_, ?_⟩
        · rw [List.length_map, ec]
          have : sizeLine = 16777216 := sizeLine_eq
          omega
        · refine ⟨same_upd2 sm nD0, by rw [upd_ne nDp.symm]; exact hp2, cs ++ [if u < 0 then -u else u], by rw [List.length_append, ec]; rfl, ?_⟩
          rw [upd_same, List.map_append]
          rfl
      · rintro H2 ⟨sm, hp2, cs, ec, hD⟩
        refine ⟨D, cs.map V.int, rfl, .inl (.inl hD), fun l nl => ?_⟩
        have nlp : l ≠ p := fun e => by rw [e, hp2] at nl; cases nl
        have nl0 : H' l = none := sm.free nl
        refine ⟨.int m, rfl, ?_⟩
        refine ⟨by rw [upd_ne nlp.symm]; exact hp2, [(kC, V.ref l), (kL, .int 1), (kM, .int m), (kT, .int 0)], rfl, by show 4 ≤ 15; decide, ?_⟩
        rw [merge4]
        refine q _ (p, l) (same_upd2 (same_upd2 sm nl0) hp) hp nl0 ⟨cs.reverse, 1, m, 0, upd_same, ?_⟩
        show (upd (upd H2 l _) p _) l = _
        rw [upd_ne nlp, upd_same, List.map_reverse]
end
end K78

namespace K78
open PySem L2 DL
def pairD (p : Nat × Nat) : D := .tuple [.int p.1, .int p.2]
def φClosed : List Ar → (D → Prop) → Prop := fun as Kd => ∃ (n : Nat) (pairs : List (Nat × Nat)), as = [.d (.int n), .d (.list (pairs.map pairD))] ∧ n ≤ 60 ∧ pairs.length ≤ 100000 ∧ (∀ p ∈ pairs, p.1 < n ∧ p.2 < n ∧ p.1 ≠ p.2) ∧
  ∀ lots : List (List Int), lots.length = n → (∀ y, y < n → (lots.getD y []).Perm ((closedU n pairs).getD y []) ∧ (lots.getD y []).Pairwise (· ≤ ·)) → Kd (ordD n lots)
theorem lapsU_get {n : Nat} {pairs : List (Nat × Nat)} (hp : ∀ p ∈ pairs, p.1 < n) (k : Nat) : WfU n (lapsU pairs k (startU n)) := wfU_laps (wfU_start n) hp k
section
variable {P : Program} {w : World} {K : PySem.W.Frag} {mg : Str → Option Value} {base : Heap}
theorem bDict : bootBuiltins "dict" = some (.type "dict") := by decide +kernel
theorem bSorted : bootBuiltins "sorted" = some (.builtin "sorted") := by decide +kernel
structure Txd (mg : Str → Option Value) : Prop where
  dct : mg "dict" = none
  srt : mg "sorted" = none
theorem ok_closed {f : Addr} {fd : FuncData} (F : Fun K "_law_closed" "_law_closed" (topS 27) f fd) (T : Txt mg) (T2 : Txd mg) : FnOk P w K mg base CX0 1 f fd ["n", "pairs"] (SpD φClosed) := by
  have sc := sc_law_closed
  refine F.ok sc (fun vs H Q E h => ?_) (fun cdv A outer s H vs Q E hr h => ?_)
  · obtain ⟨c, as, Kd, fn, ra, ⟨n, pairs, rfl, _⟩, _⟩ := h
    rw [ra.length]; rfl
  · obtain ⟨c, as, Kd, fn, ra, ⟨n, pairs, rfl, hn, hpl, hpp, k⟩, q⟩ := h
    cases ra with
    | @cons v1 _ vs1 _ r1 t1 =>
    cases t1 with
    | @cons v2 _ vs2 _ r2 t2 =>
    cases t2
    have r1 : Rp c.F0 v1 (.int n) := r1
    have r2 : Rp c.F0 v2 (.list (pairs.map pairD)) := r2
    cases r1
    cases r2 with
    | @lst pa pvs _ hpa hpv =>
    have hP : ∀ {H' : Hp}, Same H H' → SqL K H' pa pvs := fun {H'} s => .inl (.inl (s _ _ (fn.fh _ _ hpa)))
    have hlp : pvs.length = pairs.length := by rw [hpv.length, List.length_map]
    refine ⟨_, pss_cons (ps_setLc (i := 2) (own := [("y", 5)]) (g := gName 5) (tt := tYes) rfl sc.nd rfl rfl (sw_true rfl rfl rfl (by decide +kernel)) (pi_range1 (by rfl) T.ran (pa_cons (pv 0) pa_nil)) (blkOk_by rfl) (fun _ _ _ _ _ => pg_name (i := 5) sc.nd rfl (Or.inl rfl)) (fun _ _ _ _ _ => pts_nil)
        pe_tEb)
      (pss_cons (ps_for PassesOwn.never rfl (pi_range1 (by rfl) T.ran (pa_cons (pv 0) pa_nil)) (pg_name (i := 3) sc.nd rfl (.inl rfl)) (pss_one (ps_for PassesOwn.never rfl (pi_list (pv 1)) (pg_tup rfl (pgs_cons (pg_name (i := 4) sc.nd rfl (.inl rfl)) (pgs_cons (pg_name (i := 5) sc.nd rfl (.inl rfl)) pgs_nil)))
          (pss_one (ps_expr (pe_bm PySem.F.plainAttrs_dict PySem.F.slot_dict_update PySem.F.type_dict_update mt_updK (pe_ix ix_list (pv 2) (pv 5) (fun _ _ => rfl)) (pa_cons (pe_ix ix_list (pv 2) (pv 4) (fun _ _ => rfl)) pa_nil)))))))
      pss_tSs), ?_⟩
    -- under = [dict([(y, 0)]) for y in range(n)]
    refine ⟨_, rfl, (n : Int), rfl, by omega, by omega, fun u nu => ?_⟩
    have hnn : (n : Int).toNat = n := by omega
    rw [hnn]
    refine lc_range (lo := 0) (n := n) (fun i H2 => ∃ ds, UAt H H2 u ds ((startU n).take i)) ⟨[], ⟨same_upd nu, nu, fun _ h => (by cases h), List.nodup_nil, (by simp), (by simp), upd_same, fun i d k e => (by simp at e)⟩⟩ ?_ ?_
    · rintro i H2 hi ⟨ds, hU⟩
      refine ⟨rfl, ?_⟩
      unfold tYes
      dsimp only
      rw [if_pos rfl]
      intro s1 H1 C1 cl1 fp1
      refine of_pe (pe_callTy (call_dictP rfl) (by rfl) T2.dct bDict (pa_cons (pe_lst (pa_cons (pe_tup (pa_cons (pv 5) (pa_cons pe_int pa_nil))) pa_nil)) pa_nil)) ?_
      refine ⟨_, rfl, by show 2 ≤ sizeLine; decide, fun t nt => ?_⟩
      refine ⟨by show 1 ≤ sizeLine; decide, fun l nl => ?_⟩
      have ntl : t ≠ l := fun e => by rw [← e, upd_same] at nl; cases nl
      refine ⟨l, [t], [(Sum.inl (0 + (i : Int)), V.int 0)], rfl, .inl (.inl upd_same), .cons (.inl (.inl ?_)) .nil, fun d ndd => ?_⟩
      · rw [upd_ne ntl]; exact upd_same
      have hU2 := (hU.new nt (o := .tup [.int (0 + (i : Int)), .int 0])).new nl (o := .lst [.ref t])
      have hU3 := hU2.app ndd (k := [(i : Int)])
      refine ⟨ds.map V.ref, ?_, ?_, ds ++ [d], ?_⟩
      · have hdu : u ≠ d := fun e => by rw [← e, hU2.lst] at ndd; cases ndd
        rw [upd_ne hdu]; exact hU2.lst
      · rw [List.length_map, hU.len, List.length_take]
        have : sizeLine = 16777216 := sizeLine_eq
        omega
      · have e1 : mergeK [] [((Sum.inl (0 + (i : Int)) : Key), V.int 0)] = kvI [(i : Int)] := by
          rw [Int.zero_add]; rfl
        rw [e1]
        have e2 : (startU n).take (i + 1) = (startU n).take i ++ [[(i : Int)]] := by
          have hl : i < (startU n).length := by unfold startU; rw [List.length_map, List.length_range]; exact hi
          have e : (startU n)[i]? = some [(i : Int)] := by
            unfold startU
            rw [List.getElem?_map, List.getElem?_range hi]
            rfl
          rw [List.take_add_one, e]
          rfl
        rw [e2]
        have e3 : (ds.map V.ref) ++ [V.ref d] = (ds ++ [d]).map V.ref := by rw [List.map_append]; rfl
        rw [e3]
        exact hU3
    rintro H2 ⟨ds, hU⟩
    have eT : (startU n).take n = startU n := List.take_of_length_le (by unfold startU; rw [List.length_map, List.length_range]; exact Nat.le_refl _)
    rw [eT] at hU
    have hl0 : (startU n).length = n := by unfold startU; rw [List.length_map, List.length_range]
    have hp1 : ∀ p ∈ pairs, p.1 < n := fun p hp => (hpp p hp).1
    -- n laps
    refine ⟨_, rfl, (n : Int), rfl, by omega, by omega, ?_⟩
    rw [hnn]
    refine for_range (lo := 0) (n := n) (fun i σ H3 => ∃ s3 s4 s5, σ = [some (.int (n : Int)), some (.ref pa), some (.ref u), s3, s4, s5, none] ∧ ∃ ds, UAt H H3 u ds (lapsU pairs i (startU n))) ⟨none, none, none, rfl, ds, hU⟩ ?_ ?_
    · rintro i σ H3 hi ⟨s3, s4, s5, rfl, ds, hU⟩
      refine ⟨_, rfl, pa, rfl, ⟨pvs, hP hU.same⟩, ?_⟩
      refine for_list (K := K) (a := pa) (xs := pvs) (fun j σ H4 => ∃ s4 s5, σ = [some (.int (n : Int)), some (.ref pa), some (.ref u), some (.int (0 + (i : Int))), s4, s5, none] ∧ ∃ ds, UAt H H4 u ds ((pairs.take j).foldl stepU (lapsU pairs i (startU n)))) ⟨s4, s5, rfl, ds, hU⟩ (fun j σ H4 _ ⟨_, _, _, _, h⟩ => hP h.same) ?_ ?_
      · rintro j x σ H4 hx ⟨s4, s5, rfl, ds, hU⟩
        have hj : j < pairs.length := by
          have := (List.getElem?_eq_some_iff.mp hx).1
          omega
        obtain ⟨d, e1, rp⟩ := hpv.get hx
        rw [List.getElem?_map, List.getElem?_eq_getElem hj] at e1
        cases e1
        have hpr := hpp _ (List.getElem_mem hj)
        have tk : pairs.take (j + 1) = pairs.take j ++ [pairs[j]] := by rw [List.take_add_one, List.getElem?_eq_getElem hj]; rfl
        have wf : WfU n ((pairs.take j).foldl stepU (lapsU pairs i (startU n))) := WfU.lap (pairs := pairs.take j) (lapsU_get hp1 i) fun p hp => hp1 p (List.mem_of_mem_take hp)
        generalize hw : (pairs.take j).foldl stepU (lapsU pairs i (startU n)) = us at *
        rcases hq : pairs[j] with ⟨x1, y1⟩
        rw [hq] at rp hpr tk
        simp only at hpr
        cases rp with
        | @tup t ws _ ht hws =>
        cases hws with
        | @cons w1 _ ws1 _ k1 kt =>
        cases kt with
        | @cons w2 _ ws2 _ k2 kt2 =>
        cases kt2
        cases k1
        cases k2
        have hT : H4 t = some (.tup [.int (x1 : Int), .int (y1 : Int)]) := hU.same _ _ (fn.fh _ _ ht)
        refine ⟨t, _, rfl, .inl (.inl hT), rfl, _, _, rfl, _, _, rfl, rfl, ?_⟩
        -- under[y].update(under[x])
        have hx1 : x1 < ds.length := by rw [hU.len, wf.1]; exact hpr.1
        have hy1 : y1 < ds.length := by rw [hU.len, wf.1]; exact hpr.2.1
        have hx2 : x1 < us.length := by rw [wf.1]; exact hpr.1
        have hy2 : y1 < us.length := by rw [wf.1]; exact hpr.2.1
        have gx : (ds.map V.ref)[x1]? = some (.ref ds[x1]) := by rw [List.getElem?_map, List.getElem?_eq_getElem hx1]; rfl
        have gy : (ds.map V.ref)[y1]? = some (.ref ds[y1]) := by rw [List.getElem?_map, List.getElem?_eq_getElem hy1]; rfl
        have kx := hU.dk x1 _ _ (List.getElem?_eq_getElem hx1) (List.getElem?_eq_getElem hx2)
        have ky := hU.dk y1 _ _ (List.getElem?_eq_getElem hy1) (List.getElem?_eq_getElem hy2)
        have hne : ds[y1] ≠ ds[x1] := fun z => hpr.2.2 ((List.getElem_inj hU.dis).mp z).symm
        refine ⟨_, rfl, _, rfl, u, _, _, _, rfl, rfl, .inl (.inl hU.lst), atI_nat gy, Or.inr (Or.inr (Or.inl ⟨rfl, .inl ⟨_, ky⟩⟩)), _, rfl, _, rfl, u, _, _, _, rfl, rfl, .inl (.inl hU.lst), atI_nat gx, ds[y1], ds[x1], _, _, rfl, rfl, hne, ky, kx, ?_, ?_⟩
        · have a1 := (wfU_at wf x1).2.2
          have a2 := (wfU_at wf y1).2.2
          rw [List.getD_eq_getElem?_getD, List.getElem?_eq_getElem hx2] at a1
          rw [List.getD_eq_getElem?_getD, List.getElem?_eq_getElem hy2] at a2
          have b1 : (kvI us[x1]).length = us[x1].length := by unfold kvI; rw [List.length_map]
          have b2 : (kvI us[y1]).length = us[y1].length := by unfold kvI; rw [List.length_map]
          have : sizeLine = 16777216 := sizeLine_eq
          simp only [Option.getD_some] at a1 a2
          omega
        · rw [mergeK_kvI]
          have h2 := hU.upd (i := y1) (d := ds[y1]) (k := mrgI us[y1] us[x1]) (List.getElem?_eq_getElem hy1)
          refine ⟨some _, some _, rfl, ds, ?_⟩
          rw [tk, List.foldl_append, hw]
          show UAt H _ u ds (stepU us (x1, y1))
          unfold stepU
          simp only
          rw [List.getD_eq_getElem?_getD, List.getElem?_eq_getElem hy2, List.getD_eq_getElem?_getD, List.getElem?_eq_getElem hx2]
          exact h2
      · rintro σ H4 ⟨s4, s5, rfl, ds, hU⟩
        refine ⟨_, _, _, rfl, ds, ?_⟩
        rw [List.take_of_length_le (by omega)] at hU
        exact hU
    rintro σ H3 ⟨s3, s4, s5, rfl, ds, hU⟩
    have wf : WfU n (closedU n pairs) := lapsU_get hp1 n
    have hU : UAt H H3 u ds (closedU n pairs) := hU
    generalize closedU n pairs = us at *
    -- the return
    refine of_pss (pss_one (ps_ret (pe_tup (pa_cons (pv 0) (pa_cons pe_tE pa_nil))))) ?_
    refine ⟨_, rfl, ?_⟩
    refine of_pe (pe_tupleOf (by rfl) T.tup pe_tE) ?_
    refine of_pe (pe_lc (own := [("lot", 6)]) rfl sc.nd pi_tI (blkOk_by rfl) pg_tGb pts_tTsb pe_tEb) ?_
    refine of_pi (pi_list (pv 2)) ?_
    refine ⟨_, rfl, u, rfl, ⟨_, .inl (.inl hU.lst)⟩, fun D nD => ?_⟩
    have nDu : D ≠ u := fun z => by rw [z, hU.lst] at nD; cases nD
    have nDd : D ∉ ds := fun hd => by
      obtain ⟨i, hi, e⟩ := List.getElem_of_mem hd
      have hi2 : i < us.length := by rw [← hU.len]; exact hi
      rw [hU.dk i D _ (by rw [List.getElem?_eq_getElem hi, e]) (List.getElem?_eq_getElem hi2)] at nD; cases nD
    have nD0 : H D = none := hU.same.free nD
    have nDB : c.B D = none := fn.bh.back nD0
    have nDs : ∀ q, c.sr = some q → D ≠ q.1 ∧ D ≠ q.2 := fun q eq => by
      obtain ⟨⟨cs, x, y, z, h1, h2⟩, _⟩ := fn.src q eq
      exact ⟨(ne_of_none h1 nD0).symm, (ne_of_none h2 nD0).symm⟩
    have hlen : ds.length = n := by rw [hU.len]; exact wf.1
    refine lc_list (K := K) (a := u) (xs := ds.map V.ref) (fun i H4 => UAt H H4 u ds us ∧ ∃ F vs lots, Fin c F H4 ∧ F D = none ∧ H4 D = some (.lst vs) ∧ RpA F vs (lots.map lotD) ∧ lots.length = i ∧ ∀ y, y < i → (lots.getD y []).Perm (us.getD y []) ∧ (lots.getD y []).Pairwise (· ≤ ·))
      ⟨hU.new nD, c.F0, [], [], (fn.same hU.same).upd (fn.fh.back nD0) nDB nDs, fn.fh.back nD0, upd_same, .nil, rfl, fun y hy => absurd hy (Nat.not_lt_zero _)⟩ (fun i H4 _ h => .inl (.inl h.1.lst)) ?_ ?_
    · rintro i x H4 hx ⟨hU4, F, vs, lots, fn4, nFD, hD, rv, el, hlt⟩
      have hi : i < ds.length := by
        have := (List.getElem?_eq_some_iff.mp hx).1
        rw [List.length_map] at this; exact this
      have hi2 : i < us.length := by rw [← hU.len]; exact hi
      rw [List.getElem?_map, List.getElem?_eq_getElem hi] at hx
      cases hx
      have kd := hU4.dk i _ _ (List.getElem?_eq_getElem hi) (List.getElem?_eq_getElem hi2)
      intro s1 H1 C1 cl1 fp1
      refine of_pg (pg_name (i := 6) sc.nd rfl (Or.inl rfl)) ?_
      refine ⟨rfl, ?_⟩
      intro s2 H2' C2 cl2 fp2
      intro pins9 s9 I9
      refine pts_nil.run pins9 s9 _ _ _ I9 ?_
      unfold tYes
      dsimp only
      rw [if_pos rfl]
      intro s3 H3' C3 cl3 fp3
      refine of_pe (pe_tupleOf (by rfl) T.tup (pe_callB (call_sortedDI rfl) (by rfl) T2.srt bSorted (pa_cons (pv 6) pa_nil))) ?_
      have hk := wfU_at wf i
      have ek : us.getD i [] = us[i] := by rw [List.getD_eq_getElem?_getD, List.getElem?_eq_getElem hi2]; rfl
      rw [ek] at hk
      refine ⟨.ref ds[i], rfl, ds[i], kvI us[i], us[i], rfl, .inl kd, kvI_keys _, by have := hk.2.2; omega, fun ys p hperm hpw np => ?_⟩
      refine Or.inl ⟨p, ys.map V.int, rfl, .inl (.inl upd_same), fun t nt => ?_⟩
      have npD : p ≠ D := fun z => by rw [z, hD] at np; cases np
      have ntp : t ≠ p := fun z => by rw [z, upd_same] at nt; cases nt
      have nt4 : H4 t = none := by rw [upd_ne ntp] at nt; exact nt
      have ntD : t ≠ D := fun z => by rw [z, hD] at nt4; cases nt4
      have np0 : c.B p = none := fn4.bh.back np
      have nps : ∀ q, c.sr = some q → p ≠ q.1 ∧ p ≠ q.2 := fun q eq => by
        obtain ⟨⟨cs, x, y, z, h1, h2⟩, _⟩ := fn4.src q eq
        exact ⟨(ne_of_none h1 np).symm, (ne_of_none h2 np).symm⟩
      have fn5 := (fn4.upd (o := .lst (ys.map V.int)) (fn4.fh.back np) np0 nps).froz nt (o := .tup (ys.map V.int))
      have hU5 := (hU4.new np (o := .lst (ys.map V.int))).new nt (o := .tup (ys.map V.int))
      refine ⟨vs, by rw [upd_ne ntD.symm, upd_ne npD.symm]; exact hD, ?_, hU5.oth nD0 nDu (fun hd => nDd hd), upd F t (.tup (ys.map V.int)), vs ++ [.ref t], lots ++ [ys], fn5.upd ?_ nDB nDs, ?_, upd_same, ?_, ?_, ?_⟩
      · have := rv.length
        rw [List.length_map] at this
        have : sizeLine = 16777216 := sizeLine_eq
        omega
      · rw [upd_ne ntD.symm]; exact nFD
      · rw [upd_ne ntD.symm]; exact nFD
      · rw [List.map_append]
        exact (rv.ex (Ex.new (fn4.fh.back nt4))).append (.one (.tup upd_same (RpA.ints ys)))
      · rw [List.length_append, el]; rfl
      · intro y hy
        by_cases h : y < i
        · have e : (lots ++ [ys]).getD y [] = lots.getD y [] := by rw [List.getD_eq_getElem?_getD, List.getElem?_append_left (by omega), List.getD_eq_getElem?_getD]
          rw [e]
          exact hlt y h
        · have e0 : y = i := by omega
          subst e0
          have e : (lots ++ [ys]).getD y [] = ys := by rw [List.getD_eq_getElem?_getD, List.getElem?_append_right (by omega), el, Nat.sub_self]; rfl
          rw [e, ek]
          exact ⟨hperm, hpw⟩
    · rintro H4 ⟨hU4, F, vs, lots, fn4, nFD, hD, rv, el, hlt⟩
      rw [List.length_map, hlen] at el hlt
      refine Or.inl ⟨D, vs, rfl, .inl (.inl hD), fun t nt => ?_⟩
      have fn5 := fn4.froz nt (o := .tup vs)
      refine ⟨by show 2 ≤ sizeLine; decide, fun t2 nt2 => ?_⟩
      have fn6 := fn5.froz nt2 (o := .tup [.int (n : Int), .ref t])
      refine q _ _ _ _ (k lots el fun y hy => hlt y hy) fn6 ?_
      have x1 : Ex F (upd F t (.tup vs)) := Ex.new (fn4.fh.back nt)
      have x2 : Ex (upd F t (.tup vs)) (upd (upd F t (.tup vs)) t2 (.tup [.int (n : Int), .ref t])) := Ex.new (fn5.fh.back nt2)
      exact .tup upd_same (.cons (.int _) (.one (.tup (x2 _ _ upd_same) (rv.ex (x1.trans x2)))))
end
end K78

namespace K78
open PySem L2 DL
section
variable {P : Program} {w : World} {K : PySem.W.Frag} {mg : Str → Option Value} {base : Heap}
def φOf : List Ar → (D → Prop) → Prop := fun as Kd => ∃ ds : List D, as = [.src, .d (.list ds)] ∧ ds ≠ [] ∧ ds.length ≤ 1000000 ∧ ∀ d ∈ ds, Kd d
theorem pick_at {α : Type} {ds : List α} (h0 : ds ≠ []) {v : Int} (h1 : 0 ≤ v) (h2 : v < (if (ds.length : Int) > 1 then (ds.length : Int) else 1)) : v.toNat < ds.length := by
  have : 0 < ds.length := List.length_pos_iff.mpr h0
  split at h2 <;> omega
def φMix : List Ar → (D → Prop) → Prop := fun as Kd => ∃ ds : List D, as = [.src, .d (.list ds)] ∧ ds.length ≤ 1000000 ∧ ∀ es : List D, es.Perm ds → Kd (.list es)
theorem ok_mixed {f fP : Addr} {fd fdP : FuncData} (F : Fun K "_law_mixed" "_law_mixed" (topS 24) f fd) (T : Txt mg) (T2 : Txs mg) (NP : Dn K mg "_law_pick" (topS 22) ["source", "many"] fP fdP) : FnOk P w K mg base CX0 2 f fd ["source", "things"] (SpD φMix) := by
  refine fn_D F sc_law_mixed (fun as Kd h => ?_) (fun as Kd r cdv A outer s H E hr h => ?_)
  · obtain ⟨ds, rfl, _⟩ := h
    rfl
  · obtain ⟨ds, rfl, hl, k⟩ := h
    have nd := sc_law_mixed.nd
    refine jsetN 2 (jlist T.lst (jv 1 ⟨ds, .inl rfl, ?_⟩))
    refine jret (JN.je (jn_lc [("lap", 3)] [3] rfl nd (blkOk_by rfl) (fun _ => rfl) (by decide) (jrange1 T.ran (je_lenO (xs := ds) 2 T.len ⟨_, rfl, by omega, by omega, ?_⟩))))
    refine ⟨fun i acc S' => ∃ rest, S' = [.src, .val (.list ds), .own rest, .emp] ∧ (acc ++ rest).Perm ds ∧ acc.length = i, ⟨ds, rfl, by simp, rfl⟩, ?_, ?_, ?_⟩
    · rintro i acc S' ⟨rest, rfl, hp, e⟩ hi
      rw [rangeD_length] at hi
      refine ⟨?_, noOwn_of (S := [.src, .val (.list ds), .own rest, .emp]) rfl⟩
      have : sizeLine = 16777216 := sizeLine_eq
      omega
    · rintro i d acc S' hd ⟨rest, rfl, hp, e⟩
      have hi : i < ds.length := by
        have := (List.getElem?_eq_some_iff.mp hd).1
        rw [rangeD_length] at this; omega
      have hlen := hp.length_eq
      rw [List.length_append] at hlen
      have hr0 : rest ≠ [] := fun z => by rw [z] at hlen; simp at hlen; omega
      intro _ _ _ _ _
      refine jg 3 ?_
      intro _ _ _ _ _
      refine jts_nil ?_
      rw [if_pos rfl]
      intro _ _ _ _ _
      refine je_popO 2 (xs0 := rest) rfl (pe_bm PySem.F.plainAttrs_list PySem.F.slot_list_pop PySem.F.type_list_pop mt_popAt (pv 2) (pa_cons pe_tE pa_nil)) ?_
      refine jcall hr NP (ok_pick NP.F T2) (jAs 0 (ja1 (je_lenO (xs := rest) 2 T.len ⟨(rest.length : Nat), rfl, by omega, fun v h1 h2 => ?_⟩)))
      have hv := pick_at hr0 h1 h2
      obtain ⟨j, rfl⟩ : ∃ j : Nat, v = j := ⟨v.toNat, by omega⟩
      have hj : j < rest.length := by omega
      refine ⟨rest, j, rest[j], rfl, rfl, by omega, List.getElem?_eq_getElem hj, rest.eraseIdx j, rfl, ?_, by rw [List.length_append, e]; rfl⟩
      refine List.Perm.trans ?_ hp
      rw [List.append_assoc]
      exact List.Perm.append_left _ (eraseIdx_perm rest j hj)
    · rintro acc S' ⟨rest, rfl, hp, e⟩
      rw [rangeD_length] at e
      have hlen := hp.length_eq
      rw [List.length_append] at hlen
      have : rest = [] := List.length_eq_zero_iff.mp (by omega)
      subst this
      rw [List.append_nil] at hp
      exact k acc hp
end
end K78

namespace K78
open PySem L2 DL
section
variable {P : Program} {w : World} {K : PySem.W.Frag} {mg : Str → Option Value} {base : Heap}
def φLot : List Ar → (D → Prop) → Prop := fun as Kd => ∃ n : Nat, as = [.src, .d (.int n)] ∧ n ≤ 1000 ∧ ∀ lot : List Int, lot.Pairwise (· < ·) → inR n lot → lot.length ≤ n → Kd (lotD lot)
theorem rangeD_ints (n : Nat) : rangeD 0 n = ((List.range n).map Int.ofNat).map .int := by
  rw [rangeD0, List.map_map]; rfl
theorem nodup_range_int (n : Nat) : ((List.range n).map Int.ofNat).Nodup := by
  rw [List.nodup_iff_pairwise_ne, List.pairwise_map]
  exact (List.nodup_iff_pairwise_ne.mp List.nodup_range).imp fun h e => h (Int.ofNat.inj e)
theorem perm_ints {ns : List Int} : ∀ {es : List D}, es.Perm (ns.map .int) → ∃ ms : List Int, es = ms.map .int ∧ ms.Perm ns := fun {es} h => by
  have hm : ∀ d ∈ es, ∃ i, d = PyData.int i := fun d hd => by
    obtain ⟨i, _, rfl⟩ := List.mem_map.mp (h.mem_iff.mp hd)
    exact ⟨i, rfl⟩
  have : ∃ ms : List Int, es = ms.map .int := by
    clear h
    induction es with
    | nil => exact ⟨[], rfl⟩
    | cons d es ih =>
      obtain ⟨i, rfl⟩ := hm d List.mem_cons_self
      obtain ⟨ms, rfl⟩ := ih fun d hd => hm d (List.mem_cons_of_mem _ hd)
      exact ⟨i :: ms, rfl⟩
  obtain ⟨ms, rfl⟩ := this
  refine ⟨ms, rfl, ?_⟩
  let un : D → Int := fun d => match d with
    | .int i => i
    | _ => 0
  have e : ∀ l : List Int, (l.map PyData.int).map un = l := fun l => by
    rw [List.map_map]
    conv => rhs; rw [← List.map_id l]
    rfl
  have h2 := h.map un
  rw [e, e] at h2
  exact h2
theorem cutD_map {α : Type} (enc : α → D) (l : List α) (lo hi : Option Int) : ∃ m : List α, cutD (l.map enc) lo hi = m.map enc ∧ m.Sublist l := by
  unfold cutD
  rw [← List.map_drop, ← List.map_take]
  exact ⟨_, rfl, (List.take_sublist _ _).trans (List.drop_sublist _ _)⟩
theorem sorted_lt {l : List Int} (h : l.Pairwise (· ≤ ·)) (n : l.Nodup) : l.Pairwise (· < ·) := by
  have := h.and (List.nodup_iff_pairwise_ne.mp n)
  exact this.imp fun ⟨a, b⟩ => by omega
end
end K78

namespace K78
open PySem L2 DL
/-! ### orders; what closing makes is one -/
structure IsOrd (n : Nat) (lots : List (List Int)) : Prop where
  len : lots.length = n
  srt : ∀ y, y < n → (lots.getD y []).Pairwise (· < ·)
  rng : ∀ y, y < n → inR n (lots.getD y [])
  rfl : ∀ x : Nat, x < n → (x : Int) ∈ lots.getD x []
  trn : ∀ x y z : Nat, x < n → y < n → z < n → (x : Int) ∈ lots.getD y [] → (y : Int) ∈ lots.getD z [] → (x : Int) ∈ lots.getD z []
  ant : ∀ x y : Nat, x < n → y < n → (x : Int) ∈ lots.getD y [] → (y : Int) ∈ lots.getD x [] → x = y
/-- a way of so many steps -/
inductive Rch (pairs : List (Nat × Nat)) : Nat → Nat → Nat → Prop
  | zero (x) : Rch pairs 0 x x
  | succ {m x y z} : Rch pairs m x y → (y, z) ∈ pairs → Rch pairs (m + 1) x z
theorem Rch.trans {pairs : List (Nat × Nat)} {m x y : Nat} (h : Rch pairs m x y) : ∀ {k z : Nat}, Rch pairs k y z → Rch pairs (m + k) x z := fun {k z} h2 => by
  induction h2 with
  | zero => exact h
  | succ _ hp ih => exact .succ (ih h) hp
theorem Rch.lt {pairs : List (Nat × Nat)} {pos : Nat → Nat} (hp : ∀ p ∈ pairs, pos p.1 < pos p.2) {m x y : Nat} (h : Rch pairs m x y) : pos x + m ≤ pos y := by
  induction h with
  | zero => exact Nat.le_refl _
  | succ _ hm ih => have := hp _ hm; simp only at this; omega
theorem mem_step {u : List (List Int)} {p : Nat × Nat} {x : Int} {y : Nat} : x ∈ (stepU u p).getD y [] ↔ x ∈ u.getD y [] ∨ (y = p.2 ∧ p.2 < u.length ∧ x ∈ u.getD p.1 []) := by
  unfold stepU
  by_cases h : p.2 = y
  · subst h
    by_cases hl : p.2 < u.length
    · rw [List.getD_eq_getElem?_getD, List.getElem?_set_self hl]
      simp only [Option.getD_some]
      rw [mem_mrgI]
      simp [hl]
    · rw [List.set_eq_of_length_le (by omega)]
      constructor
      · exact .inl
      · rintro (h | ⟨_, h, _⟩)
        · exact h
        · exact absurd h hl
  · rw [List.getD_eq_getElem?_getD, List.getElem?_set_ne h, ← List.getD_eq_getElem?_getD]
    constructor
    · exact .inl
    · rintro (h2 | ⟨h2, _, _⟩)
      · exact h2
      · exact absurd h2.symm h
theorem stepU_length (u : List (List Int)) (p : Nat × Nat) : (stepU u p).length = u.length := by unfold stepU; rw [List.length_set]
theorem mem_lap_keep {x : Int} {y : Nat} : ∀ {pairs : List (Nat × Nat)} {u : List (List Int)}, x ∈ u.getD y [] → x ∈ (lapU pairs u).getD y []
  | [], _, h => h
  | p :: ps, u, h => mem_lap_keep (pairs := ps) (u := stepU u p) (mem_step.mpr (.inl h))
theorem lapU_length : ∀ {pairs : List (Nat × Nat)} {u : List (List Int)}, (lapU pairs u).length = u.length
  | [], _ => rfl
  | p :: ps, u => (lapU_length (pairs := ps) (u := stepU u p)).trans (stepU_length u p)
theorem mem_lap_pair {x : Int} {y z : Nat} : ∀ {pairs : List (Nat × Nat)} {u : List (List Int)}, (y, z) ∈ pairs → z < u.length → x ∈ u.getD y [] → x ∈ (lapU pairs u).getD z []
  | p :: ps, u, hm, hz, h => by
    rcases List.mem_cons.mp hm with e | hm
    · subst e
      exact mem_lap_keep (pairs := ps) (mem_step.mpr (.inr ⟨rfl, hz, h⟩))
    · exact mem_lap_pair (pairs := ps) (u := stepU u p) hm (by rw [stepU_length]; exact hz) (mem_step.mpr (.inl h))
/-- sound -/
def SoundU (pairs : List (Nat × Nat)) (u : List (List Int)) : Prop := ∀ (x : Int) (y : Nat), x ∈ u.getD y [] → ∃ (k m : Nat), x = (k : Int) ∧ Rch pairs m k y
theorem sound_lap {all : List (Nat × Nat)} : ∀ {pairs : List (Nat × Nat)} {u : List (List Int)}, (∀ p ∈ pairs, p ∈ all) → SoundU all u → SoundU all (lapU pairs u)
  | [], _, _, h => h
  | p :: ps, u, hm, h => sound_lap (pairs := ps) (u := stepU u p) (fun q hq => hm q (List.mem_cons_of_mem _ hq)) fun x y hx => by
    rcases mem_step.mp hx with hx | ⟨e, _, hx⟩
    · exact h x y hx
    · obtain ⟨k, m, ek, r⟩ := h x p.1 hx
      subst e
      exact ⟨k, m + 1, ek, .succ r (hm p List.mem_cons_self)⟩
theorem sound_laps {pairs : List (Nat × Nat)} {u : List (List Int)} (h : SoundU pairs u) : ∀ k, SoundU pairs (lapsU pairs k u)
  | 0 => h
  | k + 1 => sound_lap (fun _ h => h) (sound_laps h k)
theorem start_getD {n y : Nat} (h : y < n) : (startU n).getD y [] = [(y : Int)] := by
  unfold startU
  rw [List.getD_eq_getElem?_getD, List.getElem?_map, List.getElem?_range h]
  rfl
theorem start_none {n y : Nat} (h : ¬ y < n) : (startU n).getD y [] = [] := by
  unfold startU
  rw [List.getD_eq_getElem?_getD, List.getElem?_eq_none (by rw [List.length_map, List.length_range]; omega)]
  rfl
theorem sound_start (pairs : List (Nat × Nat)) (n : Nat) : SoundU pairs (startU n) := fun x y hx => by
  by_cases h : y < n
  · rw [start_getD h, List.mem_singleton] at hx
    exact ⟨y, 0, hx, .zero y⟩
  · rw [start_none h] at hx; cases hx
theorem laps_length {pairs : List (Nat × Nat)} {u : List (List Int)} : ∀ k, (lapsU pairs k u).length = u.length
  | 0 => rfl
  | k + 1 => by show (lapU pairs (lapsU pairs k u)).length = _; rw [lapU_length, laps_length k]
theorem mem_laps_mono {pairs : List (Nat × Nat)} {u : List (List Int)} {x : Int} {y k : Nat} (h : x ∈ (lapsU pairs k u).getD y []) : ∀ j, x ∈ (lapsU pairs (k + j) u).getD y []
  | 0 => h
  | j + 1 => mem_lap_keep (mem_laps_mono h j)
theorem complete {pairs : List (Nat × Nat)} {n : Nat} (hp : ∀ p ∈ pairs, p.2 < n) {m x y : Nat} (h : Rch pairs m x y) (hx : x < n) : (x : Int) ∈ (lapsU pairs m (startU n)).getD y [] := by
  induction h with
  | zero a => show (a : Int) ∈ (startU n).getD a []; rw [start_getD hx]; exact List.mem_singleton.mpr rfl
  | succ _ hm ih => exact mem_lap_pair hm (by rw [laps_length]; unfold startU; rw [List.length_map, List.length_range]; exact hp _ hm) (ih hx)
theorem mem_closed {pairs : List (Nat × Nat)} {n : Nat} {pos : Nat → Nat} (hp : ∀ p ∈ pairs, p.1 < n ∧ p.2 < n ∧ pos p.1 < pos p.2) (hq : ∀ x, x < n → pos x < n) {x y : Nat} (hx : x < n) (hy : y < n) : (x : Int) ∈ (closedU n pairs).getD y [] ↔ ∃ m, Rch pairs m x y := by
  constructor
  · intro h
    obtain ⟨k, m, e, r⟩ := sound_laps (sound_start pairs n) n x y h
    have : x = k := by omega
    subst this
    exact ⟨m, r⟩
  · rintro ⟨m, h⟩
    have h1 := complete (fun p hm => (hp p hm).2.1) h hx
    have h2 := h.lt (pos := pos) fun p hm => (hp p hm).2.2
    have h3 := hq y hy
    have h4 := mem_laps_mono h1 (n - m)
    have e : m + (n - m) = n := by omega
    rw [e] at h4
    exact h4
theorem closed_isOrd {pairs : List (Nat × Nat)} {n : Nat} {pos : Nat → Nat} (hp : ∀ p ∈ pairs, p.1 < n ∧ p.2 < n ∧ pos p.1 < pos p.2) (hq : ∀ x, x < n → pos x < n)
    {lots : List (List Int)} (hl : lots.length = n) (h : ∀ y, y < n → (lots.getD y []).Perm ((closedU n pairs).getD y []) ∧ (lots.getD y []).Pairwise (· ≤ ·)) : IsOrd n lots := by
  have wf : WfU n (closedU n pairs) := wfU_laps (wfU_start n) (fun p hm => (hp p hm).1) n
  have mem : ∀ {x y : Nat}, x < n → y < n → ((x : Int) ∈ lots.getD y [] ↔ ∃ m, Rch pairs m x y) := fun {x y} hx hy => by
    rw [(h y hy).1.mem_iff]
    exact mem_closed hp hq hx hy
  refine ⟨hl, fun y hy => sorted_lt (h y hy).2 ((h y hy).1.nodup_iff.mpr (wfU_at wf y).1), fun y hy x hx => (wfU_at wf y).2.1 x ((h y hy).1.mem_iff.mp hx), fun x hx => (mem hx hx).mpr ⟨0, .zero x⟩, fun x y z hx hy hz h1 h2 => ?_, fun x y hx hy h1 h2 => ?_⟩
  · obtain ⟨m, r1⟩ := (mem hx hy).mp h1
    obtain ⟨k, r2⟩ := (mem hy hz).mp h2
    exact (mem hx hz).mpr ⟨m + k, r1.trans r2⟩
  · obtain ⟨m, r1⟩ := (mem hx hy).mp h1
    obtain ⟨k, r2⟩ := (mem hy hx).mp h2
    have l1 := r1.lt (pos := pos) fun p hm => (hp p hm).2.2
    have l2 := r2.lt (pos := pos) fun p hm => (hp p hm).2.2
    have : m = 0 := by omega
    subst this
    cases r1
    rfl
end K78

namespace K78
open PySem L2 DL
section
variable {P : Program} {w : World} {K : PySem.W.Frag} {mg : Str → Option Value} {base : Heap}
def φOrder : List Ar → (D → Prop) → Prop := fun as Kd => ∃ most : Nat, as = [.src, .d (.int most)] ∧ 1 ≤ most ∧ most ≤ 60 ∧ ∀ (n : Nat) (lots : List (List Int)), 1 ≤ n → n ≤ most → IsOrd n lots → Kd (ordD n lots)
/-- pairs of things, each before the other in nm -/
def PairsOk (nm : List Nat) (ps : List (Nat × Nat)) : Prop := ∀ p ∈ ps, ∃ i j : Nat, i < j ∧ nm[i]? = some p.1 ∧ nm[j]? = some p.2
def natD (k : Nat) : D := .int (k : Int)
theorem natD_at {nm : List Nat} {i : Nat} (h : i < nm.length) : atI (nm.map natD) (i : Int) = some (.int (nm[i] : Nat)) := by
  refine atI_nn ?_
  rw [List.getElem?_map, List.getElem?_eq_getElem h]; rfl
theorem pairs_isOrd {n : Nat} {nm : List Nat} {ps : List (Nat × Nat)} (hn : nm.Perm (List.range n)) (h : PairsOk nm ps) {lots : List (List Int)} (hl : lots.length = n) (hc : ∀ y, y < n → (lots.getD y []).Perm ((closedU n ps).getD y []) ∧ (lots.getD y []).Pairwise (· ≤ ·)) : IsOrd n lots := by
  have nd : nm.Nodup := hn.nodup_iff.mpr List.nodup_range
  have hlen : nm.length = n := by rw [hn.length_eq, List.length_range]
  have at' : ∀ {i k : Nat}, nm[i]? = some k → k < n ∧ nm.idxOf k = i := fun {i k} e => by
    obtain ⟨hi, e⟩ := List.getElem?_eq_some_iff.mp e
    refine ⟨List.mem_range.mp (hn.mem_iff.mp (by rw [← e]; exact List.getElem_mem hi)), ?_⟩
    rw [← e]
    exact nd.idxOf_getElem i hi
  refine closed_isOrd (pos := fun x => nm.idxOf x) (fun p hp => ?_) (fun x hx => ?_) hl hc
  · obtain ⟨i, j, hij, e1, e2⟩ := h p hp
    obtain ⟨a1, a2⟩ := at' e1
    obtain ⟨b1, b2⟩ := at' e2
    exact ⟨a1, b1, by show nm.idxOf p.1 < nm.idxOf p.2; omega⟩
  · have : x ∈ nm := hn.mem_iff.mpr (List.mem_range.mpr hx)
    have := List.idxOf_lt_length_of_mem this
    show nm.idxOf x < n; omega
theorem pairs_ne {nm : List Nat} {ps : List (Nat × Nat)} {n : Nat} (hn : nm.Perm (List.range n)) (h : PairsOk nm ps) : ∀ p ∈ ps, p.1 < n ∧ p.2 < n ∧ p.1 ≠ p.2 := fun p hp => by
  have nd : nm.Nodup := hn.nodup_iff.mpr List.nodup_range
  obtain ⟨i, j, hij, e1, e2⟩ := h p hp
  obtain ⟨hi, f1⟩ := List.getElem?_eq_some_iff.mp e1
  obtain ⟨hj, f2⟩ := List.getElem?_eq_some_iff.mp e2
  refine ⟨List.mem_range.mp (hn.mem_iff.mp (by rw [← f1]; exact List.getElem_mem hi)), List.mem_range.mp (hn.mem_iff.mp (by rw [← f2]; exact List.getElem_mem hj)), fun e => ?_⟩
  rw [← f1, ← f2] at e
  have := (List.getElem_inj nd).mp e
  omega
theorem ok_order {f fP fX fC : Addr} {fd fdP fdX fdC : FuncData} (F : Fun K "_law_order" "_law_order" (topS 28) f fd) (T : Txt mg) (T2 : Txs mg) (T3 : Txd mg) (NP : Dn K mg "_law_pick" (topS 22) ["source", "many"] fP fdP) (NX : Dn K mg "_law_mixed" (topS 24) ["source", "things"] fX fdX) (NC : Dn K mg "_law_closed" (topS 27) ["n", "pairs"] fC fdC) : FnOk P w K mg base CX0 3 f fd ["source", "most"] (SpD φOrder) := by
  refine fn_D F sc_law_order (fun as Kd h => ?_) (fun as Kd r cdv A outer s H E hr h => ?_)
  · obtain ⟨n, rfl, _⟩ := h
    rfl
  · obtain ⟨most, rfl, hm1, hm2, k⟩ := h
    have nd := sc_law_order.nd
    have GP := ok_pick (P := P) (w := w) (base := base) NP.F T2
    -- n, way, pairs
    refine jpar3N 2 3 4 (je_op op_add (je_int (jcall hr NP GP (jAs 0 (ja1 (jv 1 ⟨(most : Int), rfl, by omega, fun v v0 v1 => ?_⟩))))))
    obtain ⟨n, hn⟩ : ∃ n : Nat, 1 + v = (n : Int) := ⟨(1 + v).toNat, by omega⟩
    have hn1 : 1 ≤ n := by omega
    have hn2 : n ≤ most := by split at v1 <;> omega
    refine od_I0 ?_
    rw [hn]
    clear hn v0 v1
    clear v
    refine jcall hr NP GP (jAs 0 (ja1 (je_int ⟨6, rfl, by decide, fun way _ _ => ?_⟩)))
    refine jn_lst (jA0 ⟨[], rfl, Nat.zero_le _, rfl, rfl, ?_⟩)
    -- names, share
    refine jasg [5, 6] (je_tup (jA (jcall hr NX (ok_mixed NX.F T T2 NP) (jAs 0 (ja1 (JN.je (jn_listRg1 rfl rfl T.lst rfl T.ran rfl rfl (jv 2 ⟨(n : Int), rfl, by unfold RgOk; omega, ?_⟩))))))))
    have en : (n : Int).toNat = n := by omega
    rw [en, rangeD0]
    refine ⟨_, rfl, by simp; omega, fun es hp => ?_⟩
    obtain ⟨nm, rfl, hnm⟩ := perm_of_map hp _ rfl
    clear hp
    have hlen : nm.length = n := by rw [hnm.length_eq, List.length_range]
    refine ja1 (je_op op_add (je_int (jcall hr NP GP (jAs 0 (ja1 (je_int ⟨5, rfl, by decide, fun sh _ _ => od_I0 ?_⟩))))))
    refine ⟨_, rfl, by show 2 ≤ sizeLine; decide, ?_⟩
    refine jgT (jgs (jg 5 (jgs (jg 6 (jgs_nil ?_)))))
    generalize 1 + sh = share
    -- the pairs
    refine jfor [7] (jrange1 T.ran (jv 2 ⟨(n : Int), rfl, by omega, by omega, ?_⟩))
    rw [en]
    refine ⟨fun j S' => ∃ (ps : List (Nat × Nat)) (s7 s8 s9 : Sl), S' = [.src, .val (.int (most : Nat)), .val (.int (n : Nat)), .val (.int way), .own (ps.map pairD), .val (.list (nm.map natD)), .val (.int share), s7, s8, s9, .emp] ∧ PairsOk nm ps ∧ ps.length ≤ j * 60, ⟨[], .emp, .emp, .emp, rfl, (fun p hp => by cases hp), by simp⟩, ?_, ?_⟩
    · rintro j d S' hd ⟨ps, s7, s8, s9, rfl, hps, hpl⟩
      have hj : j < n := by
        have := (List.getElem?_eq_some_iff.mp hd).1
        rw [rangeD_length] at this; exact this
      rw [rangeD_get hj] at hd
      cases hd
      refine jg 7 ?_
      refine jfor [8] (jrange1 T.ran (jv 7 ⟨0 + (j : Int), rfl, by omega, by omega, ?_⟩))
      have ej : (0 + (j : Int)).toNat = j := by omega
      rw [ej]
      refine ⟨fun i S' => ∃ (ps : List (Nat × Nat)) (s8 s9 : Sl), S' = [.src, .val (.int (most : Nat)), .val (.int (n : Nat)), .val (.int way), .own (ps.map pairD), .val (.list (nm.map natD)), .val (.int share), .val (.int (0 + (j : Int))), s8, s9, .emp] ∧ PairsOk nm ps ∧ ps.length ≤ j * 60 + i, ⟨ps, s8, s9, rfl, hps, by omega⟩, ?_, ?_⟩
      · rintro i d S' hd ⟨ps, s8, s9, rfl, hps, hpl⟩
        have hi : i < j := by
          have := (List.getElem?_eq_some_iff.mp hd).1
          rw [rangeD_length] at this; exact this
        rw [rangeD_get hi] at hd
        cases hd
        refine jg 8 ?_
        refine jset 9 ((jb_or (jcmp op_neD (jv 3 (je_int (od_ne (α := Int) hr (by decide) ⟨rfl, _, rfl⟩)))) (jb_one ?_)).mono ?_)
        · refine je_chain op_lt op_le (pe_chain op_lt op_le pe_tE pe_tE pe_tE) (jv 8 (je_op op_fdiv (jv 2 (je_int (od_I ⟨by decide, by decide⟩ ?_)))))
          refine od_B0 ⟨_, rfl, ifb (fun _ => jv 7 (od_B0 ⟨rfl, _, rfl⟩)) fun _ => ⟨rfl, _, rfl⟩⟩
        rintro _ _ ⟨rfl, b1, rfl⟩
        refine jset 9 ((jb_and (jv 9 ⟨rfl, _, rfl⟩) (jb_one (jb_or (jcmp op_neD (jv 3 (je_int (od_ne (α := Int) hr (by decide) ⟨rfl, _, rfl⟩)))) (jb_or (jcmp op_eqD (jv 8 (je_op op_sub (jv 7 (je_int (od_I0 (od_eq (α := Int) hr (by decide) ⟨rfl, _, rfl⟩)))))))
          (jb_one (jcmp op_eqD (jcall hr NP GP (jAs 0 (ja1 (je_int ⟨9, rfl, by decide, fun v _ _ => je_int (od_eq (α := Int) hr (by decide) ⟨rfl, _, rfl⟩)⟩)))))))))).mono ?_)
        rintro _ _ ⟨rfl, b2, rfl⟩
        refine jifB (JBW.t (jbw_and (jtval (jv 9 ⟨_, rfl, rfl⟩)) (jbw_and1 (JBW.t (jbw_or (jtcmp op_lt (jcall hr NP GP (jAs 0 (ja1 (je_int ⟨6, rfl, by decide, fun v _ _ => jv 6 (od_B0 ⟨_, rfl, rfl⟩)⟩)))))
          (jbw_or1 (JBW.t (jbw_and (jtcmp op_eqD (jv 3 (je_int (od_eq (α := Int) hr (by decide) ⟨_, rfl, rfl⟩)))) (jbw_and1 (jtcmp op_gt (jcall hr NP GP (jAs 0 (ja1 (je_int ⟨3, rfl, by decide, fun v _ _ => je_int (od_B0 ⟨_, rfl, rfl⟩)⟩)))))))))))))) ?_ ?_
        · refine jappend 4 (ps.map pairD) (je_tup (jA (jix ix_list (jv 5 (jv 8 (od_ixL (d := .int (nm[i] : Nat)) ?_ (ja1 (jix ix_list (jv 5 (jv 7 (od_ixL (d := .int (nm[j] : Nat)) ?_ ?_)))))))))))
          · rw [Int.zero_add]; exact natD_at (by omega)
          · rw [Int.zero_add]; exact natD_at (by omega)
          · refine ⟨_, rfl, by show 2 ≤ sizeLine; decide, _, rfl, ?_, jss_nil (jss_nil ⟨ps ++ [(nm[i], nm[j])], _, _, by rw [List.map_append]; rfl, fun p hp => ?_, by rw [List.length_append, List.length_singleton]; omega⟩)⟩
            · rw [List.length_map]
              have : sizeLine = 16777216 := sizeLine_eq
              omega
            · rcases List.mem_append.mp hp with hp | hp
              · exact hps p hp
              · rw [List.mem_singleton.mp hp]
                exact ⟨i, j, hi, List.getElem?_eq_getElem _, List.getElem?_eq_getElem _⟩
        · exact jss_nil (jss_nil ⟨ps, _, _, rfl, hps, by omega⟩)
      · rintro S' ⟨ps, s8, s9, rfl, hps, hpl⟩
        rw [rangeD_length] at hpl
        exact jss_nil ⟨ps, _, _, _, rfl, hps, by omega⟩
    rintro S' ⟨ps, s7, s8, s9, rfl, hps, hpl⟩
    rw [rangeD_length] at hpl
    have hl0 : 0 < nm.length := by omega
    refine jifM (N := fun S' => ∃ (ps : List (Nat × Nat)) (s7 s8 s9 : Sl), S' = [.src, .val (.int (most : Nat)), .val (.int (n : Nat)), .val (.int way), .own (ps.map pairD), .val (.list (nm.map natD)), .val (.int share), s7, s8, s9, .emp] ∧ PairsOk nm ps ∧ ps.length ≤ 4000) (jtcmp op_gt (jv 3 (je_int (od_B0 ⟨_, rfl, rfl⟩)))) ?_ (jss_nil ⟨ps, _, _, _, rfl, hps, by have := Nat.mul_le_mul_right 60 (show n ≤ 60 by omega); omega⟩) ?_
    · refine jsetN 4 (jn_cat (jo 4 (JN.je (jlc [("x", 10)] [10] (jiN (jn_cutL (jv 5 (je_int ⟨1, rfl, _, rfl, ?_⟩))))))))
      rw [show (1 : Int) = ((1 : Nat) : Int) from rfl, cutD_from, ← List.map_drop]
      refine lcL (nm.drop 1) natD (fun _ => true) (fun x => pairD (nm[0], x)) ?_ ?_ (by rw [List.length_drop]; omega)
      · intro x hx
        refine lp0 10 ?_
        intro _ _ _ _ _
        exact je_tup (jA (jix ix_list (jv 5 (je_int (od_ixL (natD_at hl0) (ja1 (jv 10 ⟨_, rfl, (by show 2 ≤ sizeLine; decide), rfl, rfl⟩)))))))
      · rw [filter_true]
        refine ⟨_, _, rfl, rfl, ?_, jss_nil ⟨ps ++ (nm.drop 1).map fun x => (nm[0], x), s7, s8, s9, ?_, fun p hp => ?_, ?_⟩⟩
        · rw [List.length_map, List.length_map, List.length_drop]
          have : sizeLine = 16777216 := sizeLine_eq
          have := Nat.mul_le_mul_right 60 (show n ≤ 60 by omega)
          omega
        · rw [List.map_append, List.map_map]; rfl
        · rcases List.mem_append.mp hp with hp | hp
          · exact hps p hp
          · obtain ⟨x, hx, rfl⟩ := List.mem_map.mp hp
            obtain ⟨k, hk, e⟩ := List.getElem_of_mem hx
            rw [List.length_drop] at hk
            rw [List.getElem_drop] at e
            exact ⟨0, 1 + k, by omega, List.getElem?_eq_getElem hl0, by rw [← e]; exact List.getElem?_eq_getElem (by omega)⟩
        · rw [List.length_append, List.length_map, List.length_drop]
          have := Nat.mul_le_mul_right 60 (show n ≤ 60 by omega)
          omega
    clear hps hpl ps
    rintro S' ⟨ps, s7, s8, s9, rfl, hps, hpl⟩
    refine jifM (N := fun S' => ∃ (ps : List (Nat × Nat)) (s7 s8 s9 : Sl), S' = [.src, .val (.int (most : Nat)), .val (.int (n : Nat)), .val (.int way), .own (ps.map pairD), .val (.list (nm.map natD)), .val (.int share), s7, s8, s9, .emp] ∧ PairsOk nm ps ∧ ps.length ≤ 5000) (jtcmp op_eqD (jv 3 (je_int (od_eq (α := Int) hr (by decide) ⟨_, rfl, rfl⟩)))) ?_ (jss_nil ⟨ps, _, _, _, rfl, hps, by omega⟩) ?_
    · refine jsetN 4 (jn_cat (jo 4 (JN.je (jlc [("x", 10)] [10] (jiN (jn_cutL (jv 5 (je_un un_neg (je_int (ud_neg ⟨_, rfl, _, rfl, ?_⟩))))))))))
      rw [cutD_last, List.dropLast_eq_take, ← List.map_take]
      rw [List.length_map]
      refine lcL (nm.take (nm.length - 1)) natD (fun _ => true) (fun x => pairD (x, nm[nm.length - 1])) ?_ ?_ (by rw [List.length_take]; omega)
      · intro x hx
        refine lp0 10 ?_
        intro _ _ _ _ _
        refine je_tup (jA (jv 10 (ja1 (jix ix_list (jv 5 (je_un un_neg (je_int (ud_neg (od_ixL (d := natD nm[nm.length - 1]) (atI_last ?_) ⟨_, rfl, (by show 2 ≤ sizeLine; decide), rfl, rfl⟩)))))))))
        rw [List.getLast?_eq_getElem?, List.length_map, List.getElem?_map, List.getElem?_eq_getElem (by omega)]
        rfl
      · rw [filter_true]
        refine ⟨_, _, rfl, rfl, ?_, jss_nil ⟨ps ++ (nm.take (nm.length - 1)).map fun x => (x, nm[nm.length - 1]), s7, s8, s9, ?_, fun p hp => ?_, ?_⟩⟩
        · rw [List.length_map, List.length_map, List.length_take]
          have : sizeLine = 16777216 := sizeLine_eq
          omega
        · rw [List.map_append, List.map_map]; rfl
        · rcases List.mem_append.mp hp with hp | hp
          · exact hps p hp
          · obtain ⟨x, hx, rfl⟩ := List.mem_map.mp hp
            obtain ⟨k, hk, e⟩ := List.getElem_of_mem hx
            rw [List.length_take] at hk
            rw [List.getElem_take] at e
            exact ⟨k, nm.length - 1, by omega, by rw [← e]; exact List.getElem?_eq_getElem (by omega), List.getElem?_eq_getElem _⟩
        · rw [List.length_append, List.length_map, List.length_take]
          omega
    clear hps hpl ps
    rintro S' ⟨ps, s7, s8, s9, rfl, hps, hpl⟩
    exact jret (jcall hr NC (ok_closed NC.F T T3) (jA (jv 2 (ja1 (jo 4 ⟨n, ps, rfl, by omega, by omega, pairs_ne hnm hps, fun lots hl hc => k n lots hn1 hn2 (pairs_isOrd hnm hps hl hc)⟩)))))
end
end K78

namespace K78
open PySem L2 DL
/-- the things of one that are in a lot -/
def interL (one lot : List Int) : List Int := one.filter fun x => decide (x ∈ lot)
def foundS (f : List (List Int)) (lot : List Int) : List (List Int) := uni f (uni [] (f.map fun one => interL one lot))
def rangeI (n : Nat) : List Int := (List.range n).map Int.ofNat
def foundU (n : Nat) (lots : List (List Int)) : List (List Int) := lots.foldl foundS [rangeI n]
def cutEnc (one : List Int) : D := .tuple [.int (one.length : Nat), lotD one]
def cutLe : List Int → List Int → Bool := PySem.W.dataLe false cutEnc
theorem foundS_len (f : List (List Int)) (lot : List Int) : (foundS f lot).length ≤ 2 * f.length := by
  unfold foundS
  have h1 := uni_len (uni [] (f.map fun one => interL one lot)) f
  have h2 := uni_len (f.map fun one => interL one lot) ([] : List (List Int))
  rw [List.length_map, List.length_nil] at h2
  omega
theorem found_take {n : Nat} {lots : List (List Int)} {j : Nat} {lot : List Int} (h : lots[j]? = some lot) : (lots.take (j + 1)).foldl foundS [rangeI n] = foundS ((lots.take j).foldl foundS [rangeI n]) lot := by
  rw [List.take_add_one, h, List.foldl_append]
  rfl
theorem found_len (n : Nat) (lots : List (List Int)) : ∀ j, ((lots.take j).foldl foundS [rangeI n]).length ≤ 2 ^ j
  | 0 => by simp
  | j + 1 => by
    have h := found_len n lots j
    cases e : lots[j]? with
    | none =>
      rw [List.take_add_one, e, Option.toList, List.append_nil]
      rw [Nat.pow_succ]; omega
    | some lot =>
      rw [found_take e]
      have := foundS_len ((lots.take j).foldl foundS [rangeI n]) lot
      rw [Nat.pow_succ]; omega
theorem found_ne {n : Nat} {lots : List (List Int)} : rangeI n ∈ lots.foldl foundS [rangeI n] := by
  suffices h : ∀ (ls : List (List Int)) (f : List (List Int)), rangeI n ∈ f → rangeI n ∈ ls.foldl foundS f from h lots _ (List.mem_singleton.mpr rfl)
  intro ls
  induction ls with
  | nil => exact fun f h => h
  | cons l ls ih => exact fun f h => ih _ ((mem_uni _ _).mpr (.inl h))
theorem interL_len (one lot : List Int) : (interL one lot).length ≤ one.length := List.length_filter_le _ _
theorem found_lens {n : Nat} : ∀ {lots f : List (List Int)}, (∀ l ∈ f, l.length ≤ n) → ∀ l ∈ lots.foldl foundS f, l.length ≤ n
  | [], _, h => h
  | lot :: lots, f, h => found_lens (lots := lots) (f := foundS f lot) fun l hl => by
    unfold foundS at hl
    rw [mem_uni, mem_uni] at hl
    rcases hl with hl | hl | hl
    · exact h l hl
    · cases hl
    · obtain ⟨o, ho, rfl⟩ := List.mem_map.mp hl
      exact Nat.le_trans (interL_len _ _) (h o ho)
theorem keys_kvL (f : List (List Int)) : keysD (kvL f) = f.map lotD := by
  unfold keysD kvL
  rw [List.map_map]
  rfl
section
variable {P : Program} {w : World} {K : PySem.W.Frag} {mg : Str → Option Value} {base : Heap}
def φCuts : List Ar → (D → Prop) → Prop := fun as Kd => ∃ (n : Nat) (lots : List (List Int)), as = [.d (ordD n lots)] ∧ lots.length = n ∧ n ≤ 12 ∧ Kd (.list (((foundU n lots).mergeSort cutLe).map lotD))
theorem ok_cuts {f : Addr} {fd : FuncData} (F : Fun K "_law_cuts" "_law_cuts" (topS 35) f fd) (T : Txt mg) (T3 : Txd mg) : FnOk P w K mg base CX0 1 f fd ["order"] (SpD φCuts) := by
  refine fn_D F sc_law_cuts (fun as Kd h => ?_) (fun as Kd r cdv A outer s H E hr h => ?_)
  · obtain ⟨n, lots, rfl, _⟩ := h
    rfl
  · obtain ⟨n, lots, rfl, hl, hn, k⟩ := h
    have nd := sc_law_cuts.nd
    have hz : sizeLine = 16777216 := sizeLine_eq
    have en : (n : Int).toNat = n := by omega
    refine jsetO 1 (jdict hr T3.dct (JN.je (jn_lst (ja1 (je_tup (jA (je_tupRg1 rfl rfl T.tup rfl T.ran rfl rfl (jix ix_tup (jv 0 (je_int (od_ixT (d := .int n) rfl ⟨(n : Int), rfl, by unfold RgOk; omega, ?_⟩)))))))))))
    refine ja1 (je_int ⟨_, rfl, by show 2 ≤ sizeLine; decide, _, rfl, by show 1 ≤ sizeLine; decide, [(rangeI n, .int 0)], ?_, ?_⟩)
    · rw [en, rangeD_ints]; rfl
    have e0 : mergeD [] [(rangeI n, .int 0)] = kvL [rangeI n] := rfl
    rw [e0]
    refine jfor [2] (jiT (jix ix_tup (jv 0 (je_int (od_ixT (d := .tuple (lots.map lotD)) rfl ⟨_, rfl, ?_⟩)))))
    refine ⟨fun j S' => ∃ s2 : Sl, S' = [.val (ordD n lots), .ob (.d (kvL ((lots.take j).foldl foundS [rangeI n]))), s2, .emp, .emp, .emp], ⟨.emp, rfl⟩, ?_, ?_⟩
    · rintro j d S' hd ⟨s2, rfl⟩
      rw [List.getElem?_map] at hd
      cases el : lots[j]? with
      | none => rw [el] at hd; cases hd
      | some lot =>
        rw [el] at hd
        cases hd
        have hj := (List.getElem?_eq_some_iff.mp el).1
        refine jg 2 ?_
        have hfl := found_len n lots j
        have hne : (lots.take j).foldl foundS [rangeI n] ≠ [] := fun z => by
          have := found_ne (n := n) (lots := lots.take j)
          rw [z] at this; cases this
        have hlens : ∀ l ∈ (lots.take j).foldl foundS [rangeI n], l.length ≤ n := found_lens fun l hl => by
          rw [List.mem_singleton.mp hl]; unfold rangeI; rw [List.length_map, List.length_range]; exact Nat.le_refl _
        have hpow : 2 ^ j ≤ 2 ^ 12 := Nat.pow_le_pow_right (by decide) (by omega)
        have hft := found_take (n := n) el
        generalize (lots.take j).foldl foundS [rangeI n] = f at *
        refine jupd hr 1 (kvL f) (JO.je (jdict hr T3.dct (JN.je (jn_lcK 1 [("one", 3)] [3] rfl ⟨fun i acc S' => S' = [.val (ordD n lots), .emp, .val (lotD lot), .emp, .emp, .emp] ∧ acc = (f.take i).map fun one => entD (interL one lot, .int 0), ⟨rfl, rfl⟩, ?_, ?_, ?_⟩))))
        · rintro i acc S' ⟨rfl, rfl⟩ hi
          rw [kvL_length] at hi
          refine ⟨?_, rfl, noOwn_of (S := [.val (ordD n lots), .emp, .val (lotD lot), .emp, .emp, .emp]) rfl⟩
          rw [List.length_map, List.length_take]
          omega
        · rintro i d acc S' hd ⟨rfl, rfl⟩
          rw [keys_kvL, List.getElem?_map] at hd
          cases eo : f[i]? with
          | none => rw [eo] at hd; cases hd
          | some one =>
            rw [eo] at hd
            cases hd
            intro _ _ _ _ _
            refine jg 3 ?_
            intro _ _ _ _ _
            refine jts_nil ?_
            rw [if_pos rfl]
            intro _ _ _ _ _
            have hol := hlens one (List.mem_of_getElem? eo)
            refine je_tup (jA (jtupN T.tup (jlc [("x", 4)] [4] (jiT (jv 3 ⟨_, rfl, lcL one .int (fun x => decide (x ∈ lot)) .int ?_ ?_⟩)))))
            · intro x hx
              refine lp1 4 ?_
              intro _ _ _ _ _
              refine jtcmp op_inD (jv 4 (jv 2 (od_inT (α := Int) hr (by decide) ⟨_, rfl, rfl, fun _ => rfl, fun _ _ _ _ _ _ => jv 4 ⟨rfl, rfl⟩⟩)))
            · refine ja1 (je_int ⟨_, rfl, by show 2 ≤ sizeLine; decide, rfl, ?_⟩)
              rw [List.take_add_one, eo, List.map_append]
              rfl
        · rintro acc S' ⟨rfl, rfl⟩
          rw [kvL_length, List.take_length]
          refine ⟨kvL (f.map fun one => interL one lot), by unfold kvL; rw [List.map_map, List.map_map]; rfl, kvL f, kvL (uni [] (f.map fun one => interL one lot)), ?_, rfl, ?_, ?_, jss_nil ⟨.val (lotD lot), ?_⟩⟩
          · have := mergeD_kvL (f.map fun one => interL one lot) []
            show dctD (mergeD (kvL []) _) = _
            rw [this]
          · intro z
            have := congrArg List.length z
            rw [kvL_length] at this
            exact hne (List.length_eq_zero_iff.mp this)
          · rw [kvL_length, kvL_length]
            have h2 := uni_len (f.map fun one => interL one lot) ([] : List (List Int))
            rw [List.length_map, List.length_nil] at h2
            omega
          · rw [mergeD_kvL, hft]
            rfl
    · rintro S' ⟨s2, rfl⟩
      rw [List.length_map, List.take_length]
      have hfl := found_len n lots n
      rw [← hl, List.take_length, hl] at hfl
      have hpow : 2 ^ n ≤ 2 ^ 12 := Nat.pow_le_pow_right (by decide) hn
      have hlens : ∀ l ∈ lots.foldl foundS [rangeI n], l.length ≤ n := found_lens fun l hl => by
        rw [List.mem_singleton.mp hl]; unfold rangeI; rw [List.length_map, List.length_range]; exact Nat.le_refl _
      unfold foundU at k
      generalize lots.foldl foundS [rangeI n] = f at *
      refine jret (JN.je (jlc [("many", 5), ("one", 3)] [5, 3] (jiN (jsorted hr T3.srt (JN.je (jn_lcK 1 [("one", 3)] [3] rfl ⟨fun i acc S' => S' = [.val (ordD n lots), .emp, s2, .emp, .emp, .emp] ∧ acc = (f.take i).map cutEnc, ⟨rfl, rfl⟩, ?_, ?_, ?_⟩))))))
      · rintro i acc S' ⟨rfl, rfl⟩ hi
        rw [kvL_length] at hi
        refine ⟨?_, rfl, noOwn_of (S := [.val (ordD n lots), .emp, s2, .emp, .emp, .emp]) rfl⟩
        rw [List.length_map, List.length_take]
        omega
      · rintro i d acc S' hd ⟨rfl, rfl⟩
        rw [keys_kvL, List.getElem?_map] at hd
        cases eo : f[i]? with
        | none => rw [eo] at hd; cases hd
        | some one =>
          rw [eo] at hd
          cases hd
          intro _ _ _ _ _
          refine jg 3 ?_
          intro _ _ _ _ _
          refine jts_nil ?_
          rw [if_pos rfl]
          intro _ _ _ _ _
          refine je_tup (jA (jlen T.len (jv 3 ⟨_, .inr rfl, ja1 (jv 3 ⟨_, rfl, by show 2 ≤ sizeLine; decide, rfl, ?_⟩)⟩)))
          rw [List.take_add_one, eo, List.map_append, List.length_map]
          rfl
      · rintro acc S' ⟨rfl, rfl⟩
        rw [kvL_length, List.take_length]
        refine ⟨f.map cutEnc, rfl, nice_map fun one => (nice_tup (n := 3) (nice_cons (nice_int _) (nice_cons (nice_lot (k := 2) one) nice_nil))).mono (by decide), PySem.W.AllAlike.of fun a b => ?_, PySem.W.Sortable.tuples fun b => ⟨_, _, rfl⟩, ?_⟩
        · unfold cutEnc lotD
          simp only [PySem.W.alike, PySem.W.alikeAll, PySem.W.alike_ints, Bool.and_self]
        · rw [sort_map (le := cutLe) rfl]
          refine lcL (f.mergeSort cutLe) cutEnc (fun _ => true) lotD ?_ ?_ (by rw [List.length_mergeSort]; omega)
          · intro one ho
            refine lp0P 5 3 ?_
            intro _ _ _ _ _
            exact jv 3 ⟨rfl, rfl⟩
          · rw [filter_true]
            exact k
end
end K78

namespace K78
open PySem L2 DL
/-! ### the plain law -/
theorem leB_iff {lots : List (List Int)} {a b : Nat} : leB lots (a : Int) (b : Int) = true ↔ (a : Int) ∈ lots.getD b [] := by
  unfold leB
  rw [decide_eq_true_eq]
  rfl
theorem nat_of {n : Nat} {x : Int} (h : 0 ≤ x ∧ x < n) : ∃ a : Nat, x = a ∧ a < n := ⟨x.toNat, by omega, by omega⟩
section
variable {n : Nat} {lots : List (List Int)}
theorem IsOrd.le_refl (o : IsOrd n lots) {a : Nat} (h : a < n) : leB lots (a : Int) (a : Int) = true := leB_iff.mpr (o.rfl a h)
theorem IsOrd.le_trans (o : IsOrd n lots) {a b c : Nat} (ha : a < n) (hb : b < n) (hc : c < n) (h1 : leB lots (a : Int) (b : Int) = true) (h2 : leB lots (b : Int) (c : Int) = true) : leB lots (a : Int) (c : Int) = true :=
  leB_iff.mpr (o.trn a b c ha hb hc (leB_iff.mp h1) (leB_iff.mp h2))
theorem IsOrd.le_anti (o : IsOrd n lots) {a b : Nat} (ha : a < n) (hb : b < n) (h1 : leB lots (a : Int) (b : Int) = true) (h2 : leB lots (b : Int) (a : Int) = true) : a = b := o.ant a b ha hb (leB_iff.mp h1) (leB_iff.mp h2)
theorem mem_ups {lot : List Int} {a : Nat} : (a : Int) ∈ ups n lots lot ↔ a < n ∧ ∀ z ∈ lot, leB lots z (a : Int) = true := by
  unfold ups
  rw [List.mem_map]
  constructor
  · rintro ⟨b, hb, e⟩
    have : b = a := Int.ofNat.inj e
    subst this
    rw [List.mem_filter, List.mem_range, List.all_eq_true] at hb
    exact hb
  · intro h
    exact ⟨a, by rw [List.mem_filter, List.mem_range, List.all_eq_true]; exact h, rfl⟩
theorem mem_downs {lot : List Int} {a : Nat} : (a : Int) ∈ downs n lots lot ↔ a < n ∧ ∀ z ∈ lot, leB lots (a : Int) z = true := by
  unfold downs
  rw [List.mem_map]
  constructor
  · rintro ⟨b, hb, e⟩
    have : b = a := Int.ofNat.inj e
    subst this
    rw [List.mem_filter, List.mem_range, List.all_eq_true] at hb
    exact hb
  · intro h
    exact ⟨a, by rw [List.mem_filter, List.mem_range, List.all_eq_true]; exact h, rfl⟩
/-- a join, a meet -/
def Jn (n : Nat) (lots : List (List Int)) (lot : List Int) (j : Nat) : Prop := j < n ∧ (∀ z ∈ lot, leB lots z (j : Int) = true) ∧ ∀ k, k < n → (∀ z ∈ lot, leB lots z (k : Int) = true) → leB lots (j : Int) (k : Int) = true
def Mt (n : Nat) (lots : List (List Int)) (lot : List Int) (j : Nat) : Prop := j < n ∧ (∀ z ∈ lot, leB lots (j : Int) z = true) ∧ ∀ k, k < n → (∀ z ∈ lot, leB lots (k : Int) z = true) → leB lots (k : Int) (j : Int) = true
theorem head_unique {l : List Int} {x : Int} (hx : x ∈ l) (h : ∀ y ∈ l, y = x) : l.head? = some x := by
  cases l with
  | nil => cases hx
  | cons y l => rw [h y List.mem_cons_self]; rfl
theorem mem_leasts {lot : List Int} {a : Nat} : (a : Int) ∈ leasts lots (ups n lots lot) ↔ Jn n lots lot a := by
  unfold leasts Jn
  rw [List.mem_filter, List.all_eq_true, mem_ups]
  constructor
  · rintro ⟨⟨h1, h2⟩, h3⟩
    exact ⟨h1, h2, fun k hk hz => h3 _ (mem_ups.mpr ⟨hk, hz⟩)⟩
  · rintro ⟨h1, h2, h3⟩
    refine ⟨⟨h1, h2⟩, fun y hy => ?_⟩
    obtain ⟨b, rfl, hb⟩ := nat_of (ups_inR n lots lot y hy)
    exact h3 b hb (mem_ups.mp hy).2
theorem mem_greats {lot : List Int} {a : Nat} : (a : Int) ∈ greats lots (downs n lots lot) ↔ Mt n lots lot a := by
  unfold greats Mt
  rw [List.mem_filter, List.all_eq_true, mem_downs]
  constructor
  · rintro ⟨⟨h1, h2⟩, h3⟩
    exact ⟨h1, h2, fun k hk hz => h3 _ (mem_downs.mpr ⟨hk, hz⟩)⟩
  · rintro ⟨h1, h2, h3⟩
    refine ⟨⟨h1, h2⟩, fun y hy => ?_⟩
    obtain ⟨b, rfl, hb⟩ := nat_of (downs_inR n lots lot y hy)
    exact h3 b hb (mem_downs.mp hy).2
theorem joinO_iff (o : IsOrd n lots) {lot : List Int} {j : Nat} : joinO n lots lot = some (j : Int) ↔ Jn n lots lot j := by
  constructor
  · intro h
    exact mem_leasts.mp (List.mem_of_mem_head? h)
  · intro h
    refine head_unique (mem_leasts.mpr h) fun y hy => ?_
    have hr : y ∈ ups n lots lot := (List.mem_filter.mp hy).1
    obtain ⟨b, rfl, hb⟩ := nat_of (ups_inR n lots lot y hr)
    have hb2 := mem_leasts.mp hy
    rw [o.le_anti hb h.1 (hb2.2.2 j h.1 h.2.1) (h.2.2 b hb hb2.2.1)]
theorem meetO_iff (o : IsOrd n lots) {lot : List Int} {j : Nat} : meetO n lots lot = some (j : Int) ↔ Mt n lots lot j := by
  constructor
  · intro h
    exact mem_greats.mp (List.mem_of_mem_head? h)
  · intro h
    refine head_unique (mem_greats.mpr h) fun y hy => ?_
    have hr : y ∈ downs n lots lot := (List.mem_filter.mp hy).1
    obtain ⟨b, rfl, hb⟩ := nat_of (downs_inR n lots lot y hr)
    have hb2 := mem_greats.mp hy
    rw [o.le_anti hb h.1 (h.2.2 b hb hb2.2.1) (hb2.2.2 j h.1 h.2.1)]
theorem joinO_nat {lot : List Int} {x : Int} (h : joinO n lots lot = some x) : ∃ j : Nat, x = j ∧ j < n :=
  nat_of (ups_inR n lots lot x (List.mem_filter.mp (List.mem_of_mem_head? h)).1)
theorem meetO_nat {lot : List Int} {x : Int} (h : meetO n lots lot = some x) : ∃ j : Nat, x = j ∧ j < n :=
  nat_of (downs_inR n lots lot x (List.mem_filter.mp (List.mem_of_mem_head? h)).1)
theorem joinO_some (o : IsOrd n lots) {lot : List Int} : (joinO n lots lot).isSome = true ↔ ∃ j, Jn n lots lot j := by
  constructor
  · intro h
    obtain ⟨x, hx⟩ := Option.isSome_iff_exists.mp h
    obtain ⟨j, rfl, _⟩ := joinO_nat hx
    exact ⟨j, (joinO_iff o).mp hx⟩
  · rintro ⟨j, h⟩
    rw [(joinO_iff o).mpr h]; rfl
theorem meetO_some (o : IsOrd n lots) {lot : List Int} : (meetO n lots lot).isSome = true ↔ ∃ j, Mt n lots lot j := by
  constructor
  · intro h
    obtain ⟨x, hx⟩ := Option.isSome_iff_exists.mp h
    obtain ⟨j, rfl, _⟩ := meetO_nat hx
    exact ⟨j, (meetO_iff o).mp hx⟩
  · rintro ⟨j, h⟩
    rw [(meetO_iff o).mpr h]; rfl
theorem jn_self (o : IsOrd n lots) {x : Nat} (h : x < n) : Jn n lots [(x : Int), (x : Int)] x :=
  ⟨h, fun z hz => by
    have : z = x := by simpa using hz
    rw [this]; exact o.le_refl h, fun k _ hz => hz _ List.mem_cons_self⟩
theorem mt_self (o : IsOrd n lots) {x : Nat} (h : x < n) : Mt n lots [(x : Int), (x : Int)] x :=
  ⟨h, fun z hz => by
    have : z = x := by simpa using hz
    rw [this]; exact o.le_refl h, fun k _ hz => hz _ List.mem_cons_self⟩
theorem isLatL_iff : isLatL n lots = true ↔ ∀ x y : Nat, x < n → y < x → (joinO n lots [(x : Int), (y : Int)]).isSome = true ∧ (meetO n lots [(x : Int), (y : Int)]).isSome = true := by
  unfold isLatL
  simp only [List.all_eq_true, List.mem_range, Bool.and_eq_true]
  exact ⟨fun h x y hx hy => h x hx y hy, fun h x hx y hy => h x y hx hy⟩
theorem isLatB_iff : isLatB n lots = true ↔ ∀ x y : Nat, x < n → y < x + 1 → (joinO n lots [(x : Int), (y : Int)]).isSome = true ∧ (meetO n lots [(x : Int), (y : Int)]).isSome = true := by
  unfold isLatB
  simp only [List.all_eq_true, List.mem_range, Bool.and_eq_true]
  exact ⟨fun h x y hx hy => h x hx y hy, fun h x hx y hy => h x y hx hy⟩
theorem isLat_eq (o : IsOrd n lots) : isLatB n lots = isLatL n lots := by
  rw [Bool.eq_iff_iff, isLatB_iff, isLatL_iff]
  constructor
  · exact fun h x y hx hy => h x y hx (by omega)
  · intro h x y hx hy
    by_cases e : y = x
    · subst e
      exact ⟨(joinO_some o).mpr ⟨y, jn_self o hx⟩, (meetO_some o).mpr ⟨y, mt_self o hx⟩⟩
    · exact h x y hx (by omega)
/-! turned about -/
theorem turn_getD {y : Nat} (h : y < n) : (turn n lots).getD y [] = ups n lots [(y : Int)] := by
  unfold turn
  rw [List.getD_eq_getElem?_getD, List.getElem?_map, List.getElem?_range h]
  rfl
theorem turn_le {a b : Nat} (ha : a < n) (hb : b < n) : leB (turn n lots) (a : Int) (b : Int) = leB lots (b : Int) (a : Int) := by
  rw [Bool.eq_iff_iff, leB_iff, turn_getD hb, mem_ups]
  constructor
  · rintro ⟨_, h⟩
    exact h _ List.mem_cons_self
  · intro h
    exact ⟨ha, fun z hz => by rw [List.mem_singleton.mp hz]; exact h⟩
theorem turn_isOrd (o : IsOrd n lots) : IsOrd n (turn n lots) := by
  refine ⟨by unfold turn; rw [List.length_map, List.length_range], fun y hy => ?_, fun y hy => ?_, fun x hx => ?_, fun x y z hx hy hz h1 h2 => ?_, fun x y hx hy h1 h2 => ?_⟩
  · rw [turn_getD hy]
    unfold ups
    rw [List.pairwise_map]
    exact (List.pairwise_lt_range.filter _).imp fun h => Int.ofNat_lt.mpr h
  · rw [turn_getD hy]; exact ups_inR n lots _
  · exact leB_iff.mp (by rw [turn_le hx hx]; exact o.le_refl hx)
  · have h1 := leB_iff.mpr h1
    have h2 := leB_iff.mpr h2
    rw [turn_le hx hy] at h1
    rw [turn_le hy hz] at h2
    exact leB_iff.mp (by rw [turn_le hx hz]; exact o.le_trans hz hy hx h2 h1)
  · have h1 := leB_iff.mpr h1
    have h2 := leB_iff.mpr h2
    rw [turn_le hx hy] at h1
    rw [turn_le hy hx] at h2
    exact o.le_anti hx hy h2 h1
theorem turn_jn {lot : List Int} (hl : inR n lot) {j : Nat} : Jn n (turn n lots) lot j ↔ Mt n lots lot j := by
  have h1 : ∀ k, k < n → ((∀ z ∈ lot, leB (turn n lots) z (k : Int) = true) ↔ ∀ z ∈ lot, leB lots (k : Int) z = true) := fun k hk => by
    constructor
    · intro h z hz
      obtain ⟨a, rfl, ha⟩ := nat_of (hl z hz)
      rw [← turn_le ha hk]; exact h _ hz
    · intro h z hz
      obtain ⟨a, rfl, ha⟩ := nat_of (hl z hz)
      rw [turn_le ha hk]; exact h _ hz
  unfold Jn Mt
  constructor
  · rintro ⟨a, b, c⟩
    exact ⟨a, (h1 j a).mp b, fun k hk hz => by rw [← turn_le a hk]; exact c k hk ((h1 k hk).mpr hz)⟩
  · rintro ⟨a, b, c⟩
    exact ⟨a, (h1 j a).mpr b, fun k hk hz => by rw [turn_le a hk]; exact c k hk ((h1 k hk).mp hz)⟩
theorem turn_mt {lot : List Int} (hl : inR n lot) {j : Nat} : Mt n (turn n lots) lot j ↔ Jn n lots lot j := by
  have h1 : ∀ k, k < n → ((∀ z ∈ lot, leB (turn n lots) (k : Int) z = true) ↔ ∀ z ∈ lot, leB lots z (k : Int) = true) := fun k hk => by
    constructor
    · intro h z hz
      obtain ⟨a, rfl, ha⟩ := nat_of (hl z hz)
      rw [← turn_le hk ha]; exact h _ hz
    · intro h z hz
      obtain ⟨a, rfl, ha⟩ := nat_of (hl z hz)
      rw [turn_le hk ha]; exact h _ hz
  unfold Jn Mt
  constructor
  · rintro ⟨a, b, c⟩
    exact ⟨a, (h1 j a).mp b, fun k hk hz => by rw [← turn_le hk a]; exact c k hk ((h1 k hk).mpr hz)⟩
  · rintro ⟨a, b, c⟩
    exact ⟨a, (h1 j a).mpr b, fun k hk hz => by rw [turn_le hk a]; exact c k hk ((h1 k hk).mp hz)⟩
theorem opt_ext {a b : Option Int} (ha : ∀ x, a = some x → b = some x) (hb : ∀ x, b = some x → a = some x) : a = b := by
  cases a with
  | none => cases b with
    | none => rfl
    | some x => exact hb x rfl
  | some x => exact (ha x rfl).symm
theorem turn_join (o : IsOrd n lots) {lot : List Int} (hl : inR n lot) : joinO n (turn n lots) lot = meetO n lots lot := by
  have o2 := turn_isOrd o
  refine opt_ext (fun x h => ?_) (fun x h => ?_)
  · obtain ⟨j, rfl, _⟩ := joinO_nat h
    exact (meetO_iff o).mpr ((turn_jn hl).mp ((joinO_iff o2).mp h))
  · obtain ⟨j, rfl, _⟩ := meetO_nat h
    exact (joinO_iff o2).mpr ((turn_jn hl).mpr ((meetO_iff o).mp h))
theorem turn_meet (o : IsOrd n lots) {lot : List Int} (hl : inR n lot) : meetO n (turn n lots) lot = joinO n lots lot := by
  have o2 := turn_isOrd o
  refine opt_ext (fun x h => ?_) (fun x h => ?_)
  · obtain ⟨j, rfl, _⟩ := meetO_nat h
    exact (joinO_iff o).mpr ((turn_mt hl).mp ((meetO_iff o2).mp h))
  · obtain ⟨j, rfl, _⟩ := joinO_nat h
    exact (meetO_iff o2).mpr ((turn_mt hl).mpr ((joinO_iff o).mp h))
theorem turn_isLat (o : IsOrd n lots) : isLatB n (turn n lots) = isLatL n lots := by
  rw [isLat_eq (turn_isOrd o), Bool.eq_iff_iff, isLatL_iff, isLatL_iff]
  have hp : ∀ x y : Nat, x < n → y < x → inR n [(x : Int), (y : Int)] := fun x y hx hy z hz => by
    rcases List.mem_cons.mp hz with rfl | hz
    · omega
    · rw [List.mem_singleton.mp hz]; omega
  constructor
  · intro h x y hx hy
    have := h x y hx hy
    rw [turn_join o (hp x y hx hy), turn_meet o (hp x y hx hy)] at this
    exact ⟨this.2, this.1⟩
  · intro h x y hx hy
    rw [turn_join o (hp x y hx hy), turn_meet o (hp x y hx hy)]
    have := h x y hx hy
    exact ⟨this.2, this.1⟩
/-! all of a lot under all of another one -/
theorem within_both (lot late : List Int) (h1 : inR n lot) (h2 : inR n late) : within lot (downs n lots late) = within late (ups n lots lot) := by
  rw [Bool.eq_iff_iff]
  unfold within
  simp only [List.all_eq_true, decide_eq_true_eq]
  constructor
  · intro h y hy
    obtain ⟨b, rfl, hb⟩ := nat_of (h2 y hy)
    refine mem_ups.mpr ⟨hb, fun z hz => ?_⟩
    obtain ⟨a, rfl, ha⟩ := nat_of (h1 z hz)
    exact (mem_downs.mp (h _ hz)).2 _ hy
  · intro h x hx
    obtain ⟨a, rfl, ha⟩ := nat_of (h1 x hx)
    refine mem_downs.mpr ⟨ha, fun z hz => ?_⟩
    obtain ⟨b, rfl, hb⟩ := nat_of (h2 z hz)
    exact (mem_ups.mp (h _ hz)).2 _ hx
/-- what is above the join is what is above the lot -/
theorem ups_join (o : IsOrd n lots) {lot : List Int} (hl : inR n lot) {j : Nat} (h : Jn n lots lot j) : ups n lots [(j : Int)] = ups n lots lot := by
  unfold ups
  congr 1
  refine List.filter_congr fun y hy => ?_
  have hy := List.mem_range.mp hy
  rw [Bool.eq_iff_iff]
  simp only [List.all_eq_true]
  constructor
  · intro h2 z hz
    obtain ⟨a, rfl, ha⟩ := nat_of (hl z hz)
    exact o.le_trans ha h.1 hy (h.2.1 _ hz) (h2 _ List.mem_cons_self)
  · intro h2 z hz
    rw [List.mem_singleton.mp hz]
    exact h.2.2 y hy h2
/-! lattices have all joins and meets -/
theorem lat_join2 (o : IsOrd n lots) (h : isLatL n lots = true) {x y : Nat} (hx : x < n) (hy : y < n) : ∃ j, Jn n lots [(x : Int), (y : Int)] j := by
  have h := isLatL_iff.mp h
  have sw : ∀ {x y j : Nat}, Jn n lots [(x : Int), (y : Int)] j → Jn n lots [(y : Int), (x : Int)] j := fun {x y j} ⟨a, b, c⟩ => by
    have p : ∀ z, z ∈ [(x : Int), (y : Int)] ↔ z ∈ [(y : Int), (x : Int)] := fun z => by simp [or_comm]
    exact ⟨a, fun z hz => b z ((p z).mpr hz), fun k hk hz => c k hk fun z hz2 => hz z ((p z).mp hz2)⟩
  rcases Nat.lt_trichotomy x y with c | c | c
  · obtain ⟨j, hj⟩ := (joinO_some o).mp (h y x hy c).1
    exact ⟨j, sw hj⟩
  · subst c; exact ⟨x, jn_self o hx⟩
  · exact (joinO_some o).mp (h x y hx c).1
theorem lat_meet2 (o : IsOrd n lots) (h : isLatL n lots = true) {x y : Nat} (hx : x < n) (hy : y < n) : ∃ j, Mt n lots [(x : Int), (y : Int)] j := by
  have h := isLatL_iff.mp h
  have sw : ∀ {x y j : Nat}, Mt n lots [(x : Int), (y : Int)] j → Mt n lots [(y : Int), (x : Int)] j := fun {x y j} ⟨a, b, c⟩ => by
    have p : ∀ z, z ∈ [(x : Int), (y : Int)] ↔ z ∈ [(y : Int), (x : Int)] := fun z => by simp [or_comm]
    exact ⟨a, fun z hz => b z ((p z).mpr hz), fun k hk hz => c k hk fun z hz2 => hz z ((p z).mp hz2)⟩
  rcases Nat.lt_trichotomy x y with c | c | c
  · obtain ⟨j, hj⟩ := (meetO_some o).mp (h y x hy c).2
    exact ⟨j, sw hj⟩
  · subst c; exact ⟨x, mt_self o hx⟩
  · exact (meetO_some o).mp (h x y hx c).2
theorem jn_cons (o : IsOrd n lots) {x : Nat} (hx : x < n) {l : List Int} (hl : inR n l) {j k : Nat} (h1 : Jn n lots l j) (h2 : Jn n lots [(x : Int), (j : Int)] k) : Jn n lots ((x : Int) :: l) k := by
  refine ⟨h2.1, fun z hz => ?_, fun m hm hz => h2.2.2 m hm fun z hz2 => ?_⟩
  · rcases List.mem_cons.mp hz with rfl | hz
    · exact h2.2.1 _ List.mem_cons_self
    · obtain ⟨a, rfl, ha⟩ := nat_of (hl z hz)
      exact o.le_trans ha h1.1 h2.1 (h1.2.1 _ hz) (h2.2.1 _ (List.mem_cons_of_mem _ List.mem_cons_self))
  · rcases List.mem_cons.mp hz2 with rfl | hz2
    · exact hz _ List.mem_cons_self
    · rw [List.mem_singleton.mp hz2]
      exact h1.2.2 m hm fun z hz3 => hz z (List.mem_cons_of_mem _ hz3)
theorem mt_cons (o : IsOrd n lots) {x : Nat} (hx : x < n) {l : List Int} (hl : inR n l) {j k : Nat} (h1 : Mt n lots l j) (h2 : Mt n lots [(x : Int), (j : Int)] k) : Mt n lots ((x : Int) :: l) k := by
  refine ⟨h2.1, fun z hz => ?_, fun m hm hz => h2.2.2 m hm fun z hz2 => ?_⟩
  · rcases List.mem_cons.mp hz with rfl | hz
    · exact h2.2.1 _ List.mem_cons_self
    · obtain ⟨a, rfl, ha⟩ := nat_of (hl z hz)
      exact o.le_trans h2.1 h1.1 ha (h2.2.1 _ (List.mem_cons_of_mem _ List.mem_cons_self)) (h1.2.1 _ hz)
  · rcases List.mem_cons.mp hz2 with rfl | hz2
    · exact hz _ List.mem_cons_self
    · rw [List.mem_singleton.mp hz2]
      exact h1.2.2 m hm fun z hz3 => hz z (List.mem_cons_of_mem _ hz3)
theorem jn_one (o : IsOrd n lots) {x : Nat} (h : x < n) : Jn n lots [(x : Int)] x :=
  ⟨h, fun z hz => by rw [List.mem_singleton.mp hz]; exact o.le_refl h, fun k _ hz => hz _ List.mem_cons_self⟩
theorem mt_one (o : IsOrd n lots) {x : Nat} (h : x < n) : Mt n lots [(x : Int)] x :=
  ⟨h, fun z hz => by rw [List.mem_singleton.mp hz]; exact o.le_refl h, fun k _ hz => hz _ List.mem_cons_self⟩
theorem lat_joins (o : IsOrd n lots) (h : isLatL n lots = true) : ∀ {l : List Int}, inR n l → l ≠ [] → ∃ j, Jn n lots l j
  | [], _, e => absurd rfl e
  | [x], hr, _ => by
    obtain ⟨a, rfl, ha⟩ := nat_of (hr x List.mem_cons_self)
    exact ⟨a, jn_one o ha⟩
  | x :: y :: l, hr, _ => by
    obtain ⟨a, rfl, ha⟩ := nat_of (hr x List.mem_cons_self)
    have hr2 : inR n (y :: l) := fun z hz => hr z (List.mem_cons_of_mem _ hz)
    obtain ⟨j, hj⟩ := lat_joins o h hr2 (by simp)
    obtain ⟨k, hk⟩ := lat_join2 o h ha hj.1
    exact ⟨k, jn_cons o ha hr2 hj hk⟩
theorem lat_meets (o : IsOrd n lots) (h : isLatL n lots = true) : ∀ {l : List Int}, inR n l → l ≠ [] → ∃ j, Mt n lots l j
  | [], _, e => absurd rfl e
  | [x], hr, _ => by
    obtain ⟨a, rfl, ha⟩ := nat_of (hr x List.mem_cons_self)
    exact ⟨a, mt_one o ha⟩
  | x :: y :: l, hr, _ => by
    obtain ⟨a, rfl, ha⟩ := nat_of (hr x List.mem_cons_self)
    have hr2 : inR n (y :: l) := fun z hz => hr z (List.mem_cons_of_mem _ hz)
    obtain ⟨j, hj⟩ := lat_meets o h hr2 (by simp)
    obtain ⟨k, hk⟩ := lat_meet2 o h ha hj.1
    exact ⟨k, mt_cons o ha hr2 hj hk⟩
theorem rangeI_inR (n : Nat) : inR n (rangeI n) := fun x hx => by
  obtain ⟨a, ha, rfl⟩ := List.mem_map.mp hx
  have := List.mem_range.mp ha
  exact ⟨Int.natCast_nonneg a, by exact Int.ofNat_lt.mpr this⟩
theorem mem_rangeI {n a : Nat} (h : a < n) : (a : Int) ∈ rangeI n := List.mem_map.mpr ⟨a, List.mem_range.mpr h, rfl⟩
theorem rangeI_ne (h : 1 ≤ n) : rangeI n ≠ [] := fun z => by
  have := mem_rangeI (show 0 < n by omega)
  rw [z] at this; cases this
theorem lat_all (o : IsOrd n lots) (hn : 1 ≤ n) (h : isLatL n lots = true) {l : List Int} (hr : inR n l) : (joinO n lots l).isSome = true ∧ (meetO n lots l).isSome = true := by
  cases l with
  | nil =>
    obtain ⟨b, hb⟩ := lat_meets o h (rangeI_inR n) (rangeI_ne hn)
    obtain ⟨t, ht⟩ := lat_joins o h (rangeI_inR n) (rangeI_ne hn)
    exact ⟨(joinO_some o).mpr ⟨b, hb.1, fun z hz => (by cases hz), fun k hk _ => hb.2.1 _ (mem_rangeI hk)⟩, (meetO_some o).mpr ⟨t, ht.1, fun z hz => (by cases hz), fun k hk _ => ht.2.1 _ (mem_rangeI hk)⟩⟩
  | cons x l => exact ⟨(joinO_some o).mpr (lat_joins o h hr (by simp)), (meetO_some o).mpr (lat_meets o h hr (by simp))⟩
end
/-! the order of lots -/
theorem within_iff {a b : List Int} : within a b = true ↔ ∀ x ∈ a, x ∈ b := by
  unfold within
  simp only [List.all_eq_true, decide_eq_true_eq]
theorem ofLots_getD {ls : List (List Int)} {y : Nat} (h : y < ls.length) : (ofLots ls).getD y [] = ((List.range ls.length).filter fun k => within (ls.getD k []) (ls.getD y [])).map Int.ofNat := by
  unfold ofLots
  rw [List.getD_eq_getElem?_getD, List.getElem?_map, List.getElem?_eq_getElem h, List.getD_eq_getElem?_getD, List.getElem?_eq_getElem h]
  rfl
theorem mem_ofLots {ls : List (List Int)} {a y : Nat} (h : y < ls.length) : (a : Int) ∈ (ofLots ls).getD y [] ↔ a < ls.length ∧ ∀ x ∈ ls.getD a [], x ∈ ls.getD y [] := by
  rw [ofLots_getD h, List.mem_map, ← within_iff]
  constructor
  · rintro ⟨b, hb, e⟩
    have : b = a := Int.ofNat.inj e
    subst this
    rw [List.mem_filter, List.mem_range] at hb
    exact hb
  · intro h
    exact ⟨a, by rw [List.mem_filter, List.mem_range]; exact h, rfl⟩
theorem sorted_ext : ∀ {a b : List Int}, a.Pairwise (· < ·) → b.Pairwise (· < ·) → (∀ x, x ∈ a ↔ x ∈ b) → a = b
  | [], [], _, _, _ => rfl
  | [], y :: b, _, _, h => by have := (h y).mpr List.mem_cons_self; cases this
  | x :: a, [], _, _, h => by have := (h x).mp List.mem_cons_self; cases this
  | x :: a, y :: b, h1, h2, h => by
    rw [List.pairwise_cons] at h1 h2
    have e : x = y := by
      rcases List.mem_cons.mp ((h x).mp List.mem_cons_self) with e | hx
      · exact e
      · rcases List.mem_cons.mp ((h y).mpr List.mem_cons_self) with e | hy
        · exact e.symm
        · have := h2.1 x hx
          have := h1.1 y hy
          omega
    subst e
    refine congrArg _ (sorted_ext h1.2 h2.2 fun z => ?_)
    constructor
    · intro hz
      have := h1.1 z hz
      rcases List.mem_cons.mp ((h z).mp (List.mem_cons_of_mem _ hz)) with e | hz
      · omega
      · exact hz
    · intro hz
      have := h2.1 z hz
      rcases List.mem_cons.mp ((h z).mpr (List.mem_cons_of_mem _ hz)) with e | hz
      · omega
      · exact hz
theorem ofLots_isOrd {ls : List (List Int)} (hs : ∀ l ∈ ls, l.Pairwise (· < ·)) (nd : ls.Nodup) : IsOrd ls.length (ofLots ls) := by
  have at' : ∀ {a : Nat} (h : a < ls.length), ls.getD a [] = ls[a] := fun {a} h => by rw [List.getD_eq_getElem?_getD, List.getElem?_eq_getElem h]; rfl
  refine ⟨by unfold ofLots; rw [List.length_map], fun y hy => ?_, fun y hy => ?_, fun x hx => ?_, fun x y z hx hy hz h1 h2 => ?_, fun x y hx hy h1 h2 => ?_⟩
  · rw [ofLots_getD hy, List.pairwise_map]
    exact (List.pairwise_lt_range.filter _).imp fun h => Int.ofNat_lt.mpr h
  · intro x hx
    rw [ofLots_getD hy] at hx
    obtain ⟨a, ha, rfl⟩ := List.mem_map.mp hx
    have := List.mem_range.mp (List.mem_filter.mp ha).1
    exact ⟨Int.natCast_nonneg a, by exact Int.ofNat_lt.mpr this⟩
  · exact (mem_ofLots hx).mpr ⟨hx, fun _ h => h⟩
  · exact (mem_ofLots hz).mpr ⟨hx, fun w hw => ((mem_ofLots hz).mp h2).2 w (((mem_ofLots hy).mp h1).2 w hw)⟩
  · have e : ls[x] = ls[y] := by
      refine sorted_ext (hs _ (List.getElem_mem hx)) (hs _ (List.getElem_mem hy)) fun w => ?_
      have g1 := ((mem_ofLots hy).mp h1).2 w
      have g2 := ((mem_ofLots hx).mp h2).2 w
      rw [at' hx, at' hy] at g1 g2
      exact ⟨g1, g2⟩
    exact (List.getElem_inj nd).mp e
theorem found_sorted {n : Nat} : ∀ {lots f : List (List Int)}, (∀ l ∈ f, l.Pairwise (· < ·)) → ∀ l ∈ lots.foldl foundS f, l.Pairwise (· < ·)
  | [], _, h => h
  | lot :: lots, f, h => found_sorted (n := n) (lots := lots) (f := foundS f lot) fun l hl => by
    unfold foundS at hl
    rw [mem_uni, mem_uni] at hl
    rcases hl with hl | hl | hl
    · exact h l hl
    · cases hl
    · obtain ⟨o, ho, rfl⟩ := List.mem_map.mp hl
      exact (h o ho).filter _
theorem found_nodup : ∀ {lots f : List (List Int)}, f.Nodup → (lots.foldl foundS f).Nodup
  | [], _, h => h
  | lot :: lots, f, h => found_nodup (lots := lots) (f := foundS f lot) (nodup_uni _ _ h)
theorem rangeI_sorted (n : Nat) : (rangeI n).Pairwise (· < ·) := by
  unfold rangeI
  rw [List.pairwise_map]
  exact List.pairwise_lt_range.imp fun h => Int.ofNat_lt.mpr h
theorem cuts_facts (n : Nat) (lots : List (List Int)) (hl : lots.length = n) (hn : n ≤ 4) : let ls := (foundU n lots).mergeSort cutLe
    IsOrd ls.length (ofLots ls) ∧ 1 ≤ ls.length ∧ ls.length ≤ 16 ∧ ∀ l ∈ ls, l.length ≤ n := by
  have p : ((foundU n lots).mergeSort cutLe).Perm (foundU n lots) := List.mergeSort_perm _ _
  have h1 : ∀ l ∈ foundU n lots, l.Pairwise (· < ·) := found_sorted (n := n) fun l hl => by rw [List.mem_singleton.mp hl]; exact rangeI_sorted n
  have h2 : (foundU n lots).Nodup := found_nodup (by simp)
  have h3 : ∀ l ∈ foundU n lots, l.length ≤ n := found_lens fun l hl => by rw [List.mem_singleton.mp hl]; unfold rangeI; rw [List.length_map, List.length_range]; exact Nat.le_refl _
  have h4 := found_len n lots n
  rw [← hl, List.take_length, hl] at h4
  have h5 : 2 ^ n ≤ 2 ^ 4 := Nat.pow_le_pow_right (by decide) hn
  have h6 : 0 < (foundU n lots).length := List.length_pos_of_mem found_ne
  refine ⟨ofLots_isOrd (fun l hl => h1 l (p.mem_iff.mp hl)) (p.nodup_iff.mpr h2), by rw [p.length_eq]; exact h6, ?_, fun l hl => h3 l (p.mem_iff.mp hl)⟩
  rw [p.length_eq]
  have h4 : (foundU n lots).length ≤ 2 ^ n := h4
  omega
end K78


/-! k75: cuts of an order, in plain Lean. -/
namespace K78
open PySem L2 DL
section
variable {n : Nat} {lots : List (List Int)}
theorem ofNat_lt {l : List Nat} (h : l.Pairwise (· < ·)) : (l.map Int.ofNat).Pairwise (· < ·) := by
  rw [List.pairwise_map]
  exact h.imp fun h => Int.ofNat_lt.mpr h
theorem ups_lt (n : Nat) (lots : List (List Int)) (S : List Int) : (ups n lots S).Pairwise (· < ·) := ofNat_lt ((List.pairwise_lt_range (n := n)).sublist List.filter_sublist)
theorem downs_lt (n : Nat) (lots : List (List Int)) (S : List Int) : (downs n lots S).Pairwise (· < ·) := ofNat_lt ((List.pairwise_lt_range (n := n)).sublist List.filter_sublist)
theorem mem_upsI {S : List Int} {x : Int} : x ∈ ups n lots S ↔ (0 ≤ x ∧ x < n) ∧ ∀ z ∈ S, leB lots z x = true := by
  constructor
  · intro h
    have hr := ups_inR n lots S x h
    obtain ⟨a, rfl, ha⟩ := nat_of hr
    exact ⟨hr, (mem_ups.mp h).2⟩
  · rintro ⟨hr, h⟩
    obtain ⟨a, rfl, ha⟩ := nat_of hr
    exact mem_ups.mpr ⟨ha, h⟩
theorem mem_downsI {S : List Int} {x : Int} : x ∈ downs n lots S ↔ (0 ≤ x ∧ x < n) ∧ ∀ z ∈ S, leB lots x z = true := by
  constructor
  · intro h
    have hr := downs_inR n lots S x h
    obtain ⟨a, rfl, ha⟩ := nat_of hr
    exact ⟨hr, (mem_downs.mp h).2⟩
  · rintro ⟨hr, h⟩
    obtain ⟨a, rfl, ha⟩ := nat_of hr
    exact mem_downs.mpr ⟨ha, h⟩
def IsCut (n : Nat) (lots : List (List Int)) (c : List Int) : Prop := ∃ T : List Int, inR n T ∧ c = downs n lots T
theorem mem_interL {one lot : List Int} {x : Int} : x ∈ interL one lot ↔ x ∈ one ∧ x ∈ lot := by unfold interL; rw [List.mem_filter, decide_eq_true_eq]
theorem mem_foundS {f : List (List Int)} {lot c : List Int} : c ∈ foundS f lot ↔ c ∈ f ∨ ∃ o ∈ f, c = interL o lot := by
  unfold foundS
  rw [mem_uni, mem_uni, List.mem_map]
  constructor
  · rintro (h | h | ⟨o, h, e⟩)
    · exact .inl h
    · cases h
    · exact .inr ⟨o, h, e.symm⟩
  · rintro (h | ⟨o, h, e⟩)
    · exact .inl h
    · exact .inr (.inr ⟨o, h, e.symm⟩)
theorem found_iff (o : IsOrd n lots) {c : List Int} : ∀ j, j ≤ n → (c ∈ (lots.take j).foldl foundS [rangeI n] ↔ ∃ T : List Int, (∀ y ∈ T, 0 ≤ y ∧ y < j) ∧ c = downs n lots T)
  | 0, _ => by
    rw [List.take_zero, List.foldl_nil, List.mem_singleton]
    have e0 : downs n lots [] = rangeI n := sorted_ext (downs_lt _ _ _) (rangeI_sorted n) fun x => by
      rw [mem_downsI]
      constructor
      · rintro ⟨h, _⟩
        obtain ⟨a, rfl, ha⟩ := nat_of h
        exact mem_rangeI ha
      · intro h
        exact ⟨rangeI_inR n x h, fun z hz => by cases hz⟩
    constructor
    · rintro rfl
      exact ⟨[], fun y hy => (by cases hy), e0.symm⟩
    · rintro ⟨T, hT, rfl⟩
      cases T with
      | nil => exact e0
      | cons y T => have := hT y List.mem_cons_self; omega
  | j + 1, hj => by
    have hjl : j < lots.length := by rw [o.len]; omega
    have el : lots.getD j [] = lots[j] := by rw [List.getD_eq_getElem?_getD, List.getElem?_eq_getElem hjl]; rfl
    rw [found_take (List.getElem?_eq_getElem hjl), mem_foundS]
    have hle : ∀ x : Int, leB lots x (j : Int) = true ↔ x ∈ lots[j] := fun x => by
      unfold leB
      rw [decide_eq_true_eq, Int.toNat_natCast, el]
    constructor
    · rintro (h | ⟨d, h, rfl⟩)
      · obtain ⟨T, hT, rfl⟩ := (found_iff o j (by omega)).mp h
        exact ⟨T, fun y hy => by have := hT y hy; omega, rfl⟩
      · obtain ⟨T, hT, rfl⟩ := (found_iff o j (by omega)).mp h
        refine ⟨(j : Int) :: T, fun y hy => ?_, sorted_ext ?_ (downs_lt _ _ _) fun x => ?_⟩
        · rcases List.mem_cons.mp hy with rfl | hy
          · omega
          · have := hT y hy; omega
        · exact (downs_lt _ _ _).sublist List.filter_sublist
        · rw [mem_interL, mem_downsI, mem_downsI, ← hle]
          constructor
          · rintro ⟨⟨h1, h2⟩, h3⟩
            refine ⟨h1, fun z hz => ?_⟩
            rcases List.mem_cons.mp hz with rfl | hz
            · exact h3
            · exact h2 z hz
          · rintro ⟨h1, h2⟩
            exact ⟨⟨h1, fun z hz => h2 z (List.mem_cons_of_mem _ hz)⟩, h2 _ List.mem_cons_self⟩
    · rintro ⟨T, hT, rfl⟩
      have hT' : ∀ y ∈ T.filter (fun y : Int => decide (y < j)), 0 ≤ y ∧ y < j := fun y hy => by
        rw [List.mem_filter, decide_eq_true_eq] at hy
        have := hT y hy.1
        omega
      have hd := (found_iff o (c := downs n lots (T.filter fun y : Int => decide (y < j))) j (by omega)).mpr ⟨_, hT', rfl⟩
      by_cases hjT : (j : Int) ∈ T
      · refine .inr ⟨_, hd, sorted_ext (downs_lt _ _ _) ((downs_lt _ _ _).sublist List.filter_sublist) fun x => ?_⟩
        rw [mem_interL, mem_downsI, mem_downsI, ← hle]
        constructor
        · rintro ⟨h1, h2⟩
          exact ⟨⟨h1, fun z hz => h2 z (List.mem_filter.mp hz).1⟩, h2 _ hjT⟩
        · rintro ⟨⟨h1, h2⟩, h3⟩
          refine ⟨h1, fun z hz => ?_⟩
          by_cases e : z = j
          · subst e; exact h3
          · have := hT z hz
            exact h2 z (List.mem_filter.mpr ⟨hz, decide_eq_true (by omega)⟩)
      · refine .inl ?_
        have e : T.filter (fun y : Int => decide (y < j)) = T := List.filter_eq_self.mpr fun y hy => decide_eq_true (by
          have := hT y hy
          have : y ≠ j := fun e => hjT (e ▸ hy)
          omega)
        rw [e] at hd
        exact hd
def cutsL (n : Nat) (lots : List (List Int)) : List (List Int) := (foundU n lots).mergeSort cutLe
theorem cutsL_perm (n : Nat) (lots : List (List Int)) : (cutsL n lots).Perm (foundU n lots) := List.mergeSort_perm _ _
theorem mem_cuts (o : IsOrd n lots) {c : List Int} : c ∈ cutsL n lots ↔ IsCut n lots c := by
  rw [(cutsL_perm n lots).mem_iff]
  have := found_iff o (c := c) n (Nat.le_refl _)
  rw [← o.len, List.take_length, o.len] at this
  exact this
theorem cuts_nd (n : Nat) (lots : List (List Int)) : (cutsL n lots).Nodup := (cutsL_perm n lots).nodup_iff.mpr (found_nodup (by simp))
theorem cut_lt {c : List Int} (h : IsCut n lots c) : c.Pairwise (· < ·) := by
  obtain ⟨T, _, rfl⟩ := h
  exact downs_lt _ _ _
theorem cut_inR {c : List Int} (h : IsCut n lots c) : inR n c := by
  obtain ⟨T, _, rfl⟩ := h
  exact downs_inR _ _ _
theorem cuts_len (o : IsOrd n lots) (hn : n ≤ 7) : 1 ≤ (cutsL n lots).length ∧ (cutsL n lots).length ≤ 128 := by
  have h4 := found_len n lots n
  rw [← o.len, List.take_length, o.len] at h4
  have h5 : 2 ^ n ≤ 2 ^ 7 := Nat.pow_le_pow_right (by decide) hn
  have h6 : 0 < (foundU n lots).length := List.length_pos_of_mem found_ne
  rw [(cutsL_perm n lots).length_eq]
  have h4 : (foundU n lots).length ≤ 2 ^ n := h4
  omega
theorem cuts_isOrd (o : IsOrd n lots) : IsOrd (cutsL n lots).length (ofLots (cutsL n lots)) := ofLots_isOrd (fun l hl => cut_lt ((mem_cuts o).mp hl)) (cuts_nd n lots)
/-! ### the least cut that has a lot -/
def cl (n : Nat) (lots : List (List Int)) (S : List Int) : List Int := downs n lots (ups n lots S)
theorem cl_cut (S : List Int) : IsCut n lots (cl n lots S) := ⟨ups n lots S, ups_inR _ _ _, rfl⟩
theorem sub_cl {S : List Int} (hS : inR n S) {x : Int} (hx : x ∈ S) : x ∈ cl n lots S := mem_downsI.mpr ⟨hS x hx, fun z hz => (mem_upsI.mp hz).2 x hx⟩
theorem cl_min {S c : List Int} (hc : IsCut n lots c) (h : ∀ x ∈ S, x ∈ c) {x : Int} (hx : x ∈ cl n lots S) : x ∈ c := by
  obtain ⟨T, hT, rfl⟩ := hc
  obtain ⟨h1, h2⟩ := mem_downsI.mp hx
  refine mem_downsI.mpr ⟨h1, fun t ht => h2 t (mem_upsI.mpr ⟨hT t ht, fun z hz => ?_⟩)⟩
  exact (mem_downsI.mp (h z hz)).2 t ht
theorem cl_self {c : List Int} (hc : IsCut n lots c) : cl n lots c = c := sorted_ext (downs_lt _ _ _) (cut_lt hc) fun x => ⟨fun h => cl_min hc (fun _ h => h) h, fun h => sub_cl (cut_inR hc) h⟩
theorem lot_cut (o : IsOrd n lots) {x : Nat} (h : x < n) : lots.getD x [] = downs n lots [(x : Int)] := sorted_ext (o.srt x h) (downs_lt _ _ _) fun z => by
  rw [mem_downsI]
  constructor
  · intro hz
    refine ⟨o.rng x h z hz, fun y hy => ?_⟩
    rw [List.mem_singleton.mp hy]
    unfold leB
    exact decide_eq_true (by rw [Int.toNat_natCast]; exact hz)
  · rintro ⟨_, h2⟩
    have := h2 _ (List.mem_singleton.mpr rfl)
    unfold leB at this
    rw [decide_eq_true_eq, Int.toNat_natCast] at this
    exact this
theorem lot_isCut (o : IsOrd n lots) {x : Nat} (h : x < n) : IsCut n lots (lots.getD x []) := ⟨[(x : Int)], fun y hy => by rw [List.mem_singleton.mp hy]; omega, lot_cut o h⟩
/-! ### the lattice of the cuts -/
theorem cut_at (o : IsOrd n lots) {a : Nat} (h : a < (cutsL n lots).length) : IsCut n lots ((cutsL n lots).getD a []) := by
  rw [List.getD_eq_getElem?_getD, List.getElem?_eq_getElem h]
  exact (mem_cuts o).mp (List.getElem_mem h)
theorem cut_ix (o : IsOrd n lots) {c : List Int} (h : IsCut n lots c) : ∃ j, j < (cutsL n lots).length ∧ (cutsL n lots).getD j [] = c := by
  obtain ⟨j, hj, e⟩ := List.getElem_of_mem ((mem_cuts o).mpr h)
  exact ⟨j, hj, by rw [List.getD_eq_getElem?_getD, List.getElem?_eq_getElem hj, ← e]; rfl⟩
theorem leC {a b : Nat} (hb : b < (cutsL n lots).length) : leB (ofLots (cutsL n lots)) (a : Int) (b : Int) = true ↔ a < (cutsL n lots).length ∧ ∀ x ∈ (cutsL n lots).getD a [], x ∈ (cutsL n lots).getD b [] := by
  rw [leB_iff, mem_ofLots hb]
/-- all that some cuts have -/
def un (ls : List (List Int)) (some : List Int) : List Int := some.flatMap fun i => ls.getD i.toNat []
theorem mem_un {ls : List (List Int)} {so : List Int} {x : Int} : x ∈ un ls so ↔ ∃ i ∈ so, x ∈ ls.getD i.toNat [] := List.mem_flatMap
theorem un_inR (o : IsOrd n lots) {so : List Int} (h : inR (cutsL n lots).length so) : inR n (un (cutsL n lots) so) := fun x hx => by
  obtain ⟨i, hi, hx⟩ := mem_un.mp hx
  have := h i hi
  exact cut_inR (cut_at o (a := i.toNat) (by omega)) x hx
theorem jn_cut (o : IsOrd n lots) {so : List Int} (h : inR (cutsL n lots).length so) {j : Nat} (hj : j < (cutsL n lots).length) (e : (cutsL n lots).getD j [] = cl n lots (un (cutsL n lots) so)) : joinO (cutsL n lots).length (ofLots (cutsL n lots)) so = some (j : Int) := by
  refine (joinO_iff (cuts_isOrd o)).mpr ⟨hj, fun z hz => ?_, fun k hk hu => ?_⟩
  · obtain ⟨a, rfl, ha⟩ := nat_of (h z hz)
    refine (leC hj).mpr ⟨ha, fun x hx => ?_⟩
    rw [e]
    exact sub_cl (un_inR o h) (mem_un.mpr ⟨_, hz, by rw [Int.toNat_natCast]; exact hx⟩)
  · refine (leC hk).mpr ⟨hj, fun x hx => ?_⟩
    rw [e] at hx
    refine cl_min (cut_at o hk) (fun y hy => ?_) hx
    obtain ⟨i, hi, hy⟩ := mem_un.mp hy
    obtain ⟨a, rfl, ha⟩ := nat_of (h i hi)
    rw [Int.toNat_natCast] at hy
    exact ((leC hk).mp (hu _ hi)).2 y hy
theorem mt_cut (o : IsOrd n lots) {so : List Int} (h : inR (cutsL n lots).length so) {j : Nat} (hj : j < (cutsL n lots).length) (e : ∀ x, x ∈ (cutsL n lots).getD j [] ↔ (0 ≤ x ∧ x < n) ∧ ∀ i ∈ so, x ∈ (cutsL n lots).getD i.toNat []) : meetO (cutsL n lots).length (ofLots (cutsL n lots)) so = some (j : Int) := by
  refine (meetO_iff (cuts_isOrd o)).mpr ⟨hj, fun z hz => ?_, fun k hk hu => ?_⟩
  · obtain ⟨a, rfl, ha⟩ := nat_of (h z hz)
    refine (leC ha).mpr ⟨hj, fun x hx => ?_⟩
    have := ((e x).mp hx).2 _ hz
    rw [Int.toNat_natCast] at this; exact this
  · refine (leC hj).mpr ⟨hk, fun x hx => (e x).mpr ⟨cut_inR (cut_at o hk) x hx, fun i hi => ?_⟩⟩
    obtain ⟨a, rfl, ha⟩ := nat_of (h i hi)
    rw [Int.toNat_natCast]
    exact ((leC ha).mp (hu _ hi)).2 x hx
theorem inter_cut (o : IsOrd n lots) {c d : List Int} (hc : IsCut n lots c) (hd : IsCut n lots d) : IsCut n lots (interL c d) := by
  obtain ⟨T, hT, rfl⟩ := hc
  obtain ⟨U, hU, rfl⟩ := hd
  refine ⟨T ++ U, fun x hx => (List.mem_append.mp hx).elim (hT x) (hU x), sorted_ext ((downs_lt _ _ _).sublist List.filter_sublist) (downs_lt _ _ _) fun x => ?_⟩
  rw [mem_interL, mem_downsI, mem_downsI, mem_downsI]
  constructor
  · rintro ⟨⟨h1, h2⟩, ⟨_, h3⟩⟩
    exact ⟨h1, fun z hz => (List.mem_append.mp hz).elim (h2 z) (h3 z)⟩
  · rintro ⟨h1, h2⟩
    exact ⟨⟨h1, fun z hz => h2 z (List.mem_append_left _ hz)⟩, h1, fun z hz => h2 z (List.mem_append_right _ hz)⟩
/-- what two lots have together -/
def both2 (n : Nat) (a b : List Int) : List Int := (rangeI n).filter fun x => decide (x ∈ a) || decide (x ∈ b)
theorem mem_both2 {a b : List Int} {x : Int} : x ∈ both2 n a b ↔ (0 ≤ x ∧ x < n) ∧ (x ∈ a ∨ x ∈ b) := by
  unfold both2
  rw [List.mem_filter, Bool.or_eq_true, decide_eq_true_eq, decide_eq_true_eq]
  refine and_congr ⟨fun h => rangeI_inR n x h, fun h => ?_⟩ Iff.rfl
  obtain ⟨a, rfl, ha⟩ := nat_of h
  exact mem_rangeI ha
theorem both2_inR (a b : List Int) : inR n (both2 n a b) := fun x hx => (mem_both2.mp hx).1
theorem cl_ext {S T : List Int} (h : ∀ x, x ∈ S ↔ x ∈ T) : cl n lots S = cl n lots T := by
  have : ups n lots S = ups n lots T := sorted_ext (ups_lt _ _ _) (ups_lt _ _ _) fun x => by
    rw [mem_upsI, mem_upsI]
    exact and_congr Iff.rfl ⟨fun h2 z hz => h2 z ((h z).mpr hz), fun h2 z hz => h2 z ((h z).mp hz)⟩
  unfold cl
  rw [this]
theorem pair_inR {m a b : Nat} (ha : a < m) (hb : b < m) : inR m [(a : Int), (b : Int)] := fun x hx => by
  rcases List.mem_cons.mp hx with rfl | hx
  · omega
  · rw [List.mem_singleton.mp hx]; omega
theorem join2 (o : IsOrd n lots) {a b : Nat} (ha : a < (cutsL n lots).length) (hb : b < (cutsL n lots).length) : ∃ j, j < (cutsL n lots).length ∧ joinO (cutsL n lots).length (ofLots (cutsL n lots)) [(a : Int), (b : Int)] = some (j : Int) ∧ (cutsL n lots).getD j [] = cl n lots (both2 n ((cutsL n lots).getD a []) ((cutsL n lots).getD b [])) := by
  obtain ⟨j, hj, e⟩ := cut_ix o (cl_cut (both2 n ((cutsL n lots).getD a []) ((cutsL n lots).getD b [])))
  refine ⟨j, hj, jn_cut o (pair_inR ha hb) hj ?_, e⟩
  rw [e]
  refine cl_ext fun x => ?_
  rw [mem_both2, mem_un]
  constructor
  · rintro ⟨_, h | h⟩
    · exact ⟨(a : Int), by simp, by rw [Int.toNat_natCast]; exact h⟩
    · exact ⟨(b : Int), by simp, by rw [Int.toNat_natCast]; exact h⟩
  · rintro ⟨i, hi, hx⟩
    rcases List.mem_cons.mp hi with rfl | hi
    · rw [Int.toNat_natCast] at hx
      exact ⟨cut_inR (cut_at o ha) x hx, .inl hx⟩
    · rw [List.mem_singleton.mp hi, Int.toNat_natCast] at hx
      exact ⟨cut_inR (cut_at o hb) x hx, .inr hx⟩
theorem meet2 (o : IsOrd n lots) {a b : Nat} (ha : a < (cutsL n lots).length) (hb : b < (cutsL n lots).length) : ∃ j, j < (cutsL n lots).length ∧ meetO (cutsL n lots).length (ofLots (cutsL n lots)) [(a : Int), (b : Int)] = some (j : Int) ∧ (cutsL n lots).getD j [] = interL ((cutsL n lots).getD a []) ((cutsL n lots).getD b []) := by
  obtain ⟨j, hj, e⟩ := cut_ix o (inter_cut o (cut_at o ha) (cut_at o hb))
  refine ⟨j, hj, mt_cut o (pair_inR ha hb) hj fun x => ?_, e⟩
  rw [e, mem_interL]
  constructor
  · rintro ⟨h1, h2⟩
    refine ⟨cut_inR (cut_at o ha) x h1, fun i hi => ?_⟩
    rcases List.mem_cons.mp hi with rfl | hi
    · rw [Int.toNat_natCast]; exact h1
    · rw [List.mem_singleton.mp hi, Int.toNat_natCast]; exact h2
  · rintro ⟨_, h⟩
    have h1 := h (a : Int) (by simp)
    have h2 := h (b : Int) (by simp)
    rw [Int.toNat_natCast] at h1 h2
    exact ⟨h1, h2⟩
theorem cuts_isLat (o : IsOrd n lots) : isLatB (cutsL n lots).length (ofLots (cutsL n lots)) = true := isLatB_iff.mpr fun x y hx hy => by
  obtain ⟨j, _, e, _⟩ := join2 o hx (show y < (cutsL n lots).length by omega)
  obtain ⟨k, _, e2, _⟩ := meet2 o hx (show y < (cutsL n lots).length by omega)
  rw [e, e2]
  exact ⟨rfl, rfl⟩
/-! ### where things go -/
def plc (n : Nat) (lots : List (List Int)) (x : Nat) : Nat := (cutsL n lots).idxOf (lots.getD x [])
theorem plc_at (o : IsOrd n lots) {x : Nat} (h : x < n) : plc n lots x < (cutsL n lots).length ∧ (cutsL n lots).getD (plc n lots x) [] = lots.getD x [] := by
  have hm := (mem_cuts o).mpr (lot_isCut o h)
  have hl : plc n lots x < (cutsL n lots).length := List.idxOf_lt_length_of_mem hm
  refine ⟨hl, ?_⟩
  rw [List.getD_eq_getElem?_getD, List.getElem?_eq_getElem hl]
  exact List.getElem_idxOf hl
theorem hold (o : IsOrd n lots) {x y : Nat} (hx : x < n) (hy : y < n) : decide ((plc n lots x : Int) ∈ (ofLots (cutsL n lots)).getD (plc n lots y) []) = decide ((x : Int) ∈ lots.getD y []) := by
  obtain ⟨h1, e1⟩ := plc_at o hx
  obtain ⟨h2, e2⟩ := plc_at o hy
  rw [Bool.eq_iff_iff, decide_eq_true_eq, decide_eq_true_eq, mem_ofLots h2, e1, e2]
  constructor
  · rintro ⟨_, h⟩
    exact h _ (o.rfl x hx)
  · intro h
    refine ⟨h1, fun z hz => ?_⟩
    obtain ⟨a, rfl, ha⟩ := nat_of (o.rng x hx z hz)
    exact o.trn a x y ha hx hy hz h
def plcs (n : Nat) (lots : List (List Int)) (S : List Int) : List Int := S.map fun x => (plc n lots x.toNat : Int)
theorem plcs_inR (o : IsOrd n lots) {S : List Int} (h : inR n S) : inR (cutsL n lots).length (plcs n lots S) := fun x hx => by
  obtain ⟨y, hy, rfl⟩ := List.mem_map.mp hx
  have := h y hy
  have := (plc_at o (x := y.toNat) (by omega)).1
  omega
theorem mem_lot {x y : Int} : leB lots x y = true ↔ x ∈ lots.getD y.toNat [] := by unfold leB; rw [decide_eq_true_eq]
theorem leI_trans (o : IsOrd n lots) {x y z : Int} (hx : 0 ≤ x ∧ x < n) (hy : 0 ≤ y ∧ y < n) (hz : 0 ≤ z ∧ z < n) (h1 : leB lots x y = true) (h2 : leB lots y z = true) : leB lots x z = true := by
  obtain ⟨a, rfl, ha⟩ := nat_of hx
  obtain ⟨b, rfl, hb⟩ := nat_of hy
  obtain ⟨c, rfl, hc⟩ := nat_of hz
  exact o.le_trans ha hb hc h1 h2
theorem leI_refl (o : IsOrd n lots) {x : Int} (hx : 0 ≤ x ∧ x < n) : leB lots x x = true := by
  obtain ⟨a, rfl, ha⟩ := nat_of hx
  exact o.le_refl ha
/-- what the places of some things have, has the closing of those things -/
theorem cl_plcs (o : IsOrd n lots) {S : List Int} (h : inR n S) : cl n lots (un (cutsL n lots) (plcs n lots S)) = cl n lots S := by
  have e : ups n lots (un (cutsL n lots) (plcs n lots S)) = ups n lots S := sorted_ext (ups_lt _ _ _) (ups_lt _ _ _) fun y => by
    rw [mem_upsI, mem_upsI]
    have hm : ∀ z, z ∈ un (cutsL n lots) (plcs n lots S) ↔ ∃ x ∈ S, z ∈ lots.getD x.toNat [] := fun z => by
      rw [mem_un]
      unfold plcs
      constructor
      · rintro ⟨i, hi, hz⟩
        obtain ⟨x, hx, rfl⟩ := List.mem_map.mp hi
        have := h x hx
        rw [Int.toNat_natCast, (plc_at o (x := x.toNat) (by omega)).2] at hz
        exact ⟨x, hx, hz⟩
      · rintro ⟨x, hx, hz⟩
        have := h x hx
        refine ⟨_, List.mem_map.mpr ⟨x, hx, rfl⟩, ?_⟩
        rw [Int.toNat_natCast, (plc_at o (x := x.toNat) (by omega)).2]
        exact hz
    constructor
    · rintro ⟨h1, h2⟩
      exact ⟨h1, fun x hx => h2 x ((hm x).mpr ⟨x, hx, mem_lot.mp (leI_refl o (h x hx))⟩)⟩
    · rintro ⟨h1, h2⟩
      refine ⟨h1, fun z hz => ?_⟩
      obtain ⟨x, hx, hz⟩ := (hm z).mp hz
      have hxr := h x hx
      have hzr := o.rng x.toNat (by omega) z hz
      exact leI_trans o hzr hxr h1 (mem_lot.mpr hz) (h2 x hx)
  unfold cl
  rw [e]
theorem join_plc (o : IsOrd n lots) {S : List Int} (h : inR n S) {j : Nat} (e : joinO n lots S = some (j : Int)) : joinO (cutsL n lots).length (ofLots (cutsL n lots)) (plcs n lots S) = some (plc n lots j : Int) := by
  have hj := (joinO_iff o).mp e
  obtain ⟨p1, p2⟩ := plc_at o hj.1
  refine jn_cut o (plcs_inR o h) p1 ?_
  rw [p2, cl_plcs o h]
  unfold cl
  rw [← ups_join o h hj, lot_cut o hj.1]
  have hjr : inR n [(j : Int)] := fun y hy => by rw [List.mem_singleton.mp hy]; have := hj.1; omega
  exact (cl_self (⟨[(j : Int)], hjr, rfl⟩ : IsCut n lots (downs n lots [(j : Int)]))).symm.trans (by
    have : ups n lots (downs n lots [(j : Int)]) = ups n lots [(j : Int)] := sorted_ext (ups_lt _ _ _) (ups_lt _ _ _) fun y => by
      rw [mem_upsI, mem_upsI]
      constructor
      · rintro ⟨h1, h2⟩
        refine ⟨h1, fun z hz => h2 z ?_⟩
        rw [List.mem_singleton.mp hz]
        exact mem_downsI.mpr ⟨hjr _ (List.mem_singleton.mpr rfl), fun z hz => by rw [List.mem_singleton.mp hz]; exact leI_refl o (hjr _ (List.mem_singleton.mpr rfl))⟩
      · rintro ⟨h1, h2⟩
        refine ⟨h1, fun z hz => ?_⟩
        obtain ⟨hzr, hz⟩ := mem_downsI.mp hz
        exact leI_trans o hzr (hjr _ (List.mem_singleton.mpr rfl)) h1 (hz _ (List.mem_singleton.mpr rfl)) (h2 _ (List.mem_singleton.mpr rfl))
    unfold cl
    rw [this])
theorem mem_plcs (o : IsOrd n lots) {S : List Int} (h : inR n S) {x : Int} (hx : 0 ≤ x ∧ x < n) : (∀ i ∈ plcs n lots S, x ∈ (cutsL n lots).getD i.toNat []) ↔ ∀ z ∈ S, leB lots x z = true := by
  unfold plcs
  constructor
  · intro h2 z hz
    have hzr := h z hz
    have := h2 _ (List.mem_map.mpr ⟨z, hz, rfl⟩)
    rw [Int.toNat_natCast, (plc_at o (x := z.toNat) (by omega)).2] at this
    exact mem_lot.mpr this
  · intro h2 i hi
    obtain ⟨z, hz, rfl⟩ := List.mem_map.mp hi
    have hzr := h z hz
    rw [Int.toNat_natCast, (plc_at o (x := z.toNat) (by omega)).2]
    exact mem_lot.mp (h2 z hz)
theorem meet_plc (o : IsOrd n lots) {S : List Int} (h : inR n S) {j : Nat} (e : meetO n lots S = some (j : Int)) : meetO (cutsL n lots).length (ofLots (cutsL n lots)) (plcs n lots S) = some (plc n lots j : Int) := by
  obtain ⟨hj, h1, h2⟩ := (meetO_iff o).mp e
  obtain ⟨p1, p2⟩ := plc_at o hj
  refine mt_cut o (plcs_inR o h) p1 fun x => ?_
  rw [p2]
  constructor
  · intro hx
    have hxr := o.rng j hj x hx
    refine ⟨hxr, (mem_plcs o h hxr).mpr fun z hz => ?_⟩
    exact leI_trans o hxr (y := (j : Int)) (by omega) (h z hz) (mem_lot.mpr (by rw [Int.toNat_natCast]; exact hx)) (h1 z hz)
  · rintro ⟨hxr, hx⟩
    obtain ⟨a, rfl, ha⟩ := nat_of hxr
    have := h2 a ha ((mem_plcs o h hxr).mp hx)
    rw [mem_lot, Int.toNat_natCast] at this
    exact this
/-! ### each cut is a join and a meet of things -/
theorem join_cut (o : IsOrd n lots) {a : Nat} (ha : a < (cutsL n lots).length) : joinO (cutsL n lots).length (ofLots (cutsL n lots)) (plcs n lots ((cutsL n lots).getD a [])) = some (a : Int) := by
  have hc := cut_at o ha
  refine jn_cut o (plcs_inR o (cut_inR hc)) ha ?_
  rw [cl_plcs o (cut_inR hc), cl_self hc]
theorem meet_cut (o : IsOrd n lots) {a : Nat} (ha : a < (cutsL n lots).length) : meetO (cutsL n lots).length (ofLots (cutsL n lots)) (plcs n lots (ups n lots ((cutsL n lots).getD a []))) = some (a : Int) := by
  have hc := cut_at o ha
  refine mt_cut o (plcs_inR o (ups_inR _ _ _)) ha fun x => ?_
  conv => lhs; rw [← cl_self hc]
  unfold cl
  rw [mem_downsI]
  refine ⟨fun ⟨h1, h2⟩ => ⟨h1, (mem_plcs o (ups_inR _ _ _) h1).mpr h2⟩, fun ⟨h1, h2⟩ => ⟨h1, (mem_plcs o (ups_inR _ _ _) h1).mp h2⟩⟩
end
end K78

/-! k75: walks of cuts. -/
namespace K78
open PySem L2 DL
theorem sc_all_cuts : FnScope ["order", "found", "lot", "one", "x", "many"] ["order"] (defScope (topS 16)) := ⟨rfl, rfl, rfl, by decide +kernel, rfl, by decide +kernel, by decide +kernel⟩
/-! ### plain bits -/
def kvT (f : List (List Int)) : List (List Int × D) := f.map fun k => (k, PyData.bool true)
theorem keyL_kvT (f : List (List Int)) : keyL (kvT f) = f := by
  unfold keyL kvT
  rw [List.map_map]
  conv => rhs; rw [← List.map_id f]
  rfl
theorem kvT_len (f : List (List Int)) : (kvT f).length = f.length := by unfold kvT; rw [List.length_map]
theorem uni_snoc {α : Type} [DecidableEq α] (a g : List α) (x : α) : uni a (g ++ [x]) = if x ∈ uni a g then uni a g else uni a g ++ [x] := by unfold uni; rw [List.foldl_append]; rfl
theorem uni_snocL (a g : List (List Int)) (x : List Int) : uni a (g ++ [x]) = if x ∈ uni a g then uni a g else uni a g ++ [x] := by
  rw [uni_snoc]
  by_cases h : x ∈ uni a g
  · rw [if_pos h, if_pos h]
  · rw [if_neg h, if_neg h]
theorem putD_kvT (a : List (List Int)) (k : List Int) : putD (kvT a) k (.bool true) = kvT (if k ∈ a then a else a ++ [k]) := by
  unfold putD
  rw [any_key, keyL_kvT]
  by_cases h : k ∈ a
  · rw [if_pos (decide_eq_true h), if_pos h]
    unfold kvT
    rw [List.map_map]
    refine List.map_congr_left fun x _ => ?_
    show (if x = k then (x, PyData.bool true) else (x, PyData.bool true)) = _
    split <;> rfl
  · rw [if_neg (by rw [decide_eq_false h]; exact Bool.false_ne_true), if_neg h]
    unfold kvT
    rw [List.map_append]; rfl
theorem uni_uni {α : Type} [DecidableEq α] (a g : List α) : uni a (uni [] g) = uni a g := by
  have : ∀ m : List α, uni a (uni [] m.reverse) = uni a m.reverse := fun m => by
    induction m with
    | nil => rfl
    | cons x m ih =>
      rw [List.reverse_cons]
      generalize m.reverse = g at *
      rw [uni_snoc [] g x, uni_snoc a g x]
      by_cases h : x ∈ uni [] g
      · have h2 : x ∈ uni a g := (mem_uni _ _).mpr (.inr (((mem_uni _ _).mp h).resolve_left (by intro z; cases z)))
        rw [if_pos h, if_pos h2, ih]
      · rw [if_neg h, uni_snoc, ih]
  have := this g.reverse
  rwa [List.reverse_reverse] at this
theorem keysD_kvT (f : List (List Int)) : keysD (kvT f) = f.map lotD := by
  unfold keysD kvT
  rw [List.map_map]; rfl
theorem eqv_lot (a b : List Int) : PyData.eqv (lotD a) (lotD b) = decide (a = b) := by
  have := PySem.W.Datum.eqv (α := PySem.W.Tup Int) ⟨a⟩ ⟨b⟩
  refine Eq.trans (show PyData.eqv (lotD a) (lotD b) = _ from this) ?_
  rw [Bool.eq_iff_iff, decide_eq_true_eq, decide_eq_true_eq]
  exact ⟨fun e => by injection e, fun e => by rw [e]⟩
theorem idx_facts {ls : List (List Int)} {c : List Int} (h : c ∈ ls) : (ls.map lotD)[ls.idxOf c]? = some (lotD c) ∧ ∀ (m : Nat) (z : D), m < ls.idxOf c → (ls.map lotD)[m]? = some z → PyData.eqv z (lotD c) = false := by
  have hl : ls.idxOf c < ls.length := List.idxOf_lt_length_of_mem h
  constructor
  · rw [List.getElem?_map, List.getElem?_eq_getElem hl, List.getElem_idxOf hl]; rfl
  · intro m z hm hz
    rw [List.getElem?_map, List.getElem?_eq_getElem (by omega)] at hz
    cases hz
    rw [eqv_lot, decide_eq_false_iff_not]
    intro e
    have := List.not_of_lt_findIdx (show m < ls.findIdx (· == c) from hm)
    rw [e] at this
    simp at this
def placesL (n : Nat) (lots : List (List Int)) : List Int := lots.map fun l => ((cutsL n lots).idxOf l : Int)
theorem places_at {n : Nat} {lots : List (List Int)} {x : Nat} (hx : x < lots.length) : atI ((placesL n lots).map PyData.int) (x : Int) = some (.int (plc n lots x : Int)) := by
  refine atI_nn ?_
  unfold placesL plc
  rw [List.getElem?_map, List.getElem?_map, List.getElem?_eq_getElem hx, List.getD_eq_getElem?_getD, List.getElem?_eq_getElem hx]; rfl
section
variable {X : Cx} {r : SR} {S : List Sl}
theorem jlenF {K : D → List Sl → Prop} {a : Expr} {p pos : Pos} (hm : X.mg "len" = none) (h : JE X r a S fun d S1 => ∃ xs, d = ft xs ∧ K (.int (xs.length : Nat)) S1) (hg : Gl X "len" := by rfl) (hs : starEach [a] X.env = (false, eval a X.env) :: starEach [] X.env := by rfl) : JE X r (.Call (.Name "len" p) [a] [] pos) S K :=
  jB call_len_seq hm (ja1 (h.mono fun d S1 ⟨xs, e, k⟩ => ⟨[d], rfl, by
    rw [e]
    intro F H vs kF rv Q q
    cases rv with
    | cons r1 t =>
      cases t
      obtain ⟨a, o, ws, rfl, ha, _, rv⟩ := rp_ft r1
      refine ⟨a, ws, rfl, .inr (.inl (.inr ⟨o, kF _ _ ha⟩)), ?_⟩
      rw [rv.length]
      exact q _ _ F H k (Grow.refl kF) (.int _)⟩) hs) hg PySem.boot_len (by decide) (by decide) hs rfl
end
section
variable {P : Program} {w : World} {K : PySem.W.Frag} {mg : Str → Option Value} {base : Heap}
theorem cut_lenR {n : Nat} {c : List Int} (h : c.Pairwise (· < ·)) (r : inR n c) : c.length ≤ n := nodup_len (List.nodup_iff_pairwise_ne.mpr (h.imp fun h => by omega)) r
def φFirst : List Ar → (D → Prop) → Prop := fun as Kd => ∃ (n : Nat) (lots : List (List Int)) (lot : List Int), as = [.d (ordD n lots), .d (lotD lot)] ∧ lots.length = n ∧ n ≤ 1000 ∧ lot.length ≤ 1000 ∧ Kd (lotD (cl n lots lot))
def φCJ : List Ar → (D → Prop) → Prop := fun as Kd => ∃ (n : Nat) (lots : List (List Int)) (a b : List Int), as = [.d (ordD n lots), .d (lotD a), .d (lotD b)] ∧ lots.length = n ∧ n ≤ 1000 ∧ Kd (lotD (cl n lots (both2 n a b)))
theorem both2_map (n : Nat) (a b : List Int) : ((List.range n).filter fun (x : Nat) => decide ((x : Int) ∈ a) || decide ((x : Int) ∈ b)).map (fun i : Nat => PyData.int (i : Int)) = (both2 n a b).map .int := by
  unfold both2 rangeI
  rw [List.filter_map, List.map_map]; rfl
theorem both2_len (n : Nat) (a b : List Int) : (both2 n a b).length ≤ n := by
  unfold both2 rangeI
  refine Nat.le_trans (List.length_filter_le _ _) ?_
  rw [List.length_map, List.length_range]; exact Nat.le_refl _
def φCM : List Ar → (D → Prop) → Prop := fun as Kd => ∃ a b : List Int, as = [.d (lotD a), .d (lotD b)] ∧ a.length ≤ 1000 ∧ Kd (lotD (interL a b))
def φAllCuts : List Ar → (D → Prop) → Prop := fun as Kd => ∃ (n : Nat) (lots : List (List Int)), as = [.d (ordD n lots)] ∧ lots.length = n ∧ n ≤ 9 ∧ Kd (ft ((cutsL n lots).map lotD))
theorem ok_allcuts {f : Addr} {fd : FuncData} (F : Fun K "all_cuts" "all_cuts" (topS 16) f fd) (T : Txt mg) (T3 : Txd mg) {tm : Tok} (hM : mg "MOST_CUTS" = some (.int 1000 tm)) : FnOk P w K mg base CX0 1 f fd ["order"] (SpD φAllCuts) := by
  refine fn_D F sc_all_cuts (fun as Kd h => ?_) (fun as Kd r cdv A outer s H E hr h => ?_)
  · obtain ⟨n, lots, rfl, _⟩ := h
    rfl
  · obtain ⟨n, lots, rfl, hl, hn, k⟩ := h
    have nd := sc_all_cuts.nd
    have hz : sizeLine = 16777216 := sizeLine_eq
    have en : (n : Int).toNat = n := by omega
    refine jsetO 1 <| jdisp1 hr <| je_tupRg1 rfl rfl T.tup rfl T.ran rfl rfl <| jix ix_tup <| jv 0 <| je_int <| od_ixT (d := .int n) rfl ⟨(n : Int), rfl, by unfold RgOk; omega, je_bl ⟨rangeI n, by rw [en, rangeD_ints]; rfl, ?_⟩⟩
    refine jfor [2] (jiT (jix ix_tup (jv 0 (je_int (od_ixT (d := .tuple (lots.map lotD)) rfl ⟨_, rfl, ?_⟩)))))
    refine ⟨fun j S' => ∃ (s2 : Sl) (o3 : Option D), S' = [.val (ordD n lots), .ob (.d (kvT ((lots.take j).foldl foundS [rangeI n]))), s2, vS o3, .emp, .emp], ⟨.emp, none, rfl⟩, ?_, ?_⟩
    · rintro j d S' hd ⟨s2, o3, rfl⟩
      obtain ⟨lot, _, el, rfl⟩ := get_map hd
      have hj := (List.getElem?_eq_some_iff.mp el).1
      refine jg 2 ?_
      have hfl := found_len n lots j
      have hlens : ∀ l ∈ (lots.take j).foldl foundS [rangeI n], l.length ≤ n := found_lens fun l hl => by
        rw [List.mem_singleton.mp hl]; unfold rangeI; rw [List.length_map, List.length_range]; exact Nat.le_refl _
      have hpow : 2 ^ (j + 1) ≤ 2 ^ 9 := Nat.pow_le_pow_right (by decide) (by omega)
      have hfl2 := found_len n lots (j + 1)
      have hft := found_take (n := n) el
      rw [hft] at hfl2
      have hpj : 2 ^ j ≤ 2 ^ 9 := Nat.pow_le_pow_right (by decide) (by omega)
      generalize (lots.take j).foldl foundS [rangeI n] = f at *
      have efs : foundS f lot = uni f (f.map fun one => interL one lot) := uni_uni _ _
      refine jfor [3] (jiN (jlistK 1 rfl T.lst ?_))
      rw [keysD_kvT]
      refine ⟨fun i S' => ∃ o3 : Option D, S' = [.val (ordD n lots), .ob (.d (kvT (uni f ((f.take i).map fun one => interL one lot)))), .val (lotD lot), vS o3, .emp, .emp], ⟨o3, rfl⟩, ?_, ?_⟩
      · rintro i d S' hd ⟨o3, rfl⟩
        obtain ⟨one, ho, eo, rfl⟩ := get_map hd
        have hol := hlens one ho
        have hul := uni_len ((f.take i).map fun one => interL one lot) f
        rw [List.length_map, List.length_take] at hul
        have e0 : uni f ((f.take (i + 1)).map fun one => interL one lot) = if interL one lot ∈ uni f ((f.take i).map fun one => interL one lot) then uni f ((f.take i).map fun one => interL one lot) else uni f ((f.take i).map fun one => interL one lot) ++ [interL one lot] := by
          rw [List.take_succ, eo, List.map_append]
          exact uni_snocL _ _ _
        refine jg 3 ?_
        refine jdput hr 1 (.d (kvT (uni f ((f.take i).map fun one => interL one lot)))) <| je_bl <| jtupN T.tup <| jlc [("x", 4)] [4] <| jiT <| jv 3 ⟨_, rfl, lcL one .int (fun x => decide (x ∈ lot)) .int (fun x hx => lp1 4 ?_) ?_⟩
        · intro _ _ _ _ _
          refine jtcmp op_inD <| jv 4 <| jv 2 <| od_inT (α := Int) hr (by decide) ⟨_, rfl, rfl, fun _ => rfl, fun _ => ?_⟩
          intro _ _ _ _ _
          exact jv 4 ⟨rfl, rfl⟩
        · refine ⟨interL one lot, kvT (uni f ((f.take i).map fun one => interL one lot)), rfl, rfl, by rw [kvT_len]; omega, jss_nil ⟨some (lotD one), ?_⟩⟩
          rw [putD_kvT, e0]; rfl
      · rintro S' ⟨o3, rfl⟩
        rw [List.length_map, List.take_length, ← efs]
        refine jifF (jtcmp op_gt <| je_lenK 1 T.len <| je_gint hM <| od_B0 ⟨_, rfl, decide_eq_false ?_, rfl⟩) <| jss_nil <| jss_nil ⟨.val (lotD lot), o3, ?_⟩
        · rw [kvT_len]; omega
        · rw [hft]
    · rintro S' ⟨s2, o3, rfl⟩
      rw [List.length_map, List.take_length]
      have hfl := found_len n lots n
      rw [← hl, List.take_length, hl] at hfl
      have hpow : 2 ^ n ≤ 2 ^ 9 := Nat.pow_le_pow_right (by decide) hn
      have hlens : ∀ l ∈ lots.foldl foundS [rangeI n], l.length ≤ n := found_lens fun l hl => by
        rw [List.mem_singleton.mp hl]; unfold rangeI; rw [List.length_map, List.length_range]; exact Nat.le_refl _
      unfold cutsL foundU at k
      generalize lots.foldl foundS [rangeI n] = f at *
      have hnw : noOwn [3] [.val (ordD n lots), .emp, s2, vS o3, .emp, .emp] = true := by cases o3 <;> rfl
      refine jret <| jtupF T.tup <| jlc [("many", 5), ("one", 3)] [5, 3] <| jiN <| jsorted hr T3.srt <| JN.je <| jn_lcK 1 [("one", 3)] [3] rfl ⟨fun i acc S' => S' = [.val (ordD n lots), .emp, s2, vS o3, .emp, .emp] ∧ acc = (f.take i).map cutEnc, ⟨rfl, rfl⟩, ?_, ?_, ?_⟩
      · rintro i acc S' ⟨rfl, rfl⟩ hi
        rw [kvT_len] at hi
        refine ⟨?_, rfl, noOwn_of (S := [.val (ordD n lots), .emp, s2, vS o3, .emp, .emp]) hnw⟩
        rw [List.length_map, List.length_take]
        omega
      · rintro i d acc S' hd ⟨rfl, rfl⟩
        rw [keysD_kvT, List.getElem?_map] at hd
        cases eo : f[i]? with
        | none => rw [eo] at hd; cases hd
        | some one =>
          rw [eo] at hd
          cases hd
          intro _ _ _ _ _
          refine jg 3 ?_
          intro _ _ _ _ _
          refine jts_nil ?_
          rw [if_pos rfl]
          intro _ _ _ _ _
          refine jtup2 <| jlen T.len <| jv 3 ⟨one.map .int, .inr rfl, jv 3 ⟨rfl, ?_⟩⟩
          rw [List.take_add_one, eo, List.map_append, List.length_map]
          rfl
      · rintro acc S' ⟨rfl, rfl⟩
        rw [kvT_len, List.take_length]
        refine ⟨f.map cutEnc, rfl, nice_map fun one => (nice_tup (n := 3) (nice_cons (nice_int _) (nice_cons (nice_lot (k := 2) one) nice_nil))).mono (by decide), PySem.W.AllAlike.of fun a b => ?_, PySem.W.Sortable.tuples fun b => ⟨_, _, rfl⟩, ?_⟩
        · unfold cutEnc lotD
          simp only [PySem.W.alike, PySem.W.alikeAll, PySem.W.alike_ints, Bool.and_self]
        · rw [sort_map (le := cutLe) rfl]
          refine lcL (f.mergeSort cutLe) cutEnc (fun _ => true) lotD ?_ ?_ (by rw [List.length_mergeSort]; omega) (by cases o3 <;> rfl)
          · intro one ho
            refine lp0P 5 3 ?_
            intro _ _ _ _ _
            exact jv 3 ⟨rfl, rfl⟩
          · rw [filter_true]
            exact k
def φLL : List Ar → (D → Prop) → Prop := fun as Kd => ∃ (n : Nat) (lots : List (List Int)), as = [.d (ordD n lots)] ∧ lots.length = n ∧ n ≤ 9 ∧ (∀ l ∈ cutsL n lots, l.length ≤ 1000) ∧ (cutsL n lots).length ≤ 1000 ∧ Kd (ordD (cutsL n lots).length (ofLots (cutsL n lots)))
def φPl : List Ar → (D → Prop) → Prop := fun as Kd => ∃ (n : Nat) (lots : List (List Int)), as = [.d (ordD n lots)] ∧ IsOrd n lots ∧ n ≤ 9 ∧ Kd (lotD (placesL n lots))
theorem lot_mem {n : Nat} {lots : List (List Int)} (o : IsOrd n lots) {l : List Int} (h : l ∈ lots) : l ∈ cutsL n lots := by
  obtain ⟨x, hx, e⟩ := List.getElem_of_mem h
  have := (mem_cuts o).mpr (lot_isCut o (x := x) (by rw [← o.len]; exact hx))
  rw [List.getD_eq_getElem?_getD, List.getElem?_eq_getElem hx] at this
  rw [← e]
  exact this
def φHold : List Ar → (D → Prop) → Prop := fun as Kd => ∃ (n : Nat) (lots : List (List Int)), as = [.d (ordD n lots), .d (ordD (cutsL n lots).length (ofLots (cutsL n lots))), .d (lotD (placesL n lots))] ∧ IsOrd n lots ∧ n ≤ 9 ∧ Kd (.bool true)
end
end K78

/-! k75: the law. -/
namespace K78
open PySem L2 DL
/-! ### what can be told -/
theorem weight2 {a b : D} {w1 w2 : Nat} (h1 : a.weight ≤ w1) (h2 : b.weight ≤ w2) : PyData.weightAll [a, b] ≤ w1 + w2 + 2 := by
  simp only [PyData.weightAll]; omega
theorem sh_tup2 {k w1 w2 : Nat} {a b : D} (ha : ShD k w1 a) (hb : ShD k w2 b) : ShD (k + 1) (w1 + w2 + 2) (.tuple [a, b]) :=
  ⟨nice_tup (mem2 ha.ni hb.ni), by simp only [PyData.showable]; exact showableAll_of (mem2 (p := fun d => d.showable = true) ha.sh hb.sh), by simp only [PyData.hasDict]; exact hasDictAll_of (mem2 (p := fun d => d.hasDict = false) ha.hd hb.hd), by simp only [PyData.leavesShort]; exact leavesShortAll_of (mem2 (p := fun d => d.leavesShort 13 = true) ha.lv hb.lv), by simp only [PyData.weight]; exact weight2 ha.wt hb.wt⟩
theorem sh_list2 {k w1 w2 : Nat} {a b : D} (ha : ShD k w1 a) (hb : ShD k w2 b) : ShD (k + 1) (w1 + w2 + 2) (.list [a, b]) :=
  ⟨nice_list (mem2 ha.ni hb.ni), by simp only [PyData.showable]; exact showableAll_of (mem2 (p := fun d => d.showable = true) ha.sh hb.sh), by simp only [PyData.hasDict]; exact hasDictAll_of (mem2 (p := fun d => d.hasDict = false) ha.hd hb.hd), by simp only [PyData.leavesShort]; exact leavesShortAll_of (mem2 (p := fun d => d.leavesShort 13 = true) ha.lv hb.lv), by simp only [PyData.weight]; exact weight2 ha.wt hb.wt⟩
theorem sh_lot {m : Nat} {lot : List Int} (hr : inR m lot) (hl : lot.length ≤ 128) (hm : m ≤ 1000) : ShD 3 2700 (lotD lot) := by
  refine (sh_tup (k := 2) (w := 20) fun d hd => ?_).mono (Nat.le_refl _) ?_
  · obtain ⟨i, hi, rfl⟩ := List.mem_map.mp hd
    have := hr i hi
    exact sh_int (by omega)
  · rw [List.length_map]; omega
theorem sh_ord {m : Nat} {lots : List (List Int)} (o : IsOrd m lots) (hm : m ≤ 128) : ShD 5 400000 (ordD m lots) := by
  have h1 : ShD 4 (lots.length * 2701) (.tuple (lots.map lotD)) := by
    have h := sh_tup (k := 3) (w := 2700) (ds := lots.map lotD) fun d hd => by
      obtain ⟨l, hl, rfl⟩ := List.mem_map.mp hd
      obtain ⟨y, hy, e⟩ := List.getElem_of_mem hl
      have e2 : lots.getD y [] = l := by rw [List.getD_eq_getElem?_getD, List.getElem?_eq_getElem hy, ← e]; rfl
      have hy' : y < m := by rw [← o.len]; exact hy
      have s := o.srt y hy'
      have r := o.rng y hy'
      rw [e2] at s r
      exact sh_lot r (Nat.le_trans (nodup_len (s.imp fun h => by omega) r) hm) (by omega)
    rw [List.length_map] at h
    exact h
  have hl := o.len
  exact (sh_tup2 (w1 := 20) ((sh_int (k := 0) (by omega)).mono (by decide) (by decide)) h1).mono (Nat.le_refl _) (by omega)
/-! ### the last line's cuts -/
theorem cutLe_eq (a b : List Int) : cutLe a b = if a.length = b.length then leL a b else decide (a.length < b.length) := by
  have h := PySem.W.DatumOrd.lt_eq (α := Int × PySem.W.Tup Int) ((b.length : Int), ⟨b⟩) ((a.length : Int), ⟨a⟩)
  show (!PySem.W.dataLt (cutEnc b) (cutEnc a)) = _
  have h : PySem.W.dataLt (cutEnc b) (cutEnc a) = if (b.length : Int) = (a.length : Int) then ltL b a else decide ((b.length : Int) < (a.length : Int)) := h
  rw [h]
  by_cases e : a.length = b.length
  · rw [if_pos e, if_pos (by omega)]; rfl
  · rw [if_neg e, if_neg (by omega), Bool.eq_iff_iff, Bool.not_eq_true', decide_eq_false_iff_not, decide_eq_true_eq]; omega
theorem cutLe_trans (a b c : List Int) (h1 : cutLe a b = true) (h2 : cutLe b c = true) : cutLe a c = true := by
  rw [cutLe_eq] at *
  by_cases e1 : a.length = b.length
  · rw [if_pos e1] at h1
    by_cases e2 : b.length = c.length
    · rw [if_pos e2] at h2
      rw [if_pos (e1.trans e2)]
      exact leL_trans _ _ _ h1 h2
    · rw [if_neg e2, decide_eq_true_eq] at h2
      rw [if_neg (by omega)]
      exact decide_eq_true (by omega)
  · rw [if_neg e1, decide_eq_true_eq] at h1
    by_cases e2 : b.length = c.length
    · rw [if_neg (by omega)]
      exact decide_eq_true (by omega)
    · rw [if_neg e2, decide_eq_true_eq] at h2
      rw [if_neg (by omega)]
      exact decide_eq_true (by omega)
theorem cutLe_total (a b : List Int) : (cutLe a b || cutLe b a) = true := by
  rw [cutLe_eq, cutLe_eq]
  by_cases e : a.length = b.length
  · rw [if_pos e, if_pos e.symm]
    exact leL_total a b
  · rw [if_neg e, if_neg (fun z => e z.symm), Bool.or_eq_true, decide_eq_true_eq, decide_eq_true_eq]; omega
theorem cutLe_anti {a b : List Int} (h1 : cutLe a b = true) (h2 : cutLe b a = true) : a = b := by
  rw [cutLe_eq] at *
  by_cases e : a.length = b.length
  · rw [if_pos e] at h1
    rw [if_pos e.symm] at h2
    unfold leL at h1 h2
    rw [Bool.not_eq_true'] at h1 h2
    exact ltL_tri h2 h1
  · rw [if_neg e, decide_eq_true_eq] at h1
    rw [if_neg (fun z => e z.symm), decide_eq_true_eq] at h2
    omega
theorem last_cuts : cutsL 2 [[0], [1]] = [[], [0], [1], [0, 1]] := by
  refine List.Perm.eq_of_pairwise (le := fun a b => cutLe a b = true) (fun a b _ _ => cutLe_anti) (List.pairwise_mergeSort cutLe_trans cutLe_total _) ?_ ((cutsL_perm _ _).trans ?_)
  · simp only [cutLe_eq]
    decide +kernel
  · decide +kernel
section
variable {P : Program} {w : World} {K : PySem.W.Frag} {mg : Str → Option Value} {base : Heap}
end
end K78


/-! k76: all lots; things apart. -/
namespace K78
open PySem L2 DL
def partsS (found : List (List Int)) (x : Int) : List (List Int) := found ++ found.map (· ++ [x])
def partsL (lot : List Int) : List (List Int) := lot.foldl partsS [[]]
theorem partsL_snoc (l : List Int) (x : Int) : partsL (l ++ [x]) = partsS (partsL l) x := by unfold partsL; rw [List.foldl_append]; rfl
theorem partsL_len (l : List Int) : (partsL l).length = 2 ^ l.length := by
  suffices h : ∀ (l : List Int) (a : List (List Int)), (l.foldl partsS a).length = a.length * 2 ^ l.length by
    have := h l [[]]
    rw [List.length_singleton, Nat.one_mul] at this
    exact this
  intro l
  induction l with
  | nil => intro a; simp
  | cons x l ih =>
    intro a
    rw [List.foldl_cons, ih, List.length_cons, Nat.pow_succ]
    unfold partsS
    rw [List.length_append, List.length_map, ← Nat.two_mul, Nat.mul_comm 2, Nat.mul_assoc, Nat.mul_comm 2]
theorem mem_partsS {p : List Int} {found : List (List Int)} {x : Int} : p ∈ partsS found x ↔ p ∈ found ∨ ∃ q ∈ found, p = q ++ [x] := by
  unfold partsS
  rw [List.mem_append, List.mem_map]
  refine or_congr Iff.rfl ⟨fun ⟨q, h, e⟩ => ⟨q, h, e.symm⟩, fun ⟨q, h, e⟩ => ⟨q, h, e.symm⟩⟩
theorem snoc_ind {α : Type} {p : List α → Prop} (h0 : p []) (h1 : ∀ l x, p l → p (l ++ [x])) : ∀ l, p l := fun l => by
  have : ∀ m : List α, p m.reverse := fun m => by
    induction m with
    | nil => exact h0
    | cons x m ih => rw [List.reverse_cons]; exact h1 _ _ ih
  have := this l.reverse
  rwa [List.reverse_reverse] at this
/-- the parts of a lot are what lies in it -/
theorem mem_partsL {p : List Int} : ∀ {l : List Int}, p ∈ partsL l ↔ p.Sublist l := fun {l} => by
  revert p
  refine snoc_ind (p := fun l => ∀ {p : List Int}, p ∈ partsL l ↔ p.Sublist l) ?_ ?_ l
  · intro p
    show p ∈ [[]] ↔ _
    rw [List.mem_singleton, List.sublist_nil]
  · intro l x ih p
    rw [partsL_snoc, mem_partsS]
    constructor
    · rintro (h | ⟨q, h, rfl⟩)
      · exact (ih.mp h).trans (List.sublist_append_left _ _)
      · exact (ih.mp h).append (List.Sublist.refl _)
    · intro h
      obtain ⟨a, b, rfl, h1, h2⟩ := List.sublist_append_iff.mp h
      cases h2 with
      | cons _ h2 => rw [List.sublist_nil.mp h2, List.append_nil]; exact .inl (ih.mpr h1)
      | cons_cons _ h2 => rw [List.sublist_nil.mp h2]; exact .inr ⟨a, ih.mpr h1, rfl⟩
theorem partsL_nodup {l : List Int} : l.Nodup → (partsL l).Nodup := by
  refine snoc_ind (p := fun l => l.Nodup → (partsL l).Nodup) ?_ ?_ l
  · intro _
    show ([[]] : List (List Int)).Nodup
    exact List.nodup_cons.mpr ⟨List.not_mem_nil, List.nodup_nil⟩
  · intro l x ih h
    rw [List.nodup_append] at h
    rw [partsL_snoc]
    unfold partsS
    rw [List.nodup_append]
    refine ⟨ih h.1, ?_, ?_⟩
    · rw [List.nodup_iff_pairwise_ne, List.pairwise_map]
      exact (List.nodup_iff_pairwise_ne.mp (ih h.1)).imp fun hne e => hne (List.append_cancel_right e)
    · intro a ha b hb e
      obtain ⟨c, hc, rfl⟩ := List.mem_map.mp hb
      subst e
      have : x ∈ l := (mem_partsL.mp ha).subset (by simp)
      exact h.2.2 x this x (by simp) rfl
theorem sub_of_sorted : ∀ {q p : List Int}, p.Pairwise (· < ·) → q.Pairwise (· < ·) → (∀ x ∈ p, x ∈ q) → p.Sublist q
  | [], [], _, _, _ => List.Sublist.refl _
  | [], x :: p, _, _, h => absurd (h x List.mem_cons_self) List.not_mem_nil
  | y :: q, [], _, _, _ => List.nil_sublist _
  | y :: q, x :: p, hp, hq, h => by
    rw [List.pairwise_cons] at hp hq
    by_cases e : x = y
    · subst e
      refine (sub_of_sorted hp.2 hq.2 fun z hz => ?_).cons_cons x
      rcases List.mem_cons.mp (h z (List.mem_cons_of_mem _ hz)) with e | hz2
      · have := hp.1 z hz
        omega
      · exact hz2
    · refine (sub_of_sorted (List.pairwise_cons.mpr hp) hq.2 fun z hz => ?_).cons y
      have hx : x ∈ q := (List.mem_cons.mp (h x List.mem_cons_self)).resolve_left e
      have hyx := hq.1 x hx
      rcases List.mem_cons.mp (h z hz) with e2 | hz2
      · subst e2
        rcases List.mem_cons.mp hz with e3 | hz3
        · omega
        · have := hp.1 z hz3
          omega
      · exact hz2
theorem len_of_mem {a b : List (List Int)} (ha : a.Nodup) (hb : b.Nodup) (h : ∀ x, x ∈ a ↔ x ∈ b) : a.length = b.length := by
  have : sortL a = sortL b := sorted_one (sortL_lt ha) (sortL_lt hb) fun x => by rw [(sortL_perm a).mem_iff, (sortL_perm b).mem_iff]; exact h x
  rw [← (sortL_perm a).length_eq, this, (sortL_perm b).length_eq]
theorem mem_rI {n : Nat} {x : Int} : x ∈ rangeI n ↔ 0 ≤ x ∧ x < n := by
  constructor
  · intro h; exact rangeI_inR n x h
  · intro h
    obtain ⟨a, rfl, ha⟩ := nat_of h
    exact mem_rangeI ha
theorem rI_len (n : Nat) : (rangeI n).length = n := by unfold rangeI; rw [List.length_map, List.length_range]
theorem nodup_rI (n : Nat) : (rangeI n).Nodup := List.nodup_iff_pairwise_ne.mpr ((rangeI_sorted n).imp fun h => by omega)
/-! ### m things, and m others each above all of them but one -/
def apartL (m : Nat) : List (List Int) := ((List.range m).map fun (x : Nat) => [(x : Int)]) ++ (List.range m).map fun (y : Nat) => ((rangeI m).filter fun x => decide (x ≠ (y : Int))) ++ [(m : Int) + y]
theorem apart_len (m : Nat) : (apartL m).length = 2 * m := by unfold apartL; rw [List.length_append, List.length_map, List.length_map, List.length_range]; omega
theorem apart_low {m x : Nat} (h : x < m) : (apartL m).getD x [] = [(x : Int)] := by
  unfold apartL
  rw [List.getD_eq_getElem?_getD, List.getElem?_append_left (by rw [List.length_map, List.length_range]; exact h), List.getElem?_map, List.getElem?_range h]; rfl
theorem apart_high {m y : Nat} (h : y < m) : (apartL m).getD (m + y) [] = ((rangeI m).filter fun x => decide (x ≠ (y : Int))) ++ [(m : Int) + y] := by
  unfold apartL
  rw [List.getD_eq_getElem?_getD, List.getElem?_append_right (by rw [List.length_map, List.length_range]; omega), List.length_map, List.length_range, List.getElem?_map, List.getElem?_range (by omega)]
  show ((rangeI m).filter fun x => decide (x ≠ ((m + y - m : Nat) : Int))) ++ [(m : Int) + ((m + y - m : Nat) : Int)] = _
  rw [Nat.add_sub_cancel_left]
/-- one thing under another one -/
def leA (m : Nat) (x y : Int) : Prop := x = y ∨ (x < m ∧ (m : Int) ≤ y ∧ x ≠ y - m)
theorem mem_apart {m : Nat} {x y : Int} (hx : 0 ≤ x ∧ x < (2 * m : Nat)) (hy : 0 ≤ y ∧ y < (2 * m : Nat)) : x ∈ (apartL m).getD y.toNat [] ↔ leA m x y := by
  unfold leA
  by_cases h : y < m
  · obtain ⟨b, rfl, hb⟩ := nat_of (n := m) ⟨hy.1, h⟩
    rw [Int.toNat_natCast, apart_low hb, List.mem_singleton]
    omega
  · obtain ⟨b, hb, rfl⟩ : ∃ b : Nat, b < m ∧ y = m + b := ⟨(y - m).toNat, by omega, by omega⟩
    have : ((m : Int) + b).toNat = m + b := by omega
    rw [this, apart_high hb, List.mem_append, List.mem_filter, mem_rI, List.mem_singleton, decide_eq_true_eq]
    omega
theorem leB_apart {m : Nat} {x y : Int} (hx : 0 ≤ x ∧ x < (2 * m : Nat)) (hy : 0 ≤ y ∧ y < (2 * m : Nat)) : leB (apartL m) x y = true ↔ leA m x y := by
  unfold leB
  rw [decide_eq_true_eq]
  exact mem_apart hx hy
theorem apart_isOrd (m : Nat) : IsOrd (2 * m) (apartL m) := by
  have nn : ∀ {a : Nat}, a < 2 * m → (0 ≤ (a : Int) ∧ (a : Int) < (2 * m : Nat)) := fun h => by omega
  have at_ : ∀ {a b : Nat}, a < 2 * m → b < 2 * m → ((a : Int) ∈ (apartL m).getD b [] ↔ leA m a b) := fun {a b} ha hb => by
    have := mem_apart (m := m) (nn ha) (nn hb)
    rw [Int.toNat_natCast] at this
    exact this
  have hsr : ∀ y, y < 2 * m → ((apartL m).getD y []).Pairwise (· < ·) ∧ inR (2 * m) ((apartL m).getD y []) := fun y hy => by
    by_cases h : y < m
    · rw [apart_low h]
      refine ⟨List.pairwise_cons.mpr ⟨fun a ha => (by cases ha), List.Pairwise.nil⟩, fun x hx => ?_⟩
      rw [List.mem_singleton.mp hx]; omega
    · obtain ⟨b, hb, rfl⟩ : ∃ b : Nat, b < m ∧ y = m + b := ⟨y - m, by omega, by omega⟩
      rw [apart_high hb]
      refine ⟨?_, fun x hx => ?_⟩
      · rw [List.pairwise_append]
        refine ⟨(rangeI_sorted m).sublist List.filter_sublist, List.pairwise_cons.mpr ⟨fun a ha => (by cases ha), List.Pairwise.nil⟩, fun a ha c hc => ?_⟩
        rw [List.mem_singleton.mp hc]
        have := mem_rI.mp (List.mem_filter.mp ha).1
        omega
      · rcases List.mem_append.mp hx with hx | hx
        · have := mem_rI.mp (List.mem_filter.mp hx).1
          omega
        · rw [List.mem_singleton.mp hx]; omega
  refine ⟨apart_len m, fun y hy => (hsr y hy).1, fun y hy => (hsr y hy).2, fun x hx => (at_ hx hx).mpr (.inl rfl), fun x y z hx hy hz h1 h2 => ?_, fun x y hx hy h1 h2 => ?_⟩
  · rw [at_ hx hy] at h1
    rw [at_ hy hz] at h2
    rw [at_ hx hz]
    unfold leA at *
    omega
  · rw [at_ hx hy] at h1
    rw [at_ hy hx] at h2
    unfold leA at *
    omega
/-- the cut that has just these of the lower things -/
def gC (m : Nat) (S : List Int) : List Int := (rangeI (2 * m)).filter fun z => decide (z ∈ S) || ((decide ((m : Int) ≤ z)) && (rangeI m).all fun x => decide (x ∈ S) || decide (x = z - m))
theorem mem_gC {m : Nat} {S : List Int} {z : Int} : z ∈ gC m S ↔ (0 ≤ z ∧ z < (2 * m : Nat)) ∧ (z ∈ S ∨ ((m : Int) ≤ z ∧ ∀ x ∈ rangeI m, x ∈ S ∨ x = z - m)) := by
  unfold gC
  rw [List.mem_filter, mem_rI]
  simp only [Bool.or_eq_true, Bool.and_eq_true, decide_eq_true_eq, List.all_eq_true]
theorem gC_inj {m : Nat} {S T : List Int} (hS : S.Sublist (rangeI m)) (hT : T.Sublist (rangeI m)) (e : gC m S = gC m T) : S = T := by
  have key : ∀ {U : List Int}, U.Sublist (rangeI m) → ∀ z, z ∈ U ↔ z ∈ gC m U ∧ z < m := fun {U} hU z => by
    rw [mem_gC]
    constructor
    · intro h
      have := mem_rI.mp (hU.subset h)
      exact ⟨⟨by omega, .inl h⟩, this.2⟩
    · rintro ⟨⟨_, h | h⟩, h2⟩
      · exact h
      · omega
  exact sorted_ext ((rangeI_sorted m).sublist hS) ((rangeI_sorted m).sublist hT) fun z => by rw [key hS, key hT, e]
theorem gC_cut {m : Nat} {S : List Int} (hS : S.Sublist (rangeI m)) : IsCut (2 * m) (apartL m) (gC m S) := by
  refine ⟨(rangeI m).filterMap fun x => if x ∈ S then none else some ((m : Int) + x), fun y hy => ?_, ?_⟩
  · obtain ⟨x, hx, e⟩ := List.mem_filterMap.mp hy
    have := mem_rI.mp hx
    split at e
    · cases e
    · cases e; omega
  · refine sorted_ext ((rangeI_sorted _).sublist List.filter_sublist) (downs_lt _ _ _) fun z => ?_
    rw [mem_gC, mem_downsI]
    refine and_congr_right fun hz => ?_
    constructor
    · intro h t ht
      obtain ⟨x, hx, e⟩ := List.mem_filterMap.mp ht
      have hxr := mem_rI.mp hx
      split at e
      · cases e
      · rename_i hxS
        cases e
        rw [leB_apart hz (by omega)]
        unfold leA
        rcases h with h | ⟨h1, h2⟩
        · have := mem_rI.mp (hS.subset h)
          have : z ≠ x := fun e => hxS (e ▸ h)
          omega
        · rcases h2 x hx with h2 | h2
          · exact absurd h2 hxS
          · omega
    · intro h
      by_cases hzm : z < m
      · left
        refine Classical.byContradiction fun hn => ?_
        have hzr : z ∈ rangeI m := mem_rI.mpr ⟨hz.1, hzm⟩
        have := h ((m : Int) + z) (List.mem_filterMap.mpr ⟨z, hzr, if_neg hn⟩)
        rw [leB_apart hz (by omega)] at this
        unfold leA at this
        omega
      · right
        refine ⟨by omega, fun x hx => ?_⟩
        by_cases hxS : x ∈ S
        · exact .inl hxS
        · right
          have hxr := mem_rI.mp hx
          have := h ((m : Int) + x) (List.mem_filterMap.mpr ⟨x, hx, if_neg hxS⟩)
          rw [leB_apart hz (by omega)] at this
          unfold leA at this
          omega
theorem cut_gC {m : Nat} (hm : 3 ≤ m) {c : List Int} (h : IsCut (2 * m) (apartL m) c) : c = gC m (c.filter fun z : Int => decide (z < m)) := by
  have hci := cut_inR h
  have hcl := cut_lt h
  obtain ⟨T, hT, rfl⟩ := h
  have hd : ∀ z, z ∈ downs (2 * m) (apartL m) T ↔ (0 ≤ z ∧ z < (2 * m : Nat)) ∧ ∀ t ∈ T, leA m z t := fun z => by
    rw [mem_downsI]
    refine and_congr_right fun hz => ?_
    exact ⟨fun h t ht => (leB_apart hz (hT t ht)).mp (h t ht), fun h t ht => (leB_apart hz (hT t ht)).mpr (h t ht)⟩
  refine sorted_ext hcl ((rangeI_sorted _).sublist List.filter_sublist) fun z => ?_
  rw [mem_gC]
  have hf : ∀ x : Int, x ∈ (downs (2 * m) (apartL m) T).filter (fun z : Int => decide (z < m)) ↔ x ∈ downs (2 * m) (apartL m) T ∧ x < m := fun x => by rw [List.mem_filter, decide_eq_true_eq]
  constructor
  · intro hz
    obtain ⟨hzr, hz2⟩ := (hd z).mp hz
    refine ⟨hzr, ?_⟩
    by_cases hzm : z < m
    · exact .inl ((hf z).mpr ⟨hz, hzm⟩)
    · right
      refine ⟨by omega, fun x hx => ?_⟩
      have hxr := mem_rI.mp hx
      by_cases e : x = z - m
      · exact .inr e
      · left
        rw [hf, hd]
        refine ⟨⟨by omega, fun t ht => ?_⟩, hxr.2⟩
        have := hz2 t ht
        unfold leA at this ⊢
        omega
  · rintro ⟨hzr, hz | ⟨hzm, hz⟩⟩
    · exact ((hf z).mp hz).1
    · rw [hd]
      refine ⟨hzr, fun t ht => ?_⟩
      refine Classical.byContradiction fun hn => ?_
      have htr := hT t ht
      -- of three lower things two are not z's own, and both are under t
      have two : ∀ x : Int, 0 ≤ x → x < m → x ≠ z - m → leA m x t := fun x h0 h1 hne => by
        rcases hz x (mem_rI.mpr ⟨h0, h1⟩) with hx | hx
        · exact ((hd x).mp ((hf x).mp hx).1).2 t ht
        · exact absurd hx hne
      have h0 := two 0
      have h1 := two 1
      have h2 := two 2
      have h3 := two (t - m)
      unfold leA at hn h0 h1 h2 h3
      omega
theorem apart_cuts {m : Nat} (hm : 3 ≤ m) : (cutsL (2 * m) (apartL m)).length = 2 ^ m := by
  have e : (cutsL (2 * m) (apartL m)).length = ((partsL (rangeI m)).map (gC m)).length := by
    refine len_of_mem (cuts_nd _ _) ?_ fun c => ?_
    · rw [List.nodup_iff_pairwise_ne, List.pairwise_map]
      refine List.Pairwise.imp_of_mem ?_ (List.nodup_iff_pairwise_ne.mp (partsL_nodup (nodup_rI m)))
      intro a b ha hb hne e
      exact hne (gC_inj (mem_partsL.mp ha) (mem_partsL.mp hb) e)
    · rw [mem_cuts (apart_isOrd m), List.mem_map]
      constructor
      · intro h
        refine ⟨_, mem_partsL.mpr ?_, (cut_gC hm h).symm⟩
        refine sub_of_sorted ((cut_lt h).sublist List.filter_sublist) (rangeI_sorted m) fun x hx => ?_
        rw [List.mem_filter, decide_eq_true_eq] at hx
        exact mem_rI.mpr ⟨(cut_inR h x hx.1).1, hx.2⟩
      · rintro ⟨S, hS, rfl⟩
        exact gC_cut (mem_partsL.mp hS)
  rw [e, List.length_map, partsL_len, rI_len]
end K78

/-! k76: the plain law: an order held in a lattice. -/
namespace K78
open PySem L2 DL
section
variable {n N : Nat} {lots L : List (List Int)} {ps : List Int}
def pl (ps : List Int) (x : Int) : Int := ps.getD x.toNat 0
def plG (ps S : List Int) : List Int := S.map (pl ps)
structure Held (n : Nat) (lots : List (List Int)) (N : Nat) (L : List (List Int)) (ps : List Int) : Prop where
  o : IsOrd N L
  one : 1 ≤ N
  lat : isLatL N L = true
  len : ps.length = n
  rng : inR N ps
  hold : ∀ x y : Int, (0 ≤ x ∧ x < n) → (0 ≤ y ∧ y < n) → (leB lots x y = true ↔ leB L (pl ps x) (pl ps y) = true)
theorem pl_mem {ps : List Int} {x : Int} (h : 0 ≤ x ∧ x < (ps.length : Nat)) : pl ps x ∈ ps := by
  unfold pl
  have hx : x.toNat < ps.length := by omega
  rw [List.getD_eq_getElem?_getD, List.getElem?_eq_getElem hx]
  exact List.getElem_mem hx
theorem mem_pl {ps : List Int} {p : Int} (h : p ∈ ps) : ∃ x : Int, (0 ≤ x ∧ x < (ps.length : Nat)) ∧ p = pl ps x := by
  obtain ⟨i, hi, e⟩ := List.getElem_of_mem h
  refine ⟨(i : Int), by omega, ?_⟩
  unfold pl
  rw [Int.toNat_natCast, List.getD_eq_getElem?_getD, List.getElem?_eq_getElem hi, ← e]; rfl
theorem Held.pr (h : Held n lots N L ps) {x : Int} (hx : 0 ≤ x ∧ x < n) : 0 ≤ pl ps x ∧ pl ps x < N := h.rng _ (pl_mem (by rw [h.len]; exact hx))
theorem Held.gr (h : Held n lots N L ps) {S : List Int} (hS : inR n S) : inR N (plG ps S) := fun p hp => by
  obtain ⟨x, hx, rfl⟩ := List.mem_map.mp hp
  exact h.pr (hS x hx)
/-- the join of a cut's places -/
def jC (N : Nat) (L : List (List Int)) (ps c : List Int) : Int := (joinO N L (plG ps c)).getD 0
theorem Held.j (h : Held n lots N L ps) {c : List Int} (hc : inR n c) : ∃ j : Nat, j < N ∧ jC N L ps c = (j : Int) ∧ joinO N L (plG ps c) = some (j : Int) ∧ Jn N L (plG ps c) j := by
  obtain ⟨x, e⟩ := Option.isSome_iff_exists.mp (lat_all h.o h.one h.lat (h.gr hc)).1
  obtain ⟨j, rfl, hj⟩ := joinO_nat e
  exact ⟨j, hj, by unfold jC; rw [e]; rfl, e, (joinO_iff h.o).mp e⟩
theorem jn_jC (h : Held n lots N L ps) {c : List Int} {j : Nat} (J : Jn N L (plG ps c) j) : jC N L ps c = (j : Int) := by
  unfold jC
  rw [(joinO_iff h.o).mpr J]; rfl
theorem mem_cut {c : List Int} (hc : IsCut n lots c) {x : Int} : x ∈ c ↔ (0 ≤ x ∧ x < n) ∧ ∀ z ∈ ups n lots c, leB lots x z = true := by
  have e := cl_self hc
  constructor
  · intro h
    rw [← e] at h
    exact mem_downsI.mp h
  · intro h
    rw [← e]
    exact mem_downsI.mpr h
theorem Held.jle (h : Held n lots N L ps) {c d : List Int} (hc : IsCut n lots c) (hd : IsCut n lots d) : leB L (jC N L ps c) (jC N L ps d) = true ↔ ∀ x ∈ c, x ∈ d := by
  obtain ⟨i, hi, ei, _, Ji⟩ := h.j (cut_inR hc)
  obtain ⟨j, hj, ej, _, Jj⟩ := h.j (cut_inR hd)
  rw [ei, ej]
  constructor
  · intro hle x hx
    have hxr := cut_inR hc x hx
    refine (mem_cut hd).mpr ⟨hxr, fun z hz => ?_⟩
    have hzr := ups_inR _ _ _ z hz
    rw [h.hold x z hxr hzr]
    have h1 := Ji.2.1 _ (List.mem_map.mpr ⟨x, hx, rfl⟩)
    obtain ⟨u, eu, hu⟩ := nat_of (h.pr hzr)
    have h2 : leB L (j : Int) (pl ps z) = true := by
      rw [eu]
      refine Jj.2.2 u hu fun p hp => ?_
      obtain ⟨y, hy, rfl⟩ := List.mem_map.mp hp
      rw [← eu, ← h.hold y z (cut_inR hd y hy) hzr]
      exact (mem_upsI.mp hz).2 y hy
    exact leI_trans h.o (h.pr hxr) ⟨by omega, by omega⟩ (h.pr hzr) (leI_trans h.o (h.pr hxr) ⟨by omega, by omega⟩ ⟨by omega, by omega⟩ h1 hle) h2
  · intro hs
    refine Ji.2.2 j hj fun p hp => ?_
    obtain ⟨x, hx, rfl⟩ := List.mem_map.mp hp
    exact Jj.2.1 _ (List.mem_map.mpr ⟨x, hs x hx, rfl⟩)
theorem Held.jlot (h : Held n lots N L ps) (o : IsOrd n lots) {x : Nat} (hx : x < n) : jC N L ps (lots.getD x []) = pl ps x := by
  obtain ⟨u, eu, hu⟩ := nat_of (h.pr (x := (x : Int)) ⟨by omega, by omega⟩)
  rw [eu]
  refine jn_jC h ⟨hu, fun p hp => ?_, fun k hk hz => ?_⟩
  · obtain ⟨y, hy, rfl⟩ := List.mem_map.mp hp
    rw [← eu, ← h.hold y x (o.rng x hx y hy) ⟨by omega, by omega⟩, mem_lot, Int.toNat_natCast]
    exact hy
  · rw [← eu]
    exact hz _ (List.mem_map.mpr ⟨(x : Int), o.rfl x hx, rfl⟩)
def lowL (L : List (List Int)) (ps : List Int) (l : Int) : List Int := ps.filter fun p => leB L p l
def highL (L : List (List Int)) (ps : List Int) (l : Int) : List Int := ps.filter fun p => leB L l p
def bothP (N : Nat) (L : List (List Int)) (ps : List Int) (l : Int) : Bool := decide (joinO N L (lowL L ps l) = some l) && decide (meetO N L (highL L ps l) = some l)
def tl (n : Nat) (lots : List (List Int)) (N : Nat) (L : List (List Int)) (ps : List Int) : List Int := (cutsL n lots).map (jC N L ps)
theorem jn_ext {S T : List Int} {j : Nat} (e : ∀ x, x ∈ S ↔ x ∈ T) (J : Jn N L S j) : Jn N L T j := ⟨J.1, fun z hz => J.2.1 z ((e z).mpr hz), fun k hk hz => J.2.2 k hk fun z h => hz z ((e z).mp h)⟩
theorem Held.low_mem (h : Held n lots N L ps) {l p : Int} : p ∈ lowL L ps l ↔ ∃ x : Int, (0 ≤ x ∧ x < n) ∧ p = pl ps x ∧ leB L p l = true := by
  unfold lowL
  rw [List.mem_filter]
  constructor
  · rintro ⟨hp, hl⟩
    obtain ⟨x, hx, e⟩ := mem_pl hp
    rw [h.len] at hx
    exact ⟨x, hx, e, hl⟩
  · rintro ⟨x, hx, rfl, hl⟩
    exact ⟨pl_mem (by rw [h.len]; exact hx), hl⟩
theorem Held.high_mem (h : Held n lots N L ps) {l p : Int} : p ∈ highL L ps l ↔ ∃ x : Int, (0 ≤ x ∧ x < n) ∧ p = pl ps x ∧ leB L l p = true := by
  unfold highL
  rw [List.mem_filter]
  constructor
  · rintro ⟨hp, hl⟩
    obtain ⟨x, hx, e⟩ := mem_pl hp
    rw [h.len] at hx
    exact ⟨x, hx, e, hl⟩
  · rintro ⟨x, hx, rfl, hl⟩
    exact ⟨pl_mem (by rw [h.len]; exact hx), hl⟩
/-- what is a join and a meet of places, is told -/
theorem Held.both_told (h : Held n lots N L ps) (o : IsOrd n lots) {l : Nat} (hl : l < N) (hb : bothP N L ps (l : Int) = true) : (l : Int) ∈ tl n lots N L ps := by
  unfold bothP at hb
  rw [Bool.and_eq_true, decide_eq_true_eq, decide_eq_true_eq] at hb
  have J := (joinO_iff h.o).mp hb.1
  have M := (meetO_iff h.o).mp hb.2
  have hlr : 0 ≤ (l : Int) ∧ (l : Int) < N := ⟨by omega, by omega⟩
  have hSr : inR n ((rangeI n).filter fun x => leB L (pl ps x) l) := fun x hx => mem_rI.mp (List.mem_filter.mp hx).1
  have hS : IsCut n lots ((rangeI n).filter fun x => leB L (pl ps x) l) := by
    refine ⟨ups n lots ((rangeI n).filter fun x => leB L (pl ps x) l), ups_inR _ _ _, sorted_ext ((rangeI_sorted n).sublist List.filter_sublist) (downs_lt _ _ _) fun x => ?_⟩
    constructor
    · intro hx
      exact sub_cl hSr hx
    · intro hx
      obtain ⟨hxr, hx2⟩ := mem_downsI.mp hx
      refine List.mem_filter.mpr ⟨mem_rI.mpr hxr, ?_⟩
      obtain ⟨u, eu, hu⟩ := nat_of (h.pr hxr)
      rw [eu]
      refine M.2.2 u hu fun p hp => ?_
      obtain ⟨z, hz, rfl, hlp⟩ := h.high_mem.mp hp
      rw [← eu, ← h.hold x z hxr hz]
      refine hx2 z (mem_upsI.mpr ⟨hz, fun y hy => ?_⟩)
      have hyr := hSr y hy
      rw [h.hold y z hyr hz]
      exact leI_trans h.o (h.pr hyr) hlr (h.pr hz) (List.mem_filter.mp hy).2 hlp
  refine List.mem_map.mpr ⟨_, (mem_cuts o).mpr hS, jn_jC h (jn_ext (fun p => ?_) J)⟩
  rw [h.low_mem]
  constructor
  · rintro ⟨x, hx, rfl, hle⟩
    exact List.mem_map.mpr ⟨x, List.mem_filter.mpr ⟨mem_rI.mpr hx, hle⟩, rfl⟩
  · intro hp
    obtain ⟨x, hx, rfl⟩ := List.mem_map.mp hp
    exact ⟨x, hSr x hx, rfl, (List.mem_filter.mp hx).2⟩
def Plain (n : Nat) (lots : List (List Int)) (N : Nat) (L : List (List Int)) (ps : List Int) : Prop := ∀ c, IsCut n lots c → meetO N L (plG ps (ups n lots c)) = some (jC N L ps c)
theorem Held.told_both (h : Held n lots N L ps) (pn : Plain n lots N L ps) {c : List Int} (hc : IsCut n lots c) : bothP N L ps (jC N L ps c) = true := by
  obtain ⟨j, hj, ej, _, J⟩ := h.j (cut_inR hc)
  have M := pn c hc
  rw [ej] at M ⊢
  have M := (meetO_iff h.o).mp M
  unfold bothP
  rw [Bool.and_eq_true, decide_eq_true_eq, decide_eq_true_eq]
  constructor
  · refine (joinO_iff h.o).mpr ⟨hj, fun p hp => ?_, fun k hk hz => J.2.2 k hk fun p hp => ?_⟩
    · obtain ⟨x, _, rfl, hle⟩ := h.low_mem.mp hp
      exact hle
    · obtain ⟨x, hx, rfl⟩ := List.mem_map.mp hp
      exact hz _ (h.low_mem.mpr ⟨x, cut_inR hc x hx, rfl, J.2.1 _ (List.mem_map.mpr ⟨x, hx, rfl⟩)⟩)
  · refine (meetO_iff h.o).mpr ⟨hj, fun p hp => ?_, fun k hk hz => M.2.2 k hk fun p hp => ?_⟩
    · obtain ⟨x, _, rfl, hle⟩ := h.high_mem.mp hp
      exact hle
    · obtain ⟨x, hx, rfl⟩ := List.mem_map.mp hp
      exact hz _ (h.high_mem.mpr ⟨x, ups_inR _ _ _ x hx, rfl, M.2.1 _ (List.mem_map.mpr ⟨x, hx, rfl⟩)⟩)
def bothL (N : Nat) (L : List (List Int)) (ps : List Int) : List Int := (rangeI N).filter (bothP N L ps)
theorem Held.tl_inR (h : Held n lots N L ps) (o : IsOrd n lots) : inR N (tl n lots N L ps) := fun x hx => by
  obtain ⟨c, hc, rfl⟩ := List.mem_map.mp hx
  obtain ⟨j, hj, ej, _⟩ := h.j (cut_inR ((mem_cuts o).mp hc))
  rw [ej]; omega
theorem Held.tl_nd (h : Held n lots N L ps) (o : IsOrd n lots) : (tl n lots N L ps).Nodup := by
  unfold tl
  rw [List.nodup_iff_pairwise_ne, List.pairwise_map]
  refine List.Pairwise.imp_of_mem ?_ (List.nodup_iff_pairwise_ne.mp (cuts_nd n lots))
  intro a b ha hb hne e
  have ha := (mem_cuts o).mp ha
  have hb := (mem_cuts o).mp hb
  have r := leI_refl h.o (x := jC N L ps a) (by obtain ⟨j, hj, ej, _⟩ := h.j (cut_inR ha); rw [ej]; omega)
  have h1 : leB L (jC N L ps a) (jC N L ps b) = true := by rw [← e]; exact r
  have h2 : leB L (jC N L ps b) (jC N L ps a) = true := by rw [← e]; exact r
  exact hne (sorted_ext (cut_lt ha) (cut_lt hb) fun x => ⟨(h.jle ha hb).mp h1 x, (h.jle hb ha).mp h2 x⟩)
theorem Held.both_sub (h : Held n lots N L ps) (o : IsOrd n lots) : ∀ l ∈ bothL N L ps, l ∈ tl n lots N L ps := fun l hl => by
  unfold bothL at hl
  rw [List.mem_filter, mem_rI] at hl
  obtain ⟨j, rfl, hj⟩ := nat_of hl.1
  exact h.both_told o hj hl.2
theorem Held.told_perm (h : Held n lots N L ps) (o : IsOrd n lots) (pn : Plain n lots N L ps) : (tl n lots N L ps).Perm (bothL N L ps) := by
  refine (List.perm_ext_iff_of_nodup (h.tl_nd o) ((nodup_rI N).sublist List.filter_sublist)).mpr fun l => ⟨fun hl => ?_, h.both_sub o l⟩
  have hr := h.tl_inR o l hl
  obtain ⟨c, hc, rfl⟩ := List.mem_map.mp hl
  exact List.mem_filter.mpr ⟨mem_rI.mpr hr, h.told_both pn ((mem_cuts o).mp hc)⟩
/-! ### a lattice of lots -/
structure Fam (N : Nat) (L : List (List Int)) (g : Nat → List Int) : Prop where
  o : IsOrd N L
  le : ∀ a b : Nat, a < N → b < N → (leB L (a : Int) (b : Int) = true ↔ ∀ x ∈ g a, x ∈ g b)
  top : ∃ t, t < N ∧ ∀ a, a < N → ∀ x ∈ g a, x ∈ g t
  cap : ∀ a b, a < N → b < N → ∃ c, c < N ∧ ∀ x, x ∈ g c ↔ x ∈ g a ∧ x ∈ g b
variable {g : Nat → List Int}
theorem Fam.meets (F : Fam N L g) {t : Nat} (ht : t < N) : ∀ {S : List Int}, inR N S → ∃ m, m < N ∧ ∀ x, x ∈ g m ↔ x ∈ g t ∧ ∀ i ∈ S, x ∈ g i.toNat
  | [], _ => ⟨t, ht, fun x => ⟨fun h => ⟨h, fun i hi => (by cases hi)⟩, fun h => h.1⟩⟩
  | i :: S, h => by
    obtain ⟨m, hm, e⟩ := F.meets ht (S := S) fun x hx => h x (List.mem_cons_of_mem _ hx)
    have hi := h i List.mem_cons_self
    obtain ⟨c, hc, e2⟩ := F.cap i.toNat m (by omega) hm
    refine ⟨c, hc, fun x => ?_⟩
    rw [e2, e]
    constructor
    · rintro ⟨h1, h2, h3⟩
      exact ⟨h2, fun k hk => (List.mem_cons.mp hk).elim (fun e => e ▸ h1) (h3 k)⟩
    · rintro ⟨h2, h3⟩
      exact ⟨h3 i List.mem_cons_self, h2, fun k hk => h3 k (List.mem_cons_of_mem _ hk)⟩
theorem Fam.mt (F : Fam N L g) {t : Nat} (ht : ∀ a, a < N → ∀ x ∈ g a, x ∈ g t) {S : List Int} (hS : inR N S) {m : Nat} (hm : m < N) (e : ∀ x, x ∈ g m ↔ x ∈ g t ∧ ∀ i ∈ S, x ∈ g i.toNat) : Mt N L S m := by
  refine ⟨hm, fun z hz => ?_, fun k hk hz => ?_⟩
  · obtain ⟨a, rfl, ha⟩ := nat_of (hS z hz)
    refine (F.le m a hm ha).mpr fun x hx => ?_
    have := ((e x).mp hx).2 _ hz
    rwa [Int.toNat_natCast] at this
  · refine (F.le k m hk hm).mpr fun x hx => (e x).mpr ⟨ht k hk x hx, fun i hi => ?_⟩
    obtain ⟨a, rfl, ha⟩ := nat_of (hS i hi)
    rw [Int.toNat_natCast]
    exact (F.le k a hk ha).mp (hz _ hi) x hx
theorem mt_jn (o : IsOrd N L) {S : List Int} (hS : inR N S) {m : Nat} (M : Mt N L (ups N L S) m) : Jn N L S m := by
  refine ⟨M.1, fun z hz => ?_, fun k hk hz => M.2.1 _ (mem_ups.mpr ⟨hk, hz⟩)⟩
  obtain ⟨a, rfl, ha⟩ := nat_of (hS z hz)
  exact M.2.2 a ha fun u hu => (mem_upsI.mp hu).2 _ hz
theorem Fam.lat (F : Fam N L g) : isLatL N L = true := by
  obtain ⟨t, ht, ht2⟩ := F.top
  refine isLatL_iff.mpr fun x y hx hy => ?_
  have hp : inR N [(x : Int), (y : Int)] := pair_inR hx (by omega)
  obtain ⟨m, hm, e⟩ := F.meets ht hp
  obtain ⟨j, hj, e2⟩ := F.meets ht (ups_inR N L [(x : Int), (y : Int)])
  exact ⟨(joinO_some F.o).mpr ⟨j, mt_jn F.o hp (F.mt ht2 (ups_inR _ _ _) hj e2)⟩, (meetO_some F.o).mpr ⟨m, F.mt ht2 hp hm e⟩⟩
theorem Fam.held (F : Fam N L g) (hl : ps.length = n) (hr : inR N ps) (hd : ∀ x y : Int, (0 ≤ x ∧ x < n) → (0 ≤ y ∧ y < n) → (leB lots x y = true ↔ ∀ z ∈ g (pl ps x).toNat, z ∈ g (pl ps y).toNat)) : Held n lots N L ps := by
  obtain ⟨t, ht, _⟩ := F.top
  refine ⟨F.o, by omega, F.lat, hl, hr, fun x y hx hy => ?_⟩
  obtain ⟨a, ea, ha⟩ := nat_of (hr _ (pl_mem (x := x) (by rw [hl]; exact hx)))
  obtain ⟨b, eb, hb⟩ := nat_of (hr _ (pl_mem (x := y) (by rw [hl]; exact hy)))
  rw [hd x y hx hy, ea, eb, F.le a b ha hb, Int.toNat_natCast, Int.toNat_natCast]
theorem Fam.plain (F : Fam N L g) (o : IsOrd n lots) (h : Held n lots N L ps) (hg : ∀ x : Nat, x < n → ∀ z, z ∈ g (pl ps x).toNat ↔ z ∈ lots.getD x []) {t : Nat} (ht : t < N) (ht2 : ∀ a, a < N → ∀ x ∈ g a, x ∈ g t) (htn : ∀ z, z ∈ g t ↔ 0 ≤ z ∧ z < n) : Plain n lots N L ps := fun c hc => by
  obtain ⟨e, he, ee⟩ := F.meets ht (h.gr (ups_inR n lots c))
  have M := F.mt ht2 (h.gr (ups_inR n lots c)) he ee
  have ge : ∀ z, z ∈ g e ↔ z ∈ c := fun z => by
    rw [ee, mem_cut hc, htn]
    refine and_congr_right fun hz => ⟨fun hh u hu => ?_, fun hh i hi => ?_⟩
    · obtain ⟨v, rfl, hv⟩ := nat_of (ups_inR _ _ _ u hu)
      have := (hg v hv z).mp (hh _ (List.mem_map.mpr ⟨_, hu, rfl⟩))
      rw [mem_lot, Int.toNat_natCast]; exact this
    · obtain ⟨u, hu, rfl⟩ := List.mem_map.mp hi
      obtain ⟨v, rfl, hv⟩ := nat_of (ups_inR _ _ _ u hu)
      have := hh _ hu
      rw [mem_lot, Int.toNat_natCast] at this
      exact (hg v hv z).mpr this
  have J : Jn N L (plG ps c) e := by
    refine ⟨he, fun p hp => ?_, fun k hk hz => (F.le e k he hk).mpr fun x hx => ?_⟩
    · obtain ⟨x, hx, rfl⟩ := List.mem_map.mp hp
      have hxr := cut_inR hc x hx
      obtain ⟨v, rfl, hv⟩ := nat_of hxr
      obtain ⟨a, ea, ha⟩ := nat_of (h.pr hxr)
      rw [ea]
      refine (F.le a e ha he).mpr fun z hz => (ge z).mpr ((mem_cut hc).mpr ?_)
      have hz2 := (hg v hv z).mp (by rw [ea, Int.toNat_natCast]; exact hz)
      have hzr := o.rng v hv z hz2
      exact ⟨hzr, fun u hu => leI_trans o hzr hxr (ups_inR _ _ _ u hu) (by rw [mem_lot, Int.toNat_natCast]; exact hz2) (((mem_cut hc).mp hx).2 u hu)⟩
    · have hxc := (ge x).mp hx
      have hxr := cut_inR hc x hxc
      obtain ⟨v, rfl, hv⟩ := nat_of hxr
      obtain ⟨a, ea, ha⟩ := nat_of (h.pr hxr)
      have h1 := hz _ (List.mem_map.mpr ⟨_, hxc, rfl⟩)
      rw [ea] at h1
      refine (F.le a k ha hk).mp h1 _ ?_
      have := (hg v hv (v : Int)).mpr (o.rfl v hv)
      rw [ea, Int.toNat_natCast] at this
      exact this
  rw [jn_jC h J]
  exact (meetO_iff h.o).mpr M
end
end K78

/-! k76: the plain law: lattices of lots, and such called otherwise. -/
namespace K78
open PySem L2 DL
section
variable {n N m : Nat} {lots L fs : List (List Int)} {ps : List Int} {g : Nat → List Int}
/-! ### what lots have in common -/
def gL (n : Nat) (so : List (List Int)) : List (List Int) := so.foldl foundS [rangeI n]
def capL (n : Nat) (T : List (List Int)) : List Int := (rangeI n).filter fun x => T.all fun l => decide (x ∈ l)
theorem mem_capL {T : List (List Int)} {x : Int} : x ∈ capL n T ↔ (0 ≤ x ∧ x < n) ∧ ∀ t ∈ T, x ∈ t := by
  unfold capL
  rw [List.mem_filter, mem_rI, List.all_eq_true]
  simp only [decide_eq_true_eq]
theorem capL_lt (T : List (List Int)) : (capL n T).Pairwise (· < ·) := (rangeI_sorted n).sublist List.filter_sublist
theorem interL_lt {a b : List Int} (h : a.Pairwise (· < ·)) : (interL a b).Pairwise (· < ·) := h.sublist List.filter_sublist
theorem cap_cons (T : List (List Int)) (l : List Int) : interL (capL n T) l = capL n (l :: T) := sorted_ext (interL_lt (capL_lt T)) (capL_lt _) fun x => by
  rw [mem_interL, mem_capL, mem_capL]
  constructor
  · rintro ⟨⟨h1, h2⟩, h3⟩
    exact ⟨h1, fun t ht => (List.mem_cons.mp ht).elim (fun e => e ▸ h3) (h2 t)⟩
  · rintro ⟨h1, h2⟩
    exact ⟨⟨h1, fun t ht => h2 t (List.mem_cons_of_mem _ ht)⟩, h2 l List.mem_cons_self⟩
theorem mem_gL : ∀ (so : List (List Int)) {c : List Int}, c ∈ gL n so ↔ ∃ T : List (List Int), (∀ t ∈ T, t ∈ so) ∧ c = capL n T := fun so => by
  refine snoc_ind (p := fun so => ∀ {c : List Int}, c ∈ gL n so ↔ ∃ T : List (List Int), (∀ t ∈ T, t ∈ so) ∧ c = capL n T) ?_ ?_ so
  · intro c
    show c ∈ [rangeI n] ↔ _
    have e0 : capL n [] = rangeI n := by
      unfold capL
      exact filter_true _
    rw [List.mem_singleton]
    constructor
    · rintro rfl
      exact ⟨[], fun t ht => (by cases ht), e0.symm⟩
    · rintro ⟨T, hT, rfl⟩
      cases T with
      | nil => exact e0
      | cons t T => exact absurd (hT t List.mem_cons_self) List.not_mem_nil
  · intro so l ih c
    have e : gL n (so ++ [l]) = foundS (gL n so) l := by unfold gL; rw [List.foldl_append]; rfl
    rw [e, mem_foundS]
    constructor
    · rintro (h | ⟨o, ho, rfl⟩)
      · obtain ⟨T, hT, rfl⟩ := ih.mp h
        exact ⟨T, fun t ht => List.mem_append_left _ (hT t ht), rfl⟩
      · obtain ⟨T, hT, rfl⟩ := ih.mp ho
        exact ⟨l :: T, fun t ht => (List.mem_cons.mp ht).elim (fun e => by rw [e]; simp) fun h => List.mem_append_left _ (hT t h), cap_cons T l⟩
    · rintro ⟨T, hT, rfl⟩
      by_cases hl : l ∈ T
      · refine .inr ⟨capL n (T.filter fun t => decide (t ∈ so)), ih.mpr ⟨_, fun t ht => of_decide_eq_true (List.mem_filter.mp ht).2, rfl⟩, ?_⟩
        refine sorted_ext (capL_lt _) (interL_lt (capL_lt _)) fun x => ?_
        rw [mem_interL, mem_capL, mem_capL]
        constructor
        · rintro ⟨h1, h2⟩
          exact ⟨⟨h1, fun t ht => h2 t (List.mem_filter.mp ht).1⟩, h2 l hl⟩
        · rintro ⟨⟨h1, h2⟩, h3⟩
          refine ⟨h1, fun t ht => ?_⟩
          rcases List.mem_append.mp (hT t ht) with h | h
          · exact h2 t (List.mem_filter.mpr ⟨ht, decide_eq_true h⟩)
          · rw [List.mem_singleton.mp h]; exact h3
      · refine .inl (ih.mpr ⟨T, fun t ht => ?_, rfl⟩)
        rcases List.mem_append.mp (hT t ht) with h | h
        · exact h
        · exact absurd (List.mem_singleton.mp h ▸ ht) hl
structure LotsOk (m : Nat) (fs : List (List Int)) : Prop where
  srt : ∀ l ∈ fs, l.Pairwise (· < ·)
  nd : fs.Nodup
  rng : ∀ l ∈ fs, inR m l
  top : rangeI m ∈ fs
  cap : ∀ a ∈ fs, ∀ b ∈ fs, interL a b ∈ fs
theorem LotsOk.perm {fs' : List (List Int)} (h : LotsOk m fs) (p : fs'.Perm fs) : LotsOk m fs' :=
  ⟨fun l hl => h.srt l (p.mem_iff.mp hl), p.nodup_iff.mpr h.nd, fun l hl => h.rng l (p.mem_iff.mp hl), p.mem_iff.mpr h.top, fun a ha b hb => p.mem_iff.mpr (h.cap a (p.mem_iff.mp ha) b (p.mem_iff.mp hb))⟩
theorem lotsOk_gL (so : List (List Int)) : LotsOk n (gL n so) := by
  refine ⟨fun l hl => ?_, found_nodup (List.nodup_cons.mpr ⟨List.not_mem_nil, List.nodup_nil⟩), fun l hl x hx => ?_, (mem_gL so).mpr ⟨[], fun t ht => (by cases ht), ?_⟩, fun a ha b hb => ?_⟩
  · obtain ⟨T, _, rfl⟩ := (mem_gL so).mp hl
    exact capL_lt T
  · obtain ⟨T, _, rfl⟩ := (mem_gL so).mp hl
    exact (mem_capL.mp hx).1
  · unfold capL
    exact (filter_true _).symm
  · obtain ⟨T, hT, rfl⟩ := (mem_gL so).mp ha
    obtain ⟨U, hU, rfl⟩ := (mem_gL so).mp hb
    refine (mem_gL so).mpr ⟨T ++ U, fun t ht => (List.mem_append.mp ht).elim (hT t) (hU t), sorted_ext (interL_lt (capL_lt _)) (capL_lt _) fun x => ?_⟩
    rw [mem_interL, mem_capL, mem_capL, mem_capL]
    constructor
    · rintro ⟨⟨h1, h2⟩, _, h3⟩
      exact ⟨h1, fun t ht => (List.mem_append.mp ht).elim (h2 t) (h3 t)⟩
    · rintro ⟨h1, h2⟩
      exact ⟨⟨h1, fun t ht => h2 t (List.mem_append_left _ ht)⟩, h1, fun t ht => h2 t (List.mem_append_right _ ht)⟩
theorem gL_self {so : List (List Int)} {l : List Int} (h : l ∈ so) (hs : l.Pairwise (· < ·)) (hr : inR n l) : l ∈ gL n so := by
  refine (mem_gL so).mpr ⟨[l], fun t ht => by rw [List.mem_singleton.mp ht]; exact h, sorted_ext hs (capL_lt _) fun x => ?_⟩
  rw [mem_capL]
  constructor
  · intro hx
    exact ⟨hr x hx, fun t ht => by rw [List.mem_singleton.mp ht]; exact hx⟩
  · intro hx
    exact hx.2 l (List.mem_singleton.mpr rfl)
theorem lots_len (h : LotsOk n fs) : fs.length ≤ 2 ^ n := by
  have e : fs.length = ((partsL (rangeI n)).filter fun p => decide (p ∈ fs)).length := by
    refine len_of_mem h.nd ((partsL_nodup (nodup_rI n)).sublist List.filter_sublist) fun x => ?_
    rw [List.mem_filter, decide_eq_true_eq]
    refine ⟨fun hx => ⟨mem_partsL.mpr (sub_of_sorted (h.srt x hx) (rangeI_sorted n) fun y hy => mem_rI.mpr (h.rng x hx y hy)), hx⟩, fun hx => hx.2⟩
  have := List.length_filter_le (fun p => decide (p ∈ fs)) (partsL (rangeI n))
  rw [partsL_len, rI_len] at this
  omega
theorem lotsOk_cuts (o : IsOrd n lots) : LotsOk n (cutsL n lots) := by
  refine ⟨fun l hl => cut_lt ((mem_cuts o).mp hl), cuts_nd n lots, fun l hl => cut_inR ((mem_cuts o).mp hl), (mem_cuts o).mpr ⟨[], fun y hy => (by cases hy), sorted_ext (rangeI_sorted n) (downs_lt _ _ _) fun x => ?_⟩, fun a ha b hb => (mem_cuts o).mpr (inter_cut o ((mem_cuts o).mp ha) ((mem_cuts o).mp hb))⟩
  rw [mem_rI, mem_downsI]
  exact ⟨fun h => ⟨h, fun z hz => (by cases hz)⟩, fun h => h.1⟩
/-- one more thing under all, and over all -/
def moreL (n : Nat) (fs : List (List Int)) : List (List Int) := [[]] ++ fs.map (· ++ [(n : Int)]) ++ [rangeI (n + 2)]
theorem mem_moreL {c : List Int} : c ∈ moreL n fs ↔ c = [] ∨ (∃ l ∈ fs, c = l ++ [(n : Int)]) ∨ c = rangeI (n + 2) := by
  unfold moreL
  rw [List.mem_append, List.mem_append, List.mem_singleton, List.mem_singleton, List.mem_map, or_assoc]
  refine or_congr Iff.rfl (or_congr ⟨fun ⟨l, h, e⟩ => ⟨l, h, e.symm⟩, fun ⟨l, h, e⟩ => ⟨l, h, e.symm⟩⟩ Iff.rfl)
theorem lotsOk_more (h : LotsOk n fs) : LotsOk (n + 2) (moreL n fs) := by
  have hin : ∀ c ∈ moreL n fs, c.Pairwise (· < ·) ∧ inR (n + 2) c := fun c hc => by
    rcases mem_moreL.mp hc with rfl | ⟨l, hl, rfl⟩ | rfl
    · exact ⟨List.Pairwise.nil, fun x hx => (by cases hx)⟩
    · refine ⟨?_, fun x hx => ?_⟩
      · rw [List.pairwise_append]
        refine ⟨h.srt l hl, List.pairwise_cons.mpr ⟨fun a ha => (by cases ha), List.Pairwise.nil⟩, fun a ha b hb => ?_⟩
        rw [List.mem_singleton.mp hb]
        have := h.rng l hl a ha
        omega
      · rcases List.mem_append.mp hx with hx | hx
        · have := h.rng l hl x hx
          omega
        · rw [List.mem_singleton.mp hx]; omega
    · exact ⟨rangeI_sorted _, fun x hx => mem_rI.mp hx⟩
  refine ⟨fun l hl => (hin l hl).1, ?_, fun l hl => (hin l hl).2, mem_moreL.mpr (.inr (.inr rfl)), fun a ha b hb => ?_⟩
  · unfold moreL
    rw [List.nodup_append, List.nodup_append]
    refine ⟨⟨List.nodup_cons.mpr ⟨List.not_mem_nil, List.nodup_nil⟩, ?_, ?_⟩, List.nodup_cons.mpr ⟨List.not_mem_nil, List.nodup_nil⟩, ?_⟩
    · rw [List.nodup_iff_pairwise_ne, List.pairwise_map]
      exact (List.nodup_iff_pairwise_ne.mp h.nd).imp fun hne e => hne (List.append_cancel_right e)
    · intro a ha b hb e
      rw [List.mem_singleton.mp ha] at e
      obtain ⟨l, _, rfl⟩ := List.mem_map.mp hb
      have := congrArg List.length e
      simp at this
    · intro a ha b hb e
      rw [List.mem_singleton.mp hb] at e
      subst e
      have h1 : ((n : Int) + 1) ∈ rangeI (n + 2) := mem_rI.mpr ⟨by omega, by omega⟩
      rcases List.mem_append.mp ha with ha | ha
      · rw [List.mem_singleton.mp ha] at h1
        cases h1
      · obtain ⟨l, hl, e⟩ := List.mem_map.mp ha
        rw [← e] at h1
        rcases List.mem_append.mp h1 with h1 | h1
        · have := h.rng l hl _ h1
          omega
        · have := List.mem_singleton.mp h1
          omega
  · have hsa := (hin a ha).1
    have hsb := (hin b hb).1
    have hra := (hin a ha).2
    have hrb := (hin b hb).2
    have top_l : ∀ {c : List Int}, c.Pairwise (· < ·) → inR (n + 2) c → interL (rangeI (n + 2)) c = c := fun hc hr => sorted_ext (interL_lt (rangeI_sorted _)) hc fun x => by
      rw [mem_interL, mem_rI]
      exact ⟨fun h => h.2, fun h => ⟨hr x h, h⟩⟩
    have top_r : ∀ {c : List Int}, c.Pairwise (· < ·) → inR (n + 2) c → interL c (rangeI (n + 2)) = c := fun hc hr => sorted_ext (interL_lt hc) hc fun x => by
      rw [mem_interL, mem_rI]
      exact ⟨fun h => h.1, fun h => ⟨h, hr x h⟩⟩
    rcases mem_moreL.mp ha with rfl | ⟨l, hl, rfl⟩ | rfl
    · exact ha
    · rcases mem_moreL.mp hb with rfl | ⟨k, hk, rfl⟩ | rfl
      · have e : interL (l ++ [(n : Int)]) [] = [] := sorted_ext (interL_lt hsa) List.Pairwise.nil fun x => by
          rw [mem_interL]
          exact ⟨fun h => h.2, fun h => (by cases h)⟩
        rw [e]; exact hb
      · refine mem_moreL.mpr (.inr (.inl ⟨interL l k, h.cap l hl k hk, ?_⟩))
        refine sorted_ext (interL_lt hsa) ?_ fun x => ?_
        · exact (hin _ (mem_moreL.mpr (.inr (.inl ⟨interL l k, h.cap l hl k hk, rfl⟩)))).1
        · rw [mem_interL, List.mem_append, List.mem_append, List.mem_append, mem_interL, List.mem_singleton]
          constructor
          · rintro ⟨h1 | h1, h2 | h2⟩
            · exact .inl ⟨h1, h2⟩
            · exact .inr h2
            · exact .inr h1
            · exact .inr h2
          · rintro (⟨h1, h2⟩ | h1)
            · exact ⟨.inl h1, .inl h2⟩
            · exact ⟨.inr h1, .inr h1⟩
      · rw [top_r hsa hra]; exact ha
    · rw [top_l hsb hrb]; exact hb
/-! ### an order held in it -/
structure HF (n : Nat) (lots : List (List Int)) (N : Nat) (L : List (List Int)) (ps : List Int) (g : Nat → List Int) : Prop where
  F : Fam N L g
  len : ps.length = n
  rng : inR N ps
  hd : ∀ x y : Int, (0 ≤ x ∧ x < n) → (0 ≤ y ∧ y < n) → (leB lots x y = true ↔ ∀ z ∈ g (pl ps x).toNat, z ∈ g (pl ps y).toNat)
structure HP (n : Nat) (lots : List (List Int)) (N : Nat) (ps : List Int) (g : Nat → List Int) : Prop where
  hg : ∀ x : Nat, x < n → ∀ z, z ∈ g (pl ps x).toNat ↔ z ∈ lots.getD x []
  tp : ∃ t, t < N ∧ (∀ a, a < N → ∀ x ∈ g a, x ∈ g t) ∧ ∀ z : Int, z ∈ g t ↔ 0 ≤ z ∧ z < n
theorem HF.held (h : HF n lots N L ps g) : Held n lots N L ps := h.F.held h.len h.rng h.hd
theorem HF.plain (h : HF n lots N L ps g) (o : IsOrd n lots) (p : HP n lots N ps g) : Plain n lots N L ps := by
  obtain ⟨t, ht, ht2, ht3⟩ := p.tp
  exact h.F.plain o h.held p.hg ht ht2 ht3
theorem getD_mem {ls : List (List Int)} {a : Nat} (h : a < ls.length) : ls.getD a [] ∈ ls := by
  rw [List.getD_eq_getElem?_getD, List.getElem?_eq_getElem h]
  exact List.getElem_mem h
theorem mem_getD {ls : List (List Int)} {l : List Int} (h : l ∈ ls) : ls.idxOf l < ls.length ∧ ls.getD (ls.idxOf l) [] = l := by
  have hl : ls.idxOf l < ls.length := List.idxOf_lt_length_of_mem h
  refine ⟨hl, ?_⟩
  rw [List.getD_eq_getElem?_getD, List.getElem?_eq_getElem hl, List.getElem_idxOf hl]; rfl
theorem fam_of (h : LotsOk m fs) : Fam fs.length (ofLots fs) (fun a => fs.getD a []) := by
  refine ⟨ofLots_isOrd h.srt h.nd, fun a b ha hb => ?_, ?_, fun a b ha hb => ?_⟩
  · rw [leB_iff, mem_ofLots hb]
    exact ⟨fun h => h.2, fun h => ⟨ha, h⟩⟩
  · obtain ⟨h1, h2⟩ := mem_getD h.top
    refine ⟨_, h1, fun a ha x hx => ?_⟩
    rw [h2]
    exact mem_rI.mpr (h.rng _ (getD_mem ha) x hx)
  · obtain ⟨h1, h2⟩ := mem_getD (h.cap _ (getD_mem ha) _ (getD_mem hb))
    refine ⟨_, h1, fun x => ?_⟩
    rw [h2]
    exact mem_interL
/-- where the things go -/
def psL (fs lots : List (List Int)) (ext : List Int) : List Int := lots.map fun l => (fs.idxOf (l ++ ext) : Int)
theorem psL_at {ext : List Int} {x : Nat} (hx : x < lots.length) : pl (psL fs lots ext) x = (fs.idxOf (lots.getD x [] ++ ext) : Int) := by
  unfold pl psL
  rw [Int.toNat_natCast, List.getD_eq_getElem?_getD, List.getElem?_map, List.getElem?_eq_getElem hx, List.getD_eq_getElem?_getD, List.getElem?_eq_getElem hx]; rfl
theorem hf_of (o : IsOrd n lots) (h : LotsOk m fs) {ext : List Int} (he : ∀ z ∈ ext, ¬ (0 ≤ z ∧ z < n)) (hm : ∀ l ∈ lots, l ++ ext ∈ fs) : HF n lots fs.length (ofLots fs) (psL fs lots ext) (fun a => fs.getD a []) := by
  refine ⟨fam_of h, by unfold psL; rw [List.length_map, o.len], fun p hp => ?_, fun x y hx hy => ?_⟩
  · obtain ⟨l, hl, rfl⟩ := List.mem_map.mp hp
    have := (mem_getD (hm l hl)).1
    omega
  · obtain ⟨a, rfl, ha⟩ := nat_of hx
    obtain ⟨b, rfl, hb⟩ := nat_of hy
    have ma := mem_getD (hm _ (getD_mem (show a < lots.length by rw [o.len]; exact ha)))
    have mb := mem_getD (hm _ (getD_mem (show b < lots.length by rw [o.len]; exact hb)))
    rw [psL_at (by rw [o.len]; exact ha), psL_at (by rw [o.len]; exact hb), Int.toNat_natCast, Int.toNat_natCast]
    show _ ↔ ∀ z ∈ fs.getD _ [], z ∈ fs.getD _ []
    rw [ma.2, mb.2, leB_iff]
    constructor
    · intro hab z hz
      rcases List.mem_append.mp hz with hz | hz
      · refine List.mem_append_left _ ?_
        obtain ⟨c, rfl, hc⟩ := nat_of (o.rng a ha z hz)
        exact o.trn c a b hc ha hb hz hab
      · exact List.mem_append_right _ hz
    · intro hh
      rcases List.mem_append.mp (hh a (List.mem_append_left _ (o.rfl a ha))) with h | h
      · exact h
      · exact absurd ⟨by omega, by omega⟩ (he _ h)
theorem hp_of (o : IsOrd n lots) (h : LotsOk n fs) (hm : ∀ l ∈ lots, l ++ [] ∈ fs) : HP n lots fs.length (psL fs lots []) (fun a => fs.getD a []) := by
  refine ⟨fun x hx z => ?_, ?_⟩
  · have ma := mem_getD (hm _ (getD_mem (show x < lots.length by rw [o.len]; exact hx)))
    rw [psL_at (by rw [o.len]; exact hx), Int.toNat_natCast]
    show z ∈ fs.getD _ [] ↔ _
    rw [ma.2, List.append_nil]
  · obtain ⟨h1, h2⟩ := mem_getD h.top
    refine ⟨_, h1, fun a ha x hx => ?_, fun z => ?_⟩
    · show x ∈ fs.getD _ []
      rw [h2]
      exact mem_rI.mpr (h.rng _ (getD_mem ha) x hx)
    · show z ∈ fs.getD _ [] ↔ _
      rw [h2, mem_rI]
/-! ### called otherwise -/
def sI (l : List Int) : List Int := l.mergeSort fun a b => decide (a ≤ b)
theorem sI_le (l : List Int) : (sI l).Pairwise (· ≤ ·) := by
  have := List.pairwise_mergeSort (le := fun a b : Int => decide (a ≤ b)) (by intro a b c; simp; omega) (by intro a b; simp; omega) l
  unfold sI
  simpa using this
theorem sI_eq {l l' : List Int} (p : l'.Perm l) (h : l'.Pairwise (· ≤ ·)) : l' = sI l :=
  List.Perm.eq_of_pairwise (le := fun a b : Int => a ≤ b) (fun a b _ _ h1 h2 => by omega) h (sI_le l) (p.trans (List.mergeSort_perm _ _).symm)
theorem mem_sI {l : List Int} {x : Int} : x ∈ sI l ↔ x ∈ l := (List.mergeSort_perm _ _).mem_iff
def nm (names : List Int) (y : Nat) : Nat := (pl names y).toNat
def renL (names : List Int) (L : List (List Int)) (N j : Nat) : List (List Int) := (List.range j).foldl (fun acc y => acc.set (nm names y) (sI ((L.getD y []).map (pl names)))) (List.replicate N [])
variable {names : List Int}
theorem renL_succ (j : Nat) : renL names L N (j + 1) = (renL names L N j).set (nm names j) (sI ((L.getD j []).map (pl names))) := by
  unfold renL
  rw [List.range_succ, List.foldl_append]; rfl
theorem renL_len : ∀ j, (renL names L N j).length = N
  | 0 => List.length_replicate
  | j + 1 => by rw [renL_succ, List.length_set]; exact renL_len j
structure Nms (N : Nat) (names : List Int) : Prop where
  len : names.length = N
  rng : inR N names
  inj : ∀ a b : Nat, a < N → b < N → pl names a = pl names b → a = b
  sur : ∀ c : Nat, c < N → ∃ b : Nat, b < N ∧ pl names b = c
theorem nms_of (p : names.Perm (rangeI N)) : Nms N names := by
  have hl : names.length = N := by rw [p.length_eq, rI_len]
  have nd : names.Nodup := p.nodup_iff.mpr (nodup_rI N)
  refine ⟨hl, fun x hx => mem_rI.mp (p.mem_iff.mp hx), fun a b ha hb e => ?_, fun c hc => ?_⟩
  · have ga : pl names a = names[a]'(by omega) := by unfold pl; rw [Int.toNat_natCast, List.getD_eq_getElem?_getD, List.getElem?_eq_getElem (by omega)]; rfl
    have gb : pl names b = names[b]'(by omega) := by unfold pl; rw [Int.toNat_natCast, List.getD_eq_getElem?_getD, List.getElem?_eq_getElem (by omega)]; rfl
    rw [ga, gb] at e
    have pw := List.pairwise_iff_getElem.mp (List.nodup_iff_pairwise_ne.mp nd)
    rcases Nat.lt_trichotomy a b with h | h | h
    · exact absurd e (pw a b (by omega) (by omega) h)
    · exact h
    · exact absurd e.symm (pw b a (by omega) (by omega) h)
  · have : (c : Int) ∈ names := p.mem_iff.mpr (mem_rI.mpr ⟨by omega, by omega⟩)
    obtain ⟨x, hx, e⟩ := mem_pl this
    obtain ⟨b, rfl, hb⟩ := nat_of hx
    exact ⟨b, by omega, e.symm⟩
theorem Nms.nm (M : Nms N names) {b : Nat} (hb : b < N) : pl names b = (K78.nm names b : Int) ∧ K78.nm names b < N := by
  have := M.rng _ (pl_mem (x := (b : Int)) (by rw [M.len]; omega))
  unfold K78.nm
  omega
theorem renL_at (M : Nms N names) : ∀ {j y : Nat}, y < j → j ≤ N → (renL names L N j).getD (nm names y) [] = sI ((L.getD y []).map (pl names))
  | j + 1, y, hy, hj => by
    rw [renL_succ, List.getD_eq_getElem?_getD]
    by_cases e : y = j
    · subst e
      rw [List.getElem?_set_self (by rw [renL_len]; exact (M.nm (by omega)).2)]; rfl
    · rw [List.getElem?_set_ne, ← List.getD_eq_getElem?_getD]
      · exact renL_at M (by omega) (by omega)
      · intro z
        have h1 := (M.nm (b := j) (by omega)).1
        have h2 := (M.nm (b := y) (by omega)).1
        exact e (M.inj y j (by omega) (by omega) (by rw [h1, h2, z]))
theorem renL_mem (o : IsOrd N L) (M : Nms N names) {a b : Nat} (ha : a < N) (hb : b < N) : (nm names a : Int) ∈ (renL names L N N).getD (nm names b) [] ↔ (a : Int) ∈ L.getD b [] := by
  rw [renL_at M hb (Nat.le_refl _), mem_sI, ← (M.nm ha).1, List.mem_map]
  constructor
  · rintro ⟨c, hc, e⟩
    obtain ⟨d, rfl, hd⟩ := nat_of (o.rng b hb c hc)
    rw [← M.inj d a hd ha e]; exact hc
  · intro h
    exact ⟨_, h, rfl⟩
theorem Nms.sur' (M : Nms N names) {c : Nat} (hc : c < N) : ∃ b : Nat, b < N ∧ K78.nm names b = c := by
  obtain ⟨b, hb, e⟩ := M.sur c hc
  refine ⟨b, hb, ?_⟩
  have := (M.nm hb).1
  omega
theorem Nms.inj' (M : Nms N names) {a b : Nat} (ha : a < N) (hb : b < N) (e : K78.nm names a = K78.nm names b) : a = b := M.inj a b ha hb (by rw [(M.nm ha).1, (M.nm hb).1, e])
theorem renL_isOrd (o : IsOrd N L) (M : Nms N names) : IsOrd N (renL names L N N) := by
  have hsr : ∀ y, y < N → ((renL names L N N).getD y []).Pairwise (· < ·) ∧ inR N ((renL names L N N).getD y []) := fun y hy => by
    obtain ⟨b, hb, rfl⟩ := M.sur' hy
    rw [renL_at M hb (Nat.le_refl _)]
    have nd : ((L.getD b []).map (pl names)).Nodup := by
      rw [List.nodup_iff_pairwise_ne, List.pairwise_map]
      refine List.Pairwise.imp_of_mem ?_ (o.srt b hb)
      intro c d hc hd hlt e
      obtain ⟨c, rfl, hc2⟩ := nat_of (o.rng b hb c hc)
      obtain ⟨d, rfl, hd2⟩ := nat_of (o.rng b hb d hd)
      have := M.inj c d hc2 hd2 e
      omega
    refine ⟨sorted_lt (sI_le _) ((List.mergeSort_perm _ _).nodup_iff.mpr nd), fun x hx => ?_⟩
    obtain ⟨c, hc, rfl⟩ := List.mem_map.mp (mem_sI.mp hx)
    obtain ⟨c, rfl, hc2⟩ := nat_of (o.rng b hb c hc)
    have := M.nm hc2
    omega
  refine ⟨renL_len N, fun y hy => (hsr y hy).1, fun y hy => (hsr y hy).2, fun x hx => ?_, fun x y z hx hy hz h1 h2 => ?_, fun x y hx hy h1 h2 => ?_⟩
  · obtain ⟨b, hb, rfl⟩ := M.sur' hx
    exact (renL_mem o M hb hb).mpr (o.rfl b hb)
  · obtain ⟨a, ha, rfl⟩ := M.sur' hx
    obtain ⟨b, hb, rfl⟩ := M.sur' hy
    obtain ⟨c, hc, rfl⟩ := M.sur' hz
    rw [renL_mem o M ha hb] at h1
    rw [renL_mem o M hb hc] at h2
    exact (renL_mem o M ha hc).mpr (o.trn a b c ha hb hc h1 h2)
  · obtain ⟨a, ha, rfl⟩ := M.sur' hx
    obtain ⟨b, hb, rfl⟩ := M.sur' hy
    rw [renL_mem o M ha hb] at h1
    rw [renL_mem o M hb ha] at h2
    rw [o.ant a b ha hb h1 h2]
/-- the lot of a thing called otherwise -/
def gR (names : List Int) (g : Nat → List Int) (c : Nat) : List Int := g (names.idxOf (c : Int))
theorem gR_at (M : Nms N names) {b : Nat} (hb : b < N) : gR names g (nm names b) = g b := by
  have hm : (nm names b : Int) ∈ names := by
    rw [← (M.nm hb).1]
    exact pl_mem (by rw [M.len]; omega)
  have hi : names.idxOf (nm names b : Int) < names.length := List.idxOf_lt_length_of_mem hm
  have e : pl names (names.idxOf (nm names b : Int) : Nat) = (nm names b : Int) := by
    unfold pl
    rw [Int.toNat_natCast, List.getD_eq_getElem?_getD, List.getElem?_eq_getElem hi, List.getElem_idxOf hi]; rfl
  unfold gR
  rw [M.inj (names.idxOf (nm names b : Int)) b (by rw [← M.len]; exact hi) hb (by rw [e, (M.nm hb).1])]
theorem Fam.ren (F : Fam N L g) (M : Nms N names) : Fam N (renL names L N N) (gR names g) := by
  refine ⟨renL_isOrd F.o M, fun x y hx hy => ?_, ?_, fun x y hx hy => ?_⟩
  · obtain ⟨a, ha, rfl⟩ := M.sur' hx
    obtain ⟨b, hb, rfl⟩ := M.sur' hy
    rw [gR_at M ha, gR_at M hb, leB_iff, renL_mem F.o M ha hb, ← leB_iff]
    exact F.le a b ha hb
  · obtain ⟨t, ht, ht2⟩ := F.top
    refine ⟨nm names t, (M.nm ht).2, fun x hx => ?_⟩
    obtain ⟨a, ha, rfl⟩ := M.sur' hx
    rw [gR_at M ha, gR_at M ht]
    exact ht2 a ha
  · obtain ⟨a, ha, rfl⟩ := M.sur' hx
    obtain ⟨b, hb, rfl⟩ := M.sur' hy
    obtain ⟨c, hc, e⟩ := F.cap a b ha hb
    refine ⟨nm names c, (M.nm hc).2, ?_⟩
    rw [gR_at M ha, gR_at M hb, gR_at M hc]
    exact e
theorem plG_at {x : Int} (h : 0 ≤ x ∧ x < (ps.length : Nat)) : pl (plG names ps) x = pl names (pl ps x) := by
  have hx : x.toNat < ps.length := by omega
  unfold plG
  show (ps.map (pl names)).getD x.toNat 0 = pl names (ps.getD x.toNat 0)
  rw [List.getD_eq_getElem?_getD, List.getElem?_map, List.getElem?_eq_getElem hx, List.getD_eq_getElem?_getD, List.getElem?_eq_getElem hx]; rfl
theorem HF.nmAt (h : HF n lots N L ps g) (M : Nms N names) {x : Int} (hx : 0 ≤ x ∧ x < n) : gR names g (pl (plG names ps) x).toNat = g (pl ps x).toNat := by
  rw [plG_at (by rw [h.len]; exact hx)]
  obtain ⟨a, ea, ha⟩ := nat_of (h.rng _ (pl_mem (x := x) (by rw [h.len]; exact hx)))
  rw [ea, Int.toNat_natCast, (M.nm ha).1, Int.toNat_natCast, gR_at M ha]
theorem HF.ren (h : HF n lots N L ps g) (M : Nms N names) : HF n lots N (renL names L N N) (plG names ps) (gR names g) := by
  refine ⟨h.F.ren M, by unfold plG; rw [List.length_map]; exact h.len, fun p hp => ?_, fun x y hx hy => ?_⟩
  · obtain ⟨q, hq, rfl⟩ := List.mem_map.mp hp
    obtain ⟨b, rfl, hb⟩ := nat_of (h.rng q hq)
    have := M.nm hb
    omega
  · rw [h.nmAt M hx, h.nmAt M hy]
    exact h.hd x y hx hy
theorem HP.ren (h : HF n lots N L ps g) (p : HP n lots N ps g) (M : Nms N names) : HP n lots N (plG names ps) (gR names g) := by
  refine ⟨fun x hx z => ?_, ?_⟩
  · rw [h.nmAt M (x := (x : Int)) ⟨by omega, by omega⟩]
    exact p.hg x hx z
  · obtain ⟨t, ht, ht2, ht3⟩ := p.tp
    refine ⟨nm names t, (M.nm ht).2, fun x hx => ?_, ?_⟩
    · obtain ⟨a, ha, rfl⟩ := M.sur' hx
      rw [gR_at M ha, gR_at M ht]
      exact ht2 a ha
    · rw [gR_at M ht]
      exact ht3
end
end K78

/-! k76: walks: all lots, places of cuts, what holds, other names. -/
namespace K78
open PySem L2 DL
theorem pl_atI {ps : List Int} {x : Int} (h : 0 ≤ x ∧ x < (ps.length : Nat)) : atI (ps.map PyData.int) x = some (.int (pl ps x)) := by
  obtain ⟨a, rfl, ha⟩ := nat_of h
  refine atI_nn ?_
  unfold pl
  rw [List.getElem?_map, Int.toNat_natCast, List.getElem?_eq_getElem ha, List.getD_eq_getElem?_getD, List.getElem?_eq_getElem ha]; rfl
theorem plG_eq (ps S : List Int) : (S.map fun x => PyData.int (pl ps x)) = (plG ps S).map .int := by unfold plG; rw [List.map_map]; rfl
theorem plG_len (ps S : List Int) : (plG ps S).length = S.length := by unfold plG; rw [List.length_map]
def eqB (lots L : List (List Int)) (ps : List Int) (x y : Int) : Bool := decide (leB lots x y = leB L (pl ps x) (pl ps y))
def holdB (n : Nat) (lots L : List (List Int)) (ps : List Int) : Bool := (List.range n).all fun x => (List.range n).all fun y => eqB lots L ps (x : Int) (y : Int)
theorem holdB_iff {n : Nat} {lots L : List (List Int)} {ps : List Int} : holdB n lots L ps = true ↔ ∀ x y : Nat, x < n → y < n → eqB lots L ps (x : Int) (y : Int) = true := by
  unfold holdB
  simp only [List.all_eq_true, List.mem_range]
  exact ⟨fun h x y hx hy => h x hx y hy, fun h x hx y hy => h x y hx hy⟩
theorem holdB_false {n : Nat} {lots L : List (List Int)} {ps : List Int} {x y : Nat} (hx : x < n) (hy : y < n) (h : eqB lots L ps (x : Int) (y : Int) = false) : holdB n lots L ps = false := by
  cases e : holdB n lots L ps with
  | false => rfl
  | true => rw [holdB_iff.mp e x y hx hy] at h; cases h
theorem rep_lots (L : List (List Int)) (names : List Int) : ∀ N : Nat, (List.replicate N [PyData.tuple []]).flatten = (renL names L N 0).map lotD := fun N => by
  show _ = (List.replicate N ([] : List Int)).map lotD
  induction N with
  | zero => rfl
  | succ N ih => rw [List.replicate_succ, List.flatten_cons, ih, List.replicate_succ, List.map_cons]; rfl
section
variable {P : Program} {w : World} {K : PySem.W.Frag} {mg : Str → Option Value} {base : Heap}
/-! ### all lots -/
def φLots : List Ar → (D → Prop) → Prop := fun as Kd => ∃ n : Nat, as = [.d (.int n)] ∧ n ≤ 12 ∧ Kd (.list ((partsL (rangeI n)).map lotD))
theorem rI_succ (n : Nat) : rangeI (n + 1) = rangeI n ++ [(n : Int)] := by
  unfold rangeI
  rw [List.range_succ, List.map_append]; rfl
theorem small12 {n : Nat} (h : n ≤ 12) : 2 ^ n ≤ 4096 := Nat.pow_le_pow_right (by decide) h
/-! ### places of cuts -/
def φCP : List Ar → (D → Prop) → Prop := fun as Kd => ∃ (n N : Nat) (lots L : List (List Int)) (ps : List Int), as = [.d (ordD n lots), .d (ordD N L), .d (lotD ps)] ∧ IsOrd n lots ∧ n ≤ 9 ∧ L.length = N ∧ N ≤ 1000 ∧ ps.length = n ∧ Kd (.tuple ((cutsL n lots).map fun c => optD (joinO N L (plG ps c))))
/-! ### what holds -/
def φHG : List Ar → (D → Prop) → Prop := fun as Kd => ∃ (n N : Nat) (lots L : List (List Int)) (ps : List Int), as = [.d (ordD n lots), .d (ordD N L), .d (lotD ps)] ∧ lots.length = n ∧ n ≤ 1000 ∧ L.length = N ∧ ps.length = n ∧ inR N ps ∧ Kd (.bool (holdB n lots L ps))
/-! ### other names -/
def φRen : List Ar → (D → Prop) → Prop := fun as Kd => ∃ (N : Nat) (L : List (List Int)), as = [.src, .d (ordD N L)] ∧ IsOrd N L ∧ N ≤ 1000 ∧ ∀ names : List Int, names.Perm (rangeI N) → Kd (.tuple [ordD N (renL names L N N), .list (names.map .int)])
end
end K78


namespace K78
open PySem L2 DL
theorem sc_law_of : FnScope ["source", "some"] ["source", "some"] (defScope (topS 23)) := ⟨rfl, rfl, rfl, by decide +kernel, rfl, by decide +kernel, by decide +kernel⟩
section
variable {P : Program} {w : World} {K : PySem.W.Frag} {mg : Str → Option Value} {base : Heap}
end
end K78

namespace K78
open PySem L2 DL
section
variable {P : Program} {w : World} {K : PySem.W.Frag} {mg : Str → Option Value} {base : Heap}
theorem ok_of {f fP : Addr} {fd fdP : FuncData} (F : Fun K "_law_of" "_law_of" (topS 23) f fd) (T : Txs mg) (NP : Dn K mg "_law_pick" (topS 22) ["source", "many"] fP fdP) : FnOk P w K mg base CX0 2 f fd ["source", "some"] (SpD φOf) := by
  refine fn_D F sc_law_of (fun as Kd h => ?_) (fun as Kd r cdv A outer s H E hr h => ?_)
  · obtain ⟨ds, rfl, _⟩ := h
    rfl
  · obtain ⟨ds, rfl, h0, hl, k⟩ := h
    have nd := sc_law_of.nd
    refine jret (jix ix_list (jv 1 (jcall hr NP (ok_pick NP.F T) (jAs 0 (ja1 (jlen T.len (jv 1 ⟨_, .inl rfl, (ds.length : Nat), rfl, by omega, fun v h1 h2 => ?_⟩)))))))
    have hv := pick_at h0 h1 h2
    obtain ⟨j, rfl⟩ : ∃ j : Nat, v = j := ⟨v.toNat, by omega⟩
    exact od_ixL (atI_nn (List.getElem?_eq_getElem (by omega))) (k _ (List.getElem_mem _))
end
end K78


/-! k77: odd values: numbers, what is bent. -/
namespace K78
open PySem L2 DL
theorem scis_number_below : FnScope ["value", "many"] ["value", "many"] (defScope (topS 4)) := ⟨rfl, rfl, rfl, by decide +kernel, rfl, by decide +kernel, by decide +kernel⟩
theorem sc_law_number : FnScope ["value"] ["value"] (defScope (topS 25)) := ⟨rfl, rfl, rfl, by decide +kernel, rfl, by decide +kernel, by decide +kernel⟩
theorem sc_law_bent : FnScope ["source", "value", "odd", "some", "k", "way"] ["source", "value"] (defScope (topS 26)) := ⟨rfl, rfl, rfl, by decide +kernel, rfl, by decide +kernel, by decide +kernel⟩
/-! ### kinds -/
section
variable {P : Program} {w : World} {K : PySem.W.Frag} {mg : Str → Option Value} {base : Heap}
def φNB : List Ar → (D → Prop) → Prop := fun as Kd => ∃ (d : D) (m : Int), as = [.d d, .d (.int m)] ∧ noF d = true ∧ Kd (.bool (nbD d m))
theorem ok_nb {f : Addr} {fd : FuncData} (F : Fun K "is_number_below" "is_number_below" (topS 4) f fd) (T : Txo mg) : FnOk P w K mg base CX0 1 f fd ["value", "many"] (SpD φNB) := by
  refine fn_D F scis_number_below (fun as Kd h => ?_) (fun as Kd r cdv A outer s H E hr h => ?_)
  · obtain ⟨d, m, rfl, _⟩ := h
    rfl
  · obtain ⟨d, m, rfl, hd, k⟩ := h
    have nd := scis_number_below.nd
    refine jret <| je_and <| jisi (Tn := "int") T.isi T.int <| jv 0 ⟨_, kt_int hd, _, rfl, ifb (fun h => ?_) (fun h => ?_)⟩
    · refine je_and <| je_not <| jisi (Tn := "bool") T.isi T.bol <| jv 0 ⟨_, kt_bool hd, _, rfl, _, rfl, ifb (fun h2 => ?_) (fun h2 => ?_)⟩
      · have hi : isInt d = true := by
          rw [Bool.not_eq_true'] at h2
          rw [h2, Bool.or_false] at h; exact h
        obtain ⟨i, rfl⟩ := isInt_of hi
        refine je_one <| je_chain op_le op_lt (pe_chain op_le op_lt pe_tE pe_tE pe_tE) <| je_int <| jv 0 <| od_B0 ⟨_, rfl, ifb (fun h3 => jv 1 <| od_B0 ?_) (fun h3 => ?_)⟩
        · have k : Kd (.bool (decide (0 ≤ i) && decide (i < m))) := k
          rw [show decide (0 ≤ i) = true from h3, Bool.true_and] at k
          exact k
        · have k : Kd (.bool (decide (0 ≤ i) && decide (i < m))) := k
          rw [show decide (0 ≤ i) = false from h3, Bool.false_and] at k
          exact k
      · have e : nbD d m = false := by
          cases d <;> first | rfl | (rw [show isBool _ = false from rfl] at h2; cases h2)
        rw [e] at k; exact k
    · have e : nbD d m = false := by
        cases d <;> first | rfl | (rw [show isInt _ = true from rfl] at h; cases h)
      rw [e] at k; exact k
def φNum : List Ar → (D → Prop) → Prop := fun as Kd => ∃ (d : D), as = [.d d] ∧ noF d = true ∧ Kd (.bool (isInt d))
theorem ok_num {f : Addr} {fd : FuncData} (F : Fun K "_law_number" "_law_number" (topS 25) f fd) (T : Txo mg) : FnOk P w K mg base CX0 1 f fd ["value"] (SpD φNum) := by
  refine fn_D F sc_law_number (fun as Kd h => ?_) (fun as Kd r cdv A outer s H E hr h => ?_)
  · obtain ⟨d, rfl, _⟩ := h
    rfl
  · obtain ⟨d, rfl, hd, k⟩ := h
    have nd := sc_law_number.nd
    refine jret <| je_and <| jisi (Tn := "int") T.isi T.int <| jv 0 ⟨_, kt_int hd, _, rfl, ifb (fun h => ?_) (fun h => ?_)⟩
    · refine je_one <| je_not <| jisi (Tn := "bool") T.isi T.bol <| jv 0 ⟨_, kt_bool hd, _, rfl, ?_⟩
      have e : (!isBool d) = isInt d := by
        cases d <;> first | rfl | cases h
      rw [e]; exact k
    · have e : isInt d = false := by
        cases d <;> first | rfl | cases h
      rw [e] at k; exact k
/-! ### bent -/
def φBent (B L k : Nat) : List Ar → (D → Prop) → Prop := fun as Kd => ∃ d : D, as = [.src, .d d] ∧ Odd B L k d ∧ ∀ d', Odd (B + 2) (L + 1) (k + 1) d' → Kd d'
def oddL : List D := [.none, .int 0, .int 1, .int 2, .bool true, .int (-1), .str "a", .str "lattice", .str "least", .str "four", .str "base", .str "join", .tuple [], .tuple [.int 0], .tuple [.int 0, .int 0], .list [], dctD [], .int 1000000]
theorem odd_oddL {B L k : Nat} (hB : 1000000 ≤ B) (hL : 2 ≤ L) : ∀ d ∈ oddL, Odd B L (k + 1) d := by
  have h : ∀ d ∈ oddL, Odd 1000000 2 1 d := by
    unfold oddL
    simp only [List.forall_mem_cons]
    refine ⟨odd_none, odd_int (by decide), odd_int (by decide), odd_int (by decide), odd_bool _, odd_int (by decide), ?_, ?_, ?_, ?_, ?_, ?_, ?_, ?_, ?_, ?_, ?_, odd_int (by decide), fun d hd => by cases hd⟩
    all_goals exact ⟨by decide +kernel, by decide +kernel⟩
  exact fun d hd => (h d hd).mono hB hL (by omega)
theorem ok_bent {f fP fO fN : Addr} {fd fdP fdO fdN : FuncData} (T : Txt mg) (T2 : Txs mg) (T3 : Txo mg) (NB : Dn K mg "_law_bent" (topS 26) ["source", "value"] f fd) (NP : Dn K mg "_law_pick" (topS 22) ["source", "many"] fP fdP) (NO : Dn K mg "_law_of" (topS 23) ["source", "some"] fO fdO) (NN : Dn K mg "_law_number" (topS 25) ["value"] fN fdN) {B L : Nat} (hB : 1000000 ≤ B) (hL : 2 ≤ L) (hL2 : L ≤ 1000) : ∀ k : Nat, FnOk P w K mg base CX0 (3 + k) f fd ["source", "value"] (SpD (φBent B L k)) := by
  suffices step : ∀ k : Nat, (∀ m, k = m + 1 → FnOk P w K mg base CX0 (3 + m) f fd ["source", "value"] (SpD (φBent B L m))) → FnOk P w K mg base CX0 (3 + k) f fd ["source", "value"] (SpD (φBent B L k)) by
    intro k
    induction k with
    | zero => exact step 0 fun m e => nomatch e
    | succ k ih => exact step (k + 1) fun m e => by cases e; exact ih
  intro k0 ih
  rw [show 3 + k0 = (2 + k0) + 1 by omega]
  refine fn_D NB.F sc_law_bent (fun as Kd h => ?_) (fun as Kd r cdv A outer s H E hr h => ?_)
  · obtain ⟨d, rfl, _⟩ := h
    rfl
  · obtain ⟨d, rfl, ho, k⟩ := h
    have nd := sc_law_bent.nd
    have hz : sizeLine = 16777216 := sizeLine_eq
    have GP := ok_pick (P := P) (w := w) (base := base) NP.F T2
    have GO := ok_of (P := P) (w := w) (base := base) NO.F T2 NP
    have hd := noF_ok ho.ok
    refine jset 2 <| JN.je <| jn_lst ?_
    refine jA ?_
    refine je_non ?_
    refine jA ?_
    refine je_int ?_
    refine jA ?_
    refine je_int ?_
    refine jA ?_
    refine je_int ?_
    refine jA ?_
    refine je_bl ?_
    refine jA ?_
    refine je_un un_neg <| je_int <| ud_neg ?_
    refine jA ?_
    refine je_str ?_
    refine jA ?_
    refine je_str ?_
    refine jA ?_
    refine je_str ?_
    refine jA ?_
    refine je_str ?_
    refine jA ?_
    refine je_str ?_
    refine jA ?_
    refine je_str ?_
    refine jA ?_
    refine jtup0 ?_
    refine jA ?_
    refine jtup1 <| je_int ?_
    refine jA ?_
    refine jtup2 <| je_int <| je_int ?_
    refine jA ?_
    refine JN.je <| jn_lst <| jA0 ⟨[], rfl, Nat.zero_le _, ?_⟩
    refine jA ?_
    refine JO.je <| jemptyD ?_
    refine ja1 <| je_op op_pow <| je_int <| je_int <| od_I ⟨by decide, by decide, by decide⟩ ?_
    rw [show (10 : Int) ^ (6 : Int).toNat = 1000000 by decide]
    refine ⟨oddL, rfl, by show 18 ≤ sizeLine; rw [hz]; omega, ?_⟩
    have hoL : ∀ d ∈ oddL, Odd (B + 2) (L + 1) (k0 + 1) d := odd_oddL (by omega) (by omega)
    cases ht : isTup d with
    | false =>
      refine jif <| JW.jt <| jw_or <| jt_not <| jtval <| jisi (Tn := "tuple") T3.isi T3.tup <| jv 1 ⟨_, kt_tup hd, _, rfl, ift (by rw [ht]; rfl) <| ift rfl ?_⟩
      refine jset 3 <| JN.je <| jlst1 <| jcall hr NO GO (hk := by omega) <| jAs 0 <| ja1 <| jv 2 ⟨oddL, rfl, (fun e => by cases e), by decide, fun o hoo => ?_⟩
      refine jif <| jtval <| jisi (Tn := "tuple") T3.isi T3.tup <| jv 1 ⟨_, kt_tup hd, _, rfl, iff' ht <| jss_nil ?_⟩
      exact jret <| jcall hr NO GO (hk := by omega) <| jAs 0 <| ja1 <| jv 3 ⟨[o], rfl, (fun e => by cases e), by simp, fun x hx => by rw [List.mem_singleton.mp hx]; exact k _ (hoL o hoo)⟩
    | true =>
      obtain ⟨ds, rfl⟩ := isTup_of ht
      obtain ⟨k1, rfl⟩ : ∃ k1, k0 = k1 + 1 := by
        cases k0 with
        | zero => exact ho.tup0.elim
        | succ k1 => exact ⟨k1, rfl⟩
      obtain ⟨hdl, hdm⟩ := ho.tup
      refine jif (JT.mono (K := fun b S' => S' = [.src, .val (.tuple ds), .val (.list oddL), .emp, .emp, .emp] ∧ (b = false → ds ≠ [])) ?_ ?_)
      · refine JW.jt <| jw_or <| jt_not <| jtval <| jisi (Tn := "tuple") T3.isi T3.tup <| jv 1 ⟨_, kt_tup hd, _, rfl, iff' rfl <| jw_or <| jtcmp op_eqT0 <| jv 1 <| jtup0 <| od_eqT0 hr ⟨_, rfl, ifb (fun h => ⟨rfl, fun e => nomatch e⟩) (fun h => ?_)⟩⟩
        refine jw_or1 <| jtcmp op_eqD <| jcall hr NP GP (hk := by omega) <| jAs 0 <| ja1 <| je_int ⟨5, rfl, by decide, fun v _ _ => je_int <| od_eq (α := Int) hr (by decide) ⟨_, rfl, rfl, fun _ e => ?_⟩⟩
        rw [e] at h; cases h
      · rintro b S' ⟨rfl, hne⟩
        refine ifb (fun hb => ?_) (fun hb => ?_)
        · refine jset 3 <| JN.je <| jlst1 <| jcall hr NO GO (hk := by omega) <| jAs 0 <| ja1 <| jv 2 ⟨oddL, rfl, (fun e => by cases e), by decide, fun o hoo => ?_⟩
          refine jif <| jtval <| jisi (Tn := "tuple") T3.isi T3.tup <| jv 1 ⟨_, kt_tup hd, _, rfl, ift rfl ?_⟩
          refine jset 3 <| JN.je <| jn_cat <| jv 3 <| JN.je <| jn_lst <| jA <| je_cutFrom <| jv 1 <| je_int ⟨ds, 1, rfl, rfl, jA <| je_cutLast <| jv 1 ⟨ds, rfl, jA <| je_op op_catA <| jv 1 <| je_cutTo <| jv 1 <| je_int ⟨ds, 1, rfl, rfl, od_catT ?_ <| jA <| JN.je <| jlist T.lst <| jv 1 ⟨ds, .inr rfl, jA <| je_revT <| jv 1 ⟨ds, rfl, ja1 <| je_op op_catA <| jv 1 <| jtup1 <| je_int <| od_catT ?_ ⟨_, rfl, ?_, ?_⟩⟩⟩⟩⟩⟩
          · rw [List.length_take]; omega
          · rw [List.length_singleton]; omega
          · show 6 ≤ sizeLine; omega
          · refine ⟨[o], _, rfl, rfl, by show 1 + 6 ≤ sizeLine; omega, jss_nil ?_⟩
            refine jret <| jcall hr NO GO (hk := by omega) <| jAs 0 <| ja1 <| jv 3 ⟨[o, .tuple (ds.drop 1), .tuple ds.dropLast, .tuple (ds ++ ds.take 1), .list ds, .tuple ds.reverse, .tuple (ds ++ [.int 0])], rfl, (fun e => by cases e), by show 7 ≤ _; decide, fun x hx => k x ?_⟩
            simp only [List.mem_cons, List.not_mem_nil, or_false] at hx
            rcases hx with rfl | rfl | rfl | rfl | rfl | rfl | rfl
            · exact hoL _ hoo
            · exact odd_tupG ho (by rw [List.length_drop]; omega) fun e he => .inl (List.mem_of_mem_drop he)
            · exact odd_tupG ho (by rw [List.length_dropLast]; omega) fun e he => .inl ((List.dropLast_sublist ds).subset he)
            · refine odd_tupG ho (by rw [List.length_append, List.length_take]; omega) fun e he => .inl ?_
              rcases List.mem_append.mp he with he | he
              · exact he
              · exact List.mem_of_mem_take he
            · exact odd_listG ho (by omega) fun e he => he
            · exact odd_tupG ho (by rw [List.length_reverse]; omega) fun e he => .inl (List.mem_reverse.mp he)
            · refine odd_tupG ho (by rw [List.length_append]; exact Nat.succ_le_succ hdl) fun e he => ?_
              rcases List.mem_append.mp he with he | he
              · exact .inl he
              · rw [List.mem_singleton.mp he]; exact .inr (odd_int (by simp))
        · have hne := hne hb
          have hlen : 1 ≤ ds.length := by
            cases ds with
            | nil => exact absurd rfl hne
            | cons _ _ => exact Nat.le_add_left _ _
          refine jss_nil <| jpar2 4 5 <| jcall hr NP GP (hk := by omega) <| jAs 0 <| ja1 <| jlen T.len <| jv 1 ⟨ds, .inr rfl, (ds.length : Nat), rfl, by omega, fun v v0 v1 => ?_⟩
          obtain ⟨j, rfl⟩ : ∃ j : Nat, v = j := ⟨v.toNat, by omega⟩
          have hj : j < ds.length := by split at v1 <;> omega
          have hat := List.getElem?_eq_getElem hj
          have hmem := List.getElem_mem hj
          have hoj := hdm _ hmem
          refine jcall hr NP GP (hk := by omega) <| jAs 0 <| ja1 <| je_int ⟨6, rfl, by decide, fun v2 _ _ => ?_⟩
          have fin : ∀ x : D, Odd (B + 2) (L + 1) (k1 + 1) x → Kd (.tuple (ds.take j ++ [x] ++ ds.drop (j + 1))) := fun x hx => k _ (bent_put ho hj hx)
          have hcat1 : ∀ x : D, (ds.take j).length + [x].length ≤ sizeLine := fun x => by rw [List.length_take, List.length_singleton]; omega
          have hcat2 : ∀ x : D, (ds.take j ++ [x]).length + (ds.drop (j + 1)).length ≤ sizeLine := fun x => by rw [List.length_append, List.length_take, List.length_drop, List.length_singleton]; omega
          refine jif (JT.mono (K := fun b S' => S' = [.src, .val (.tuple ds), .val (.list oddL), .emp, .val (.int (j : Int)), .val (.int v2)] ∧ (b = true → isInt ds[j] = true)) ?_ ?_)
          · refine JW.jt <| jw_and <| jtcmp op_lt <| jv 5 <| je_int <| od_B0 ⟨_, rfl, ifb (fun _ => ?_) (fun _ => ⟨rfl, fun e => nomatch e⟩)⟩
            exact jw_and1 <| jtval <| jcall hr NN (ok_num NN.F T3) (hk := by omega) <| ja1 <| jix ix_tup <| jv 1 <| jv 4 <| od_ixT (atI_nn hat) ⟨_, rfl, noF_ok hoj.ok, _, rfl, rfl, fun e => e⟩
          · rintro b S' ⟨rfl, hint⟩
            refine ifb (fun hb2 => ?_) (fun hb2 => ?_)
            · obtain ⟨i, ei⟩ := isInt_of (hint hb2)
              have hib : i.natAbs ≤ B := by
                have := hoj.ok
                rw [ei, okD, decide_eq_true_eq] at this
                exact this
              rw [ei] at hat
              refine jret <| je_op op_catA <| je_op op_catA <| je_cutTo <| jv 1 <| jv 4 ⟨ds, j, rfl, rfl, jtup1 <| jcall hr NO GO (hk := by omega) <| jAs 0 <| ja1 <| JN.je <| jn_lst <| jA <| je_op op_sub <| je_int <| jix ix_tup <| jv 1 <| jv 4 <| od_ixT (atI_nn hat) <| od_I0 <| jA <| je_op op_add <| jix ix_tup <| jv 1 <| jv 4 <| od_ixT (atI_nn hat) <| je_int <| od_I0 <| jA <| je_op op_sub <| jix ix_tup <| jv 1 <| jv 4 <| od_ixT (atI_nn hat) <| je_int <| od_I0 <| ja1 <| je_op op_add <| jix ix_tup <| jv 1 <| jv 4 <| od_ixT (atI_nn hat) <| je_int <| od_I0 ⟨_, rfl, by show 4 ≤ sizeLine; omega, _, rfl, (fun e => by cases e), by show 4 ≤ _; decide, fun x hx => od_catT (hcat1 x) <| je_cutFrom <| jv 1 <| je_op op_add <| jv 4 <| je_int <| od_I0 ⟨ds, j + 1, rfl, rfl, od_catT (hcat2 x) <| fin x ?_⟩⟩⟩
              simp only [List.mem_cons, List.not_mem_nil, or_false] at hx
              rcases hx with rfl | rfl | rfl | rfl <;> exact odd_int (by omega)
            · refine jss_nil <| jif <| jtcmp op_eqD <| jv 5 <| je_int <| od_eq (α := Int) hr (by decide) ⟨_, rfl, ifb (fun _ => ?_) (fun _ => ?_)⟩
              · refine jret <| je_op op_catA <| je_cutTo <| jv 1 <| jv 4 ⟨ds, j, rfl, rfl, je_cutFrom <| jv 1 <| je_op op_add <| jv 4 <| je_int <| od_I0 ⟨ds, j + 1, rfl, rfl, od_catT (by rw [List.length_take, List.length_drop]; omega) <| k _ (odd_tupG ho (by rw [List.length_append, List.length_take, List.length_drop]; omega) fun e he => .inl ?_)⟩⟩
                rcases List.mem_append.mp he with he | he
                · exact List.mem_of_mem_take he
                · exact List.mem_of_mem_drop he
              · exact jss_nil <| jret <| je_op op_catA <| je_op op_catA <| je_cutTo <| jv 1 <| jv 4 ⟨ds, j, rfl, rfl, jtup1 <| jcall hr NB (ih k1 rfl) (hk := by omega) <| jAs 0 <| ja1 <| jix ix_tup <| jv 1 <| jv 4 <| od_ixT (atI_nn hat) ⟨_, rfl, hoj, fun x hx => od_catT (hcat1 x) <| je_cutFrom <| jv 1 <| je_op op_add <| jv 4 <| je_int <| od_I0 ⟨ds, j + 1, rfl, rfl, od_catT (hcat2 x) <| fin x hx⟩⟩⟩
end
end K78

/-! k77: the plain law: lattice papers. -/
namespace K78
open PySem L2 DL
variable {n N : Nat} {lots L : List (List Int)}
def noJ (n : Nat) (lots : List (List Int)) (a b : Nat) : Bool := (joinO n lots [(a : Int), (b : Int)]).isNone
def minP (lots : List (List Int)) (l : List Int) (x : Int) : Bool := (l.filter fun y => !decide (y = x) && leB lots y x).isEmpty
def minsL (lots : List (List Int)) (l : List Int) : List Int := l.filter (minP lots l)
def First (n : Nat) (lots : List (List Int)) (a b : Nat) : Prop := b < a ∧ a < n ∧ noJ n lots a b = true ∧ (∀ a' b', a' < a → b' < a' → noJ n lots a' b' = false) ∧ ∀ b', b' < b → noJ n lots a b' = false
def wd1 (s : Str) : D := .tuple [.str s]
def FourP (n : Nat) (lots : List (List Int)) (d : D) : Prop := ∃ a b : Nat, ∃ c e : Int, First n lots a b ∧ (minsL lots (ups n lots [(a : Int), (b : Int)]))[0]? = some c ∧ (minsL lots (ups n lots [(a : Int), (b : Int)]))[1]? = some e ∧ d = .tuple [.int a, .int b, .int c, .int e]
def IsPaper (n : Nat) (lots : List (List Int)) (d : D) : Prop :=
  (joinO n lots [] = none ∧ d = wd1 "least") ∨ (joinO n lots [] ≠ none ∧ meetO n lots [] = none ∧ d = wd1 "greatest") ∨
  (joinO n lots [] ≠ none ∧ meetO n lots [] ≠ none ∧ isLatB n lots = true ∧ d = wd1 "lattice") ∨
  (joinO n lots [] ≠ none ∧ meetO n lots [] ≠ none ∧ isLatB n lots = false ∧ ∃ l, FourP n lots (.tuple l) ∧ d = .tuple (.str "four" :: l))
def wordS (n : Nat) (lots : List (List Int)) : Str := if (joinO n lots []).isNone = true then "least" else if (meetO n lots []).isNone = true then "greatest" else if isLatB n lots = true then "lattice" else "four"
/-! ### the fault -/
def words : List Str := ["lattice", "least", "greatest", "four"]
def badL (lots : List (List Int)) (a b c e : Int) : List (Int × Int) := [(a, c), (a, e), (b, c), (b, e)].filter fun p => !leB lots p.1 p.2
def btw (n : Nat) (lots : List (List Int)) (a b c e : Int) : Bool := (ups n lots [a, b]).any fun x => decide (x ∈ downs n lots [c, e])
def fourF (n : Nat) (lots : List (List Int)) (a b c e : Int) : D := match badL lots a b c e with
  | p :: _ => .tuple [.str "under", .int p.1, .int p.2]
  | [] => if btw n lots a b c e = true then wd1 "between" else .none
def coreF (n : Nat) (lots : List (List Int)) (s : Str) (q : List D) : D :=
  if s = "lattice" then (if isLatB n lots = true then .none else wd1 "lattice")
  else if s = "least" then (match joinO n lots [] with | some j => .tuple [.str "least", .int j] | none => .none)
  else if joinO n lots [] = none then wd1 "least"
  else if s = "greatest" then (match meetO n lots [] with | some j => .tuple [.str "greatest", .int j] | none => .none)
  else if meetO n lots [] = none then wd1 "greatest"
  else match q with
    | [.int a, .int b, .int c, .int e] => fourF n lots a b c e
    | _ => .none
def formOk (n : Nat) (s : Str) (q : List D) : Bool := decide (s ∈ words) && decide (q.length = if s = "four" then 4 else 0) && q.all fun d => nbD d n
def faultL (n : Nat) (lots : List (List Int)) : D → D
  | .tuple (.str s :: q) => if formOk n s q = true then coreF n lots s q else wd1 "form"
  | _ => wd1 "form"
/-! ### joins -/
theorem jn_mt (o : IsOrd n lots) {S : List Int} (hS : inR n S) {m : Nat} (J : Jn n lots (downs n lots S) m) : Mt n lots S m := by
  refine ⟨J.1, fun z hz => ?_, fun k hk hz => J.2.1 _ (mem_downs.mpr ⟨hk, hz⟩)⟩
  obtain ⟨a, rfl, ha⟩ := nat_of (hS z hz)
  exact J.2.2 a ha fun u hu => (mem_downsI.mp hu).2 _ hz
theorem noJ_false (o : IsOrd n lots) {a b : Nat} : noJ n lots a b = false ↔ ∃ j, Jn n lots [(a : Int), (b : Int)] j := by
  unfold noJ
  rw [← joinO_some o]
  cases joinO n lots [(a : Int), (b : Int)] <;> simp
theorem join2_of (o : IsOrd n lots) (h : ∀ a b, a < n → b < a → noJ n lots a b = false) {x y : Nat} (hx : x < n) (hy : y < n) : ∃ j, Jn n lots [(x : Int), (y : Int)] j := by
  by_cases e : x = y
  · subst e; exact ⟨x, jn_self o hx⟩
  · by_cases l : y < x
    · exact (noJ_false o).mp (h x y hx l)
    · obtain ⟨j, J⟩ := (noJ_false o).mp (h y x hy (by omega))
      exact ⟨j, jn_ext (fun z => by simp [or_comm]) J⟩
theorem joins_of (o : IsOrd n lots) (hj : joinO n lots [] ≠ none) (h : ∀ a b, a < n → b < a → noJ n lots a b = false) : ∀ {l : List Int}, inR n l → ∃ j, Jn n lots l j
  | [], _ => (joinO_some o).mp (by cases e : joinO n lots [] with | none => exact absurd e hj | some _ => rfl)
  | x :: l, hl => by
    obtain ⟨a, rfl, ha⟩ := nat_of (hl x List.mem_cons_self)
    obtain ⟨j, J⟩ := joins_of o hj h (l := l) fun z hz => hl z (List.mem_cons_of_mem _ hz)
    obtain ⟨k, J2⟩ := join2_of o h ha J.1
    exact ⟨k, jn_cons o ha (fun z hz => hl z (List.mem_cons_of_mem _ hz)) J J2⟩
theorem lat_of (o : IsOrd n lots) (hj : joinO n lots [] ≠ none) (h : ∀ a b, a < n → b < a → noJ n lots a b = false) : isLatB n lots = true := by
  rw [isLat_eq o]
  refine isLatL_iff.mpr fun x y hx hy => ⟨(joinO_some o).mpr ((noJ_false o).mp (h x y hx hy)), (meetO_some o).mpr ?_⟩
  obtain ⟨j, J⟩ := joins_of o hj h (downs_inR n lots [(x : Int), (y : Int)])
  exact ⟨j, jn_mt o (pair_inR hx (by omega)) J⟩
theorem some_pair (o : IsOrd n lots) (hj : joinO n lots [] ≠ none) (h : isLatB n lots = false) : ∃ a b, b < a ∧ a < n ∧ noJ n lots a b = true := by
  refine Classical.byContradiction fun hn => ?_
  have := lat_of o hj fun a b ha hb => by
    cases e : noJ n lots a b with
    | false => rfl
    | true => exact absurd ⟨a, b, hb, ha, e⟩ hn
  rw [h] at this; cases this
/-! ### least ones of a lot -/
theorem mem_mins {l : List Int} {x : Int} : x ∈ minsL lots l ↔ x ∈ l ∧ ∀ y ∈ l, leB lots y x = true → y = x := by
  unfold minsL
  rw [List.mem_filter]
  refine and_congr Iff.rfl ?_
  unfold minP
  rw [List.isEmpty_iff, List.filter_eq_nil_iff]
  refine forall_congr' fun y => forall_congr' fun hy => ?_
  by_cases e : y = x <;> simp [e]
theorem ant_le (o : IsOrd n lots) {x y : Int} (hx : 0 ≤ x ∧ x < n) (hy : 0 ≤ y ∧ y < n) (h1 : leB lots x y = true) (h2 : leB lots y x = true) : x = y := by
  obtain ⟨a, rfl, ha⟩ := nat_of hx
  obtain ⟨b, rfl, hb⟩ := nat_of hy
  rw [o.ant a b ha hb (leB_iff.mp h1) (leB_iff.mp h2)]
theorem min_under (o : IsOrd n lots) {l : List Int} (hl : inR n l) : ∀ (k : Nat) {u : Int}, u ∈ l → (l.filter fun y => leB lots y u).length ≤ k → ∃ m ∈ minsL lots l, leB lots m u = true
  | 0, u, hu, hk => by
    have : u ∈ l.filter fun y => leB lots y u := List.mem_filter.mpr ⟨hu, leI_refl o (hl u hu)⟩
    rw [List.eq_nil_of_length_eq_zero (by omega : (l.filter fun y => leB lots y u).length = 0)] at this
    cases this
  | k + 1, u, hu, hk => by
    by_cases hm : u ∈ minsL lots l
    · exact ⟨u, hm, leI_refl o (hl u hu)⟩
    · rw [mem_mins] at hm
      have : ∃ y ∈ l, leB lots y u = true ∧ y ≠ u := Classical.byContradiction fun hn => hm ⟨hu, fun y hy h => Classical.byContradiction fun e => hn ⟨y, hy, h, e⟩⟩
      obtain ⟨y, hy, hyu, hne⟩ := this
      have e1 : (l.filter fun z => leB lots z y) = (l.filter fun z => leB lots z u).filter fun z => leB lots z y := by
        rw [List.filter_filter]
        refine List.filter_congr fun z hz => ?_
        cases e : leB lots z y with
        | false => rfl
        | true => rw [leI_trans o (hl z hz) (hl y hy) (hl u hu) e hyu]; rfl
      have h2 : (l.filter fun z => leB lots z y).length < (l.filter fun z => leB lots z u).length := by
        rw [e1]
        refine List.length_filter_lt_length_iff_exists.mpr ⟨u, List.mem_filter.mpr ⟨hu, leI_refl o (hl u hu)⟩, ?_⟩
        intro h
        exact hne (ant_le o (hl y hy) (hl u hu) hyu h)
      obtain ⟨m, hm, h3⟩ := min_under o hl k hy (by omega)
      have hml := (mem_mins.mp hm).1
      exact ⟨m, hm, leI_trans o (hl m hml) (hl y hy) (hl u hu) h3 hyu⟩
theorem mins_two (o : IsOrd n lots) {a b : Nat} (ha : a < n) (hb : b < n) (hm : meetO n lots [] ≠ none) (h : noJ n lots a b = true) : ∃ c e : Int, (minsL lots (ups n lots [(a : Int), (b : Int)]))[0]? = some c ∧ (minsL lots (ups n lots [(a : Int), (b : Int)]))[1]? = some e := by
  have hU := ups_inR n lots [(a : Int), (b : Int)]
  have hno : ¬ ∃ j, Jn n lots [(a : Int), (b : Int)] j := fun hj => by
    rw [(noJ_false o).mpr hj] at h; cases h
  have hne : ∃ t : Nat, (t : Int) ∈ ups n lots [(a : Int), (b : Int)] := by
    obtain ⟨t, T⟩ := (meetO_some o (lot := [])).mp (by cases e : meetO n lots [] with | none => exact absurd e hm | some _ => rfl)
    refine ⟨t, mem_ups.mpr ⟨T.1, fun z hz => ?_⟩⟩
    rcases List.mem_cons.mp hz with rfl | hz
    · exact T.2.2 a ha fun z hz => nomatch hz
    · rw [List.mem_singleton.mp hz]; exact T.2.2 b hb fun z hz => nomatch hz
  obtain ⟨t, ht⟩ := hne
  cases e : minsL lots (ups n lots [(a : Int), (b : Int)]) with
  | nil =>
    obtain ⟨m, hm, _⟩ := min_under o hU _ ht (Nat.le_refl _)
    rw [e] at hm; cases hm
  | cons c r =>
    cases r with
    | cons e' r => exact ⟨c, e', rfl, rfl⟩
    | nil =>
      refine absurd ?_ hno
      have hc : c ∈ minsL lots (ups n lots [(a : Int), (b : Int)]) := by rw [e]; exact List.mem_cons_self
      have hcu := (mem_mins.mp hc).1
      obtain ⟨j, rfl, hj⟩ := nat_of (hU c hcu)
      refine ⟨j, hj, (mem_upsI.mp hcu).2, fun k hk hz => ?_⟩
      obtain ⟨m, hm, h3⟩ := min_under o hU _ (mem_ups.mpr ⟨hk, hz⟩) (Nat.le_refl _)
      rw [e, List.mem_singleton] at hm
      rw [← hm]; exact h3
theorem mins_ne {l : List Int} {c e : Int} (hl : l.Pairwise (· < ·)) (h0 : (minsL lots l)[0]? = some c) (h1 : (minsL lots l)[1]? = some e) : c ≠ e := by
  have hp : (minsL lots l).Pairwise (· < ·) := hl.sublist List.filter_sublist
  cases z : minsL lots l with
  | nil => rw [z] at h0; cases h0
  | cons x r =>
    cases r with
    | nil => rw [z] at h1; cases h1
    | cons y r =>
      rw [z] at h0 h1 hp
      cases h0
      cases h1
      have := (List.pairwise_cons.mp hp).1 _ List.mem_cons_self
      omega
theorem first_one {a b a' b' : Nat} (h : First n lots a b) (h' : First n lots a' b') : a = a' ∧ b = b' := by
  obtain ⟨h1, h2, h3, h4, h5⟩ := h
  obtain ⟨g1, g2, g3, g4, g5⟩ := h'
  have ea : a = a' := by
    rcases Nat.lt_trichotomy a a' with z | z | z
    · rw [g4 a b z h1] at h3; cases h3
    · exact z
    · rw [h4 a' b' z g1] at g3; cases g3
  subst ea
  refine ⟨rfl, ?_⟩
  rcases Nat.lt_trichotomy b b' with z | z | z
  · rw [g5 b z] at h3; cases h3
  · exact z
  · rw [h5 b' z] at g3; cases g3
theorem fourP_one {d d' : D} (h : FourP n lots d) (h' : FourP n lots d') : d = d' := by
  obtain ⟨a, b, c, e, h1, h2, h3, rfl⟩ := h
  obtain ⟨a', b', c', e', g1, g2, g3, rfl⟩ := h'
  obtain ⟨rfl, rfl⟩ := first_one h1 g1
  rw [h2] at g2
  rw [h3] at g3
  cases g2
  cases g3
  rfl
theorem paper_one {d d' : D} (h : IsPaper n lots d) (h' : IsPaper n lots d') : d = d' := by
  rcases h with ⟨a, rfl⟩ | ⟨a, b, rfl⟩ | ⟨a, b, c, rfl⟩ | ⟨a, b, c, l, f, rfl⟩ <;> rcases h' with ⟨a', rfl⟩ | ⟨a', b', rfl⟩ | ⟨a', b', c', rfl⟩ | ⟨a', b', c', l', f', rfl⟩
  all_goals first
    | rfl
    | exact absurd a a'
    | exact absurd a' a
    | exact absurd b b'
    | exact absurd b' b
    | (have := fourP_one f f'; cases this; rfl)
    | (rw [c] at c'; exact absurd c' (by decide))
/-! ### the paper is right -/
theorem four_right (o : IsOrd n lots) {a b : Nat} {c e : Int} (F : First n lots a b) (h0 : (minsL lots (ups n lots [(a : Int), (b : Int)]))[0]? = some c) (h1 : (minsL lots (ups n lots [(a : Int), (b : Int)]))[1]? = some e) : (0 ≤ c ∧ c < n) ∧ (0 ≤ e ∧ e < n) ∧ fourF n lots a b c e = .none := by
  have hne := mins_ne (ups_lt _ _ _) h0 h1
  have hc := mem_mins.mp (List.mem_of_getElem? h0)
  have he := mem_mins.mp (List.mem_of_getElem? h1)
  have hU := ups_inR n lots [(a : Int), (b : Int)]
  have cu := (mem_upsI.mp hc.1).2
  have eu := (mem_upsI.mp he.1).2
  refine ⟨hU c hc.1, hU e he.1, ?_⟩
  have hb : badL lots a b c e = [] := by
    unfold badL
    rw [List.filter_eq_nil_iff]
    intro p hp
    simp only [List.mem_cons, List.not_mem_nil, or_false] at hp
    rcases hp with rfl | rfl | rfl | rfl
    · rw [cu _ (by simp)]; decide
    · rw [eu _ (by simp)]; decide
    · rw [cu _ (by simp)]; decide
    · rw [eu _ (by simp)]; decide
  have hw : btw n lots a b c e = false := by
    unfold btw
    rw [List.any_eq_false]
    intro x hx hd
    rw [decide_eq_true_eq] at hd
    have hd := (mem_downsI.mp hd).2
    have e1 := hc.2 x hx (hd c (by simp))
    have e2 := he.2 x hx (hd e (by simp))
    exact hne (e1.symm.trans e2)
  unfold fourF
  rw [hb, hw]
  rfl
theorem sne {a b : Str} (h : (a == b) = false) : a ≠ b := fun e => by rw [e, beq_self_eq_true] at h; cases h
theorem fault_wd1 {s : Str} (h : s = "lattice" ∨ s = "least" ∨ s = "greatest") : faultL n lots (wd1 s) = coreF n lots s [] := by
  unfold wd1 faultL
  refine if_pos ?_
  rcases h with rfl | rfl | rfl
  · exact show formOk 0 "lattice" [] = true by decide +kernel
  · exact show formOk 0 "least" [] = true by decide +kernel
  · exact show formOk 0 "greatest" [] = true by decide +kernel
theorem paper_right (o : IsOrd n lots) {d : D} (h : IsPaper n lots d) : faultL n lots d = .none := by
  rcases h with ⟨a, rfl⟩ | ⟨a, b, rfl⟩ | ⟨a, b, c, rfl⟩ | ⟨a, b, c, l, f, rfl⟩
  · rw [fault_wd1 (.inr (.inl rfl))]
    unfold coreF
    rw [if_neg (by decide +kernel), if_pos rfl, a]
  · rw [fault_wd1 (.inr (.inr rfl))]
    unfold coreF
    rw [if_neg (by decide +kernel), if_neg (by decide +kernel), if_neg a, if_pos rfl, b]
  · rw [fault_wd1 (.inl rfl)]
    unfold coreF
    rw [if_pos rfl, if_pos c]
  · obtain ⟨x, y, u, v, F, h0, h1, e⟩ := f
    cases e
    obtain ⟨hu, hv, hf⟩ := four_right o F h0 h1
    have F1 := F.1
    have F2 := F.2.1
    have e : formOk n "four" [.int x, .int y, .int u, .int v] = true := by
      have h1 : decide (("four" : Str) ∈ words) = true := by decide +kernel
      have nb : ∀ i : Int, 0 ≤ i → i < n → nbD (.int i) n = true := fun i h1 h2 => by
        show (decide (0 ≤ i) && decide (i < (n : Int))) = true
        rw [decide_eq_true h1, decide_eq_true h2]; rfl
      unfold formOk
      rw [h1, if_pos rfl, List.all_cons, List.all_cons, List.all_cons, List.all_cons, nb x (by omega) (by omega), nb y (by omega) (by omega), nb u hu.1 hu.2, nb v hv.1 hv.2]
      rfl
    show (if formOk n "four" [.int x, .int y, .int u, .int v] = true then coreF n lots "four" [.int x, .int y, .int u, .int v] else _) = _
    rw [if_pos e]
    unfold coreF
    rw [if_neg (by decide +kernel), if_neg (by decide +kernel), if_neg a, if_neg (by decide +kernel), if_neg b]
    exact hf
theorem paper_word {d : D} (h : IsPaper n lots d) : ∃ q, d = .tuple (.str (wordS n lots) :: q) := by
  unfold wordS
  rcases h with ⟨a, rfl⟩ | ⟨a, b, rfl⟩ | ⟨a, b, c, rfl⟩ | ⟨a, b, c, l, f, rfl⟩
  · rw [a]; exact ⟨[], rfl⟩
  · rw [if_neg (by cases e : joinO n lots [] with | none => exact absurd e a | some _ => exact Bool.false_ne_true), b]; exact ⟨[], rfl⟩
  · rw [if_neg (by cases e : joinO n lots [] with | none => exact absurd e a | some _ => exact Bool.false_ne_true), if_neg (by cases e : meetO n lots [] with | none => exact absurd e b | some _ => exact Bool.false_ne_true), if_pos c]; exact ⟨_, rfl⟩
  · rw [if_neg (by cases e : joinO n lots [] with | none => exact absurd e a | some _ => exact Bool.false_ne_true), if_neg (by cases e : meetO n lots [] with | none => exact absurd e b | some _ => exact Bool.false_ne_true), if_neg (by rw [c]; decide)]; exact ⟨_, rfl⟩
theorem least_nat {p : Nat → Prop} (h : ∃ x, p x) : ∃ x, p x ∧ ∀ y, y < x → ¬ p y := by
  obtain ⟨x, hx⟩ := h
  induction x using Nat.strongRecOn with
  | _ x ih =>
    by_cases e : ∃ y, y < x ∧ p y
    · obtain ⟨y, hy, py⟩ := e
      exact ih y hy py
    · exact ⟨x, hx, fun y hy py => e ⟨y, hy, py⟩⟩
theorem sub_len {α : Type} [DecidableEq α] : ∀ {a b : List α}, a.Nodup → (∀ x ∈ a, x ∈ b) → a.length ≤ b.length
  | [], _, _, _ => Nat.zero_le _
  | x :: a, b, nd, h => by
    have nd := List.nodup_cons.mp nd
    have hx := h x List.mem_cons_self
    have h2 := sub_len (a := a) (b := b.erase x) nd.2 fun y hy => (List.mem_erase_of_ne (fun (e : y = x) => nd.1 (by rw [← e]; exact hy))).mpr (h y (List.mem_cons_of_mem _ hy))
    rw [List.length_erase_of_mem hx] at h2
    have := List.length_pos_of_mem hx
    rw [List.length_cons]
    omega
theorem sub_all {α : Type} [DecidableEq α] {a b : List α} (nd : a.Nodup) (h : ∀ x ∈ a, x ∈ b) (hl : b.length ≤ a.length) : ∀ x ∈ b, x ∈ a := fun x hx => Classical.byContradiction fun hn => by
  have := sub_len (a := x :: a) (b := b) (List.nodup_cons.mpr ⟨hn, nd⟩) fun y hy => by
    rcases List.mem_cons.mp hy with rfl | hy
    · exact hx
    · exact h y hy
  rw [List.length_cons] at this
  omega
theorem paper_is (o : IsOrd n lots) : ∃ d, IsPaper n lots d := by
  by_cases a : joinO n lots [] = none
  · exact ⟨_, .inl ⟨a, rfl⟩⟩
  · by_cases b : meetO n lots [] = none
    · exact ⟨_, .inr (.inl ⟨a, b, rfl⟩)⟩
    · cases c : isLatB n lots with
      | true => exact ⟨_, .inr (.inr (.inl ⟨a, b, c, rfl⟩))⟩
      | false =>
        obtain ⟨x, y, h1, h2, h3⟩ := some_pair o a c
        have hex : ∃ x y, First n lots x y := by
          have h1 : ∃ x, ∃ y, y < x ∧ x < n ∧ noJ n lots x y = true := ⟨x, y, h1, h2, h3⟩
          obtain ⟨x0, s1, m1⟩ := least_nat h1
          obtain ⟨y0, s2, m2⟩ := least_nat s1
          refine ⟨x0, y0, s2.1, s2.2.1, s2.2.2, fun a' b' ha hb => ?_, fun b' hb => ?_⟩
          · cases e : noJ n lots a' b' with
            | false => rfl
            | true => exact absurd ⟨b', hb, by have := s2.2.1; omega, e⟩ (m1 a' ha)
          · cases e : noJ n lots x0 b' with
            | false => rfl
            | true => exact absurd ⟨by have := s2.1; omega, s2.2.1, e⟩ (m2 b' hb)
        obtain ⟨x, y, F⟩ := hex
        obtain ⟨u, v, g0, g1⟩ := mins_two o F.2.1 (by have := F.1; have := F.2.1; omega) b F.2.2.1
        exact ⟨_, .inr (.inr (.inr ⟨a, b, c, _, ⟨x, y, u, v, F, g0, g1, rfl⟩, rfl⟩))⟩
/-! ### just one word -/
theorem fault_word (o : IsOrd n lots) (hn : 1 ≤ n) {d : D} (h : faultL n lots d = .none) : ∃ q, d = .tuple (.str (wordS n lots) :: q) := by
  have hlat : isLatB n lots = true → joinO n lots [] ≠ none ∧ meetO n lots [] ≠ none := fun hl => by
    have := lat_all o hn (by rw [← isLat_eq o]; exact hl) (l := []) fun z hz => nomatch hz
    exact ⟨fun e => (by rw [e] at this; cases this.1), fun e => (by rw [e] at this; cases this.2)⟩
  have nJ : joinO n lots [] ≠ none → ¬ (joinO n lots []).isNone = true := fun a => by
    cases e : joinO n lots [] with | none => exact absurd e a | some _ => exact Bool.false_ne_true
  have nM : meetO n lots [] ≠ none → ¬ (meetO n lots []).isNone = true := fun a => by
    cases e : meetO n lots [] with | none => exact absurd e a | some _ => exact Bool.false_ne_true
  unfold faultL at h
  split at h
  · rename_i s q
    split at h
    · rename_i hf
      refine ⟨q, ?_⟩
      suffices e : s = wordS n lots by rw [← e]
      unfold coreF at h
      unfold wordS
      by_cases e1 : s = "lattice"
      · rw [if_pos e1] at h
        split at h
        · rename_i hl
          obtain ⟨j, m⟩ := hlat hl
          rw [if_neg (nJ j), if_neg (nM m), if_pos hl]; exact e1
        · cases h
      · rw [if_neg e1] at h
        by_cases e2 : s = "least"
        · rw [if_pos e2] at h
          cases z : joinO n lots [] with
          | some j => rw [z] at h; cases h
          | none => exact e2
        · rw [if_neg e2] at h
          by_cases e3 : joinO n lots [] = none
          · rw [if_pos e3] at h; cases h
          · rw [if_neg e3] at h
            rw [if_neg (nJ e3)]
            by_cases e4 : s = "greatest"
            · rw [if_pos e4] at h
              cases z : meetO n lots [] with
              | some j => rw [z] at h; cases h
              | none => exact e4
            · rw [if_neg e4] at h
              by_cases e5 : meetO n lots [] = none
              · rw [if_pos e5] at h; cases h
              · rw [if_neg e5] at h
                rw [if_neg (nM e5)]
                have es : s = "four" := by
                  unfold formOk at hf
                  rw [Bool.and_eq_true, Bool.and_eq_true, decide_eq_true_eq] at hf
                  have := hf.1.1
                  unfold words at this
                  simp only [List.mem_cons, List.not_mem_nil, or_false] at this
                  rcases this with rfl | rfl | rfl | rfl
                  · exact absurd rfl e1
                  · exact absurd rfl e2
                  · exact absurd rfl e4
                  · rfl
                subst es
                unfold formOk at hf
                rw [Bool.and_eq_true, Bool.and_eq_true, decide_eq_true_eq, decide_eq_true_eq, if_pos rfl] at hf
                obtain ⟨⟨_, hq⟩, ha⟩ := hf
                match q, hq, ha, h with
                | [d1, d2, d3, d4], _, ha, h =>
                  simp only [List.all_cons, List.all_nil, Bool.and_true, Bool.and_eq_true] at ha
                  obtain ⟨n1, n2, n3, n4⟩ := ha
                  have toI : ∀ {d : D}, nbD d n = true → ∃ a : Nat, d = .int (a : Int) ∧ a < n := fun {d} hd => by
                    unfold nbD at hd
                    split at hd
                    · rename_i i
                      rw [Bool.and_eq_true, decide_eq_true_eq, decide_eq_true_eq] at hd
                      obtain ⟨a, rfl, ha⟩ := nat_of hd
                      exact ⟨a, rfl, ha⟩
                    · cases hd
                  obtain ⟨a, rfl, ha⟩ := toI n1
                  obtain ⟨b, rfl, hb⟩ := toI n2
                  obtain ⟨c, rfl, hc⟩ := toI n3
                  obtain ⟨e, rfl, he⟩ := toI n4
                  have h : fourF n lots a b c e = .none := h
                  unfold fourF at h
                  split at h
                  · cases h
                  · rename_i hbad
                    split at h
                    · cases h
                    · rename_i hbt
                      rw [if_neg]
                      intro hl
                      apply hbt
                      obtain ⟨j, J⟩ := lat_join2 o (by rw [← isLat_eq o]; exact hl) ha hb
                      unfold badL at hbad
                      rw [List.filter_eq_nil_iff] at hbad
                      have le : ∀ {p : Int × Int}, p ∈ [((a : Int), (c : Int)), (a, e), (b, c), (b, e)] → leB lots p.1 p.2 = true := fun hp => by simpa using hbad _ hp
                      unfold btw
                      rw [List.any_eq_true]
                      refine ⟨(j : Int), mem_ups.mpr ⟨J.1, J.2.1⟩, decide_eq_true (mem_downs.mpr ⟨J.1, fun z hz => ?_⟩)⟩
                      have up : ∀ k : Nat, k < n → leB lots (a : Int) (k : Int) = true → leB lots (b : Int) (k : Int) = true → leB lots (j : Int) (k : Int) = true := fun k hk h1 h2 => J.2.2 k hk fun z hz => by
                        rcases List.mem_cons.mp hz with rfl | hz
                        · exact h1
                        · rw [List.mem_singleton.mp hz]; exact h2
                      rcases List.mem_cons.mp hz with rfl | hz
                      · exact up c hc (le (p := ((a : Int), (c : Int))) (by simp)) (le (p := ((b : Int), (c : Int))) (by simp))
                      · rw [List.mem_singleton.mp hz]
                        exact up e he (le (p := ((a : Int), (e : Int))) (by simp)) (le (p := ((b : Int), (e : Int))) (by simp))
    · cases h
  · cases h
theorem word_lat (o : IsOrd n lots) (hn : 1 ≤ n) : wordS n lots = "lattice" ↔ isLatB n lots = true := by
  unfold wordS
  constructor
  · intro h
    split at h
    · exact absurd h (by decide +kernel)
    · split at h
      · exact absurd h (by decide +kernel)
      · split at h
        · assumption
        · exact absurd h (by decide +kernel)
  · intro hl
    have := lat_all o hn (by rw [← isLat_eq o]; exact hl) (l := []) fun z hz => nomatch hz
    rw [if_neg (by cases e : joinO n lots [] with | none => rw [e] at this; cases this.1 | some _ => exact Bool.false_ne_true), if_neg (by cases e : meetO n lots [] with | none => rw [e] at this; cases this.2 | some _ => exact Bool.false_ne_true), if_pos hl]
/-! ### how many cuts -/
theorem lots_nd (o : IsOrd n lots) : lots.Nodup := by
  rw [List.nodup_iff_pairwise_ne, List.pairwise_iff_getElem]
  intro i j hi hj hij e
  have hi' : i < n := by rw [← o.len]; exact hi
  have hj' : j < n := by rw [← o.len]; exact hj
  have gi : lots.getD i [] = lots[i] := by rw [List.getD_eq_getElem?_getD, List.getElem?_eq_getElem hi]; rfl
  have gj : lots.getD j [] = lots[j] := by rw [List.getD_eq_getElem?_getD, List.getElem?_eq_getElem hj]; rfl
  have h1 := o.rfl i hi'
  have h2 := o.rfl j hj'
  rw [gi, e, ← gj] at h1
  rw [gj, ← e, ← gi] at h2
  exact absurd (o.ant i j hi' hj' h1 h2) (by omega)
theorem lots_sub (o : IsOrd n lots) : ∀ l ∈ lots, l ∈ cutsL n lots := fun l hl => by
  obtain ⟨i, hi, e⟩ := List.getElem_of_mem hl
  have gi : lots.getD i [] = l := by rw [List.getD_eq_getElem?_getD, List.getElem?_eq_getElem hi]; exact e
  rw [← gi]
  exact (mem_cuts o).mpr (lot_isCut o (by rw [← o.len]; exact hi))
theorem cuts_ge (o : IsOrd n lots) : n ≤ (cutsL n lots).length := by
  have := sub_len (lots_nd o) (lots_sub o)
  rw [o.len] at this; exact this
theorem lat_cuts (o : IsOrd n lots) (hn : 1 ≤ n) (h : isLatB n lots = true) : (cutsL n lots).length ≤ n := by
  have hs : ∀ c ∈ cutsL n lots, c ∈ lots := fun c hc => by
    obtain ⟨T, hT, e⟩ := (mem_cuts o).mp hc
    have hm := (lat_all o hn (by rw [← isLat_eq o]; exact h) hT).2
    obtain ⟨m, M⟩ := (meetO_some o).mp hm
    have : c = lots.getD m [] := by
      rw [lot_cut o M.1, e]
      refine sorted_ext (downs_lt _ _ _) (downs_lt _ _ _) fun z => ?_
      rw [mem_downsI, mem_downsI]
      refine and_congr_right fun hz => ?_
      obtain ⟨k, rfl, hk⟩ := nat_of hz
      constructor
      · intro h w hw
        rw [List.mem_singleton.mp hw]
        exact M.2.2 k hk h
      · intro h w hw
        exact leI_trans o hz ⟨by omega, by have := M.1; omega⟩ (hT w hw) (h (m : Int) List.mem_cons_self) (M.2.1 w hw)
    rw [this, List.getD_eq_getElem?_getD, List.getElem?_eq_getElem (by rw [o.len]; exact M.1)]
    exact List.getElem_mem _
  have := sub_len (cuts_nd n lots) hs
  rw [o.len] at this; exact this
theorem cuts_lat (o : IsOrd n lots) (h : (cutsL n lots).length = n) : isLatB n lots = true := by
  have hp := sub_all (lots_nd o) (lots_sub o) (by rw [o.len, h]; exact Nat.le_refl _)
  have all : ∀ {T : List Int}, inR n T → ∃ m, m < n ∧ downs n lots T = lots.getD m [] := fun {T} hT => by
    have hc : downs n lots T ∈ cutsL n lots := (mem_cuts o).mpr ⟨T, hT, rfl⟩
    obtain ⟨i, hi, e⟩ := List.getElem_of_mem (hp _ hc)
    exact ⟨i, by rw [← o.len]; exact hi, by rw [List.getD_eq_getElem?_getD, List.getElem?_eq_getElem hi]; exact e.symm⟩
  have mt : ∀ {T : List Int}, inR n T → ∃ m, Mt n lots T m := fun {T} hT => by
    obtain ⟨m, hm, e⟩ := all hT
    refine ⟨m, hm, fun z hz => ?_, fun k hk hz => ?_⟩
    · have : (m : Int) ∈ downs n lots T := by rw [e]; exact o.rfl m hm
      exact (mem_downsI.mp this).2 z hz
    · have : (k : Int) ∈ downs n lots T := mem_downs.mpr ⟨hk, hz⟩
      rw [e] at this
      exact leB_iff.mpr this
  rw [isLat_eq o]
  refine isLatL_iff.mpr fun x y hx hy => ?_
  have hp := pair_inR (m := n) hx (show y < n by omega)
  obtain ⟨m, M⟩ := mt hp
  obtain ⟨j, J⟩ := mt (ups_inR n lots [(x : Int), (y : Int)])
  exact ⟨(joinO_some o).mpr ⟨j, mt_jn o hp J⟩, (meetO_some o).mpr ⟨m, M⟩⟩
theorem word_cuts (o : IsOrd n lots) (hn : 1 ≤ n) : wordS n lots = "lattice" ↔ (cutsL n lots).length = n := by
  rw [word_lat o hn]
  refine ⟨fun h => ?_, cuts_lat o⟩
  have h1 := cuts_ge o
  have h2 := lat_cuts o hn h
  omega
end K78

/-! k77: how many cuts there are; orders with a least and a greatest thing put to them. -/
namespace K78
open PySem L2 DL
variable {n N : Nat} {lots L : List (List Int)}
theorem uni_ge {α : Type} [DecidableEq α] : ∀ (b a : List α), a.length ≤ (uni a b).length
  | [], a => Nat.le_refl _
  | k :: b, a => by
    show a.length ≤ (uni (if k ∈ a then a else a ++ [k]) b).length
    refine Nat.le_trans ?_ (uni_ge b _)
    split
    · exact Nat.le_refl _
    · rw [List.length_append]; omega
theorem fold_ge : ∀ (ls f : List (List Int)), f.length ≤ (ls.foldl foundS f).length
  | [], f => Nat.le_refl _
  | l :: ls, f => Nat.le_trans (uni_ge _ _) (fold_ge ls (foundS f l))
theorem found_le (n : Nat) (lots : List (List Int)) (j : Nat) : ((lots.take j).foldl foundS [rangeI n]).length ≤ (cutsL n lots).length := by
  rw [(cutsL_perm n lots).length_eq]
  unfold foundU
  conv => rhs; rw [← List.take_append_drop j lots, List.foldl_append]
  exact fold_ge _ _
structure Least (n : Nat) (lots : List (List Int)) : Prop where
  ex : ∃ b : Nat, b < n ∧ ∀ y : Nat, y < n → (b : Int) ∈ lots.getD y []
theorem map_nd {α β : Type} {f : α → β} {l : List α} (nd : l.Nodup) (inj : ∀ x ∈ l, ∀ y ∈ l, f x = f y → x = y) : (l.map f).Nodup := by
  rw [List.nodup_iff_pairwise_ne, List.pairwise_map]
  exact (List.nodup_iff_pairwise_ne.mp nd).imp_of_mem fun hx hy h e => h (inj _ hx _ hy e)
theorem least_cuts (o : IsOrd n lots) (h : Least n lots) : (cutsL n lots).length ≤ 2 ^ (n - 1) := by
  obtain ⟨b, hb, hl⟩ := h.ex
  have hall : ∀ c ∈ cutsL n lots, (b : Int) ∈ c := fun c hc => by
    obtain ⟨T, hT, rfl⟩ := (mem_cuts o).mp hc
    refine mem_downs.mpr ⟨hb, fun z hz => ?_⟩
    obtain ⟨y, rfl, hy⟩ := nat_of (hT z hz)
    exact leB_iff.mpr (hl y hy)
  have hnd : ((cutsL n lots).map fun c => c.filter fun x => !decide (x = (b : Int))).Nodup := by
    refine map_nd (cuts_nd n lots) fun x hx y hy e => ?_
    have sx := cut_lt ((mem_cuts o).mp hx)
    have sy := cut_lt ((mem_cuts o).mp hy)
    refine sorted_ext sx sy fun z => ?_
    by_cases ez : z = (b : Int)
    · subst ez
      exact ⟨fun _ => hall y hy, fun _ => hall x hx⟩
    · have e1 : z ∈ x ↔ z ∈ x.filter fun x => !decide (x = (b : Int)) := by simp [ez]
      have e2 : z ∈ y ↔ z ∈ y.filter fun x => !decide (x = (b : Int)) := by simp [ez]
      rw [e1, e2]
      have e : (x.filter fun x => !decide (x = (b : Int))) = y.filter fun x => !decide (x = (b : Int)) := e
      rw [e]
  have hsub : ∀ p ∈ (cutsL n lots).map (fun c => c.filter fun x => !decide (x = (b : Int))), p ∈ partsL ((rangeI n).erase (b : Int)) := fun p hp => by
    obtain ⟨c, hc, rfl⟩ := List.mem_map.mp hp
    have cc := (mem_cuts o).mp hc
    refine mem_partsL.mpr (sub_of_sorted ((cut_lt cc).sublist List.filter_sublist) ((rangeI_sorted n).sublist List.erase_sublist) fun y hy => ?_)
    rw [List.mem_filter, Bool.not_eq_true', decide_eq_false_iff_not] at hy
    exact (List.mem_erase_of_ne hy.2).mpr (mem_rI.mpr (cut_inR cc y hy.1))
  have := sub_len hnd hsub
  rw [List.length_map, partsL_len, List.length_erase_of_mem (mem_rangeI hb), rI_len] at this
  exact this
/-- an order that may be asked -/
structure OrdT (n : Nat) (lots : List (List Int)) : Prop where
  o : IsOrd n lots
  n1 : 1 ≤ n
  n16 : n ≤ 16
  cc : (cutsL n lots).length ≤ 1000
theorem ordT_small (o : IsOrd n lots) (h1 : 1 ≤ n) (h : n ≤ 9) : OrdT n lots := by
  refine ⟨o, h1, by omega, ?_⟩
  have := lots_len (lotsOk_cuts o)
  have h2 : 2 ^ n ≤ 2 ^ 9 := Nat.pow_le_pow_right (by decide) h
  omega
theorem ordT_least (o : IsOrd n lots) (h1 : 1 ≤ n) (h : n ≤ 10) (l : Least n lots) : OrdT n lots := by
  refine ⟨o, h1, by omega, ?_⟩
  have := least_cuts o l
  have h2 : 2 ^ (n - 1) ≤ 2 ^ 9 := Nat.pow_le_pow_right (by decide) (by omega)
  omega
theorem ordT_cuts (o : IsOrd n lots) (h : n ≤ 4) : OrdT (cutsL n lots).length (ofLots (cutsL n lots)) := by
  have h0 := lots_len (lotsOk_cuts o)
  have h2 : 2 ^ n ≤ 2 ^ 4 := Nat.pow_le_pow_right (by decide) h
  have h1 := (cuts_len o (by omega)).1
  refine ⟨cuts_isOrd o, h1, by omega, ?_⟩
  have := lat_cuts (cuts_isOrd o) h1 (cuts_isLat o)
  omega
/-! ### with a least and a greatest thing -/
def upL (l : List Int) : List Int := 0 :: l.map (· + 1)
def bndL (n : Nat) (lots : List (List Int)) : List (List Int) := ([0] :: lots.map upL) ++ [rangeI (n + 2)]
theorem bnd_0 : (bndL n lots).getD 0 [] = [0] := rfl
theorem bnd_k (hl : lots.length = n) {k : Nat} (hk : k < n) : (bndL n lots).getD (k + 1) [] = upL (lots.getD k []) := by
  unfold bndL
  rw [List.getD_eq_getElem?_getD, List.getElem?_append_left (by rw [List.length_cons, List.length_map]; omega), List.getElem?_cons_succ, List.getElem?_map, List.getD_eq_getElem?_getD, List.getElem?_eq_getElem (by omega)]
  rfl
theorem bnd_t (hl : lots.length = n) : (bndL n lots).getD (n + 1) [] = rangeI (n + 2) := by
  unfold bndL
  rw [List.getD_eq_getElem?_getD, List.getElem?_append_right (by rw [List.length_cons, List.length_map]; omega), List.length_cons, List.length_map, hl, Nat.sub_self]
  rfl
def RB (n : Nat) (lots : List (List Int)) (x y : Nat) : Prop := x = 0 ∨ y = n + 1 ∨ ∃ i k, x = i + 1 ∧ y = k + 1 ∧ k < n ∧ (i : Int) ∈ lots.getD k []
theorem three {y : Nat} (h : y < n + 2) : y = 0 ∨ y = n + 1 ∨ ∃ k, y = k + 1 ∧ k < n := by
  by_cases h0 : y = 0
  · exact .inl h0
  · by_cases h1 : y = n + 1
    · exact .inr (.inl h1)
    · exact .inr (.inr ⟨y - 1, by omega, by omega⟩)
theorem mem_bnd (o : IsOrd n lots) {x y : Nat} (hx : x < n + 2) (hy : y < n + 2) : (x : Int) ∈ (bndL n lots).getD y [] ↔ RB n lots x y := by
  unfold RB
  rcases three hy with rfl | rfl | ⟨k, rfl, hk⟩
  · rw [bnd_0, List.mem_singleton]
    constructor
    · intro h; exact .inl (by omega)
    · rintro (h | h | ⟨i, k, _, h, _⟩) <;> omega
  · rw [bnd_t o.len]
    exact ⟨fun _ => .inr (.inl rfl), fun _ => mem_rangeI hx⟩
  · rw [bnd_k o.len hk]
    unfold upL
    rw [List.mem_cons, List.mem_map]
    constructor
    · rintro (h | ⟨a, ha, e⟩)
      · exact .inl (by omega)
      · obtain ⟨i, rfl, hi⟩ := nat_of (o.rng k hk a ha)
        exact .inr (.inr ⟨i, k, by omega, rfl, hk, ha⟩)
    · rintro (h | h | ⟨i, k', e1, e2, _, hm⟩)
      · exact .inl (by omega)
      · omega
      · rw [show k = k' by omega]
        exact .inr ⟨(i : Int), hm, by omega⟩
theorem bnd_isOrd (o : IsOrd n lots) : IsOrd (n + 2) (bndL n lots) := by
  have lt : ∀ {i k : Nat}, k < n → (i : Int) ∈ lots.getD k [] → i < n := fun {i k} hk h => by have := o.rng k hk _ h; omega
  refine ⟨?_, fun y hy => ?_, fun y hy => ?_, fun x hx => ?_, fun x y z hx hy hz h1 h2 => ?_, fun x y hx hy h1 h2 => ?_⟩
  · unfold bndL
    rw [List.length_append, List.length_cons, List.length_map, o.len]; rfl
  · rcases three hy with rfl | rfl | ⟨k, rfl, hk⟩
    · rw [bnd_0]; simp
    · rw [bnd_t o.len]; exact rangeI_sorted _
    · rw [bnd_k o.len hk]
      unfold upL
      rw [List.pairwise_cons, List.pairwise_map]
      refine ⟨fun z hz => ?_, (o.srt k hk).imp fun h => by omega⟩
      obtain ⟨a, ha, rfl⟩ := List.mem_map.mp hz
      have := (o.rng k hk a ha).1
      omega
  · rcases three hy with rfl | rfl | ⟨k, rfl, hk⟩
    · rw [bnd_0]
      intro z hz
      rw [List.mem_singleton.mp hz]; omega
    · rw [bnd_t o.len]; exact rangeI_inR _
    · rw [bnd_k o.len hk]
      unfold upL
      intro z hz
      rcases List.mem_cons.mp hz with rfl | hz
      · omega
      · obtain ⟨a, ha, rfl⟩ := List.mem_map.mp hz
        have := o.rng k hk a ha
        omega
  · refine (mem_bnd o hx hx).mpr ?_
    unfold RB
    rcases three hx with rfl | rfl | ⟨k, rfl, hk⟩
    · exact .inl rfl
    · exact .inr (.inl rfl)
    · exact .inr (.inr ⟨k, k, rfl, rfl, hk, o.rfl k hk⟩)
  · refine (mem_bnd o hx hz).mpr ?_
    have h1 := (mem_bnd o hx hy).mp h1
    have h2 := (mem_bnd o hy hz).mp h2
    unfold RB at h1 h2 ⊢
    rcases h1 with rfl | rfl | ⟨i, k, rfl, rfl, hk, hm⟩
    · exact .inl rfl
    · rcases h2 with h | h | ⟨i, k, e1, e2, hk, hm⟩
      · omega
      · exact .inr (.inl h)
      · have := lt hk hm; omega
    · rcases h2 with h | h | ⟨i2, k2, e1, e2, hk2, hm2⟩
      · omega
      · exact .inr (.inl h)
      · have e : k = i2 := by omega
        subst e
        exact .inr (.inr ⟨i, k2, rfl, e2, hk2, o.trn i k k2 (lt hk hm) hk hk2 hm hm2⟩)
  · have h1 := (mem_bnd o hx hy).mp h1
    have h2 := (mem_bnd o hy hx).mp h2
    unfold RB at h1 h2
    rcases h1 with rfl | rfl | ⟨i, k, rfl, rfl, hk, hm⟩
    · rcases h2 with h | h | ⟨i, k, e1, e2, hk, hm⟩
      · omega
      · omega
      · omega
    · rcases h2 with h | h | ⟨i, k, e1, e2, hk, hm⟩
      · omega
      · omega
      · have := lt hk hm; omega
    · have hi := lt hk hm
      rcases h2 with h | h | ⟨i2, k2, e1, e2, hk2, hm2⟩
      · omega
      · omega
      · have a1 : k = i2 := by omega
        have a2 : i = k2 := by omega
        subst a1 a2
        rw [o.ant i k hi hk hm hm2]
theorem bnd_least (o : IsOrd n lots) : Least (n + 2) (bndL n lots) := ⟨0, by omega, fun y hy => (mem_bnd o (by omega) hy).mpr (.inl rfl)⟩
theorem ren_least {names : List Int} (o : IsOrd N L) (M : Nms N names) (h : Least N L) : Least N (renL names L N N) := by
  obtain ⟨b, hb, hl⟩ := h.ex
  refine ⟨nm names b, (M.nm hb).2, fun y hy => ?_⟩
  obtain ⟨c, hc, e⟩ := M.sur' hy
  rw [← e]
  exact (renL_mem o M hb hc).mpr (hl c hc)
section
variable {P : Program} {w : World} {K : PySem.W.Frag} {mg : Str → Option Value} {base : Heap}
def φAllCutsG : List Ar → (D → Prop) → Prop := fun as Kd => ∃ (n : Nat) (lots : List (List Int)), as = [.d (ordD n lots)] ∧ lots.length = n ∧ n ≤ 1000 ∧ (cutsL n lots).length ≤ 1000 ∧ Kd (ft ((cutsL n lots).map lotD))
theorem ok_allcutsG {f : Addr} {fd : FuncData} (F : Fun K "all_cuts" "all_cuts" (topS 16) f fd) (T : Txt mg) (T3 : Txd mg) {tm : Tok} (hM : mg "MOST_CUTS" = some (.int 1000 tm)) : FnOk P w K mg base CX0 1 f fd ["order"] (SpD φAllCutsG) := by
  refine fn_D F sc_all_cuts (fun as Kd h => ?_) (fun as Kd r cdv A outer s H E hr h => ?_)
  · obtain ⟨n, lots, rfl, _⟩ := h
    rfl
  · obtain ⟨n, lots, rfl, hl, hn, hcc, k⟩ := h
    have nd := sc_all_cuts.nd
    have hz : sizeLine = 16777216 := sizeLine_eq
    have en : (n : Int).toNat = n := by omega
    refine jsetO 1 <| jdisp1 hr <| je_tupRg1 rfl rfl T.tup rfl T.ran rfl rfl <| jix ix_tup <| jv 0 <| je_int <| od_ixT (d := .int n) rfl ⟨(n : Int), rfl, by unfold RgOk; omega, je_bl ⟨rangeI n, by rw [en, rangeD_ints]; rfl, ?_⟩⟩
    refine jfor [2] (jiT (jix ix_tup (jv 0 (je_int (od_ixT (d := .tuple (lots.map lotD)) rfl ⟨_, rfl, ?_⟩)))))
    refine ⟨fun j S' => ∃ (s2 : Sl) (o3 : Option D), S' = [.val (ordD n lots), .ob (.d (kvT ((lots.take j).foldl foundS [rangeI n]))), s2, vS o3, .emp, .emp], ⟨.emp, none, rfl⟩, ?_, ?_⟩
    · rintro j d S' hd ⟨s2, o3, rfl⟩
      obtain ⟨lot, _, el, rfl⟩ := get_map hd
      have hj := (List.getElem?_eq_some_iff.mp el).1
      refine jg 2 ?_
      have hfl := found_le n lots j
      have hlens : ∀ l ∈ (lots.take j).foldl foundS [rangeI n], l.length ≤ n := found_lens fun l hl => by
        rw [List.mem_singleton.mp hl]; unfold rangeI; rw [List.length_map, List.length_range]; exact Nat.le_refl _
      have hfl2 := found_le n lots (j + 1)
      have hft := found_take (n := n) el
      rw [hft] at hfl2
      generalize (lots.take j).foldl foundS [rangeI n] = f at *
      have efs : foundS f lot = uni f (f.map fun one => interL one lot) := uni_uni _ _
      refine jfor [3] (jiN (jlistK 1 rfl T.lst ?_))
      rw [keysD_kvT]
      refine ⟨fun i S' => ∃ o3 : Option D, S' = [.val (ordD n lots), .ob (.d (kvT (uni f ((f.take i).map fun one => interL one lot)))), .val (lotD lot), vS o3, .emp, .emp], ⟨o3, rfl⟩, ?_, ?_⟩
      · rintro i d S' hd ⟨o3, rfl⟩
        obtain ⟨one, ho, eo, rfl⟩ := get_map hd
        have hol := hlens one ho
        have hul := uni_len ((f.take i).map fun one => interL one lot) f
        rw [List.length_map, List.length_take] at hul
        have e0 : uni f ((f.take (i + 1)).map fun one => interL one lot) = if interL one lot ∈ uni f ((f.take i).map fun one => interL one lot) then uni f ((f.take i).map fun one => interL one lot) else uni f ((f.take i).map fun one => interL one lot) ++ [interL one lot] := by
          rw [List.take_succ, eo, List.map_append]
          exact uni_snocL _ _ _
        refine jg 3 ?_
        refine jdput hr 1 (.d (kvT (uni f ((f.take i).map fun one => interL one lot)))) <| je_bl <| jtupN T.tup <| jlc [("x", 4)] [4] <| jiT <| jv 3 ⟨_, rfl, lcL one .int (fun x => decide (x ∈ lot)) .int (fun x hx => lp1 4 ?_) ?_⟩
        · intro _ _ _ _ _
          refine jtcmp op_inD <| jv 4 <| jv 2 <| od_inT (α := Int) hr (by decide) ⟨_, rfl, rfl, fun _ => rfl, fun _ => ?_⟩
          intro _ _ _ _ _
          exact jv 4 ⟨rfl, rfl⟩
        · refine ⟨interL one lot, kvT (uni f ((f.take i).map fun one => interL one lot)), rfl, rfl, by rw [kvT_len]; omega, jss_nil ⟨some (lotD one), ?_⟩⟩
          rw [putD_kvT, e0]; rfl
      · rintro S' ⟨o3, rfl⟩
        rw [List.length_map, List.take_length, ← efs]
        refine jifF (jtcmp op_gt <| je_lenK 1 T.len <| je_gint hM <| od_B0 ⟨_, rfl, decide_eq_false ?_, rfl⟩) <| jss_nil <| jss_nil ⟨.val (lotD lot), o3, ?_⟩
        · rw [kvT_len]; omega
        · rw [hft]
    · rintro S' ⟨s2, o3, rfl⟩
      rw [List.length_map, List.take_length]
      have hfl := found_le n lots n
      rw [← hl, List.take_length, hl] at hfl
      have hlens : ∀ l ∈ lots.foldl foundS [rangeI n], l.length ≤ n := found_lens fun l hl => by
        rw [List.mem_singleton.mp hl]; unfold rangeI; rw [List.length_map, List.length_range]; exact Nat.le_refl _
      unfold cutsL foundU at k
      generalize lots.foldl foundS [rangeI n] = f at *
      have hnw : noOwn [3] [.val (ordD n lots), .emp, s2, vS o3, .emp, .emp] = true := by cases o3 <;> rfl
      refine jret <| jtupF T.tup <| jlc [("many", 5), ("one", 3)] [5, 3] <| jiN <| jsorted hr T3.srt <| JN.je <| jn_lcK 1 [("one", 3)] [3] rfl ⟨fun i acc S' => S' = [.val (ordD n lots), .emp, s2, vS o3, .emp, .emp] ∧ acc = (f.take i).map cutEnc, ⟨rfl, rfl⟩, ?_, ?_, ?_⟩
      · rintro i acc S' ⟨rfl, rfl⟩ hi
        rw [kvT_len] at hi
        refine ⟨?_, rfl, noOwn_of (S := [.val (ordD n lots), .emp, s2, vS o3, .emp, .emp]) hnw⟩
        rw [List.length_map, List.length_take]
        omega
      · rintro i d acc S' hd ⟨rfl, rfl⟩
        rw [keysD_kvT, List.getElem?_map] at hd
        cases eo : f[i]? with
        | none => rw [eo] at hd; cases hd
        | some one =>
          rw [eo] at hd
          cases hd
          intro _ _ _ _ _
          refine jg 3 ?_
          intro _ _ _ _ _
          refine jts_nil ?_
          rw [if_pos rfl]
          intro _ _ _ _ _
          refine jtup2 <| jlen T.len <| jv 3 ⟨one.map .int, .inr rfl, jv 3 ⟨rfl, ?_⟩⟩
          rw [List.take_add_one, eo, List.map_append, List.length_map]
          rfl
      · rintro acc S' ⟨rfl, rfl⟩
        rw [kvT_len, List.take_length]
        refine ⟨f.map cutEnc, rfl, nice_map fun one => (nice_tup (n := 3) (nice_cons (nice_int _) (nice_cons (nice_lot (k := 2) one) nice_nil))).mono (by decide), PySem.W.AllAlike.of fun a b => ?_, PySem.W.Sortable.tuples fun b => ⟨_, _, rfl⟩, ?_⟩
        · unfold cutEnc lotD
          simp only [PySem.W.alike, PySem.W.alikeAll, PySem.W.alike_ints, Bool.and_self]
        · rw [sort_map (le := cutLe) rfl]
          refine lcL (f.mergeSort cutLe) cutEnc (fun _ => true) lotD ?_ ?_ (by rw [List.length_mergeSort]; omega) (by cases o3 <;> rfl)
          · intro one ho
            refine lp0P 5 3 ?_
            intro _ _ _ _ _
            exact jv 3 ⟨rfl, rfl⟩
          · rw [filter_true]
            exact k
def φBnd : List Ar → (D → Prop) → Prop := fun as Kd => ∃ (n : Nat) (lots : List (List Int)), as = [.d (ordD n lots)] ∧ IsOrd n lots ∧ n ≤ 100 ∧ Kd (ordD (n + 2) (bndL n lots))
end
end K78


namespace K78
open PySem L2 DL
section
variable {P : Program} {w : World} {K : PySem.W.Frag} {mg : Str → Option Value} {base : Heap}
theorem sc_law_turned : FnScope ["order", "x"] ["order"] (defScope (topS 34)) := ⟨rfl, rfl, rfl, by decide +kernel, rfl, by decide +kernel, by decide +kernel⟩
theorem ok_law_turned {f fA fN : Addr} {fd fdA fdN : FuncData} (F : Fun K "_law_turned" "_law_turned" (topS 34) f fd) (T : Txt mg) (NA : Dn K mg "_law_all_above" (topS 30) ["order", "lot"] fA fdA) (NN : Dn K mg "_law_under" (topS 29) ["order", "x", "y"] fN fdN) : FnOk P w K mg base CX0 3 f fd ["order"] (SpD (φOrd fun n lots => ordD n (turn n lots))) := by
  refine fn_D F sc_law_turned (fun as Kd h => ?_) (fun as Kd r cdv A outer s H E hr h => ?_)
  · obtain ⟨n, lots, rfl, _⟩ := h
    rfl
  · obtain ⟨n, lots, rfl, hn, hl, k⟩ := h
    have nd := sc_law_turned.nd
    have GA := ok_law_all_above (P := P) (w := w) (base := base) NA.F T NN
    refine jret (je_tup (jA (jix ix_tup (jv 0 (je_int (od_ixT (d := .int n) rfl (ja1 ?_)))))))
    refine jtupN T.tup (jlc [("x", 1)] [1] (jrange1 T.ran (jix ix_tup (jv 0 (je_int (od_ixT (d := .int n) rfl ⟨n, rfl, by omega, by omega, ?_⟩))))))
    refine lcR (fun _ => true) (fun x => lotD (ups n lots [(x : Int)])) ?_ ?_ (m := n)
    · intro x hx
      refine lp0 1 ?_
      intro _ _ _ _ _
      refine jcall hr NA GA (jA (jv 0 (ja1 (je_tup (ja1 (jv 1 ?_))))))
      refine ⟨[.int x], rfl, by show 1 ≤ sizeLine; decide, ?_⟩
      exact ⟨n, lots, [(x : Int)], rfl, hn, hl, by show 1 ≤ 1000; decide, rfl, rfl⟩
    · rw [filter_true]
      refine ⟨_, rfl, by show 2 ≤ sizeLine; decide, ?_⟩
      have e : PyData.tuple [.int n, .tuple ((List.range n).map fun (x : Nat) => lotD (ups n lots [(x : Int)]))] = ordD n (turn n lots) := by
        unfold ordD turn
        rw [List.map_map]
        rfl
      rw [e]
      exact k
theorem sc_are_within : FnScope ["one", "other", "x"] ["one", "other"] (defScope (topS 17)) := ⟨rfl, rfl, rfl, by decide +kernel, rfl, by decide +kernel, by decide +kernel⟩
theorem sc_least_lattice : FnScope ["order", "cuts", "one", "k", "late"] ["order"] (defScope (topS 18)) := ⟨rfl, rfl, rfl, by decide +kernel, rfl, by decide +kernel, by decide +kernel⟩
theorem sc_thing_places : FnScope ["order", "cuts", "lot"] ["order"] (defScope (topS 19)) := ⟨rfl, rfl, rfl, by decide +kernel, rfl, by decide +kernel, by decide +kernel⟩
theorem ok_within {f : Addr} {fd : FuncData} (F : Fun K "are_within" "are_within" (topS 17) f fd) (T : Txt mg) : FnOk P w K mg base CX0 1 f fd ["one", "other"] (SpD φW) := by
  refine fn_D F sc_are_within (fun as Kd h => ?_) (fun as Kd r cdv A outer s H E hr h => ?_)
  · obtain ⟨one, other, rfl, _⟩ := h
    rfl
  · obtain ⟨one, other, rfl, hl, k⟩ := h
    have nd := sc_are_within.nd
    refine jret <| jall rfl T.all <| jlc [("x", 2)] [2] <| jiT <| jv 0 ⟨_, rfl, lcL one .int (fun _ => true) (fun x => .bool (decide (x ∈ other))) (fun x hx => lp0 2 ?_) ?_⟩
    · intro _ _ _ _ _
      exact jcmp op_inD <| jv 2 <| jv 1 <| od_inT (α := Int) hr (by decide) ⟨rfl, rfl⟩
    · rw [filter_true]
      refine ⟨one.map fun x => decide (x ∈ other), by rw [List.map_map]; rfl, ?_⟩
      have e : (one.map fun x => decide (x ∈ other)).all id = within one other := by
        unfold within
        rw [List.all_map]; rfl
      rw [e]; exact k
def φLLG : List Ar → (D → Prop) → Prop := fun as Kd => ∃ (n : Nat) (lots : List (List Int)), as = [.d (ordD n lots)] ∧ lots.length = n ∧ n ≤ 1000 ∧ (∀ l ∈ cutsL n lots, l.length ≤ 1000) ∧ (cutsL n lots).length ≤ 1000 ∧ Kd (ordD (cutsL n lots).length (ofLots (cutsL n lots)))
theorem ok_leastlatG {f fC fW : Addr} {fd fdC fdW : FuncData} (F : Fun K "least_lattice" "least_lattice" (topS 18) f fd) (T : Txt mg) (T3 : Txd mg) {tm : Tok} (hM : mg "MOST_CUTS" = some (.int 1000 tm)) (NC : Dn K mg "all_cuts" (topS 16) ["order"] fC fdC) (NW : Dn K mg "are_within" (topS 17) ["one", "other"] fW fdW) : FnOk P w K mg base CX0 2 f fd ["order"] (SpD φLLG) := by
  refine fn_D F sc_least_lattice (fun as Kd h => ?_) (fun as Kd r cdv A outer s H E hr h => ?_)
  · obtain ⟨n, lots, rfl, _⟩ := h
    rfl
  · obtain ⟨n, lots, rfl, hl, hn, hlens, hlen, k⟩ := h
    have nd := sc_least_lattice.nd
    refine jset 1 <| jcall hr NC (ok_allcutsG NC.F T T3 hM) <| ja1 <| jv 0 ⟨n, lots, rfl, hl, hn, hlen, ?_⟩
    generalize cutsL n lots = ls at *
    refine jret <| jtup2 <| jlenF T.len <| jv 1 ⟨ls.map lotD, rfl, ?_⟩
    refine jtupN T.tup <| jlc [("one", 2)] [2] <| jiF <| jv 1 ⟨ls.map lotD, rfl, lcL ls lotD (fun _ => true) (fun one => lotD (((List.range ls.length).filter fun k => within (ls.getD k []) one).map Int.ofNat)) (fun one ho => lp0 2 ?_) ?_⟩
    · intro _ _ _ _ _
      refine jtupN T.tup (jlc [("k", 3), ("late", 4)] [3, 4] (jenumF T.enu (jv 1 ⟨ls.map lotD, rfl, ?_⟩)))
      rw [enumD_lots]
      refine lcL (List.range ls.length) (fun (i : Nat) => PyData.tuple [.int (i : Int), lotD (ls.getD i [])]) (fun k => within (ls.getD k []) one) (fun (k : Nat) => .int (k : Int)) (fun i hi => lp1P 3 4 ?_) ?_ (by rw [List.length_range]; omega)
      · have hi' := List.mem_range.mp hi
        intro _ _ _ _ _
        refine jtval (jcall hr NW (ok_within NW.F T) (jA2 (jv 4 (jv 2 ⟨ls.getD i [], one, rfl, hlens _ ?_, _, rfl, rfl, fun _ => rfl, fun _ => ?_⟩))))
        · rw [List.getD_eq_getElem?_getD, List.getElem?_eq_getElem hi']
          exact List.getElem_mem hi'
        · intro _ _ _ _ _
          exact jv 3 ⟨rfl, rfl⟩
      · rw [map_ofNat]
        exact ⟨rfl, rfl⟩
    · rw [filter_true]
      have e : PyData.tuple [.int ((ls.map lotD).length : Nat), .tuple (ls.map fun one => lotD (((List.range ls.length).filter fun k => within (ls.getD k []) one).map Int.ofNat))] = ordD ls.length (ofLots ls) := by
        unfold ordD ofLots
        rw [List.map_map, List.length_map]
        rfl
      rw [e]
      exact k
def φPlG : List Ar → (D → Prop) → Prop := fun as Kd => ∃ (n : Nat) (lots : List (List Int)), as = [.d (ordD n lots)] ∧ IsOrd n lots ∧ n ≤ 1000 ∧ (cutsL n lots).length ≤ 1000 ∧ Kd (lotD (placesL n lots))
theorem ok_placesG {f fC : Addr} {fd fdC : FuncData} (F : Fun K "thing_places" "thing_places" (topS 19) f fd) (T : Txt mg) (T3 : Txd mg) {tm : Tok} (hM : mg "MOST_CUTS" = some (.int 1000 tm)) (NC : Dn K mg "all_cuts" (topS 16) ["order"] fC fdC) : FnOk P w K mg base CX0 2 f fd ["order"] (SpD φPlG) := by
  refine fn_D F sc_thing_places (fun as Kd h => ?_) (fun as Kd r cdv A outer s H E hr h => ?_)
  · obtain ⟨n, lots, rfl, _⟩ := h
    rfl
  · obtain ⟨n, lots, rfl, o, hn, hcc, k⟩ := h
    have nd := sc_thing_places.nd
    have hl := o.len
    refine jset 1 <| jcall hr NC (ok_allcutsG NC.F T T3 hM) <| ja1 <| jv 0 ⟨n, lots, rfl, o.len, hn, hcc, ?_⟩
    refine jret <| jtupN T.tup <| jlc [("lot", 2)] [2] <| jiT <| jix ix_tup <| jv 0 <| je_int <| od_ixT (d := .tuple (lots.map lotD)) rfl ⟨_, rfl, lcL lots lotD (fun _ => true) (fun l => .int ((cutsL n lots).idxOf l : Int)) (fun l hlm => lp0 2 ?_) ?_⟩
    · obtain ⟨i1, i2⟩ := idx_facts (lot_mem o hlm)
      intro _ _ _ _ _
      exact je_idxF hr <| jv 1 ⟨(cutsL n lots).map lotD, rfl, jv 2 ⟨(cutsL n lots).idxOf l, lotD l, nice_map fun a => (nice_lot (k := 5) a).mono (by decide), (nice_lot (k := 5) l).mono (by decide), i1, by rw [eqv_lot]; exact decide_eq_true rfl, i2, rfl, rfl⟩⟩
    · rw [filter_true]
      have e : PyData.tuple (lots.map fun l => .int ((cutsL n lots).idxOf l : Int)) = lotD (placesL n lots) := by
        unfold lotD placesL
        rw [List.map_map]; rfl
      rw [e]; exact k
def φCutsG : List Ar → (D → Prop) → Prop := fun as Kd => ∃ (n : Nat) (lots : List (List Int)), as = [.d (ordD n lots)] ∧ lots.length = n ∧ n ≤ 1000 ∧ (cutsL n lots).length ≤ 1000 ∧ Kd (.list ((cutsL n lots).map lotD))
theorem ok_cutsG {f : Addr} {fd : FuncData} (F : Fun K "_law_cuts" "_law_cuts" (topS 35) f fd) (T : Txt mg) (T3 : Txd mg) : FnOk P w K mg base CX0 1 f fd ["order"] (SpD φCutsG) := by
  refine fn_D F sc_law_cuts (fun as Kd h => ?_) (fun as Kd r cdv A outer s H E hr h => ?_)
  · obtain ⟨n, lots, rfl, _⟩ := h
    rfl
  · obtain ⟨n, lots, rfl, hl, hn, hcc, k⟩ := h
    have nd := sc_law_cuts.nd
    have hz : sizeLine = 16777216 := sizeLine_eq
    have en : (n : Int).toNat = n := by omega
    refine jsetO 1 (jdict hr T3.dct (JN.je (jn_lst (ja1 (je_tup (jA (je_tupRg1 rfl rfl T.tup rfl T.ran rfl rfl (jix ix_tup (jv 0 (je_int (od_ixT (d := .int n) rfl ⟨(n : Int), rfl, by unfold RgOk; omega, ?_⟩)))))))))))
    refine ja1 (je_int ⟨_, rfl, by show 2 ≤ sizeLine; decide, _, rfl, by show 1 ≤ sizeLine; decide, [(rangeI n, .int 0)], ?_, ?_⟩)
    · rw [en, rangeD_ints]; rfl
    have e0 : mergeD [] [(rangeI n, .int 0)] = kvL [rangeI n] := rfl
    rw [e0]
    refine jfor [2] (jiT (jix ix_tup (jv 0 (je_int (od_ixT (d := .tuple (lots.map lotD)) rfl ⟨_, rfl, ?_⟩)))))
    refine ⟨fun j S' => ∃ s2 : Sl, S' = [.val (ordD n lots), .ob (.d (kvL ((lots.take j).foldl foundS [rangeI n]))), s2, .emp, .emp, .emp], ⟨.emp, rfl⟩, ?_, ?_⟩
    · rintro j d S' hd ⟨s2, rfl⟩
      rw [List.getElem?_map] at hd
      cases el : lots[j]? with
      | none => rw [el] at hd; cases hd
      | some lot =>
        rw [el] at hd
        cases hd
        have hj := (List.getElem?_eq_some_iff.mp el).1
        refine jg 2 ?_
        have hfl := found_le n lots j
        have hne : (lots.take j).foldl foundS [rangeI n] ≠ [] := fun z => by
          have := found_ne (n := n) (lots := lots.take j)
          rw [z] at this; cases this
        have hlens : ∀ l ∈ (lots.take j).foldl foundS [rangeI n], l.length ≤ n := found_lens fun l hl => by
          rw [List.mem_singleton.mp hl]; unfold rangeI; rw [List.length_map, List.length_range]; exact Nat.le_refl _
        have hft := found_take (n := n) el
        generalize (lots.take j).foldl foundS [rangeI n] = f at *
        refine jupd hr 1 (kvL f) (JO.je (jdict hr T3.dct (JN.je (jn_lcK 1 [("one", 3)] [3] rfl ⟨fun i acc S' => S' = [.val (ordD n lots), .emp, .val (lotD lot), .emp, .emp, .emp] ∧ acc = (f.take i).map fun one => entD (interL one lot, .int 0), ⟨rfl, rfl⟩, ?_, ?_, ?_⟩))))
        · rintro i acc S' ⟨rfl, rfl⟩ hi
          rw [kvL_length] at hi
          refine ⟨?_, rfl, noOwn_of (S := [.val (ordD n lots), .emp, .val (lotD lot), .emp, .emp, .emp]) rfl⟩
          rw [List.length_map, List.length_take]
          omega
        · rintro i d acc S' hd ⟨rfl, rfl⟩
          rw [keys_kvL, List.getElem?_map] at hd
          cases eo : f[i]? with
          | none => rw [eo] at hd; cases hd
          | some one =>
            rw [eo] at hd
            cases hd
            intro _ _ _ _ _
            refine jg 3 ?_
            intro _ _ _ _ _
            refine jts_nil ?_
            rw [if_pos rfl]
            intro _ _ _ _ _
            have hol := hlens one (List.mem_of_getElem? eo)
            refine je_tup (jA (jtupN T.tup (jlc [("x", 4)] [4] (jiT (jv 3 ⟨_, rfl, lcL one .int (fun x => decide (x ∈ lot)) .int ?_ ?_⟩)))))
            · intro x hx
              refine lp1 4 ?_
              intro _ _ _ _ _
              refine jtcmp op_inD (jv 4 (jv 2 (od_inT (α := Int) hr (by decide) ⟨_, rfl, rfl, fun _ => rfl, fun _ _ _ _ _ _ => jv 4 ⟨rfl, rfl⟩⟩)))
            · refine ja1 (je_int ⟨_, rfl, by show 2 ≤ sizeLine; decide, rfl, ?_⟩)
              rw [List.take_add_one, eo, List.map_append]
              rfl
        · rintro acc S' ⟨rfl, rfl⟩
          rw [kvL_length, List.take_length]
          refine ⟨kvL (f.map fun one => interL one lot), by unfold kvL; rw [List.map_map, List.map_map]; rfl, kvL f, kvL (uni [] (f.map fun one => interL one lot)), ?_, rfl, ?_, ?_, jss_nil ⟨.val (lotD lot), ?_⟩⟩
          · have := mergeD_kvL (f.map fun one => interL one lot) []
            show dctD (mergeD (kvL []) _) = _
            rw [this]
          · intro z
            have := congrArg List.length z
            rw [kvL_length] at this
            exact hne (List.length_eq_zero_iff.mp this)
          · rw [kvL_length, kvL_length]
            have h2 := uni_len (f.map fun one => interL one lot) ([] : List (List Int))
            rw [List.length_map, List.length_nil] at h2
            omega
          · rw [mergeD_kvL, hft]
            rfl
    · rintro S' ⟨s2, rfl⟩
      rw [List.length_map, List.take_length]
      have hfl := found_le n lots n
      rw [← hl, List.take_length, hl] at hfl
      have hlens : ∀ l ∈ lots.foldl foundS [rangeI n], l.length ≤ n := found_lens fun l hl => by
        rw [List.mem_singleton.mp hl]; unfold rangeI; rw [List.length_map, List.length_range]; exact Nat.le_refl _
      unfold cutsL foundU at k
      generalize lots.foldl foundS [rangeI n] = f at *
      refine jret (JN.je (jlc [("many", 5), ("one", 3)] [5, 3] (jiN (jsorted hr T3.srt (JN.je (jn_lcK 1 [("one", 3)] [3] rfl ⟨fun i acc S' => S' = [.val (ordD n lots), .emp, s2, .emp, .emp, .emp] ∧ acc = (f.take i).map cutEnc, ⟨rfl, rfl⟩, ?_, ?_, ?_⟩))))))
      · rintro i acc S' ⟨rfl, rfl⟩ hi
        rw [kvL_length] at hi
        refine ⟨?_, rfl, noOwn_of (S := [.val (ordD n lots), .emp, s2, .emp, .emp, .emp]) rfl⟩
        rw [List.length_map, List.length_take]
        omega
      · rintro i d acc S' hd ⟨rfl, rfl⟩
        rw [keys_kvL, List.getElem?_map] at hd
        cases eo : f[i]? with
        | none => rw [eo] at hd; cases hd
        | some one =>
          rw [eo] at hd
          cases hd
          intro _ _ _ _ _
          refine jg 3 ?_
          intro _ _ _ _ _
          refine jts_nil ?_
          rw [if_pos rfl]
          intro _ _ _ _ _
          refine je_tup (jA (jlen T.len (jv 3 ⟨_, .inr rfl, ja1 (jv 3 ⟨_, rfl, by show 2 ≤ sizeLine; decide, rfl, ?_⟩)⟩)))
          rw [List.take_add_one, eo, List.map_append, List.length_map]
          rfl
      · rintro acc S' ⟨rfl, rfl⟩
        rw [kvL_length, List.take_length]
        refine ⟨f.map cutEnc, rfl, nice_map fun one => (nice_tup (n := 3) (nice_cons (nice_int _) (nice_cons (nice_lot (k := 2) one) nice_nil))).mono (by decide), PySem.W.AllAlike.of fun a b => ?_, PySem.W.Sortable.tuples fun b => ⟨_, _, rfl⟩, ?_⟩
        · unfold cutEnc lotD
          simp only [PySem.W.alike, PySem.W.alikeAll, PySem.W.alike_ints, Bool.and_self]
        · rw [sort_map (le := cutLe) rfl]
          refine lcL (f.mergeSort cutLe) cutEnc (fun _ => true) lotD ?_ ?_ (by rw [List.length_mergeSort]; omega)
          · intro one ho
            refine lp0P 5 3 ?_
            intro _ _ _ _ _
            exact jv 3 ⟨rfl, rfl⟩
          · rw [filter_true]
            exact k
end
end K78

set_option maxHeartbeats 1000000
/-! k78: the plain law: join bases, meet bases. -/
namespace K78
open PySem L2 DL
variable {n N : Nat} {lots L : List (List Int)}
/-! ### the things of a base -/
def lowS (lots : List (List Int)) (x : Int) : List Int := (lots.getD x.toNat []).filter fun y => !decide (y = x)
def apS (n : Nat) (lots : List (List Int)) (x : Int) : List Int := (ups n lots (lowS lots x)).filter fun y => !leB lots x y
def apO (n : Nat) (lots : List (List Int)) (x : Int) : Option Int := (apS n lots x).head?
def jbL (n : Nat) (lots : List (List Int)) : List Int := (rangeI n).filter fun x => (apO n lots x).isSome
def paperD (n : Nat) (lots : List (List Int)) (x : Int) : D := match apO n lots x with
  | some y => .tuple [.str "base", .int y]
  | none => .tuple [.str "join"]
def w1 (s : Str) : D := .tuple [.str s]
def baseF (n : Nat) (lots : List (List Int)) (x z : Int) : D := match (lowS lots x).filter (fun y => !leB lots y z) with
  | w :: _ => .tuple [.str "under", .int w]
  | [] => if leB lots x z = true then w1 "above" else .none
def faultB (n : Nat) (lots : List (List Int)) (x : Int) : D → D
  | .tuple (.str s :: q) =>
    if (decide (s = "join") && q.isEmpty) = true then (if (apO n lots x).isSome = true then w1 "join" else .none)
    else if s = "base" then (match q with
      | [.int z] => if (decide (0 ≤ z) && decide (z < n)) = true then baseF n lots x z else w1 "form"
      | _ => w1 "form")
    else w1 "form"
  | _ => w1 "form"
theorem mem_low {x y : Int} : y ∈ lowS lots x ↔ leB lots y x = true ∧ y ≠ x := by
  unfold lowS leB
  rw [List.mem_filter, decide_eq_true_eq]
  simp
theorem low_inR (o : IsOrd n lots) {x : Int} (hx : 0 ≤ x ∧ x < n) : inR n (lowS lots x) := fun y hy => o.rng x.toNat (by omega) y (List.mem_filter.mp hy).1
theorem low_lt (o : IsOrd n lots) {x : Int} (hx : 0 ≤ x ∧ x < n) : (lowS lots x).Pairwise (· < ·) := (o.srt x.toNat (by omega)).sublist List.filter_sublist
theorem low_len (o : IsOrd n lots) {x : Int} (hx : 0 ≤ x ∧ x < n) : (lowS lots x).length ≤ n := cut_lenR (low_lt o hx) (low_inR o hx)
theorem mem_ap {x y : Int} : y ∈ apS n lots x ↔ (0 ≤ y ∧ y < n) ∧ (∀ z, leB lots z x = true → z ≠ x → leB lots z y = true) ∧ leB lots x y = false := by
  unfold apS
  rw [List.mem_filter, mem_upsI, Bool.not_eq_true', and_assoc]
  refine and_congr_right fun _ => and_congr ?_ Iff.rfl
  exact ⟨fun h z h1 h2 => h z (mem_low.mpr ⟨h1, h2⟩), fun h z hz => h z (mem_low.mp hz).1 (mem_low.mp hz).2⟩
/-- apart: something is above all strictly under it, not above it -/
def Ap (n : Nat) (lots : List (List Int)) (x : Int) : Prop := ∃ y : Int, (0 ≤ y ∧ y < n) ∧ (∀ z, leB lots z x = true → z ≠ x → leB lots z y = true) ∧ leB lots x y = false
theorem apO_some {x : Int} : (apO n lots x).isSome = true ↔ Ap n lots x := by
  unfold apO Ap
  rw [List.isSome_head?]
  constructor
  · intro h
    obtain ⟨y, hy⟩ := List.exists_mem_of_ne_nil _ h
    exact ⟨y, mem_ap.mp hy⟩
  · rintro ⟨y, hy⟩ e
    have := mem_ap.mpr hy
    rw [e] at this; cases this
theorem mem_jb {x : Int} : x ∈ jbL n lots ↔ (0 ≤ x ∧ x < n) ∧ Ap n lots x := by
  unfold jbL
  rw [List.mem_filter, mem_rI, apO_some]
theorem jb_lt (n : Nat) (lots : List (List Int)) : (jbL n lots).Pairwise (· < ·) := (rangeI_sorted n).sublist List.filter_sublist
theorem jb_inR (n : Nat) (lots : List (List Int)) : inR n (jbL n lots) := fun x hx => (mem_jb.mp hx).1
theorem jb_len (n : Nat) (lots : List (List Int)) : (jbL n lots).length ≤ n := cut_lenR (jb_lt n lots) (jb_inR n lots)
/-- by the join of all strictly under it -/
theorem join_low (o : IsOrd n lots) {x : Nat} (hx : x < n) : joinO n lots (lowS lots x) = some (x : Int) ↔ apO n lots x = none := by
  rw [joinO_iff o]
  have hx' : (0 : Int) ≤ x ∧ (x : Int) < n := ⟨by omega, by omega⟩
  constructor
  · intro J
    cases e : apO n lots x with
    | none => rfl
    | some y =>
      have : Ap n lots x := apO_some.mp (by rw [e]; rfl)
      obtain ⟨y, hy, h1, h2⟩ := this
      obtain ⟨k, rfl, hk⟩ := nat_of hy
      have := J.2.2 k hk fun z hz => h1 z (mem_low.mp hz).1 (mem_low.mp hz).2
      rw [h2] at this; cases this
  · intro h
    refine ⟨hx, fun z hz => (mem_low.mp hz).1, fun k hk hz => ?_⟩
    cases e : leB lots (x : Int) (k : Int) with
    | true => rfl
    | false =>
      have : (apO n lots x).isSome = true := apO_some.mpr ⟨k, ⟨by omega, by omega⟩, fun z h1 h2 => hz z (mem_low.mpr ⟨h1, h2⟩), e⟩
      rw [h] at this; cases this
theorem apO_inR {x y : Int} (h : apO n lots x = some y) : y ∈ apS n lots x := List.mem_of_head? h
/-! ### papers -/
theorem bpaper_right (x : Int) : faultB n lots x (paperD n lots x) = .none := by
  unfold paperD
  cases e : apO n lots x with
  | none =>
    have e0 : (decide ((("join" : Str)) = "join") && ([] : List D).isEmpty) = true := by decide +kernel
    show (if (decide ((("join" : Str)) = "join") && ([] : List D).isEmpty) = true then (if (apO n lots x).isSome = true then w1 "join" else .none) else (if (("join" : Str)) = "base" then w1 "form" else w1 "form")) = .none
    rw [if_pos e0, e]
    rfl
  | some y =>
    have hy := mem_ap.mp (apO_inR e)
    have e0 : ¬ (decide ((("base" : Str)) = "join") && [PyData.int y].isEmpty) = true := by simp
    show (if (decide ((("base" : Str)) = "join") && [PyData.int y].isEmpty) = true then (if (apO n lots x).isSome = true then w1 "join" else .none) else if (("base" : Str)) = "base" then (if (decide (0 ≤ y) && decide (y < (n : Int))) = true then baseF n lots x y else w1 "form") else w1 "form") = .none
    rw [if_neg e0, if_pos rfl, if_pos (by rw [decide_eq_true hy.1.1, decide_eq_true hy.1.2]; rfl)]
    have e0 : (lowS lots x).filter (fun w => !leB lots w y) = [] := by
      rw [List.filter_eq_nil_iff]
      intro w hw
      rw [hy.2.1 w (mem_low.mp hw).1 (mem_low.mp hw).2]; decide
    unfold baseF
    rw [e0, hy.2.2]
    rfl
theorem bpaper_word (x : Int) : ∃ q, paperD n lots x = .tuple (.str (if (apO n lots x).isSome = true then "base" else "join") :: q) := by
  unfold paperD
  cases apO n lots x with
  | none => exact ⟨[], rfl⟩
  | some y => exact ⟨[.int y], rfl⟩
theorem bfault_word {x : Int} {v : D} (h : faultB n lots x v = .none) : ∃ q, v = .tuple (.str (if (apO n lots x).isSome = true then "base" else "join") :: q) := by
  unfold faultB at h
  split at h
  · rename_i s q
    refine ⟨q, ?_⟩
    suffices e : s = if (apO n lots x).isSome = true then ("base" : Str) else ("join" : Str) by rw [← e]
    split at h
    · rename_i hj
      rw [Bool.and_eq_true, decide_eq_true_eq] at hj
      split at h
      · cases h
      · rename_i ha
        rw [if_neg ha]; exact hj.1
    · split at h
      · rename_i hs
        split at h
        · rename_i z hnj
          split at h
          · rename_i hz
            rw [Bool.and_eq_true, decide_eq_true_eq, decide_eq_true_eq] at hz
            unfold baseF at h
            split at h
            · cases h
            · rename_i hf
              split at h
              · cases h
              · rename_i hx
                rw [if_pos]
                · exact hs
                · refine apO_some.mpr ⟨z, hz, fun w h1 h2 => ?_, by simpa using hx⟩
                  rw [List.filter_eq_nil_iff] at hf
                  simpa using hf w (mem_low.mpr ⟨h1, h2⟩)
          · cases h
        · cases h
      · cases h
  · cases h
/-! ### the base of an order turned about -/
def Mp (n : Nat) (lots : List (List Int)) (x : Int) : Prop := ∃ y : Int, (0 ≤ y ∧ y < n) ∧ (∀ z : Int, (0 ≤ z ∧ z < n) → leB lots x z = true → z ≠ x → leB lots y z = true) ∧ leB lots y x = false
theorem turn_leI {a b : Int} (ha : 0 ≤ a ∧ a < n) (hb : 0 ≤ b ∧ b < n) : leB (turn n lots) a b = leB lots b a := by
  obtain ⟨i, rfl, hi⟩ := nat_of ha
  obtain ⟨j, rfl, hj⟩ := nat_of hb
  exact turn_le hi hj
theorem le_inR (o : IsOrd n lots) {a b : Int} (hb : 0 ≤ b ∧ b < n) (h : leB lots a b = true) : 0 ≤ a ∧ a < n := o.rng b.toNat (by omega) a (mem_lot.mp h)
theorem ap_turn (o : IsOrd n lots) {x : Int} (hx : 0 ≤ x ∧ x < n) : Ap n (turn n lots) x ↔ Mp n lots x := by
  have o' := turn_isOrd o
  constructor
  · rintro ⟨y, hy, h1, h2⟩
    refine ⟨y, hy, fun z hz h3 h4 => ?_, by rw [← turn_leI hx hy]; exact h2⟩
    rw [← turn_leI hz hy]
    exact h1 z (by rw [turn_leI hz hx]; exact h3) h4
  · rintro ⟨y, hy, h1, h2⟩
    refine ⟨y, hy, fun z h3 h4 => ?_, by rw [turn_leI hx hy]; exact h2⟩
    have hz := le_inR o' hx h3
    rw [turn_leI hz hy]
    exact h1 z hz (by rw [← turn_leI hz hx]; exact h3) h4
/-! ### bases of the least lattice -/
theorem cut_dn (o : IsOrd n lots) {c : List Int} (hc : IsCut n lots c) {x z : Int} (hx : x ∈ c) (h : leB lots z x = true) : z ∈ c := by
  have hxr := cut_inR hc x hx
  have hzr := le_inR o hxr h
  exact (mem_cut hc).mpr ⟨hzr, fun u hu => leI_trans o hzr hxr (ups_inR n lots _ u hu) h (((mem_cut hc).mp hx).2 u hu)⟩
theorem cut_ne {a b : Nat} (ha : a < (cutsL n lots).length) (hb : b < (cutsL n lots).length) (h : (cutsL n lots).getD a [] = (cutsL n lots).getD b []) : a = b := by
  have g1 : (cutsL n lots)[a]? = some ((cutsL n lots).getD a []) := by rw [List.getD_eq_getElem?_getD, List.getElem?_eq_getElem ha]; rfl
  have g2 : (cutsL n lots)[b]? = some ((cutsL n lots).getD a []) := by rw [h, List.getD_eq_getElem?_getD, List.getElem?_eq_getElem hb]; rfl
  exact (List.getElem?_inj ha (cuts_nd n lots)).mp (g1.trans g2.symm)
theorem plc_le (o : IsOrd n lots) {i : Nat} (hi : i < n) {k : Nat} (hk : k < (cutsL n lots).length) : leB (ofLots (cutsL n lots)) (plc n lots i : Int) (k : Int) = true ↔ (i : Int) ∈ (cutsL n lots).getD k [] := by
  obtain ⟨p1, p2⟩ := plc_at o hi
  rw [leC hk, p2]
  exact ⟨fun h => h.2 _ (o.rfl i hi), fun h => ⟨p1, fun z hz => cut_dn o (cut_at o hk) h (mem_lot.mpr hz)⟩⟩
theorem le_plc (o : IsOrd n lots) {i : Nat} (hi : i < n) {k : Nat} (hk : k < (cutsL n lots).length) : leB (ofLots (cutsL n lots)) (k : Int) (plc n lots i : Int) = true ↔ ∀ z ∈ (cutsL n lots).getD k [], leB lots z (i : Int) = true := by
  obtain ⟨p1, p2⟩ := plc_at o hi
  rw [leC p1, p2]
  exact ⟨fun h z hz => mem_lot.mpr (h.2 z hz), fun h => ⟨hk, fun z hz => mem_lot.mp (h z hz)⟩⟩
theorem plc_inj (o : IsOrd n lots) {i j : Nat} (hi : i < n) (hj : j < n) (h : plc n lots i = plc n lots j) : i = j := by
  obtain ⟨p1, p2⟩ := plc_at o hi
  obtain ⟨q1, q2⟩ := plc_at o hj
  rw [h, q2] at p2
  have h3 := o.rfl i hi
  have h4 := o.rfl j hj
  rw [← p2] at h3
  rw [p2] at h4
  exact o.ant i j hi hj h3 h4
theorem is_plc (o : IsOrd n lots) {i : Nat} (hi : i < n) {c : Nat} (hc : c < (cutsL n lots).length) (h1 : ∀ z ∈ (cutsL n lots).getD c [], leB lots z (i : Int) = true) (h2 : (i : Int) ∈ (cutsL n lots).getD c []) : c = plc n lots i := by
  obtain ⟨p1, p2⟩ := plc_at o hi
  refine cut_ne hc p1 ?_
  rw [p2]
  refine sorted_ext (cut_lt (cut_at o hc)) (o.srt i hi) fun u => ?_
  exact ⟨fun hu => mem_lot.mp (h1 u hu), fun hu => cut_dn o (cut_at o hc) h2 (mem_lot.mpr hu)⟩
theorem ap_cuts (o : IsOrd n lots) {k : Nat} (hk : k < (cutsL n lots).length) : Ap (cutsL n lots).length (ofLots (cutsL n lots)) k ↔ ∃ x : Nat, x < n ∧ plc n lots x = k ∧ Ap n lots x := by
  have hc := cut_at o hk
  constructor
  · rintro ⟨m, hm, h1, h2⟩
    obtain ⟨m, rfl, hm'⟩ := nat_of hm
    have hcm := cut_at o hm'
    have h2 : ¬ leB (ofLots (cutsL n lots)) (k : Int) (m : Int) = true := by rw [h2]; decide
    rw [leC hm'] at h2
    obtain ⟨x, hxk, hxm⟩ : ∃ x ∈ (cutsL n lots).getD k [], x ∉ (cutsL n lots).getD m [] := Classical.byContradiction fun hn => h2 ⟨hk, fun x hx => Classical.byContradiction fun h => hn ⟨x, hx, h⟩⟩
    obtain ⟨i, rfl, hi⟩ := nat_of (cut_inR hc x hxk)
    have ek : plc n lots i = k := Classical.byContradiction fun hne => hxm ((plc_le o hi hm').mp (h1 _ ((plc_le o hi hk).mpr hxk) fun e => hne (by omega)))
    refine ⟨i, hi, ek, ?_⟩
    obtain ⟨y, hy, hyi⟩ : ∃ y ∈ ups n lots ((cutsL n lots).getD m []), leB lots (i : Int) y = false := Classical.byContradiction fun hn => hxm ((mem_cut hcm).mpr ⟨⟨by omega, by omega⟩, fun u hu => Classical.byContradiction fun h => hn ⟨u, hu, by simpa using h⟩⟩)
    refine ⟨y, ups_inR n lots _ y hy, fun z hz hne => ?_, hyi⟩
    obtain ⟨j, rfl, hj⟩ := nat_of (le_inR o (b := (i : Int)) ⟨by omega, by omega⟩ hz)
    have := h1 (plc n lots j : Int) ((plc_le o hj hk).mpr (by rw [← ek, (plc_at o hi).2]; exact mem_lot.mp hz)) fun e => hne (by rw [plc_inj o hj hi (by omega)])
    exact ((mem_cut hcm).mp ((plc_le o hj hm').mp this)).2 y hy
  · rintro ⟨i, hi, rfl, y, hy, h1, h2⟩
    obtain ⟨j, rfl, hj⟩ := nat_of hy
    have p1 := (plc_at o hi).1
    have q1 := (plc_at o hj).1
    refine ⟨(plc n lots j : Int), ⟨by omega, by omega⟩, fun z hz hne => ?_, ?_⟩
    · obtain ⟨c, rfl, hc'⟩ := nat_of (le_inR (cuts_isOrd o) (b := (plc n lots i : Int)) ⟨by omega, by omega⟩ hz)
      have hs := (le_plc o hi hc').mp hz
      refine (le_plc o hj hc').mpr fun w hw => h1 w (hs w hw) fun e => ?_
      subst e
      exact hne (by rw [is_plc o hi hc' hs hw])
    · cases e : leB (ofLots (cutsL n lots)) (plc n lots i : Int) (plc n lots j : Int) with
      | false => rfl
      | true =>
        have := (plc_le o hi q1).mp e
        rw [(plc_at o hj).2] at this
        rw [mem_lot.mpr this] at h2
        cases h2
theorem mp_cuts (o : IsOrd n lots) {k : Nat} (hk : k < (cutsL n lots).length) : Mp (cutsL n lots).length (ofLots (cutsL n lots)) k ↔ ∃ x : Nat, x < n ∧ plc n lots x = k ∧ Mp n lots x := by
  have hc := cut_at o hk
  constructor
  · rintro ⟨m, hm, h1, h2⟩
    obtain ⟨m, rfl, hm'⟩ := nat_of hm
    have hcm := cut_at o hm'
    have h2 : ¬ leB (ofLots (cutsL n lots)) (m : Int) (k : Int) = true := by rw [h2]; decide
    rw [leC hk] at h2
    obtain ⟨y, hym, hyk⟩ : ∃ x ∈ (cutsL n lots).getD m [], x ∉ (cutsL n lots).getD k [] := Classical.byContradiction fun hn => h2 ⟨hm', fun x hx => Classical.byContradiction fun h => hn ⟨x, hx, h⟩⟩
    have hyr := cut_inR hcm y hym
    obtain ⟨x, hx, hyx⟩ : ∃ u ∈ ups n lots ((cutsL n lots).getD k []), leB lots y u = false := Classical.byContradiction fun hn => hyk ((mem_cut hc).mpr ⟨hyr, fun u hu => Classical.byContradiction fun h => hn ⟨u, hu, by simpa using h⟩⟩)
    obtain ⟨i, rfl, hi⟩ := nat_of (ups_inR n lots _ x hx)
    have p1 := (plc_at o hi).1
    have ek : plc n lots i = k := Classical.byContradiction fun hne => by
      have := h1 (plc n lots i : Int) ⟨by omega, by omega⟩ ((le_plc o hi hk).mpr (mem_upsI.mp hx).2) fun e => hne (by omega)
      have := (le_plc o hi hm').mp this y hym
      rw [hyx] at this; cases this
    refine ⟨i, hi, ek, y, hyr, fun z hz hiz hne => ?_, hyx⟩
    obtain ⟨j, rfl, hj⟩ := nat_of hz
    have q1 := (plc_at o hj).1
    have := h1 (plc n lots j : Int) ⟨by omega, by omega⟩ (by rw [← ek]; exact (plc_le o hi q1).mpr (by rw [(plc_at o hj).2]; exact mem_lot.mp hiz)) fun e => hne (by rw [plc_inj o hj hi (by omega)])
    exact (le_plc o hj hm').mp this y hym
  · rintro ⟨i, hi, rfl, y, hy, h1, h2⟩
    obtain ⟨j, rfl, hj⟩ := nat_of hy
    have p1 := (plc_at o hi).1
    have q1 := (plc_at o hj).1
    refine ⟨(plc n lots j : Int), ⟨by omega, by omega⟩, fun z hz hiz hne => ?_, ?_⟩
    · obtain ⟨c, rfl, hc'⟩ := nat_of hz
      have hic := (plc_le o hi hc').mp hiz
      refine (plc_le o hj hc').mpr ((mem_cut (cut_at o hc')).mpr ⟨hy, fun u hu => ?_⟩)
      have hur := ups_inR n lots _ u hu
      refine h1 u hur ((mem_upsI.mp hu).2 _ hic) fun e => ?_
      subst e
      exact hne (by rw [is_plc o hi hc' (mem_upsI.mp hu).2 hic])
    · cases e : leB (ofLots (cutsL n lots)) (plc n lots j : Int) (plc n lots i : Int) with
      | false => rfl
      | true =>
        have := (plc_le o hj p1).mp e
        rw [(plc_at o hi).2] at this
        rw [mem_lot.mpr this] at h2
        cases h2
def mbL (n : Nat) (lots : List (List Int)) : List Int := jbL n (turn n lots)
theorem mem_mb (o : IsOrd n lots) {x : Int} : x ∈ mbL n lots ↔ (0 ≤ x ∧ x < n) ∧ Mp n lots x := by
  unfold mbL
  rw [mem_jb]
  exact and_congr_right fun hx => ap_turn o hx
theorem mem_plcs2 {S : List Int} {z : Int} : z ∈ plcs n lots S ↔ ∃ x ∈ S, z = (plc n lots x.toNat : Int) := by
  unfold plcs
  rw [List.mem_map]
  exact ⟨fun ⟨a, h, e⟩ => ⟨a, h, e.symm⟩, fun ⟨a, h, e⟩ => ⟨a, h, e.symm⟩⟩
theorem plcs_nd (o : IsOrd n lots) {S : List Int} (hS : inR n S) (nd : S.Nodup) : (plcs n lots S).Nodup := by
  unfold plcs
  refine map_nd nd fun x hx y hy e => ?_
  obtain ⟨i, rfl, hi⟩ := nat_of (hS x hx)
  obtain ⟨j, rfl, hj⟩ := nat_of (hS y hy)
  have := plc_inj o hi hj (by
    have e : ((plc n lots ((i : Int).toNat) : Nat) : Int) = (plc n lots ((j : Int).toNat) : Nat) := e
    rw [Int.toNat_natCast, Int.toNat_natCast] at e
    omega)
  omega
theorem lt_nd {l : List Int} (h : l.Pairwise (· < ·)) : l.Nodup := List.nodup_iff_pairwise_ne.mpr (h.imp fun h => by omega)
theorem due_of (o : IsOrd n lots) {S T ns : List Int} (hS : inR n S) (ls : S.Pairwise (· < ·)) (lT : T.Pairwise (· < ·)) (hm : ∀ k : Int, k ∈ T ↔ ∃ x : Nat, (x : Int) ∈ S ∧ (plc n lots x : Int) = k) (hp : ns.Perm (plcs n lots S)) (hs : ns.Pairwise (· ≤ ·)) : ns = T := by
  have h1 : (plcs n lots S).Perm T := by
    refine (List.perm_ext_iff_of_nodup (plcs_nd o hS (lt_nd ls)) (lt_nd lT)).mpr fun a => ?_
    rw [mem_plcs2, hm]
    constructor
    · rintro ⟨x, hx, e⟩
      obtain ⟨i, rfl, hi⟩ := nat_of (hS x hx)
      exact ⟨i, hx, by rw [e, Int.toNat_natCast]⟩
    · rintro ⟨i, hx, e⟩
      exact ⟨(i : Int), hx, by rw [← e, Int.toNat_natCast]⟩
  exact List.Perm.eq_of_pairwise (le := fun a b : Int => a ≤ b) (fun a b _ _ h1 h2 => by omega) hs (lT.imp fun h => by omega) (hp.trans h1)
theorem due_jb (o : IsOrd n lots) {ns : List Int} (hp : ns.Perm (plcs n lots (jbL n lots))) (hs : ns.Pairwise (· ≤ ·)) : ns = jbL (cutsL n lots).length (ofLots (cutsL n lots)) := by
  refine due_of o (jb_inR n lots) (jb_lt n lots) (jb_lt _ _) (fun k => ?_) hp hs
  rw [mem_jb]
  constructor
  · rintro ⟨hk, h⟩
    obtain ⟨k, rfl, hk'⟩ := nat_of hk
    obtain ⟨x, hx, e, h⟩ := (ap_cuts o hk').mp h
    exact ⟨x, mem_jb.mpr ⟨⟨by omega, by omega⟩, h⟩, by rw [e]⟩
  · rintro ⟨x, hx, rfl⟩
    obtain ⟨hx, h⟩ := mem_jb.mp hx
    have hx' : x < n := by omega
    have := (plc_at o hx').1
    exact ⟨⟨by omega, by omega⟩, (ap_cuts o this).mpr ⟨x, hx', rfl, h⟩⟩
theorem due_mb (o : IsOrd n lots) {ns : List Int} (hp : ns.Perm (plcs n lots (mbL n lots))) (hs : ns.Pairwise (· ≤ ·)) : ns = mbL (cutsL n lots).length (ofLots (cutsL n lots)) := by
  refine due_of o (jb_inR _ _) (jb_lt _ _) (jb_lt _ _) (fun k => ?_) hp hs
  rw [mem_mb (cuts_isOrd o)]
  constructor
  · rintro ⟨hk, h⟩
    obtain ⟨k, rfl, hk'⟩ := nat_of hk
    obtain ⟨x, hx, e, h⟩ := (mp_cuts o hk').mp h
    exact ⟨x, (mem_mb o).mpr ⟨⟨by omega, by omega⟩, h⟩, by rw [e]⟩
  · rintro ⟨x, hx, rfl⟩
    obtain ⟨hx, h⟩ := (mem_mb o).mp hx
    have hx' : x < n := by omega
    have := (plc_at o hx').1
    exact ⟨⟨by omega, by omega⟩, (mp_cuts o this).mpr ⟨x, hx', rfl, h⟩⟩
/-! ### each cut is a join, a meet of the bases' places -/
theorem jn_base (o : IsOrd n lots) {k : Nat} (hk : k < (cutsL n lots).length) : Jn (cutsL n lots).length (ofLots (cutsL n lots)) (plcs n lots (((cutsL n lots).getD k []).filter fun x => decide (x ∈ jbL n lots))) k := by
  have hc := cut_at o hk
  have hcr := cut_inR hc
  refine ⟨hk, fun z hz => ?_, fun m hm hz => (leC hm).mpr ⟨hk, fun w hw => ?_⟩⟩
  · obtain ⟨x, hx, rfl⟩ := mem_plcs2.mp hz
    have hx := (List.mem_filter.mp hx).1
    obtain ⟨i, rfl, hi⟩ := nat_of (hcr x hx)
    rw [Int.toNat_natCast]
    exact (plc_le o hi hk).mpr hx
  · have hcm := cut_at o hm
    refine Classical.byContradiction fun hn => ?_
    have hl : w ∈ ((cutsL n lots).getD k []).filter fun x => !decide (x ∈ (cutsL n lots).getD m []) := List.mem_filter.mpr ⟨hw, by simpa using hn⟩
    obtain ⟨z, hz1, _⟩ := min_under o (l := ((cutsL n lots).getD k []).filter fun x => !decide (x ∈ (cutsL n lots).getD m [])) (fun x hx => hcr x (List.mem_filter.mp hx).1) _ hl (Nat.le_refl _)
    obtain ⟨hz2, hmin⟩ := mem_mins.mp hz1
    obtain ⟨hzk, hzm⟩ := List.mem_filter.mp hz2
    have hzm : z ∉ (cutsL n lots).getD m [] := by simpa using hzm
    obtain ⟨i, rfl, hi⟩ := nat_of (hcr z hzk)
    obtain ⟨y, hy, hyi⟩ : ∃ y ∈ ups n lots ((cutsL n lots).getD m []), leB lots (i : Int) y = false := Classical.byContradiction fun hn => hzm ((mem_cut hcm).mpr ⟨⟨by omega, by omega⟩, fun u hu => Classical.byContradiction fun h => hn ⟨u, hu, by simpa using h⟩⟩)
    have hjb : (i : Int) ∈ jbL n lots := mem_jb.mpr ⟨⟨by omega, by omega⟩, y, ups_inR n lots _ y hy, fun v hv hne => by
      have hvk := cut_dn o hc hzk hv
      have hvm : v ∈ (cutsL n lots).getD m [] := Classical.byContradiction fun h => hne (hmin v (List.mem_filter.mpr ⟨hvk, by simpa using h⟩) hv)
      exact ((mem_cut hcm).mp hvm).2 y hy, hyi⟩
    have := hz (plc n lots i : Int) (mem_plcs2.mpr ⟨(i : Int), List.mem_filter.mpr ⟨hzk, decide_eq_true hjb⟩, by rw [Int.toNat_natCast]⟩)
    exact hzm ((plc_le o hi hm).mp this)
theorem mt_base (o : IsOrd n lots) {k : Nat} (hk : k < (cutsL n lots).length) : Mt (cutsL n lots).length (ofLots (cutsL n lots)) (plcs n lots ((ups n lots ((cutsL n lots).getD k [])).filter fun x => decide (x ∈ mbL n lots))) k := by
  have hc := cut_at o hk
  have hU := ups_inR n lots ((cutsL n lots).getD k [])
  refine ⟨hk, fun z hz => ?_, fun m hm hz => (leC hk).mpr ⟨hm, fun w hw => ?_⟩⟩
  · obtain ⟨x, hx, rfl⟩ := mem_plcs2.mp hz
    have hx := (List.mem_filter.mp hx).1
    obtain ⟨i, rfl, hi⟩ := nat_of (hU x hx)
    rw [Int.toNat_natCast]
    exact (le_plc o hi hk).mpr (mem_upsI.mp hx).2
  · have hcm := cut_at o hm
    have hwr := cut_inR hcm w hw
    refine Classical.byContradiction fun hn => ?_
    obtain ⟨u, hu, huw⟩ : ∃ y ∈ ups n lots ((cutsL n lots).getD k []), leB lots w y = false := Classical.byContradiction fun hn2 => hn ((mem_cut hc).mpr ⟨hwr, fun u hu => Classical.byContradiction fun h => hn2 ⟨u, hu, by simpa using h⟩⟩)
    have hl : u ∈ (ups n lots ((cutsL n lots).getD k [])).filter fun x => !leB lots w x := List.mem_filter.mpr ⟨hu, by rw [huw]; rfl⟩
    obtain ⟨z, hz1, _⟩ := min_under (turn_isOrd o) (l := (ups n lots ((cutsL n lots).getD k [])).filter fun x => !leB lots w x) (fun x hx => hU x (List.mem_filter.mp hx).1) _ hl (Nat.le_refl _)
    obtain ⟨hz2, hmax⟩ := mem_mins.mp hz1
    obtain ⟨hzk, hzw⟩ := List.mem_filter.mp hz2
    have hzw : leB lots w z = false := by simpa using hzw
    have hzr := hU z hzk
    obtain ⟨i, rfl, hi⟩ := nat_of hzr
    have hmb : (i : Int) ∈ mbL n lots := (mem_mb o).mpr ⟨⟨by omega, by omega⟩, w, hwr, fun v hv hiv hne => by
      have hvk : v ∈ ups n lots ((cutsL n lots).getD k []) := mem_upsI.mpr ⟨hv, fun t ht => leI_trans o (cut_inR hc t ht) hzr hv ((mem_upsI.mp hzk).2 t ht) hiv⟩
      refine Classical.byContradiction fun h => hne (hmax v (List.mem_filter.mpr ⟨hvk, by simpa using h⟩) ?_)
      rw [turn_leI hv hzr]; exact hiv, hzw⟩
    have := hz (plc n lots i : Int) (mem_plcs2.mpr ⟨(i : Int), List.mem_filter.mpr ⟨hzk, decide_eq_true hmb⟩, by rw [Int.toNat_natCast]⟩)
    have := (le_plc o hi hm).mp this w hw
    rw [hzw] at this; cases this
end K78

set_option maxHeartbeats 1000000
/-! k78: walks of the package: bases, base papers, judged. -/
namespace K78
open PySem L2 DL
theorem sclot_above : FnScope ["order", "x", "y"] ["order", "x"] (defScope (topS 5)) := ⟨rfl, rfl, rfl, by decide +kernel, rfl, by decide +kernel, by decide +kernel⟩
theorem scturned_order : FnScope ["order", "x"] ["order"] (defScope (topS 6)) := ⟨rfl, rfl, rfl, by decide +kernel, rfl, by decide +kernel, by decide +kernel⟩
theorem scfirst_apart : FnScope ["order", "x", "above", "some", "y"] ["order", "x"] (defScope (topS 9)) := ⟨rfl, rfl, rfl, by decide +kernel, rfl, by decide +kernel, by decide +kernel⟩
theorem scjoin_base : FnScope ["order", "x"] ["order"] (defScope (topS 10)) := ⟨rfl, rfl, rfl, by decide +kernel, rfl, by decide +kernel, by decide +kernel⟩
theorem scmeet_base : FnScope ["order"] ["order"] (defScope (topS 11)) := ⟨rfl, rfl, rfl, by decide +kernel, rfl, by decide +kernel, by decide +kernel⟩
theorem scbase_paper : FnScope ["order", "x", "y"] ["order", "x"] (defScope (topS 12)) := ⟨rfl, rfl, rfl, by decide +kernel, rfl, by decide +kernel, by decide +kernel⟩
theorem scjudge_base : FnScope ["order", "x", "value", "low", "y"] ["order", "x", "value"] (defScope (topS 13)) := ⟨rfl, rfl, rfl, by decide +kernel, rfl, by decide +kernel, by decide +kernel⟩
section
variable {n : Nat} {lots : List (List Int)}
def okB (n : Nat) (s : Str) (q : List D) : Bool := decide (s = "base") && (match q with
  | [d] => nbD d n
  | _ => false)
theorem faultB_s {x : Int} {s : Str} {q : List D} : faultB n lots x (.tuple (.str s :: q)) = if (decide (s = "join") && q.isEmpty) = true then (if (apO n lots x).isSome = true then w1 "join" else .none) else if okB n s q = true then (match q with
    | [.int z] => baseF n lots x z
    | _ => .none) else w1 "form" := by
  unfold faultB
  show (if _ then _ else _) = _
  split
  · rfl
  · by_cases hs : s = "base"
    · rw [if_pos hs]
      subst hs
      match q with
      | [] => rfl
      | [.int z] =>
        show (if (decide (0 ≤ z) && decide (z < (n : Int))) = true then _ else _) = if (true && nbD (.int z) n) = true then _ else _
        rw [Bool.true_and]; rfl
      | [.none] => rfl
      | [.bool _] => rfl
      | [.str _] => rfl
      | [.list _] => rfl
      | [.tuple _] => rfl
      | [.dict _] => rfl
      | a :: b :: t => cases a <;> rfl
    · rw [if_neg hs, if_neg]
      unfold okB
      rw [decide_eq_false hs, Bool.false_and]; decide
theorem faultB_nt {x : Int} {v : D} (h : isTup v = false) : faultB n lots x v = w1 "form" := by
  cases v <;> first | rfl | cases h
theorem faultB_ns {x : Int} {d : D} {q : List D} (h : isStr d = false) : faultB n lots x (.tuple (d :: q)) = w1 "form" := by
  cases d <;> first | rfl | cases h
theorem okB_of {s : Str} {q : List D} (h : okB n s q = true) : s = "base" ∧ ∃ z : Int, q = [.int z] ∧ 0 ≤ z ∧ z < n := by
  unfold okB at h
  rw [Bool.and_eq_true, decide_eq_true_eq] at h
  refine ⟨h.1, ?_⟩
  match q, h.2 with
  | [d], h2 =>
    have h2 : nbD d n = true := h2
    cases d with
    | int z =>
      have h2 : (decide (0 ≤ z) && decide (z < (n : Int))) = true := h2
      rw [Bool.and_eq_true, decide_eq_true_eq, decide_eq_true_eq] at h2
      exact ⟨z, rfl, h2.1, h2.2⟩
    | _ => cases h2
end
section
variable {P : Program} {w : World} {K : PySem.W.Frag} {mg : Str → Option Value} {base : Heap}
def φLA : List Ar → (D → Prop) → Prop := fun as Kd => ∃ (n : Nat) (lots : List (List Int)) (x : Int), as = [.d (ordD n lots), .d (.int x)] ∧ lots.length = n ∧ n ≤ 1000 ∧ Kd (lotD (ups n lots [x]))
theorem ok_lot_above {f : Addr} {fd : FuncData} (F : Fun K "lot_above" "lot_above" (topS 5) f fd) (T : Txt mg) : FnOk P w K mg base CX0 1 f fd ["order", "x"] (SpD φLA) := by
  refine fn_D F sclot_above (fun as Kd h => ?_) (fun as Kd r cdv A outer s H E hr h => ?_)
  · obtain ⟨n, lots, x, rfl, _⟩ := h
    rfl
  · obtain ⟨n, lots, x, rfl, hl, hn, k⟩ := h
    have nd := sclot_above.nd
    refine jret <| jtupN T.tup <| jlc [("y", 2)] [2] <| jrange1 T.ran <| jix ix_tup <| jv 0 <| je_int <| od_ixT (d := .int n) rfl ⟨n, rfl, by omega, by omega, lcR (m := n) (fun y => leB lots x (y : Int)) (fun y => .int (y : Int)) (fun y hy => lp1 2 ?_) ?_⟩
    · intro _ _ _ _ _
      refine jtcmp op_inD <| jv 1 <| jix ix_tup <| jix ix_tup <| jv 0 <| je_int <| od_ixT (d := .tuple (lots.map lotD)) rfl <| jv 2 <| od_ixT (lot_atI (lots := lots) (a := (y : Int)) (by omega) (by omega)) <| od_inT (α := Int) hr (by decide) ⟨_, rfl, rfl, fun _ => rfl, fun _ => ?_⟩
      intro _ _ _ _ _
      exact jv 2 ⟨rfl, rfl⟩
    · rw [map_ofNat]
      have e : ups n lots [x] = ((List.range n).filter fun y : Nat => leB lots x (y : Int)).map Int.ofNat := by
        unfold ups
        congr 1
        refine List.filter_congr fun y _ => ?_
        rw [List.all_cons, List.all_nil, Bool.and_true]
      rw [← e]; exact k
theorem ok_turned_order {f fL : Addr} {fd fdL : FuncData} (F : Fun K "turned_order" "turned_order" (topS 6) f fd) (T : Txt mg) (NL : Dn K mg "lot_above" (topS 5) ["order", "x"] fL fdL) : FnOk P w K mg base CX0 2 f fd ["order"] (SpD (φOrd fun n lots => ordD n (turn n lots))) := by
  refine fn_D F scturned_order (fun as Kd h => ?_) (fun as Kd r cdv A outer s H E hr h => ?_)
  · obtain ⟨n, lots, rfl, _⟩ := h
    rfl
  · obtain ⟨n, lots, rfl, hl, hn, k⟩ := h
    have nd := scturned_order.nd
    refine jret <| jtup2 <| jix ix_tup <| jv 0 <| je_int <| od_ixT (d := .int n) rfl <| jtupN T.tup <| jlc [("x", 1)] [1] <| jrange1 T.ran <| jix ix_tup <| jv 0 <| je_int <| od_ixT (d := .int n) rfl ⟨n, rfl, by omega, by omega, lcR (m := n) (fun _ => true) (fun x => lotD (ups n lots [(x : Int)])) (fun x hx => lp0 1 ?_) ?_⟩
    · intro _ _ _ _ _
      exact jcall hr NL (ok_lot_above NL.F T) <| jA2 <| jv 0 <| jv 1 ⟨n, lots, x, rfl, hl, hn, rfl, rfl⟩
    · rw [filter_true]
      have e : PyData.tuple [.int n, .tuple ((List.range n).map fun (x : Nat) => lotD (ups n lots [(x : Int)]))] = ordD n (turn n lots) := by
        unfold ordD turn
        rw [List.map_map]
        rfl
      rw [e]
      exact k
def φFA : List Ar → (D → Prop) → Prop := fun as Kd => ∃ (n : Nat) (lots : List (List Int)) (x : Int), as = [.d (ordD n lots), .d (.int x)] ∧ IsOrd n lots ∧ n ≤ 1000 ∧ (0 ≤ x ∧ x < n) ∧ Kd (optD (apO n lots x))
theorem low_js {X : Cx} {r : SR} {S : List Sl} {n : Nat} {lots : List (List Int)} {x : Int} : True := trivial
theorem ok_first_apart {f fA : Addr} {fd fdA : FuncData} (F : Fun K "first_apart" "first_apart" (topS 9) f fd) (T : Txt mg) (NA : Dn K mg "all_above" (topS 7) ["order", "lot"] fA fdA) : FnOk P w K mg base CX0 2 f fd ["order", "x"] (SpD φFA) := by
  refine fn_D F scfirst_apart (fun as Kd h => ?_) (fun as Kd r cdv A outer s H E hr h => ?_)
  · obtain ⟨n, lots, x, rfl, _⟩ := h
    rfl
  · obtain ⟨n, lots, x, rfl, o, hn, hx, k⟩ := h
    have nd := scfirst_apart.nd
    have hl := o.len
    have hlx := cut_lenR (o.srt x.toNat (by omega)) (o.rng x.toNat (by omega))
    have hll := low_len o hx
    refine jset 2 <| jcall hr NA (ok_all_above NA.F T) <| jA2 <| jv 0 <| jtupN T.tup <| jlc [("y", 4)] [4] <| jiT <| jix ix_tup <| jix ix_tup <| jv 0 <| je_int <| od_ixT (d := .tuple (lots.map lotD)) rfl <| jv 1 <| od_ixT (lot_atI (lots := lots) (a := x) (by omega) (by omega)) ⟨_, rfl, lcL (lots.getD x.toNat []) .int (fun y => !decide (y = x)) .int (fun y hy => lp1 4 ?_) ?_⟩
    · intro _ _ _ _ _
      refine jtcmp op_neD <| jv 4 <| jv 1 <| od_ne (α := Int) hr (by decide) ⟨_, rfl, rfl, fun _ => rfl, fun _ => ?_⟩
      intro _ _ _ _ _
      exact jv 4 ⟨rfl, rfl⟩
    · have hul := ups_len n lots (lowS lots x)
      have hur := ups_inR n lots (lowS lots x)
      refine ⟨n, lots, lowS lots x, rfl, hl, hn, by omega, ?_⟩
      refine jsetLc 3 [("y", 4)] [4] <| jiT <| jv 2 ⟨_, rfl, lcL (ups n lots (lowS lots x)) .int (fun y => !leB lots x y) .int (fun y hy => lp1 4 ?_) ?_⟩
      · have hyr := hur y hy
        intro _ _ _ _ _
        refine jtcmp op_notInD <| jv 1 <| jix ix_tup <| jix ix_tup <| jv 0 <| je_int <| od_ixT (d := .tuple (lots.map lotD)) rfl <| jv 4 <| od_ixT (lot_atI (lots := lots) (a := y) (by omega) (by omega)) <| od_niT (α := Int) hr (by decide) ⟨_, rfl, rfl, fun _ => rfl, fun _ => ?_⟩
        intro _ _ _ _ _
        exact jv 4 ⟨rfl, rfl⟩
      · refine jret <| je_ife <| jtcmp op_neD <| jo 3 <| JN.je <| jn_lst <| jA0 ⟨[], rfl, Nat.zero_le _, od_neNil hr (nice_map fun a => nice_int _) ⟨_, rfl, ?_⟩⟩
        unfold apO apS at k
        generalize (ups n lots (lowS lots x)).filter (fun y => !leB lots x y) = zs at *
        cases zs with
        | nil => exact iff' rfl (je_non k)
        | cons z zs => exact ift rfl (jix ix_list (jv 3 (je_int (od_ixL (d := .int z) (atI_nat (j := 0) rfl) k))))
def φJB (g : Nat → List (List Int) → D) : List Ar → (D → Prop) → Prop := fun as Kd => ∃ (n : Nat) (lots : List (List Int)), as = [.d (ordD n lots)] ∧ IsOrd n lots ∧ n ≤ 1000 ∧ Kd (g n lots)
theorem ok_join_base {f fA fF : Addr} {fd fdA fdF : FuncData} (F : Fun K "join_base" "join_base" (topS 10) f fd) (T : Txt mg) (NA : Dn K mg "all_above" (topS 7) ["order", "lot"] fA fdA) (NF : Dn K mg "first_apart" (topS 9) ["order", "x"] fF fdF) : FnOk P w K mg base CX0 3 f fd ["order"] (SpD (φJB fun n lots => lotD (jbL n lots))) := by
  refine fn_D F scjoin_base (fun as Kd h => ?_) (fun as Kd r cdv A outer s H E hr h => ?_)
  · obtain ⟨n, lots, rfl, _⟩ := h
    rfl
  · obtain ⟨n, lots, rfl, o, hn, k⟩ := h
    have nd := scjoin_base.nd
    refine jret <| jtupN T.tup <| jlc [("x", 1)] [1] <| jrange1 T.ran <| jix ix_tup <| jv 0 <| je_int <| od_ixT (d := .int n) rfl ⟨n, rfl, by omega, by omega, lcR (m := n) (fun x => (apO n lots (x : Int)).isSome) (fun x => .int (x : Int)) (fun x hx => lp1 1 ?_) ?_⟩
    · intro _ _ _ _ _
      refine jtcmp op_notN <| jcall hr NF (ok_first_apart NF.F T NA) <| jA2 <| jv 0 <| jv 1 ⟨n, lots, x, rfl, o, hn, ⟨by omega, by omega⟩, je_non <| od_notN ⟨_, rfl, by rw [isNone_opt, Bool.not_not], fun _ => rfl, fun _ => ?_⟩⟩
      intro _ _ _ _ _
      exact jv 1 ⟨rfl, rfl⟩
    · rw [map_ofNat]
      have e : jbL n lots = ((List.range n).filter fun x : Nat => (apO n lots (x : Int)).isSome).map Int.ofNat := by
        unfold jbL rangeI
        rw [List.filter_map]; rfl
      rw [← e]; exact k
theorem ok_meet_base {f fA fF fJ fT fL : Addr} {fd fdA fdF fdJ fdT fdL : FuncData} (F : Fun K "meet_base" "meet_base" (topS 11) f fd) (T : Txt mg) (NL : Dn K mg "lot_above" (topS 5) ["order", "x"] fL fdL) (NT : Dn K mg "turned_order" (topS 6) ["order"] fT fdT) (NA : Dn K mg "all_above" (topS 7) ["order", "lot"] fA fdA) (NF : Dn K mg "first_apart" (topS 9) ["order", "x"] fF fdF) (NJ : Dn K mg "join_base" (topS 10) ["order"] fJ fdJ) : FnOk P w K mg base CX0 4 f fd ["order"] (SpD (φJB fun n lots => lotD (mbL n lots))) := by
  refine fn_D F scmeet_base (fun as Kd h => ?_) (fun as Kd r cdv A outer s H E hr h => ?_)
  · obtain ⟨n, lots, rfl, _⟩ := h
    rfl
  · obtain ⟨n, lots, rfl, o, hn, k⟩ := h
    have nd := scmeet_base.nd
    exact jret <| jcall hr NJ (ok_join_base NJ.F T NA NF) <| ja1 <| jcall hr NT (ok_turned_order NT.F T NL) <| ja1 <| jv 0 ⟨n, lots, rfl, o.len, hn, n, turn n lots, rfl, turn_isOrd o, hn, k⟩
def φBP : List Ar → (D → Prop) → Prop := fun as Kd => ∃ (n : Nat) (lots : List (List Int)) (x : Int), as = [.d (ordD n lots), .d (.int x)] ∧ IsOrd n lots ∧ n ≤ 1000 ∧ (0 ≤ x ∧ x < n) ∧ Kd (paperD n lots x)
theorem ok_base_paper {f fA fF : Addr} {fd fdA fdF : FuncData} (F : Fun K "base_paper" "base_paper" (topS 12) f fd) (T : Txt mg) (NA : Dn K mg "all_above" (topS 7) ["order", "lot"] fA fdA) (NF : Dn K mg "first_apart" (topS 9) ["order", "x"] fF fdF) : FnOk P w K mg base CX0 3 f fd ["order", "x"] (SpD φBP) := by
  refine fn_D F scbase_paper (fun as Kd h => ?_) (fun as Kd r cdv A outer s H E hr h => ?_)
  · obtain ⟨n, lots, x, rfl, _⟩ := h
    rfl
  · obtain ⟨n, lots, x, rfl, o, hn, hx, k⟩ := h
    have nd := scbase_paper.nd
    refine jset 2 <| jcall hr NF (ok_first_apart NF.F T NA) <| jA2 <| jv 0 <| jv 1 ⟨n, lots, x, rfl, o, hn, hx, ?_⟩
    refine jret <| je_ife <| jtcmp op_isN <| jv 2 <| je_non <| od_isN ⟨_, rfl, ?_⟩
    rw [isNone_opt]
    unfold paperD at k
    cases e : apO n lots x with
    | none =>
      rw [e] at k
      refine ift rfl ?_
      refine jtup1 ?_
      exact je_str k
    | some y =>
      rw [e] at k
      refine iff' rfl ?_
      refine jtup2 ?_
      refine je_str ?_
      exact jv 2 k
def φJuB : List Ar → (D → Prop) → Prop := fun as Kd => ∃ (n : Nat) (lots : List (List Int)) (x : Int) (v : D) (B L : Nat), as = [.d (ordD n lots), .d (.int x), .d v] ∧ IsOrd n lots ∧ n ≤ 1000 ∧ (0 ≤ x ∧ x < n) ∧ okD B L v = true ∧ L ≤ 1000 ∧ Kd (faultB n lots x v)
theorem ok_judge_base {f fA fF fB : Addr} {fd fdA fdF fdB : FuncData} (F : Fun K "judge_base" "judge_base" (topS 13) f fd) (T : Txt mg) (T3 : Txo mg) (NB : Dn K mg "is_number_below" (topS 4) ["value", "many"] fB fdB) (NA : Dn K mg "all_above" (topS 7) ["order", "lot"] fA fdA) (NF : Dn K mg "first_apart" (topS 9) ["order", "x"] fF fdF) : FnOk P w K mg base CX0 3 f fd ["order", "x", "value"] (SpD φJuB) := by
  refine fn_D F scjudge_base (fun as Kd h => ?_) (fun as Kd r cdv A outer s H E hr h => ?_)
  · obtain ⟨n, lots, x, v, B, L, rfl, _⟩ := h
    rfl
  · obtain ⟨n, lots, x, v, B, L, rfl, o, hn, hx, hv, hL, k⟩ := h
    have nd := scjudge_base.nd
    have hl := o.len
    have hd := noF_ok hv
    have hlx := cut_lenR (o.srt x.toNat (by omega)) (o.rng x.toNat (by omega))
    rcases v_cases v with h | rfl | ⟨y, q, rfl, hy⟩ | ⟨s, q, rfl⟩
    · rw [faultB_nt h] at k
      refine jif <| JW.jt <| jw_or <| jt_not <| jtval <| jisi (Tn := "tuple") T3.isi T3.tup <| jv 2 ⟨_, kt_tup hd, _, rfl, ift (by rw [h]; rfl) <| ift rfl <| jret ?_⟩
      refine jtup1 ?_
      exact je_str k
    · refine jif <| JW.jt <| jw_or <| jt_not <| jtval <| jisi (Tn := "tuple") T3.isi T3.tup <| jv 2 ⟨_, kt_tup hd, _, rfl, iff' rfl <| jw_or <| jtcmp op_eqT0 <| jv 2 <| jtup0 <| od_eqT0 hr ⟨_, rfl, ift rfl <| ift rfl <| jret ?_⟩⟩
      refine jtup1 ?_
      exact je_str k
    · rw [faultB_ns hy] at k
      have hxo : noF y = true := noF_ok (by rw [okD, Bool.and_eq_true] at hv; exact okDAll_iff.mp hv.2 y List.mem_cons_self)
      refine jif <| JW.jt <| jw_or <| jt_not <| jtval <| jisi (Tn := "tuple") T3.isi T3.tup <| jv 2 ⟨_, kt_tup hd, _, rfl, iff' rfl <| jw_or <| jtcmp op_eqT0 <| jv 2 <| jtup0 <| od_eqT0 hr ⟨_, rfl, iff' rfl <| jw_or1 <| jt_not <| jtval <| jisi (Tn := "str") T3.isi T3.str <| jix ix_tup <| jv 2 <| je_int <| od_ixT (d := y) atI0 ⟨_, kt_str hxo, _, rfl, ift (by rw [hy]; rfl) <| jret ?_⟩⟩⟩
      refine jtup1 ?_
      exact je_str k
    · rw [faultB_s] at k
      refine jif <| JW.jt <| jw_or <| jt_not <| jtval <| jisi (Tn := "tuple") T3.isi T3.tup <| jv 2 ⟨_, kt_tup hd, _, rfl, iff' rfl <| jw_or <| jtcmp op_eqT0 <| jv 2 <| jtup0 <| od_eqT0 hr ⟨_, rfl, iff' rfl <| jw_or1 <| jt_not <| jtval <| jisi (Tn := "str") T3.isi T3.str <| jix ix_tup <| jv 2 <| je_int <| od_ixT (d := .str s) atI0 ⟨_, kt_str rfl, _, rfl, iff' rfl <| jss_nil ?_⟩⟩⟩
      refine jif <| JT.keep (decide (s = "join") && q.isEmpty) ?_ ?_
      · refine JW.jt <| jw_and <| jtcmp op_eqD <| jix ix_tup <| jv 2 <| je_int <| od_ixT (d := .str s) atI0 ?_
        refine je_str <| od_eq (α := Str) (x := s) (y := "join") hr (by decide) ⟨_, rfl, ifb (fun h => ?_) (fun h => ⟨rfl, by rw [h]; rfl⟩)⟩
        refine jw_and1 <| jtcmp op_eqD <| jlen T.len <| jv 2 ⟨.str s :: q, .inr rfl, je_int <| od_eq (α := Int) hr (by decide) ⟨_, rfl, rfl, ?_⟩⟩
        rw [h, Bool.true_and]
        cases q with
        | nil => rfl
        | cons a t => exact decide_eq_false (by rw [List.length_cons, List.length_cons]; omega)
      refine ifb (fun hj => ?_) (fun hj => ?_)
      · rw [if_pos hj] at k
        refine jret <| je_ife <| jtcmp op_notN <| jcall hr NF (ok_first_apart NF.F T NA) <| jA2 <| jv 0 <| jv 1 ⟨n, lots, x, rfl, o, hn, hx, je_non <| od_notN ⟨_, rfl, ?_⟩⟩
        rw [isNone_opt, Bool.not_not]
        refine ifb (fun h => ?_) (fun h => ?_)
        · rw [if_pos h] at k
          refine jtup1 ?_
          exact je_str k
        · rw [if_neg (by rw [h]; decide)] at k
          exact je_non k
      · rw [if_neg (by rw [hj]; decide)] at k
        refine jss_nil <| jif <| JT.keep (!okB n s q) ?_ ?_
        · refine JW.jt <| jw_or <| jtcmp op_neD <| jix ix_tup <| jv 2 <| je_int <| od_ixT (d := .str s) atI0 ?_
          unfold okB
          refine je_str <| od_ne (α := Str) (x := s) (y := "base") hr (by decide) ⟨_, rfl, ifb (fun h => ⟨rfl, ?_⟩) (fun h => ?_)⟩
          · have h : decide (s = "base") = false := by simpa using h
            rw [h]; rfl
          · have h : decide (s = "base") = true := by simpa using h
            rw [h, Bool.true_and]
            refine jw_or <| jtcmp op_neD <| jlen T.len <| jv 2 ⟨.str s :: q, .inr rfl, je_int <| od_ne (α := Int) hr (by decide) ⟨_, rfl, ifb (fun h2 => ⟨rfl, ?_⟩) (fun h2 => ?_)⟩⟩
            · match q, h2 with
              | [], _ => rfl
              | [d], h2 => exact absurd h2 (by simp)
              | a :: b :: t, _ => rfl
            · have h2 : q.length = 1 := by
                have h2 : (((PyData.str s :: q).length : Nat) : Int) = 2 := by simpa using h2
                rw [List.length_cons] at h2; omega
              match q, h2, hv with
              | [d], _, hv =>
                exact jw_or1 <| jt_not <| jtval <| jcall hr NB (ok_nb NB.F T3) <| jA2 (jix ix_tup <| jv 2 <| je_int <| od_ixT (d := d) (atI_nn (i := 1) rfl) <| jix ix_tup <| jv 0 <| je_int <| od_ixT (d := .int n) rfl ⟨d, n, rfl, noF_ok (okD_tail hv d List.mem_cons_self), _, rfl, rfl, rfl⟩)
        cases hb : okB n s q with
        | false =>
          rw [hb, if_neg Bool.false_ne_true] at k
          refine ift rfl <| jret ?_
          refine jtup1 ?_
          exact je_str k
        | true =>
          rw [hb, if_pos rfl] at k
          obtain ⟨rfl, z, rfl, z0, z1⟩ := okB_of hb
          have k : Kd (baseF n lots x z) := k
          refine iff' rfl <| jss_nil ?_
          have at1 : atI (PyData.str "base" :: [PyData.int z]) 1 = some (.int z) := atI_nn (i := 1) rfl
          refine jsetLc 3 [("y", 4)] [4] <| jiT <| jix ix_tup <| jix ix_tup <| jv 0 <| je_int <| od_ixT (d := .tuple (lots.map lotD)) rfl <| jv 1 <| od_ixT (lot_atI (lots := lots) (a := x) (by omega) (by omega)) ⟨_, rfl, lcL (lots.getD x.toNat []) .int (fun y => !decide (y = x) && !leB lots y z) .int (fun y hy => lp1 4 ?_) ?_⟩
          · intro _ _ _ _ _
            refine JT.keep (!decide (y = x) && !leB lots y z) ?_ ⟨rfl, fun _ => rfl, fun _ => ?_⟩
            · refine JW.jt <| jw_and <| jtcmp op_neD <| jv 4 <| jv 1 <| od_ne (α := Int) hr (by decide) ⟨_, rfl, ifb (fun h => ?_) (fun h => ⟨rfl, by rw [h]; rfl⟩)⟩
              rw [h, Bool.true_and]
              exact jw_and1 <| jtcmp op_notInD <| jv 4 <| jix ix_tup <| jix ix_tup <| jv 0 <| je_int <| od_ixT (d := .tuple (lots.map lotD)) rfl <| jix ix_tup <| jv 2 <| je_int <| od_ixT at1 <| od_ixT (lot_atI (lots := lots) (a := z) (by omega) (by omega)) <| od_niT (α := Int) hr (by decide) ⟨_, rfl, rfl, rfl⟩
            · intro _ _ _ _ _
              exact jv 4 ⟨rfl, rfl⟩
          · have e : (lots.getD x.toNat []).filter (fun y => !decide (y = x) && !leB lots y z) = (lowS lots x).filter fun y => !leB lots y z := by
              unfold lowS
              rw [List.filter_filter]
              exact List.filter_congr fun y _ => Bool.and_comm _ _
            rw [e]
            unfold baseF at k
            refine jif <| jtcmp op_neD <| jo 3 <| JN.je <| jn_lst <| jA0 ⟨[], rfl, Nat.zero_le _, od_neNil hr (nice_map fun a => nice_int _) ⟨_, rfl, ?_⟩⟩
            generalize (lowS lots x).filter (fun y => !leB lots y z) = zs at *
            cases zs with
            | cons w ws =>
              refine ift rfl <| jret ?_
              refine jtup2 ?_
              refine je_str ?_
              exact jix ix_list (jv 3 (je_int (od_ixL (d := .int w) (atI_nat (j := 0) rfl) k)))
            | nil =>
              have k : Kd (if leB lots x z = true then w1 "above" else .none) := k
              refine iff' rfl <| jss_nil <| jret <| je_ife <| jtcmp op_inD <| jv 1 <| jix ix_tup <| jix ix_tup <| jv 0 <| je_int <| od_ixT (d := .tuple (lots.map lotD)) rfl <| jix ix_tup <| jv 2 <| je_int <| od_ixT at1 <| od_ixT (lot_atI (lots := lots) (a := z) (by omega) (by omega)) <| od_inT (α := Int) hr (by decide) ⟨_, rfl, ?_⟩
              rw [show decide (x ∈ lots.getD z.toNat []) = leB lots x z from rfl]
              refine ifb (fun h => ?_) (fun h => ?_)
              · rw [if_pos h] at k
                refine jtup1 ?_
                exact je_str k
              · rw [if_neg (by rw [h]; decide)] at k
                exact je_non k
end
end K78

set_option maxHeartbeats 1000000
/-! k78: the law's own base and fault. -/
namespace K78
open PySem L2 DL
theorem sc_law_base : FnScope ["order", "found", "x", "low", "y"] ["order"] (defScope (topS 38)) := ⟨rfl, rfl, rfl, by decide +kernel, rfl, by decide +kernel, by decide +kernel⟩
theorem sc_law_fault : FnScope ["order", "x", "value", "low", "wrong", "y"] ["order", "x", "value"] (defScope (topS 39)) := ⟨rfl, rfl, rfl, by decide +kernel, rfl, by decide +kernel, by decide +kernel⟩
section
variable {n : Nat} {lots : List (List Int)}
def jbP (n : Nat) (lots : List (List Int)) (x : Int) : Bool := (apO n lots x).isSome
theorem jb_succ (i : Nat) : ((rangeI i).filter (jbP n lots)).map PyData.int ++ (List.replicate (if jbP n lots (i : Int) = true then 1 else 0) [PyData.int (i : Int)]).flatten = ((rangeI (i + 1)).filter (jbP n lots)).map .int := by
  rw [rI_succ, List.filter_append, List.map_append]
  cases e : jbP n lots (i : Int) with
  | true => simp [e]
  | false => simp [e]
theorem nice_opt (o : Option Int) : Nice 50 (optD o) := by
  cases o with
  | none => exact nice_none
  | some i => exact nice_int i
theorem ne_join (o : IsOrd n lots) {x : Nat} (hx : x < n) : (!PyData.eqv (optD (joinO n lots (lowS lots x))) (.int x)) = jbP n lots (x : Int) := by
  unfold jbP
  cases e : joinO n lots (lowS lots x) with
  | none =>
    have : apO n lots x ≠ none := fun h => by
      have := (join_low o hx).mpr h
      rw [e] at this; cases this
    cases z : apO n lots x with
    | none => exact absurd z this
    | some _ => rfl
  | some j =>
    show (!PyData.eqv (.int j) (.int x)) = _
    rw [eqv_int]
    by_cases h : j = (x : Int)
    · rw [decide_eq_true h]
      rw [h] at e
      rw [(join_low o hx).mp e]; rfl
    · rw [decide_eq_false h]
      cases z : apO n lots x with
      | none =>
        have := (join_low o hx).mpr z
        rw [e] at this
        exact absurd (Option.some.inj this) h
      | some _ => rfl
end
section
variable {P : Program} {w : World} {K : PySem.W.Frag} {mg : Str → Option Value} {base : Heap}
theorem ok_law_base {f fA fJ fN : Addr} {fd fdA fdJ fdN : FuncData} (F : Fun K "_law_base" "_law_base" (topS 38) f fd) (T : Txt mg) (T2 : Txs mg) (NN : Dn K mg "_law_under" (topS 29) ["order", "x", "y"] fN fdN) (NA : Dn K mg "_law_all_above" (topS 30) ["order", "lot"] fA fdA) (NJ : Dn K mg "_law_join" (topS 32) ["order", "lot"] fJ fdJ) : FnOk P w K mg base CX0 4 f fd ["order"] (SpD (φJB fun n lots => .list ((jbL n lots).map .int))) := by
  refine fn_D F sc_law_base (fun as Kd h => ?_) (fun as Kd r cdv A outer s H E hr h => ?_)
  · obtain ⟨n, lots, rfl, _⟩ := h
    rfl
  · obtain ⟨n, lots, rfl, o, hn, k⟩ := h
    have nd := sc_law_base.nd
    have hl := o.len
    have hz : sizeLine = 16777216 := sizeLine_eq
    have en : (n : Int).toNat = n := by omega
    refine jset 1 <| JN.je <| jn_lst <| jA0 ⟨[], rfl, Nat.zero_le _, ?_⟩
    refine jfor [2] (jrange1 T.ran (jix ix_tup (jv 0 (je_int (od_ixT (d := .int n) rfl ⟨n, rfl, by omega, by omega, fun i S' => ∃ s2 s3 : Sl, S' = [.val (ordD n lots), .val (.list (((rangeI i).filter (jbP n lots)).map .int)), s2, s3, .emp], ⟨.emp, .emp, rfl⟩, ?_, ?_⟩)))))
    · rintro i d S' hd ⟨s2, s3, rfl⟩
      have hi : i < n := by
        have := (List.getElem?_eq_some_iff.mp hd).1
        rw [rangeD_length] at this; omega
      have ed : d = .int (i : Int) := by
        rw [rangeD_get (by omega), Int.zero_add] at hd
        exact (Option.some.inj hd).symm
      subst ed
      refine jg 2 ?_
      have hx : (0 : Int) ≤ (i : Int) ∧ (i : Int) < n := ⟨by omega, by omega⟩
      have hlx := cut_lenR (o.srt (i : Int).toNat (by omega)) (o.rng (i : Int).toNat (by omega))
      have hll := low_len o hx
      refine jset 3 <| jtupN T.tup <| jlc [("y", 4)] [4] <| jiT <| jix ix_tup <| jix ix_tup <| jv 0 <| je_int <| od_ixT (d := .tuple (lots.map lotD)) rfl <| jv 2 <| od_ixT (lot_atI (lots := lots) (a := (i : Int)) (by omega) (by omega)) ⟨_, rfl, lcL (lots.getD (i : Int).toNat []) .int (fun y => !decide (y = (i : Int))) .int (fun y hy => lp1 4 ?_) ?_⟩
      · intro _ _ _ _ _
        refine jtcmp op_neD <| jv 4 <| jv 2 <| od_ne (α := Int) hr (by decide) ⟨_, rfl, rfl, fun _ => rfl, fun _ => ?_⟩
        intro _ _ _ _ _
        exact jv 4 ⟨rfl, rfl⟩
      · have hfl : ((rangeI i).filter (jbP n lots)).length ≤ 1000 := by
          have := List.length_filter_le (jbP n lots) (rangeI i)
          rw [rI_len] at this; omega
        refine jset 1 <| JN.je <| jn_cat <| jv 1 <| JN.je <| jn_rep <| JN.je <| jlst1 <| jv 2 <| jintB T2.int <| jcmp op_neD <| jcall hr NJ (ok_law_join NJ.F T NA NN) <| jA2 <| jv 0 <| jv 3 ⟨n, lots, lowS lots (i : Int), rfl, hl, hn, by omega, jv 2 <| od_neG hr (nice_opt _) (nice_int _) ?_⟩
        rw [ne_join o hi]
        refine ⟨_, rfl, [.int (i : Int)], if jbP n lots (i : Int) = true then 1 else 0, rfl, by split <;> rfl, by rw [List.length_singleton]; split <;> omega, by split <;> omega, ((rangeI i).filter (jbP n lots)).map .int, _, rfl, rfl, ?_, jss_nil ?_⟩
        · rw [List.length_map, PyProof.Rows.lm_len_rep_flat, List.length_singleton]; split <;> omega
        · rw [jb_succ]
          exact ⟨_, _, rfl⟩
    · rintro S' ⟨s2, s3, rfl⟩
      rw [rangeD_length, en, show (rangeI n).filter (jbP n lots) = jbL n lots from rfl]
      exact jret (jv 1 k)
theorem ok_fault {f fA fJ fB fN : Addr} {fd fdA fdJ fdB fdN : FuncData} (F : Fun K "_law_fault" "_law_fault" (topS 39) f fd) (T : Txt mg) (T3 : Txo mg) (NB : Dn K mg "_law_number" (topS 25) ["value"] fB fdB) (NN : Dn K mg "_law_under" (topS 29) ["order", "x", "y"] fN fdN) (NA : Dn K mg "_law_all_above" (topS 30) ["order", "lot"] fA fdA) (NJ : Dn K mg "_law_join" (topS 32) ["order", "lot"] fJ fdJ) : FnOk P w K mg base CX0 4 f fd ["order", "x", "value"] (SpD φJuB) := by
  refine fn_D F sc_law_fault (fun as Kd h => ?_) (fun as Kd r cdv A outer s H E hr h => ?_)
  · obtain ⟨n, lots, x, v, B, L, rfl, _⟩ := h
    rfl
  · obtain ⟨n, lots, x, v, B, L, rfl, o, hn, hx, hv, hL, k⟩ := h
    have nd := sc_law_fault.nd
    have hl := o.len
    have hd := noF_ok hv
    have hlx := cut_lenR (o.srt x.toNat (by omega)) (o.rng x.toNat (by omega))
    have hll := low_len o hx
    have hlr := low_inR o hx
    refine jset 3 <| jtupN T.tup <| jlc [("y", 5)] [5] <| jiT <| jix ix_tup <| jix ix_tup <| jv 0 <| je_int <| od_ixT (d := .tuple (lots.map lotD)) rfl <| jv 1 <| od_ixT (lot_atI (lots := lots) (a := x) (by omega) (by omega)) ⟨_, rfl, lcL (lots.getD x.toNat []) .int (fun y => !decide (y = x)) .int (fun y hy => lp1 5 ?_) ?_⟩
    · intro _ _ _ _ _
      refine jtcmp op_neD <| jv 5 <| jv 1 <| od_ne (α := Int) hr (by decide) ⟨_, rfl, rfl, fun _ => rfl, fun _ => ?_⟩
      intro _ _ _ _ _
      exact jv 5 ⟨rfl, rfl⟩
    rw [show PyData.tuple (((lots.getD x.toNat []).filter fun y => !decide (y = x)).map .int) = lotD (lowS lots x) from rfl]
    rcases v_cases v with h | rfl | ⟨y, q, rfl, hy⟩ | ⟨s, q, rfl⟩
    · rw [faultB_nt h] at k
      refine jif <| JW.jt <| jw_or <| jt_not <| jtval <| jisi (Tn := "tuple") T3.isi T3.tup <| jv 2 ⟨_, kt_tup hd, _, rfl, ift (by rw [h]; rfl) <| ift rfl <| jret ?_⟩
      refine jtup1 ?_
      exact je_str k
    · refine jif <| JW.jt <| jw_or <| jt_not <| jtval <| jisi (Tn := "tuple") T3.isi T3.tup <| jv 2 ⟨_, kt_tup hd, _, rfl, iff' rfl <| jw_or <| jtcmp op_eqT0 <| jv 2 <| jtup0 <| od_eqT0 hr ⟨_, rfl, ift rfl <| ift rfl <| jret ?_⟩⟩
      refine jtup1 ?_
      exact je_str k
    · rw [faultB_ns hy] at k
      have hxo : noF y = true := noF_ok (by rw [okD, Bool.and_eq_true] at hv; exact okDAll_iff.mp hv.2 y List.mem_cons_self)
      refine jif <| JW.jt <| jw_or <| jt_not <| jtval <| jisi (Tn := "tuple") T3.isi T3.tup <| jv 2 ⟨_, kt_tup hd, _, rfl, iff' rfl <| jw_or <| jtcmp op_eqT0 <| jv 2 <| jtup0 <| od_eqT0 hr ⟨_, rfl, iff' rfl <| jw_or1 <| jt_not <| jtval <| jisi (Tn := "str") T3.isi T3.str <| jix ix_tup <| jv 2 <| je_int <| od_ixT (d := y) atI0 ⟨_, kt_str hxo, _, rfl, ift (by rw [hy]; rfl) <| jret ?_⟩⟩⟩
      refine jtup1 ?_
      exact je_str k
    · rw [faultB_s] at k
      refine jif <| JW.jt <| jw_or <| jt_not <| jtval <| jisi (Tn := "tuple") T3.isi T3.tup <| jv 2 ⟨_, kt_tup hd, _, rfl, iff' rfl <| jw_or <| jtcmp op_eqT0 <| jv 2 <| jtup0 <| od_eqT0 hr ⟨_, rfl, iff' rfl <| jw_or1 <| jt_not <| jtval <| jisi (Tn := "str") T3.isi T3.str <| jix ix_tup <| jv 2 <| je_int <| od_ixT (d := .str s) atI0 ⟨_, kt_str rfl, _, rfl, iff' rfl <| jss_nil ?_⟩⟩⟩
      refine jif <| jtcmp op_eqT1 <| jv 2 ?_
      refine jtup1 ?_
      refine je_str <| od_eqT1 hr ⟨_, rfl, ?_⟩
      have hne : (!PyData.eqv (optD (joinO n lots (lowS lots x))) (.int x)) = (apO n lots x).isSome := by
        obtain ⟨i, rfl, hi⟩ := nat_of hx
        exact ne_join o hi
      refine ifb (fun hj => ?_) (fun hj => ?_)
      · rw [if_pos hj] at k
        refine jret <| je_ife <| jtcmp op_neD <| jcall hr NJ (ok_law_join NJ.F T NA NN) <| jA2 <| jv 0 <| jv 3 ⟨n, lots, lowS lots x, rfl, hl, hn, by omega, jv 1 <| od_neG hr (nice_opt _) (nice_int _) ⟨_, rfl, ?_⟩⟩
        rw [hne]
        refine ifb (fun h => ?_) (fun h => ?_)
        · rw [if_pos h] at k
          refine jtup1 ?_
          exact je_str k
        · rw [if_neg (by rw [h]; decide)] at k
          exact je_non k
      · rw [if_neg (by rw [hj]; decide)] at k
        refine jss_nil <| jif <| JT.keep (!okB n s q) ?_ ?_
        · refine JW.jt <| jw_or <| jtcmp op_neD <| jix ix_tup <| jv 2 <| je_int <| od_ixT (d := .str s) atI0 ?_
          unfold okB
          refine je_str <| od_ne (α := Str) (x := s) (y := "base") hr (by decide) ⟨_, rfl, ifb (fun h => ⟨rfl, ?_⟩) (fun h => ?_)⟩
          · have h : decide (s = "base") = false := by simpa using h
            rw [h]; rfl
          · have h : decide (s = "base") = true := by simpa using h
            rw [h, Bool.true_and]
            refine jw_or <| jtcmp op_neD <| jlen T.len <| jv 2 ⟨.str s :: q, .inr rfl, je_int <| od_ne (α := Int) hr (by decide) ⟨_, rfl, ifb (fun h2 => ⟨rfl, ?_⟩) (fun h2 => ?_)⟩⟩
            · match q, h2 with
              | [], _ => rfl
              | [d], h2 => exact absurd h2 (by simp)
              | a :: b :: t, _ => rfl
            · have h2 : q.length = 1 := by
                have h2 : (((PyData.str s :: q).length : Nat) : Int) = 2 := by simpa using h2
                rw [List.length_cons] at h2; omega
              match q, h2, hv with
              | [d], _, hv =>
                have hod := noF_ok (okD_tail hv d List.mem_cons_self)
                have at1 : atI (PyData.str s :: [d]) 1 = some d := atI_nn (i := 1) rfl
                refine jw_or <| jt_not <| jtval <| jcall hr NB (ok_num NB.F T3) <| ja1 <| jix ix_tup <| jv 2 <| je_int <| od_ixT at1 ⟨d, rfl, hod, _, rfl, ifb (fun h => ⟨rfl, ?_⟩) (fun h => ?_)⟩
                · show true = !nbD d n
                  cases d <;> first | rfl | cases h
                · have h : isInt d = true := by simpa using h
                  obtain ⟨z, rfl⟩ := isInt_of h
                  refine jw_or1 <| jt_not <| jt_chain (pt_chain op_le op_lt pe_tE pe_tE pe_tE) <| je_int <| jix ix_tup <| jv 2 <| je_int <| od_ixT at1 <| od_B0 ⟨_, rfl, ifb (fun h3 => jix ix_tup <| jv 0 <| je_int <| od_ixT (d := .int n) rfl <| od_B0 ⟨_, rfl, rfl, ?_⟩) (fun h3 => ⟨rfl, ?_⟩)⟩
                  · show (!decide (z < (n : Int))) = !(decide (0 ≤ z) && decide (z < (n : Int)))
                    rw [show decide (0 ≤ z) = true from h3, Bool.true_and]
                  · show (!false) = !(decide (0 ≤ z) && decide (z < (n : Int)))
                    rw [show decide (0 ≤ z) = false from h3, Bool.false_and]
        cases hb : okB n s q with
        | false =>
          rw [hb, if_neg Bool.false_ne_true] at k
          refine ift rfl <| jret ?_
          refine jtup1 ?_
          exact je_str k
        | true =>
          rw [hb, if_pos rfl] at k
          obtain ⟨rfl, z, rfl, z0, z1⟩ := okB_of hb
          have k : Kd (baseF n lots x z) := k
          refine iff' rfl <| jss_nil ?_
          have at1 : atI (PyData.str "base" :: [PyData.int z]) 1 = some (.int z) := atI_nn (i := 1) rfl
          refine jsetLc 4 [("y", 5)] [5] <| jiT <| jv 3 ⟨_, rfl, lcL (lowS lots x) .int (fun y => !leB lots y z) .int (fun y hy => lp1 5 ?_) ?_⟩
          · intro _ _ _ _ _
            refine jt_not <| jtval <| jcall hr NN (ok_law_under NN.F) <| jA <| jv 0 <| jA2 <| jv 5 <| jix ix_tup <| jv 2 <| je_int <| od_ixT at1 ⟨n, lots, y, z, rfl, hl, z0, z1, _, rfl, rfl, fun _ => rfl, fun _ => ?_⟩
            intro _ _ _ _ _
            exact jv 5 ⟨rfl, rfl⟩
          · unfold baseF at k
            refine jif <| jtcmp op_neD <| jo 4 <| JN.je <| jn_lst <| jA0 ⟨[], rfl, Nat.zero_le _, od_neNil hr (nice_map fun a => nice_int _) ⟨_, rfl, ?_⟩⟩
            generalize (lowS lots x).filter (fun y => !leB lots y z) = zs at *
            cases zs with
            | cons w ws =>
              refine ift rfl <| jret ?_
              refine jtup2 ?_
              refine je_str ?_
              exact jix ix_list (jv 4 (je_int (od_ixL (d := .int w) (atI_nat (j := 0) rfl) k)))
            | nil =>
              have k : Kd (if leB lots x z = true then w1 "above" else .none) := k
              refine iff' rfl <| jss_nil <| jret <| je_ife <| jtval <| jcall hr NN (ok_law_under NN.F) <| jA <| jv 0 <| jA2 <| jv 1 <| jix ix_tup <| jv 2 <| je_int <| od_ixT at1 ⟨n, lots, x, z, rfl, hl, z0, z1, _, rfl, ?_⟩
              refine ifb (fun h => ?_) (fun h => ?_)
              · rw [if_pos h] at k
                refine jtup1 ?_
                exact je_str k
              · rw [if_neg (by rw [h]; decide)] at k
                exact je_non k
end
end K78

set_option maxHeartbeats 1000000
/-! k78: where all defs stand; the law. -/
namespace K78
open PySem L2 DL
section
variable {X : Cx} {r : SR} {S : List Sl}
theorem jn_cutTo {K : List D → List Sl → Prop} {e hi : Expr} {p2 pos : Pos} (h : JE X r e S fun d S1 => JE X r hi S1 fun d2 S2 => ∃ (ds : List D) (k : Nat), d = .list ds ∧ d2 = .int k ∧ K (ds.take k) S2) : JN X r (.Subscript e (.Slice none (some hi) none p2) pos) S K :=
  jn_cutL (h.mono fun d S1 h1 => (show JE X r hi S1 _ from h1.mono fun d2 S2 ⟨ds, k, e1, e2, kk⟩ => ⟨k, e2, ds, e1, by rw [cutD_to]; exact kk⟩))
end
section
variable {n : Nat} {lots : List (List Int)}
abbrev Gd : D → Prop := Odd 1000002 6 2
theorem gd_sho {d : D} (h : Gd d) : ShO d := h.sho (by decide) (by decide) (by decide)
theorem odd_w1 {B L k : Nat} (s : Str) (hs : okD B L (.str s) = true) (hL : 1 ≤ L) : Odd B L (k + 1) (w1 s) := odd_tup (by show 1 ≤ L; exact hL) fun d hd => by
  rw [List.mem_singleton.mp hd]; exact ⟨hs, Nat.zero_le _⟩
theorem odd_wds {s : Str} (h : s ∈ (["join", "base", "form", "under", "above"] : List Str)) : okD 1000000 5 (.str s) = true := by
  simp only [List.mem_cons, List.not_mem_nil, or_false] at h
  rcases h with rfl | rfl | rfl | rfl | rfl <;> decide +kernel
theorem odd_pair {s : Str} (hs : s ∈ (["join", "base", "form", "under", "above"] : List Str)) {i : Int} (h : 0 ≤ i ∧ i < 1000) : Odd 1000000 5 1 (.tuple [.str s, .int i]) := by
  refine odd_tup (by show 2 ≤ 5; decide) fun d hd => ?_
  simp only [List.mem_cons, List.not_mem_nil, or_false] at hd
  rcases hd with rfl | rfl
  · exact ⟨odd_wds hs, Nat.zero_le _⟩
  · exact odd_int (by omega)
theorem paper_odd (hn : n ≤ 1000) {x : Int} : Odd 1000000 5 1 (paperD n lots x) := by
  unfold paperD
  split
  · rename_i y e
    have := (mem_ap.mp (apO_inR e)).1
    exact odd_pair (by simp) (by omega)
  · exact odd_w1 _ (odd_wds (by simp)) (by decide)
theorem fault_odd (o : IsOrd n lots) (hn : n ≤ 1000) {x : Int} (hx : 0 ≤ x ∧ x < n) (v : D) : Odd 1000000 5 1 (faultB n lots x v) := by
  have fm : Odd 1000000 5 1 (w1 "form") := odd_w1 _ (odd_wds (by simp)) (by decide)
  have hb : ∀ z : Int, Odd 1000000 5 1 (baseF n lots x z) := fun z => by
    unfold baseF
    cases hf : (lowS lots x).filter (fun y => !leB lots y z) with
    | cons w t =>
      have hm : w ∈ lowS lots x := by
        have : w ∈ (lowS lots x).filter fun y => !leB lots y z := by rw [hf]; exact List.mem_cons_self
        exact (List.mem_filter.mp this).1
      have := low_inR o hx w hm
      exact odd_pair (by simp) (by omega)
    | nil =>
      show Odd 1000000 5 1 (if leB lots x z = true then w1 "above" else .none)
      split
      · exact odd_w1 _ (odd_wds (by simp)) (by decide)
      · exact odd_none
  unfold faultB
  split
  · split
    · split
      · exact odd_w1 _ (odd_wds (by simp)) (by decide)
      · exact odd_none
    · split
      · split
        · split
          · exact hb _
          · exact fm
        · exact fm
      · exact fm
  · exact fm
def threeL : List (List Int) := [[0], [0, 1], [0, 1, 2]]
theorem three_ord : IsOrd 3 threeL := by
  refine ⟨rfl, ?_, ?_, ?_, ?_, ?_⟩
  · decide +kernel
  · unfold inR; decide +kernel
  · decide +kernel
  · have h : ∀ x ∈ List.range 3, ∀ y ∈ List.range 3, ∀ z ∈ List.range 3, ((x : Nat) : Int) ∈ threeL.getD y [] → (y : Int) ∈ threeL.getD z [] → (x : Int) ∈ threeL.getD z [] := by decide +kernel
    exact fun x y z hx hy hz => h x (List.mem_range.mpr hx) y (List.mem_range.mpr hy) z (List.mem_range.mpr hz)
  · have h : ∀ x, x < 3 → ∀ y, y < 3 → ((x : Nat) : Int) ∈ threeL.getD y [] → (y : Int) ∈ threeL.getD x [] → x = y := by decide +kernel
    exact fun x y hx hy => h x hx y hy
theorem three_1 : jbL 3 threeL = [1, 2] := by decide +kernel
theorem three_2 : faultB 3 threeL 2 (.tuple [.str "base", .int 1]) = .none := by rfl
theorem sh_jb (hn : n ≤ 100) : ShD 3 2700 (lotD (jbL n lots)) := sh_lot (jb_inR n lots) (by have := jb_len n lots; omega) (by omega)
theorem plcs_eq (n : Nat) (lots : List (List Int)) (S : List Int) : (S.map fun x => PyData.int ((plc n lots x.toNat : Nat) : Int)) = (plcs n lots S).map .int := by
  unfold plcs
  rw [List.map_map]; rfl
theorem plcs_len (S : List Int) : (plcs n lots S).length = S.length := by unfold plcs; rw [List.length_map]
end
/-- where all defs stand -/
structure AllD (K : PySem.W.Frag) (mg : Str → Option Value) where
  b_isinstance : mg "isinstance" = none
  b_int : mg "int" = none
  b_bool : mg "bool" = none
  b_tuple : mg "tuple" = none
  b_range : mg "range" = none
  b_all : mg "all" = none
  b_str : mg "str" = none
  b_len : mg "len" = none
  b_list : mg "list" = none
  b_sorted : mg "sorted" = none
  b_enumerate : mg "enumerate" = none
  b_abs : mg "abs" = none
  b_max : mg "max" = none
  b_dict : mg "dict" = none
  b_repr : mg "repr" = none
  {tMOST_CUTS : Tok}
  c_MOST_CUTS : mg "MOST_CUTS" = some (.int 1000 tMOST_CUTS)
  {a4 a5 a6 a7 a9 a10 a11 a12 a13 a16 a17 a18 a19 a21 a22 a23 a24 a25 a26 a27 a28 a29 a30 a31 a32 a33 a34 a35 a36 a37 a38 a39 : Addr}
  {f4 f5 f6 f7 f9 f10 f11 f12 f13 f16 f17 f18 f19 f21 f22 f23 f24 f25 f26 f27 f28 f29 f30 f31 f32 f33 f34 f35 f36 f37 f38 f39 : FuncData}
  n4 : Dn K mg "is_number_below" (topS 4) ["value", "many"] a4 f4
  n5 : Dn K mg "lot_above" (topS 5) ["order", "x"] a5 f5
  n6 : Dn K mg "turned_order" (topS 6) ["order"] a6 f6
  n7 : Dn K mg "all_above" (topS 7) ["order", "lot"] a7 f7
  n9 : Dn K mg "first_apart" (topS 9) ["order", "x"] a9 f9
  n10 : Dn K mg "join_base" (topS 10) ["order"] a10 f10
  n11 : Dn K mg "meet_base" (topS 11) ["order"] a11 f11
  n12 : Dn K mg "base_paper" (topS 12) ["order", "x"] a12 f12
  n13 : Dn K mg "judge_base" (topS 13) ["order", "x", "value"] a13 f13
  n16 : Dn K mg "all_cuts" (topS 16) ["order"] a16 f16
  n17 : Dn K mg "are_within" (topS 17) ["one", "other"] a17 f17
  n18 : Dn K mg "least_lattice" (topS 18) ["order"] a18 f18
  n19 : Dn K mg "thing_places" (topS 19) ["order"] a19 f19
  n21 : Dn K mg "_law_source" (topS 21) ["script"] a21 f21
  n22 : Dn K mg "_law_pick" (topS 22) ["source", "many"] a22 f22
  n23 : Dn K mg "_law_of" (topS 23) ["source", "some"] a23 f23
  n24 : Dn K mg "_law_mixed" (topS 24) ["source", "things"] a24 f24
  n25 : Dn K mg "_law_number" (topS 25) ["value"] a25 f25
  n26 : Dn K mg "_law_bent" (topS 26) ["source", "value"] a26 f26
  n27 : Dn K mg "_law_closed" (topS 27) ["n", "pairs"] a27 f27
  n28 : Dn K mg "_law_order" (topS 28) ["source", "most"] a28 f28
  n29 : Dn K mg "_law_under" (topS 29) ["order", "x", "y"] a29 f29
  n30 : Dn K mg "_law_all_above" (topS 30) ["order", "lot"] a30 f30
  n31 : Dn K mg "_law_all_under" (topS 31) ["order", "lot"] a31 f31
  n32 : Dn K mg "_law_join" (topS 32) ["order", "lot"] a32 f32
  n33 : Dn K mg "_law_meet" (topS 33) ["order", "lot"] a33 f33
  n34 : Dn K mg "_law_turned" (topS 34) ["order"] a34 f34
  n35 : Dn K mg "_law_cuts" (topS 35) ["order"] a35 f35
  n36 : Dn K mg "_law_within" (topS 36) ["one", "other"] a36 f36
  n37 : Dn K mg "_law_of_lots" (topS 37) ["lots"] a37 f37
  n38 : Dn K mg "_law_base" (topS 38) ["order"] a38 f38
  n39 : Dn K mg "_law_fault" (topS 39) ["order", "x", "value"] a39 f39

theorem sclaw : FnScope ["script", "source", "lap", "order", "n", "kept", "base", "other", "x", "told", "some", "values", "value", "shown", "fault", "cuts", "lattice", "places", "due", "k", "cut", "high", "low", "three", "y", "turn"] ["script"] (defScope (topS 40)) := ⟨rfl, rfl, rfl, by decide +kernel, rfl, by decide +kernel, by decide +kernel⟩
abbrev slotsN : List Str := ["script", "source", "lap", "order", "n", "kept", "base", "other", "x", "told", "some", "values", "value", "shown", "fault", "cuts", "lattice", "places", "due", "k", "cut", "high", "low", "three", "y", "turn"]
section
variable {P : Program} {w : World} {K : PySem.W.Frag} {mg : Str → Option Value} {base : Heap}
theorem ok_law {f : Addr} {fd : FuncData} (F : Fun K "law" "law" (topS 40) f fd) (D : AllD K mg) : FnG P w K mg base 7 f fd ["script"] (spLaw K) := by
  have nd := sclaw.nd
  have T : Txt mg := ⟨D.b_range, D.b_tuple, D.b_all, D.b_len, D.b_list, D.b_enumerate⟩
  have T2 : Txs mg := ⟨D.b_len, D.b_max, D.b_int, D.b_abs⟩
  have T3 : Txd mg := ⟨D.b_dict, D.b_sorted⟩
  have T4 : Txo mg := ⟨D.b_isinstance, D.b_int, D.b_bool, D.b_tuple, D.b_str⟩
  refine fnG_of F sclaw (fun vs H Q E h => ?_) (fun cdv A outer s H vs Q E hg hr h => ?_)
  · obtain ⟨a, ns, rfl, _⟩ := h
    rfl
  obtain ⟨a, ns, rfl, hS, hns, q⟩ := h
  refine ⟨_, pss_cons (ps_set (i := 1) nd rfl (.inr rfl) (pe_call (ok_source (P := P) (w := w) (base := base) D.n21.F T2) (hr.mono (by decide)) rfl D.n21.g D.n21.F.kp D.n21.b .nil pass0 (pa_cons (pv 0) pa_nil))) pss_tSs, ?_⟩
  refine ⟨.ref a, rfl, a, ns, rfl, hS, by omega, fun H' p sm n1 n2 ok => ?_⟩
  have Ev := ev_src (H := H) (H' := H') (p := p) (m := 26) (j := 1) (σ := [some (.ref a), some (.ref p.1)] ++ List.replicate 24 none) rfl rfl sm n1 n2 ok
  suffices J : JSs (cxOf CX0 P w K mg base slotsN "law" (defScope (topS 40)) f cdv A outer s H E).nox (srL ⟨H, fun _ => none, some p⟩) ((defBody (topS 40)).drop 1)
      ((List.replicate 26 .emp).set 1 .src) { nx := fun _ => False, rt := fun d => d = .bool true } from
    J ⟨H, fun _ => none, some p⟩ (fun _ => none) _ H' (srL_refl _) Ev _ ⟨fun _ _ _ _ z => z.elim, fun v d F' H2 e fn rp => (by subst e; cases rp; exact q H2), fun _ _ _ _ z => z.elim, fun _ _ _ _ z => z.elim⟩
  clear Ev ok n1 n2 sm q hS hns
  have hgd : (A.deeper (PyProof.Rows.envOfC "law" (defScope (topS 40)) s.heap.objs.size f cdv)).guards = some [] := hg
  have GP := ok_pick (P := P) (w := w) (base := base) D.n22.F T2
  have GOf := ok_of (P := P) (w := w) (base := base) D.n23.F T2 D.n22
  have GMx := ok_mixed (P := P) (w := w) (base := base) D.n24.F T T2 D.n22
  have GO := ok_order (P := P) (w := w) (base := base) D.n28.F T T2 T3 D.n22 D.n24 D.n27
  have GBt := ok_bent (P := P) (w := w) (base := base) T T2 T4 D.n26 D.n22 D.n23 D.n25 (B := 1000000) (L := 5) (by decide) (by decide) (by decide) 1
  have GC := ok_cutsG (P := P) (w := w) (base := base) D.n35.F T T3
  have GOL := ok_law_of_lots (P := P) (w := w) (base := base) D.n37.F T D.n36
  have GLL := ok_leastlatG (P := P) (w := w) (base := base) D.n18.F T T3 D.c_MOST_CUTS D.n16 D.n17
  have GPl := ok_placesG (P := P) (w := w) (base := base) D.n19.F T T3 D.c_MOST_CUTS D.n16
  have GJB := ok_join_base (P := P) (w := w) (base := base) D.n10.F T D.n7 D.n9
  have GMB := ok_meet_base (P := P) (w := w) (base := base) D.n11.F T D.n5 D.n6 D.n7 D.n9 D.n10
  have GPa := ok_base_paper (P := P) (w := w) (base := base) D.n12.F T D.n7 D.n9
  have GJu := ok_judge_base (P := P) (w := w) (base := base) D.n13.F T T4 D.n4 D.n7 D.n9
  have GLA := ok_law_all_above (P := P) (w := w) (base := base) D.n30.F T D.n29
  have GLJ := ok_law_join (P := P) (w := w) (base := base) D.n32.F T D.n30 D.n29
  have GLM := ok_law_meet (P := P) (w := w) (base := base) D.n33.F T D.n31 D.n29
  have GLT := ok_law_turned (P := P) (w := w) (base := base) D.n34.F T D.n30 D.n29
  have GLB := ok_law_base (P := P) (w := w) (base := base) D.n38.F T T2 D.n29 D.n30 D.n32
  have GF := ok_fault (P := P) (w := w) (base := base) D.n39.F T T4 D.n25 D.n29 D.n30 D.n32
  have hz : sizeLine = 16777216 := sizeLine_eq
  refine jfor [2] (jrange1 T.ran (je_int ⟨4, rfl, by decide, by decide, ?_⟩))
  refine ⟨fun i S' => ∃ (s2 s3 s4 s5 s6 s7 s9 s11 s12 s13 s14 s15 s16 s17 s18 s19 s20 s21 s22 s23 : Sl) (o8 o10 : Option DL.D), S' = [.emp, .src, s2, s3, s4, s5, s6, s7, vS o8, s9, vS o10, s11, s12, s13, s14, s15, s16, s17, s18, s19, s20, s21, s22, s23, .emp, .emp], ⟨.emp, .emp, .emp, .emp, .emp, .emp, .emp, .emp, .emp, .emp, .emp, .emp, .emp, .emp, .emp, .emp, .emp, .emp, .emp, .emp, none, none, rfl⟩, ?_, ?_⟩
  · rintro lap d S' hd ⟨s2, s3, s4, s5, s6, s7, s9, s11, s12, s13, s14, s15, s16, s17, s18, s19, s20, s21, s22, s23, o8, o10, rfl⟩
    have hlap : lap < 4 := by
      have := (List.getElem?_eq_some_iff.mp hd).1
      rw [rangeD_length] at this; exact this
    rw [show (4 : Int).toNat = 4 from rfl, rangeD_get hlap] at hd
    cases hd
    refine jg 2 ?_
    obtain ⟨most, hat, m1, m2⟩ : ∃ m : Nat, atI [PyData.int 3, .int 5, .int 7, .int 9] (0 + (lap : Int)) = some (.int (m : Int)) ∧ 1 ≤ m ∧ m ≤ 9 := by
      have : lap = 0 ∨ lap = 1 ∨ lap = 2 ∨ lap = 3 := by omega
      rcases this with rfl | rfl | rfl | rfl
      · exact ⟨3, rfl, by decide, by decide⟩
      · exact ⟨5, rfl, by decide, by decide⟩
      · exact ⟨7, rfl, by decide, by decide⟩
      · exact ⟨9, rfl, by decide, by decide⟩
    refine jset 3 <| jcall hr D.n28 GO <| jAs 1 <| ja1 <| jix ix_list <| JN.je <| jn_lst <| jA <| je_int <| jA <| je_int <| jA <| je_int <| ja1 <| je_int ⟨_, rfl, by show 4 ≤ sizeLine; omega, jv 2 <| od_ixL hat ⟨most, rfl, m1, by omega, fun n lots hn1 hnm o => ?_⟩⟩
    refine jifM (N := fun S' => ∃ (n : Nat) (lots : List (List Int)), OrdT n lots ∧ S' = [.emp, .src, .val (.int (0 + (lap : Int))), .val (ordD n lots), s4, s5, s6, s7, vS o8, s9, vS o10, s11, s12, s13, s14, s15, s16, s17, s18, s19, s20, s21, s22, s23, .emp, .emp]) (jtcmp op_eqD <| jv 2 <| je_int <| od_eq (α := Int) hr (by decide) ⟨_, rfl, rfl⟩) ?_ (jss_nil ⟨n, lots, ordT_small o hn1 (by omega), rfl⟩) ?_
    · refine jset 3 <| jcall hr D.n37 GOL <| ja1 <| jcall hr D.n35 GC <| ja1 <| jcall hr D.n28 GO <| jAs 1 <| ja1 <| je_int ⟨4, rfl, by decide, by decide, fun n0 lots0 h1 h2 o0 => ⟨n0, lots0, rfl, o0.len, by omega, ?_, cutsL n0 lots0, rfl, ?_, fun l hl => ?_, jss_nil ⟨_, _, ordT_cuts o0 h2, rfl⟩⟩⟩
      · have := (ordT_cuts o0 h2).n16
        omega
      · have := (ordT_cuts o0 h2).n16
        omega
      · have := cut_lenR (cut_lt ((mem_cuts o0).mp hl)) (cut_inR ((mem_cuts o0).mp hl))
        omega
    clear o hn1 hnm n lots hat m1 m2 most
    rintro S' ⟨n, lots, oT, rfl⟩
    have o := oT.o
    have hn1 := oT.n1
    have hn := oT.n16
    have hcc := oT.cc
    have hll := o.len
    have so : ShD 40 (2 ^ 20) (ordD n lots) := (sh_ord o (by omega)).mono (by decide) (by decide)
    have sB : ShD 40 (2 ^ 20) (.list [lotD (jbL n lots), lotD (mbL n lots)]) := (sh_list2 (sh_jb (by omega)) (sh_jb (lots := turn n lots) (by omega))).mono (by decide) (by decide)
    refine jasg [4, 5, 6, 7] <| je_tup <| jA <| jix ix_tup <| jv 3 <| je_int <| od_ixT (d := .int n) rfl ?_
    refine jA <| jrepr hgd hr D.b_repr <| jv 3 ⟨so, ?_⟩
    refine jA <| jcall hr D.n38 GLB <| ja1 <| jv 3 ⟨n, lots, rfl, o, by omega, ?_⟩
    refine ja1 <| jcall hr D.n38 GLB <| ja1 <| jcall hr D.n34 GLT <| ja1 <| jv 3 ⟨n, lots, rfl, hll, by omega, n, turn n lots, rfl, turn_isOrd o, by omega, ?_⟩
    refine ⟨_, rfl, by show 4 ≤ sizeLine; decide, ?_⟩
    refine jgT (jgs (jg 4 (jgs (jg 5 (jgs (jg 6 (jgs (jg 7 (jgs_nil ?_)))))))))
    refine jifF (jtcmp op_neD <| jrepr hgd hr D.b_repr <| JN.je <| jlst2 <| jcall hr D.n10 GJB <| ja1 <| jv 3 ⟨n, lots, rfl, o, by omega, jcall hr D.n11 GMB <| ja1 <| jv 3 ⟨n, lots, rfl, o, by omega, sB, jrepr hgd hr D.b_repr <| JN.je <| jlst2 <| jtuple T.tup <| jv 6 ⟨_, rfl, jtuple T.tup <| jv 7 ⟨_, rfl, sB, od_ne (α := Str) hr (by decide) ⟨_, rfl, ne_self _, rfl⟩⟩⟩⟩⟩) <| jss_nil ?_
    -- the papers
    refine jfor [8] (jiN <| jn_cutTo <| jcall hr D.n24 GMx <| jAs 1 <| ja1 <| JN.je <| jn_listRg1 rfl rfl T.lst rfl T.ran rfl rfl <| jv 4 ⟨(n : Int), rfl, by unfold RgOk; omega, ?_⟩)
    refine ⟨rangeD 0 (n : Int).toNat, rfl, by rw [rangeD_length]; omega, fun es he => je_int ⟨es, 4, rfl, rfl, ?_⟩⟩
    rw [show (n : Int).toNat = n by omega, rangeD_ints] at he
    obtain ⟨names, rfl, hp⟩ := perm_ints he
    have hmem : ∀ d ∈ (names.map PyData.int).take 4, ∃ x : Nat, d = .int (x : Int) ∧ x < n := fun d hd => by
      obtain ⟨x, hx, rfl⟩ := List.mem_map.mp (List.mem_of_mem_take hd)
      obtain ⟨i, rfl, hi⟩ := nat_of (mem_rI.mp (hp.mem_iff.mp hx))
      exact ⟨i, rfl, hi⟩
    generalize (names.map PyData.int).take 4 = xs at *
    clear he hp names
    refine ⟨fun i S' => ∃ (s9 s11 s12 s13 s14 : Sl) (o8 o10 : Option DL.D), S' = [.emp, .src, .val (.int (0 + (lap : Int))), .val (ordD n lots), .val (.int (n : Int)), .val (.str (ordD n lots).shown), .val (.list ((jbL n lots).map .int)), .val (.list ((mbL n lots).map .int)), vS o8, s9, vS o10, s11, s12, s13, s14, s15, s16, s17, s18, s19, s20, s21, s22, s23, .emp, .emp], ⟨s9, s11, s12, s13, s14, o8, o10, rfl⟩, ?_, ?_⟩
    · rintro i d S' hdx ⟨s9, s11, s12, s13, s14, o8, o10, rfl⟩
      obtain ⟨x, rfl, hx⟩ := hmem d (List.mem_of_getElem? hdx)
      have hx' : (0 : Int) ≤ (x : Int) ∧ (x : Int) < n := ⟨by omega, by omega⟩
      have opd := paper_odd (n := n) (lots := lots) (x := (x : Int)) (by omega)
      have spd : ShO (paperD n lots x) := opd.sho (by decide) (by decide) (by decide)
      obtain ⟨pq, epq⟩ := bpaper_word (n := n) (lots := lots) (x : Int)
      have hpr := bpaper_right (n := n) (lots := lots) (x : Int)
      generalize hpd : paperD n lots (x : Int) = pd at *
      have hjb : decide ((x : Int) ∈ jbL n lots) = (apO n lots (x : Int)).isSome := by
        rw [Bool.eq_iff_iff, decide_eq_true_eq, mem_jb, apO_some]
        exact ⟨fun h => h.2, fun h => ⟨hx', h⟩⟩
      generalize hpw : (if (apO n lots (x : Int)).isSome = true then ("base" : Str) else ("join" : Str)) = pw at *
      refine jg 8 ?_
      refine jset 9 <| jcall hr D.n12 GPa <| jA2 <| jv 3 <| jv 8 ⟨n, lots, x, rfl, o, by omega, hx', ?_⟩
      rw [hpd]
      obtain ⟨pds, epd, hat0⟩ : ∃ ds, pd = .tuple ds ∧ atI ds 0 = some (.str pw) := ⟨_, epq, atI0⟩
      refine jifF (JW.jt <| jw_or <| JT.keep false ?_ <| iff' rfl <| jw_or1 <| jtcmp op_notN <| jcall hr D.n39 GF <| jA <| jv 3 <| jA2 <| jv 8 <| jv 9 ⟨n, lots, x, pd, 1000000, 5, rfl, o, by omega, hx', opd.ok, by decide, ?_⟩) <| jss_nil ?_
      · refine jtcmp op_neD <| jix ix_tup <| jv 9 <| je_int <| ?_
        rw [epd]
        refine od_ixT hat0 <| je_ife <| jtcmp op_inD <| jv 8 <| jv 6 <| od_inL (α := Int) hr (by decide) ⟨_, rfl, ?_⟩
        rw [hjb]
        refine ifb (fun h => ?_) (fun h => ?_)
        · rw [if_pos h] at hpw
          subst hpw
          exact je_str <| od_ne (α := Str) hr (by decide) ⟨_, rfl, rfl, ne_self _⟩
        · rw [if_neg (by rw [h]; decide)] at hpw
          subst hpw
          exact je_str <| od_ne (α := Str) hr (by decide) ⟨_, rfl, rfl, ne_self _⟩
      · rw [hpr]
        exact je_non <| od_notN ⟨_, rfl, rfl, rfl⟩
      refine jifF (jtcmp op_neD <| jreprE hgd hr D.b_repr <| jcall hr D.n12 GPa <| jA2 <| jv 3 <| jv 8 ⟨n, lots, x, rfl, o, by omega, hx', ?_⟩) <| jss_nil ?_
      · rw [hpd]
        exact ⟨spd, jreprE hgd hr D.b_repr <| jv 9 ⟨spd, od_ne (α := Str) hr (by decide) ⟨_, rfl, ne_self _, rfl⟩⟩⟩
      have gs : ∀ {s : Str}, s ∈ (["join", "base", "form", "under", "above"] : List Str) → Odd 1000002 6 1 (.str s) := fun {s} hs => ⟨okD_mono (by decide) (by decide) (odd_wds hs), Nat.zero_le _⟩
      refine jset 10 <| JN.je <| jn_cat <| JN.je <| jlst2 <| jv 9 ?_
      refine jtup1 ?_
      refine je_str ?_
      refine JN.je <| jlc [("y", 24)] [24] <| jrange1 T.ran <| jv 4 ⟨n, rfl, by omega, by omega, lcR (m := n) (fun _ => true) (fun y => .tuple [.str "base", .int (y : Int)]) (fun y hy => lp0 24 ?_) ?_⟩
      · intro _ _ _ _ _
        refine jtup2 ?_
        refine je_str ?_
        exact jv 24 ⟨rfl, rfl⟩
      rw [filter_true]
      have hSo : ∀ d ∈ [pd, w1 "join"] ++ (List.range n).map (fun y => PyData.tuple [.str "base", .int ((y : Nat) : Int)]), Odd 1000000 5 1 d := fun d hd => by
        rcases List.mem_append.mp hd with hd | hd
        · simp only [List.mem_cons, List.not_mem_nil, or_false] at hd
          rcases hd with rfl | rfl
          · exact opd
          · exact odd_w1 _ (odd_wds (by simp)) (by decide)
        · obtain ⟨y, hy, rfl⟩ := List.mem_map.mp hd
          have := List.mem_range.mp hy
          exact odd_pair (by simp) (by omega)
      have hSl : ([pd, w1 "join"] ++ (List.range n).map (fun y => PyData.tuple [.str "base", .int ((y : Nat) : Int)])).length = 2 + n := by
        rw [List.length_append, List.length_map, List.length_range]; rfl
      refine ⟨[pd, w1 "join"], (List.range n).map (fun y => PyData.tuple [.str "base", .int ((y : Nat) : Int)]), rfl, rfl, by rw [List.length_map, List.length_range]; show 2 + n ≤ sizeLine; omega, ?_⟩
      generalize [pd, w1 "join"] ++ (List.range n).map (fun y => PyData.tuple [.str "base", .int ((y : Nat) : Int)]) = SL at *
      refine jset 11 <| JN.je <| jn_cat <| jv 10 <| JN.je <| jn_lcA [("turn", 25)] [25] Gd <| jrange1 T.ran <| je_int ⟨4, rfl, by decide, by decide, rfl, by rw [rangeD_length]; decide, fun d hd => ?_, fun zs hzl hzm => ?_⟩
      · intro _ _ _ _ _
        refine jg 25 ?_
        intro _ _ _ _ _
        exact jcall hr D.n26 GBt <| jAs 1 <| ja1 <| jcall hr D.n23 GOf <| jAs 1 <| ja1 <| jv 10 ⟨SL, rfl, (fun e => by rw [e] at hSl; simp at hSl; omega), by omega, fun d hd => ⟨d, rfl, hSo d hd, fun d' h' => ⟨h', rfl⟩⟩⟩
      rw [rangeD_length] at hzl
      have hzl : zs.length = 4 := hzl
      refine ⟨SL, zs, rfl, rfl, by omega, ?_⟩
      have hVo : ∀ d ∈ SL ++ zs, Gd d := fun d hd => by
        rcases List.mem_append.mp hd with hd | hd
        · exact (hSo d hd).mono (by decide) (by decide) (by decide)
        · exact hzm d hd
      have hVl : (SL ++ zs).length ≤ 100 := by rw [List.length_append]; omega
      generalize SL ++ zs = VL at *
      refine jfor [12] (jiN ?_)
      refine jn_cat ?_
      refine jv 11 ?_
      refine JN.je ?_
      refine jn_lst ?_
      refine jA ?_
      refine je_non ?_
      refine jA ?_
      refine jtup0 ?_
      refine jA ?_
      refine JN.je ?_
      refine jlist T.lst <| jv 9 ⟨pds, .inr epd, ?_⟩
      refine jA ?_
      refine jtup1 ?_
      refine je_str ?_
      refine jA ?_
      refine jtup2 ?_
      refine je_str ?_
      refine jv 4 ?_
      refine jA ?_
      refine jtup2 ?_
      refine je_str ?_
      refine je_bl ?_
      refine ja1 ?_
      refine je_str ⟨[.none, .tuple [], .list pds, w1 "base", .tuple [.str "base", .int n], .tuple [.str "base", .bool true], .str "join"], rfl, by show 7 ≤ sizeLine; omega, ?_⟩
      refine ⟨VL, _, rfl, rfl, by show VL.length + 7 ≤ sizeLine; omega, ?_⟩
      have hall : ∀ d ∈ VL ++ [.none, .tuple [], .list pds, w1 "base", .tuple [.str "base", .int n], .tuple [.str "base", .bool true], .str "join"], Gd d := fun d hd => by
        rcases List.mem_append.mp hd with hd | hd
        · exact hVo d hd
        · simp only [List.mem_cons, List.not_mem_nil, or_false] at hd
          rcases hd with rfl | rfl | rfl | rfl | rfl | rfl | rfl
          · exact odd_none
          · exact odd_tup (by decide) fun d hd => nomatch hd
          · rw [epd] at opd
            obtain ⟨h1, h2⟩ := opd.tup
            exact odd_list (by omega) fun d hd => (h2 d hd).mono (by decide) (by decide) (by decide)
          · exact (odd_w1 (B := 1000000) (L := 5) (k := 0) "base" (odd_wds (by simp)) (by decide)).mono (by decide) (by decide) (by decide)
          · refine odd_tup (by show 2 ≤ 6; decide) (mem2 (gs (by simp)) (odd_int (by omega)))
          · refine odd_tup (by show 2 ≤ 6; decide) (mem2 (gs (by simp)) (odd_bool _))
          · exact (gs (by simp)).mono (by decide) (by decide) (by decide)
      generalize VL ++ [.none, .tuple [], .list pds, w1 "base", .tuple [.str "base", .int n], .tuple [.str "base", .bool true], .str "join"] = AL at *
      refine ⟨fun i S' => ∃ s12 s13 s14 : Sl, S' = [.emp, .src, .val (.int (0 + (lap : Int))), .val (ordD n lots), .val (.int (n : Int)), .val (.str (ordD n lots).shown), .val (.list ((jbL n lots).map .int)), .val (.list ((mbL n lots).map .int)), .val (.int (x : Int)), .val pd, .val (.list SL), .val (.list VL), s12, s13, s14, s15, s16, s17, s18, s19, s20, s21, s22, s23, .emp, .emp], ⟨_, _, _, rfl⟩, ?_, ?_⟩
      · rintro i v S' hdv ⟨s12, s13, s14, rfl⟩
        have hgv := hall v (List.mem_of_getElem? hdv)
        have hsv := gd_sho hgv
        have hfs : ShO (faultB n lots x v) := (fault_odd o (by omega) hx' v).sho (by decide) (by decide) (by decide)
        refine jg 12 ?_
        refine jpar2 13 14 <| jreprE hgd hr D.b_repr <| jv 12 ⟨hsv, jcall hr D.n39 GF <| jA <| jv 3 <| jA2 <| jv 8 <| jv 12 ⟨n, lots, x, v, 1000002, 6, rfl, o, by omega, hx', hgv.ok, by decide, ?_⟩⟩
        refine jifF (JW.jt <| jw_or <| jtcmp op_neD <| jreprE hgd hr D.b_repr <| jcall hr D.n13 GJu <| jA <| jv 3 <| jA2 <| jv 8 <| jv 12 ⟨n, lots, x, v, 1000002, 6, rfl, o, by omega, hx', hgv.ok, by decide, hfs, jreprE hgd hr D.b_repr <| jv 14 ⟨hfs, od_ne (α := Str) hr (by decide) ⟨_, rfl, iff' (ne_self _) <| jw_or1 <| jtcmp op_neD <| jreprE hgd hr D.b_repr <| jv 12 ⟨hsv, jv 13 <| od_ne (α := Str) hr (by decide) ⟨_, rfl, ne_self _, rfl⟩⟩⟩⟩⟩) <| jss_nil ?_
        refine jifF (JW.jt <| jw_and <| jtcmp op_isN <| jv 14 <| je_non <| od_isN ⟨_, rfl, ifb (fun h => ?_) (fun _ => ⟨rfl, rfl⟩)⟩) <| jss_nil <| jss_nil ⟨_, _, _, rfl⟩
        have hfn : faultB n lots x v = .none := by
          cases e : faultB n lots x v <;> first | rfl | (rw [e] at h; cases h)
        obtain ⟨vq, rfl⟩ := bfault_word hfn
        refine jw_and1 <| jtcmp op_neD <| jix ix_tup <| jv 12 <| je_int <| od_ixT atI0 <| jix ix_tup <| jv 9 <| je_int <| ?_
        rw [epd, hpw]
        exact od_ixT hat0 <| od_ne (α := Str) hr (by decide) ⟨_, rfl, ne_self _, rfl⟩
      · rintro S' ⟨s12, s13, s14, rfl⟩
        exact jss_nil ⟨_, _, _, _, _, some _, some _, rfl⟩
    -- the cuts
    rintro S' ⟨s9, s11, s12, s13, s14, o8, o10, rfl⟩
    clear hmem
    refine jset 15 <| jcall hr D.n35 GC <| ja1 <| jv 3 ⟨n, lots, rfl, hll, by omega, hcc, ?_⟩
    refine jif (JT.mono (K := fun b S' => S' = [.emp, .src, .val (.int (0 + (lap : Int))), .val (ordD n lots), .val (.int (n : Int)), .val (.str (ordD n lots).shown), .val (.list ((jbL n lots).map .int)), .val (.list ((mbL n lots).map .int)), vS o8, s9, vS o10, s11, s12, s13, s14, .val (.list ((cutsL n lots).map lotD)), s16, s17, s18, s19, s20, s21, s22, s23, .emp, .emp] ∧ (b = true → (cutsL n lots).length < 25)) ?_ ?_)
    · refine jtcmp op_lt <| jlen T.len <| jv 15 ⟨_, .inl rfl, je_int <| od_B0 ⟨_, rfl, rfl, fun h => ?_⟩⟩
      have h : ((((cutsL n lots).map lotD).length : Nat) : Int) < 25 := by simpa using h
      rw [List.length_map] at h; omega
    rintro b S' ⟨rfl, hb⟩
    have fin : ∀ (s16 s17 s18 s19 s20 s21 s22 s23 : Sl) (o8 o10 : Option DL.D), JSs (cxOf CX0 P w K mg base slotsN "law" (defScope (topS 40)) f cdv A outer s H E).nox (srL ⟨H, fun _ => none, some p⟩) [] [.emp, .src, .val (.int (0 + (lap : Int)))] { nx := fun _ => True, rt := fun _ => True } → True := fun _ _ _ _ _ _ _ _ _ _ _ => trivial
    clear fin
    refine ifb (fun hb1 => ?_) (fun _ => ?_)
    · have h25 := hb hb1
      have oC := cuts_isOrd o
      have hCl := oC.len
      have hrI : ∀ {S : List Int}, inR n S → ∀ x ∈ S, ∃ i : Nat, x = (i : Int) ∧ i < n := fun h x hx => nat_of (h x hx)
      have hcl : ∀ l ∈ cutsL n lots, l.length ≤ n := fun l hl => cut_lenR (cut_lt ((mem_cuts o).mp hl)) (cut_inR ((mem_cuts o).mp hl))
      have hplI : ∀ x : Int, (0 ≤ x ∧ x < n) → atI ((placesL n lots).map PyData.int) x = some (.int ((plc n lots x.toNat : Nat) : Int)) := fun x hx => by
        obtain ⟨i, rfl, hi⟩ := nat_of hx
        rw [Int.toNat_natCast]
        exact places_at (by omega)
      have sD : ShD 40 (2 ^ 20) (.list [lotD (jbL (cutsL n lots).length (ofLots (cutsL n lots))), lotD (mbL (cutsL n lots).length (ofLots (cutsL n lots)))]) := (sh_list2 (sh_jb (by omega)) (sh_jb (lots := turn _ _) (by omega))).mono (by decide) (by decide)
      refine jasg [16, 17] <| jtup2 <| jcall hr D.n18 GLL <| ja1 <| jv 3 ⟨n, lots, rfl, hll, by omega, fun l hl => by have := hcl l hl; omega, hcc, jcall hr D.n19 GPl <| ja1 <| jv 3 ⟨n, lots, rfl, o, by omega, hcc, ?_⟩⟩
      refine jgT (jgs (jg 16 (jgs (jg 17 (jgs_nil ?_)))))
      have inner : ∀ (S : List Int), inR n S → S.length ≤ 1000 → True := fun _ _ _ => trivial
      refine jsetLc 18 [("some", 10)] [10] <| jiT <| jtup2 <| jv 6 <| jv 7 ⟨_, rfl, lcL [true, false] (fun b => if b = true then PyData.list ((jbL n lots).map .int) else .list ((mbL n lots).map .int)) (fun _ => true) (fun b => if b = true then PyData.list ((jbL (cutsL n lots).length (ofLots (cutsL n lots))).map .int) else .list ((mbL (cutsL n lots).length (ofLots (cutsL n lots))).map .int)) (fun b hb => lp0 10 ?_) ?_ (by decide) (by cases o10 <;> rfl)⟩
      · have hjl := jb_len n lots
        have hml : (mbL n lots).length ≤ n := jb_len n (turn n lots)
        intro _ _ _ _ _
        cases b with
        | true =>
          refine JN.je <| jsortI hr T3.srt <| JN.je <| jlc [("x", 8)] [8] <| jiL <| jv 10 ⟨_, rfl, lcL (jbL n lots) .int (fun _ => true) (fun x => .int ((plc n lots x.toNat : Nat) : Int)) (fun x hx => lp0 8 ?_) ?_ (by omega) (by cases o8 <;> rfl)⟩
          · have hxr := jb_inR n lots x hx
            intro _ _ _ _ _
            exact jix ix_tup <| jv 17 <| jv 8 <| od_ixT (hplI x hxr) ⟨rfl, by cases o8 <;> rfl⟩
          · rw [filter_true, plcs_eq]
            refine ⟨_, rfl, fun ns' hp hs => ?_⟩
            rw [due_jb o hp hs]
            exact ⟨rfl, by cases o10 <;> rfl⟩
        | false =>
          refine JN.je <| jsortI hr T3.srt <| JN.je <| jlc [("x", 8)] [8] <| jiL <| jv 10 ⟨_, rfl, lcL (mbL n lots) .int (fun _ => true) (fun x => .int ((plc n lots x.toNat : Nat) : Int)) (fun x hx => lp0 8 ?_) ?_ (by omega) (by cases o8 <;> rfl)⟩
          · have hxr := jb_inR n (turn n lots) x hx
            intro _ _ _ _ _
            exact jix ix_tup <| jv 17 <| jv 8 <| od_ixT (hplI x hxr) ⟨rfl, by cases o8 <;> rfl⟩
          · rw [filter_true, plcs_eq]
            refine ⟨_, rfl, fun ns' hp hs => ?_⟩
            rw [due_mb o hp hs]
            exact ⟨rfl, by cases o10 <;> rfl⟩
      rw [filter_true]
      have nL : Nice 50 (.list [.list ((jbL (cutsL n lots).length (ofLots (cutsL n lots))).map .int), .list ((mbL (cutsL n lots).length (ofLots (cutsL n lots))).map .int)]) := nice_list (n := 49) (mem2 (nice_list (n := 48) (nice_map fun a => nice_int a)) (nice_list (n := 48) (nice_map fun a => nice_int a)))
      refine jss_frz 18 rfl ?_
      refine jifF (jtcmp op_neD <| jv 18 <| JN.je <| jlst2 <| jcall hr D.n38 GLB <| ja1 <| jv 16 ⟨_, _, rfl, oC, by omega, jcall hr D.n38 GLB <| ja1 <| jcall hr D.n34 GLT <| ja1 <| jv 16 ⟨_, _, rfl, hCl, by omega, _, _, rfl, turn_isOrd oC, by omega, od_neG hr nL nL ⟨_, rfl, neqv_self nL, rfl⟩⟩⟩) <| jss_nil ?_
      refine jifF (jtcmp op_neD <| jrepr hgd hr D.b_repr <| JN.je <| jlst2 <| jcall hr D.n10 GJB <| ja1 <| jv 16 ⟨_, _, rfl, oC, by omega, jcall hr D.n11 GMB <| ja1 <| jv 16 ⟨_, _, rfl, oC, by omega, sD, jrepr hgd hr D.b_repr <| JN.je <| jlc [("some", 10)] [10] <| jiL <| jv 18 ⟨_, rfl, lcL [true, false] (fun b => if b = true then PyData.list ((jbL (cutsL n lots).length (ofLots (cutsL n lots))).map .int) else .list ((mbL (cutsL n lots).length (ofLots (cutsL n lots))).map .int)) (fun _ => true) (fun b => if b = true then lotD (jbL (cutsL n lots).length (ofLots (cutsL n lots))) else lotD (mbL (cutsL n lots).length (ofLots (cutsL n lots)))) (fun b hb => lp0 10 ?_) ?_ (by decide) (by cases o10 <;> rfl)⟩⟩⟩) <| jss_nil ?_
      · intro _ _ _ _ _
        cases b with
        | true => exact jtuple T.tup <| jv 10 ⟨_, rfl, rfl, by cases o10 <;> rfl⟩
        | false => exact jtuple T.tup <| jv 10 ⟨_, rfl, rfl, by cases o10 <;> rfl⟩
      · rw [filter_true]
        exact ⟨sD, od_ne (α := Str) hr (by decide) ⟨_, rfl, ne_self _, rfl⟩⟩
      refine jfor [19, 20] (jenum T.enu (jv 15 ⟨_, rfl, ?_⟩))
      rw [enumD_lots]
      refine ⟨fun i S' => ∃ s19 s20 s21 s22 : Sl, S' = [.emp, .src, .val (.int (0 + (lap : Int))), .val (ordD n lots), .val (.int (n : Int)), .val (.str (ordD n lots).shown), .val (.list ((jbL n lots).map .int)), .val (.list ((mbL n lots).map .int)), vS o8, s9, vS o10, s11, s12, s13, s14, .val (.list ((cutsL n lots).map lotD)), .val (ordD (cutsL n lots).length (ofLots (cutsL n lots))), .val (lotD (placesL n lots)), .val (.list [.list ((jbL (cutsL n lots).length (ofLots (cutsL n lots))).map .int), .list ((mbL (cutsL n lots).length (ofLots (cutsL n lots))).map .int)]), s19, s20, s21, s22, s23, .emp, .emp], ⟨_, _, _, _, rfl⟩, ?_, ?_⟩
      · rintro i d S' hde ⟨s19, s20, s21, s22, rfl⟩
        rw [List.getElem?_map] at hde
        have hi : i < (cutsL n lots).length := by
          cases e : (List.range (cutsL n lots).length)[i]? with
          | none => rw [e] at hde; cases hde
          | some j =>
            have := (List.getElem?_eq_some_iff.mp e).1
            rw [List.length_range] at this; exact this
        rw [List.getElem?_range hi] at hde
        cases hde
        have hci := cut_at o hi
        have hcr := cut_inR hci
        have hcm : (cutsL n lots).getD i [] ∈ cutsL n lots := (mem_cuts o).mpr hci
        have hclen := hcl _ hcm
        have hul := ups_len n lots ((cutsL n lots).getD i [])
        have hur := ups_inR n lots ((cutsL n lots).getD i [])
        have J := (joinO_iff oC).mpr (jn_base o hi)
        have M := (meetO_iff oC).mpr (mt_base o hi)
        have hhr : inR (cutsL n lots).length (plcs n lots ((ups n lots ((cutsL n lots).getD i [])).filter fun x => decide (x ∈ mbL n lots))) := plcs_inR o fun z hz => hur z (List.mem_filter.mp hz).1
        have l1 := List.length_filter_le (fun x => decide (x ∈ mbL n lots)) (ups n lots ((cutsL n lots).getD i []))
        have l2 := List.length_filter_le (fun x => decide (x ∈ jbL n lots)) ((cutsL n lots).getD i [])
        refine jgT (jgs (jg 19 (jgs (jg 20 (jgs_nil ?_)))))
        refine jsetLc 21 [("x", 8)] [8] <| jiT <| jcall hr D.n30 GLA <| jA2 <| jv 3 <| jv 20 ⟨n, lots, (cutsL n lots).getD i [], rfl, hll, by omega, by omega, _, rfl, lcL (ups n lots ((cutsL n lots).getD i [])) .int (fun x => decide (x ∈ mbL n lots)) (fun x => .int ((plc n lots x.toNat : Nat) : Int)) (fun x hx => lp1 8 ?_) ?_ (by omega) (by cases o8 <;> rfl)⟩
        · have hxr := hur x hx
          intro _ _ _ _ _
          refine jtcmp op_inD <| jv 8 <| jv 7 <| od_inL (α := Int) hr (by decide) ⟨_, rfl, rfl, fun _ => by cases o8 <;> rfl, fun _ => ?_⟩
          intro _ _ _ _ _
          exact jix ix_tup <| jv 17 <| jv 8 <| od_ixT (hplI x hxr) ⟨rfl, by cases o8 <;> rfl⟩
        rw [plcs_eq]
        refine jsetLc 22 [("x", 8)] [8] <| jiT <| jv 20 ⟨_, rfl, lcL ((cutsL n lots).getD i []) .int (fun x => decide (x ∈ jbL n lots)) (fun x => .int ((plc n lots x.toNat : Nat) : Int)) (fun x hx => lp1 8 ?_) ?_ (by omega) (by cases o8 <;> rfl)⟩
        · have hxr := hcr x hx
          intro _ _ _ _ _
          refine jtcmp op_inD <| jv 8 <| jv 6 <| od_inL (α := Int) hr (by decide) ⟨_, rfl, rfl, fun _ => by cases o8 <;> rfl, fun _ => ?_⟩
          intro _ _ _ _ _
          exact jix ix_tup <| jv 17 <| jv 8 <| od_ixT (hplI x hxr) ⟨rfl, by cases o8 <;> rfl⟩
        rw [plcs_eq]
        refine jss_frz 21 rfl <| jss_frz 22 rfl ?_
        refine jifF (JW.jt <| jw_or <| jtcmp op_neD <| jcall hr D.n32 GLJ <| jA2 <| jv 16 <| jtuple T.tup <| jv 22 ⟨(plcs n lots (((cutsL n lots).getD i []).filter fun x => decide (x ∈ jbL n lots))).map .int, rfl, (cutsL n lots).length, ofLots (cutsL n lots), plcs n lots (((cutsL n lots).getD i []).filter fun x => decide (x ∈ jbL n lots)), rfl, hCl, by omega, by rw [plcs_len]; omega, ?_⟩) <| jss_nil <| jss_nil ⟨_, _, _, _, rfl⟩
        rw [J]
        refine jv 19 <| od_ne (α := Int) hr (by decide) ⟨_, rfl, iff' (ne_self _) <| jw_or1 <| jtcmp op_neD <| jcall hr D.n33 GLM <| jA2 <| jv 16 <| jtuple T.tup <| jv 21 ⟨(plcs n lots ((ups n lots ((cutsL n lots).getD i [])).filter fun x => decide (x ∈ mbL n lots))).map .int, rfl, (cutsL n lots).length, ofLots (cutsL n lots), plcs n lots ((ups n lots ((cutsL n lots).getD i [])).filter fun x => decide (x ∈ mbL n lots)), rfl, hCl, by omega, by rw [plcs_len]; omega, hhr, ?_⟩⟩
        rw [M]
        exact jv 19 <| od_ne (α := Int) hr (by decide) ⟨_, rfl, ne_self _, rfl⟩
      · rintro S' ⟨s19, s20, s21, s22, rfl⟩
        refine jss_nil ?_
        exact jifF (jtcmp op_neD <| jrepr hgd hr D.b_repr <| jv 3 ⟨so, jv 5 <| od_ne (α := Str) hr (by decide) ⟨_, rfl, ne_self _, rfl⟩⟩) <| jss_nil <| jss_nil ⟨_, _, _, _, _, _, _, _, _, _, _, _, _, _, _, _, _, _, _, _, o8, o10, rfl⟩
    · refine jss_nil ?_
      exact jifF (jtcmp op_neD <| jrepr hgd hr D.b_repr <| jv 3 ⟨so, jv 5 <| od_ne (α := Str) hr (by decide) ⟨_, rfl, ne_self _, rfl⟩⟩) <| jss_nil <| jss_nil ⟨_, _, _, _, _, _, _, _, _, _, _, _, _, _, _, _, _, _, _, _, o8, o10, rfl⟩
  · rintro S' ⟨s2, s3, s4, s5, s6, s7, s9, s11, s12, s13, s14, s15, s16, s17, s18, s19, s20, s21, s22, s23, o8, o10, rfl⟩
    refine jss_cons ?_
    generalize hfe : (Expr.Tuple [Expr.Constant (.int 3) _ _, _] _ _) = fe
    refine js_set 23 (by assumption) (by rfl) (by first | exact Or.inl rfl | exact Or.inr rfl) (by rw [← hfe]; rfl) (by first | exact .inl rfl | exact .inr rfl) ?_
    subst hfe
    refine jtup2 ?_
    refine je_int ?_
    refine je_tup ?_
    refine jA ?_
    refine jtup1 ?_
    refine je_int ?_
    refine jA ?_
    refine jtup2 ?_
    refine je_int ?_
    refine je_int ?_
    refine ja1 ?_
    refine je_tup ?_
    refine jA ?_
    refine je_int ?_
    refine jA ?_
    refine je_int ?_
    refine ja1 ?_
    refine je_int ⟨[.int 0, .int 1, .int 2], rfl, by show 3 ≤ sizeLine; omega, ?_⟩
    refine ⟨threeL.map lotD, rfl, by show 3 ≤ sizeLine; omega, ?_⟩
    refine jret <| jcmp op_eqD <| JN.je <| jlst2 <| jcall hr D.n10 GJB <| ja1 <| jv 23 ⟨3, threeL, rfl, three_ord, by decide, ?_⟩
    refine jcall hr D.n13 GJu <| jA <| jv 23 <| jA2 <| je_int ?_
    refine jtup2 ?_
    refine je_str ?_
    refine je_int ⟨3, threeL, 2, .tuple [.str "base", .int 1], 1000, 5, rfl, three_ord, by decide, ⟨by decide, by decide⟩, by decide +kernel, by decide, ?_⟩
    rw [three_2]
    refine JN.je <| jlst2 <| jtup2 <| je_int <| je_int <| je_non ?_
    have nn : Nice 50 (.list [lotD [1, 2], .none]) := nice_list (n := 49) (mem2 (nice_lot (k := 48) _) nice_none)
    refine od_eqG hr (nice_list (n := 49) (mem2 (nice_lot (k := 48) (jbL 3 threeL)) nice_none)) nn ?_
    show PyData.bool (PyData.eqv (.list [lotD (jbL 3 threeL), .none]) (.list [.tuple [.int 1, .int 2], .none])) = .bool true
    rw [three_1]
    rfl
end
end K78

namespace K78
open PySem L2 DL PySem.Spec PyProof.Rows
def all_of {K : PySem.W.Frag} {mg : Str → Option Value} (m_isinstance : mg "isinstance" = none) (m_int : mg "int" = none) (m_bool : mg "bool" = none) (m_tuple : mg "tuple" = none) (m_range : mg "range" = none) (m_all : mg "all" = none) (m_str : mg "str" = none) (m_len : mg "len" = none) (m_list : mg "list" = none) (m_sorted : mg "sorted" = none) (m_enumerate : mg "enumerate" = none) (m_abs : mg "abs" = none) (m_max : mg "max" = none) (m_dict : mg "dict" = none) (m_repr : mg "repr" = none) {tMOST_CUTS : Tok} (m_MOST_CUTS : mg "MOST_CUTS" = some (.int 1000 tMOST_CUTS))  {f4 : Addr} {g4 : FuncData} (d4 : Dn K mg "is_number_below" (topS 4) ["value", "many"] f4 g4) {f5 : Addr} {g5 : FuncData} (d5 : Dn K mg "lot_above" (topS 5) ["order", "x"] f5 g5) {f6 : Addr} {g6 : FuncData} (d6 : Dn K mg "turned_order" (topS 6) ["order"] f6 g6) {f7 : Addr} {g7 : FuncData} (d7 : Dn K mg "all_above" (topS 7) ["order", "lot"] f7 g7) {f9 : Addr} {g9 : FuncData} (d9 : Dn K mg "first_apart" (topS 9) ["order", "x"] f9 g9) {f10 : Addr} {g10 : FuncData} (d10 : Dn K mg "join_base" (topS 10) ["order"] f10 g10) {f11 : Addr} {g11 : FuncData} (d11 : Dn K mg "meet_base" (topS 11) ["order"] f11 g11) {f12 : Addr} {g12 : FuncData} (d12 : Dn K mg "base_paper" (topS 12) ["order", "x"] f12 g12) {f13 : Addr} {g13 : FuncData} (d13 : Dn K mg "judge_base" (topS 13) ["order", "x", "value"] f13 g13) {f16 : Addr} {g16 : FuncData} (d16 : Dn K mg "all_cuts" (topS 16) ["order"] f16 g16) {f17 : Addr} {g17 : FuncData} (d17 : Dn K mg "are_within" (topS 17) ["one", "other"] f17 g17) {f18 : Addr} {g18 : FuncData} (d18 : Dn K mg "least_lattice" (topS 18) ["order"] f18 g18) {f19 : Addr} {g19 : FuncData} (d19 : Dn K mg "thing_places" (topS 19) ["order"] f19 g19) {f21 : Addr} {g21 : FuncData} (d21 : Dn K mg "_law_source" (topS 21) ["script"] f21 g21) {f22 : Addr} {g22 : FuncData} (d22 : Dn K mg "_law_pick" (topS 22) ["source", "many"] f22 g22) {f23 : Addr} {g23 : FuncData} (d23 : Dn K mg "_law_of" (topS 23) ["source", "some"] f23 g23) {f24 : Addr} {g24 : FuncData} (d24 : Dn K mg "_law_mixed" (topS 24) ["source", "things"] f24 g24) {f25 : Addr} {g25 : FuncData} (d25 : Dn K mg "_law_number" (topS 25) ["value"] f25 g25) {f26 : Addr} {g26 : FuncData} (d26 : Dn K mg "_law_bent" (topS 26) ["source", "value"] f26 g26) {f27 : Addr} {g27 : FuncData} (d27 : Dn K mg "_law_closed" (topS 27) ["n", "pairs"] f27 g27) {f28 : Addr} {g28 : FuncData} (d28 : Dn K mg "_law_order" (topS 28) ["source", "most"] f28 g28) {f29 : Addr} {g29 : FuncData} (d29 : Dn K mg "_law_under" (topS 29) ["order", "x", "y"] f29 g29) {f30 : Addr} {g30 : FuncData} (d30 : Dn K mg "_law_all_above" (topS 30) ["order", "lot"] f30 g30) {f31 : Addr} {g31 : FuncData} (d31 : Dn K mg "_law_all_under" (topS 31) ["order", "lot"] f31 g31) {f32 : Addr} {g32 : FuncData} (d32 : Dn K mg "_law_join" (topS 32) ["order", "lot"] f32 g32) {f33 : Addr} {g33 : FuncData} (d33 : Dn K mg "_law_meet" (topS 33) ["order", "lot"] f33 g33) {f34 : Addr} {g34 : FuncData} (d34 : Dn K mg "_law_turned" (topS 34) ["order"] f34 g34) {f35 : Addr} {g35 : FuncData} (d35 : Dn K mg "_law_cuts" (topS 35) ["order"] f35 g35) {f36 : Addr} {g36 : FuncData} (d36 : Dn K mg "_law_within" (topS 36) ["one", "other"] f36 g36) {f37 : Addr} {g37 : FuncData} (d37 : Dn K mg "_law_of_lots" (topS 37) ["lots"] f37 g37) {f38 : Addr} {g38 : FuncData} (d38 : Dn K mg "_law_base" (topS 38) ["order"] f38 g38) {f39 : Addr} {g39 : FuncData} (d39 : Dn K mg "_law_fault" (topS 39) ["order", "x", "value"] f39 g39) : AllD K mg :=
  ⟨m_isinstance, m_int, m_bool, m_tuple, m_range, m_all, m_str, m_len, m_list, m_sorted, m_enumerate, m_abs, m_max, m_dict, m_repr, m_MOST_CUTS, d4, d5, d6, d7, d9, d10, d11, d12, d13, d16, d17, d18, d19, d21, d22, d23, d24, d25, d26, d27, d28, d29, d30, d31, d32, d33, d34, d35, d36, d37, d38, d39⟩
theorem all_mk {l : PySem.W.OpenLaw} {w : World} {K : PySem.W.Frag} {h : Heap} {mg : Str → Option Value} {fa : Addr} (X : K.In h) (G : h.Ns mainGlobals mg) (hfa : mg "law" = some (.ref fa))
    {f4 f5 f6 f7 f9 f10 f11 f12 f13 f16 f17 f18 f19 f21 f22 f23 f24 f25 f26 f27 f28 f29 f30 f31 f32 f33 f34 f35 f36 f37 f38 f39 f40 : Addr} {od4 od5 od6 od7 od9 od10 od11 od12 od13 od16 od17 od18 od19 od21 od22 od23 od24 od25 od26 od27 od28 od29 od30 od31 od32 od33 od34 od35 od36 od37 od38 od39 od40 an4 an5 an6 an7 an9 an10 an11 an12 an13 an16 an17 an18 an19 an21 an22 an23 an24 an25 an26 an27 an28 an29 an30 an31 an32 an33 an34 an35 an36 an37 an38 an39 an40 : Option Addr} {sl4 sl5 sl6 sl7 sl9 sl10 sl11 sl12 sl13 sl16 sl17 sl18 sl19 sl21 sl22 sl23 sl24 sl25 sl26 sl27 sl28 sl29 sl30 sl31 sl32 sl33 sl34 sl35 sl36 sl37 sl38 sl39 sl40 : Array (Option Value)} {oc4 oc5 oc6 oc7 oc9 oc10 oc11 oc12 oc13 oc16 oc17 oc18 oc19 oc21 oc22 oc23 oc24 oc25 oc26 oc27 oc28 oc29 oc30 oc31 oc32 oc33 oc34 oc35 oc36 oc37 oc38 oc39 oc40 kV4 kV5 kV6 kV7 kV9 kV10 kV11 kV12 kV13 kV16 kV17 kV18 kV19 kV21 kV22 kV23 kV24 kV25 kV26 kV27 kV28 kV29 kV30 kV31 kV32 kV33 kV34 kV35 kV36 kV37 kV38 kV39 kV40 dc4 dc5 dc6 dc7 dc9 dc10 dc11 dc12 dc13 dc16 dc17 dc18 dc19 dc21 dc22 dc23 dc24 dc25 dc26 dc27 dc28 dc29 dc30 dc31 dc32 dc33 dc34 dc35 dc36 dc37 dc38 dc39 dc40 pm4 pm5 pm6 pm7 pm9 pm10 pm11 pm12 pm13 pm16 pm17 pm18 pm19 pm21 pm22 pm23 pm24 pm25 pm26 pm27 pm28 pm29 pm30 pm31 pm32 pm33 pm34 pm35 pm36 pm37 pm38 pm39 pm40 cd4 cd5 cd6 cd7 cd9 cd10 cd11 cd12 cd13 cd16 cd17 cd18 cd19 cd21 cd22 cd23 cd24 cd25 cd26 cd27 cd28 cd29 cd30 cd31 cd32 cd33 cd34 cd35 cd36 cd37 cd38 cd39 cd40 ct4 ct5 ct6 ct7 ct9 ct10 ct11 ct12 ct13 ct16 ct17 ct18 ct19 ct21 ct22 ct23 ct24 ct25 ct26 ct27 ct28 ct29 ct30 ct31 ct32 ct33 ct34 ct35 ct36 ct37 ct38 ct39 ct40 : Value}
    (a4 : PySem.W.nsIn K mainGlobals "is_number_below" = some (some (.ref f4))) (l4 : K.lookup f4 = some ⟨oc4, od4, .func (PySem.W.fnOf "is_number_below" "is_number_below" (defArgs (topS 4)) (defBody (topS 4)) (defScope (topS 4)) .none kV4 dc4 pm4 an4 cd4 ct4), sl4⟩) (c4 : PySem.W.codeIn K cd4 "is_number_below" = true) (k4 : PySem.W.keepIn K (.ref f4) = true)
    (a5 : PySem.W.nsIn K mainGlobals "lot_above" = some (some (.ref f5))) (l5 : K.lookup f5 = some ⟨oc5, od5, .func (PySem.W.fnOf "lot_above" "lot_above" (defArgs (topS 5)) (defBody (topS 5)) (defScope (topS 5)) .none kV5 dc5 pm5 an5 cd5 ct5), sl5⟩) (c5 : PySem.W.codeIn K cd5 "lot_above" = true) (k5 : PySem.W.keepIn K (.ref f5) = true)
    (a6 : PySem.W.nsIn K mainGlobals "turned_order" = some (some (.ref f6))) (l6 : K.lookup f6 = some ⟨oc6, od6, .func (PySem.W.fnOf "turned_order" "turned_order" (defArgs (topS 6)) (defBody (topS 6)) (defScope (topS 6)) .none kV6 dc6 pm6 an6 cd6 ct6), sl6⟩) (c6 : PySem.W.codeIn K cd6 "turned_order" = true) (k6 : PySem.W.keepIn K (.ref f6) = true)
    (a7 : PySem.W.nsIn K mainGlobals "all_above" = some (some (.ref f7))) (l7 : K.lookup f7 = some ⟨oc7, od7, .func (PySem.W.fnOf "all_above" "all_above" (defArgs (topS 7)) (defBody (topS 7)) (defScope (topS 7)) .none kV7 dc7 pm7 an7 cd7 ct7), sl7⟩) (c7 : PySem.W.codeIn K cd7 "all_above" = true) (k7 : PySem.W.keepIn K (.ref f7) = true)
    (a9 : PySem.W.nsIn K mainGlobals "first_apart" = some (some (.ref f9))) (l9 : K.lookup f9 = some ⟨oc9, od9, .func (PySem.W.fnOf "first_apart" "first_apart" (defArgs (topS 9)) (defBody (topS 9)) (defScope (topS 9)) .none kV9 dc9 pm9 an9 cd9 ct9), sl9⟩) (c9 : PySem.W.codeIn K cd9 "first_apart" = true) (k9 : PySem.W.keepIn K (.ref f9) = true)
    (a10 : PySem.W.nsIn K mainGlobals "join_base" = some (some (.ref f10))) (l10 : K.lookup f10 = some ⟨oc10, od10, .func (PySem.W.fnOf "join_base" "join_base" (defArgs (topS 10)) (defBody (topS 10)) (defScope (topS 10)) .none kV10 dc10 pm10 an10 cd10 ct10), sl10⟩) (c10 : PySem.W.codeIn K cd10 "join_base" = true) (k10 : PySem.W.keepIn K (.ref f10) = true)
    (a11 : PySem.W.nsIn K mainGlobals "meet_base" = some (some (.ref f11))) (l11 : K.lookup f11 = some ⟨oc11, od11, .func (PySem.W.fnOf "meet_base" "meet_base" (defArgs (topS 11)) (defBody (topS 11)) (defScope (topS 11)) .none kV11 dc11 pm11 an11 cd11 ct11), sl11⟩) (c11 : PySem.W.codeIn K cd11 "meet_base" = true) (k11 : PySem.W.keepIn K (.ref f11) = true)
    (a12 : PySem.W.nsIn K mainGlobals "base_paper" = some (some (.ref f12))) (l12 : K.lookup f12 = some ⟨oc12, od12, .func (PySem.W.fnOf "base_paper" "base_paper" (defArgs (topS 12)) (defBody (topS 12)) (defScope (topS 12)) .none kV12 dc12 pm12 an12 cd12 ct12), sl12⟩) (c12 : PySem.W.codeIn K cd12 "base_paper" = true) (k12 : PySem.W.keepIn K (.ref f12) = true)
    (a13 : PySem.W.nsIn K mainGlobals "judge_base" = some (some (.ref f13))) (l13 : K.lookup f13 = some ⟨oc13, od13, .func (PySem.W.fnOf "judge_base" "judge_base" (defArgs (topS 13)) (defBody (topS 13)) (defScope (topS 13)) .none kV13 dc13 pm13 an13 cd13 ct13), sl13⟩) (c13 : PySem.W.codeIn K cd13 "judge_base" = true) (k13 : PySem.W.keepIn K (.ref f13) = true)
    (a16 : PySem.W.nsIn K mainGlobals "all_cuts" = some (some (.ref f16))) (l16 : K.lookup f16 = some ⟨oc16, od16, .func (PySem.W.fnOf "all_cuts" "all_cuts" (defArgs (topS 16)) (defBody (topS 16)) (defScope (topS 16)) .none kV16 dc16 pm16 an16 cd16 ct16), sl16⟩) (c16 : PySem.W.codeIn K cd16 "all_cuts" = true) (k16 : PySem.W.keepIn K (.ref f16) = true)
    (a17 : PySem.W.nsIn K mainGlobals "are_within" = some (some (.ref f17))) (l17 : K.lookup f17 = some ⟨oc17, od17, .func (PySem.W.fnOf "are_within" "are_within" (defArgs (topS 17)) (defBody (topS 17)) (defScope (topS 17)) .none kV17 dc17 pm17 an17 cd17 ct17), sl17⟩) (c17 : PySem.W.codeIn K cd17 "are_within" = true) (k17 : PySem.W.keepIn K (.ref f17) = true)
    (a18 : PySem.W.nsIn K mainGlobals "least_lattice" = some (some (.ref f18))) (l18 : K.lookup f18 = some ⟨oc18, od18, .func (PySem.W.fnOf "least_lattice" "least_lattice" (defArgs (topS 18)) (defBody (topS 18)) (defScope (topS 18)) .none kV18 dc18 pm18 an18 cd18 ct18), sl18⟩) (c18 : PySem.W.codeIn K cd18 "least_lattice" = true) (k18 : PySem.W.keepIn K (.ref f18) = true)
    (a19 : PySem.W.nsIn K mainGlobals "thing_places" = some (some (.ref f19))) (l19 : K.lookup f19 = some ⟨oc19, od19, .func (PySem.W.fnOf "thing_places" "thing_places" (defArgs (topS 19)) (defBody (topS 19)) (defScope (topS 19)) .none kV19 dc19 pm19 an19 cd19 ct19), sl19⟩) (c19 : PySem.W.codeIn K cd19 "thing_places" = true) (k19 : PySem.W.keepIn K (.ref f19) = true)
    (a21 : PySem.W.nsIn K mainGlobals "_law_source" = some (some (.ref f21))) (l21 : K.lookup f21 = some ⟨oc21, od21, .func (PySem.W.fnOf "_law_source" "_law_source" (defArgs (topS 21)) (defBody (topS 21)) (defScope (topS 21)) .none kV21 dc21 pm21 an21 cd21 ct21), sl21⟩) (c21 : PySem.W.codeIn K cd21 "_law_source" = true) (k21 : PySem.W.keepIn K (.ref f21) = true)
    (a22 : PySem.W.nsIn K mainGlobals "_law_pick" = some (some (.ref f22))) (l22 : K.lookup f22 = some ⟨oc22, od22, .func (PySem.W.fnOf "_law_pick" "_law_pick" (defArgs (topS 22)) (defBody (topS 22)) (defScope (topS 22)) .none kV22 dc22 pm22 an22 cd22 ct22), sl22⟩) (c22 : PySem.W.codeIn K cd22 "_law_pick" = true) (k22 : PySem.W.keepIn K (.ref f22) = true)
    (a23 : PySem.W.nsIn K mainGlobals "_law_of" = some (some (.ref f23))) (l23 : K.lookup f23 = some ⟨oc23, od23, .func (PySem.W.fnOf "_law_of" "_law_of" (defArgs (topS 23)) (defBody (topS 23)) (defScope (topS 23)) .none kV23 dc23 pm23 an23 cd23 ct23), sl23⟩) (c23 : PySem.W.codeIn K cd23 "_law_of" = true) (k23 : PySem.W.keepIn K (.ref f23) = true)
    (a24 : PySem.W.nsIn K mainGlobals "_law_mixed" = some (some (.ref f24))) (l24 : K.lookup f24 = some ⟨oc24, od24, .func (PySem.W.fnOf "_law_mixed" "_law_mixed" (defArgs (topS 24)) (defBody (topS 24)) (defScope (topS 24)) .none kV24 dc24 pm24 an24 cd24 ct24), sl24⟩) (c24 : PySem.W.codeIn K cd24 "_law_mixed" = true) (k24 : PySem.W.keepIn K (.ref f24) = true)
    (a25 : PySem.W.nsIn K mainGlobals "_law_number" = some (some (.ref f25))) (l25 : K.lookup f25 = some ⟨oc25, od25, .func (PySem.W.fnOf "_law_number" "_law_number" (defArgs (topS 25)) (defBody (topS 25)) (defScope (topS 25)) .none kV25 dc25 pm25 an25 cd25 ct25), sl25⟩) (c25 : PySem.W.codeIn K cd25 "_law_number" = true) (k25 : PySem.W.keepIn K (.ref f25) = true)
    (a26 : PySem.W.nsIn K mainGlobals "_law_bent" = some (some (.ref f26))) (l26 : K.lookup f26 = some ⟨oc26, od26, .func (PySem.W.fnOf "_law_bent" "_law_bent" (defArgs (topS 26)) (defBody (topS 26)) (defScope (topS 26)) .none kV26 dc26 pm26 an26 cd26 ct26), sl26⟩) (c26 : PySem.W.codeIn K cd26 "_law_bent" = true) (k26 : PySem.W.keepIn K (.ref f26) = true)
    (a27 : PySem.W.nsIn K mainGlobals "_law_closed" = some (some (.ref f27))) (l27 : K.lookup f27 = some ⟨oc27, od27, .func (PySem.W.fnOf "_law_closed" "_law_closed" (defArgs (topS 27)) (defBody (topS 27)) (defScope (topS 27)) .none kV27 dc27 pm27 an27 cd27 ct27), sl27⟩) (c27 : PySem.W.codeIn K cd27 "_law_closed" = true) (k27 : PySem.W.keepIn K (.ref f27) = true)
    (a28 : PySem.W.nsIn K mainGlobals "_law_order" = some (some (.ref f28))) (l28 : K.lookup f28 = some ⟨oc28, od28, .func (PySem.W.fnOf "_law_order" "_law_order" (defArgs (topS 28)) (defBody (topS 28)) (defScope (topS 28)) .none kV28 dc28 pm28 an28 cd28 ct28), sl28⟩) (c28 : PySem.W.codeIn K cd28 "_law_order" = true) (k28 : PySem.W.keepIn K (.ref f28) = true)
    (a29 : PySem.W.nsIn K mainGlobals "_law_under" = some (some (.ref f29))) (l29 : K.lookup f29 = some ⟨oc29, od29, .func (PySem.W.fnOf "_law_under" "_law_under" (defArgs (topS 29)) (defBody (topS 29)) (defScope (topS 29)) .none kV29 dc29 pm29 an29 cd29 ct29), sl29⟩) (c29 : PySem.W.codeIn K cd29 "_law_under" = true) (k29 : PySem.W.keepIn K (.ref f29) = true)
    (a30 : PySem.W.nsIn K mainGlobals "_law_all_above" = some (some (.ref f30))) (l30 : K.lookup f30 = some ⟨oc30, od30, .func (PySem.W.fnOf "_law_all_above" "_law_all_above" (defArgs (topS 30)) (defBody (topS 30)) (defScope (topS 30)) .none kV30 dc30 pm30 an30 cd30 ct30), sl30⟩) (c30 : PySem.W.codeIn K cd30 "_law_all_above" = true) (k30 : PySem.W.keepIn K (.ref f30) = true)
    (a31 : PySem.W.nsIn K mainGlobals "_law_all_under" = some (some (.ref f31))) (l31 : K.lookup f31 = some ⟨oc31, od31, .func (PySem.W.fnOf "_law_all_under" "_law_all_under" (defArgs (topS 31)) (defBody (topS 31)) (defScope (topS 31)) .none kV31 dc31 pm31 an31 cd31 ct31), sl31⟩) (c31 : PySem.W.codeIn K cd31 "_law_all_under" = true) (k31 : PySem.W.keepIn K (.ref f31) = true)
    (a32 : PySem.W.nsIn K mainGlobals "_law_join" = some (some (.ref f32))) (l32 : K.lookup f32 = some ⟨oc32, od32, .func (PySem.W.fnOf "_law_join" "_law_join" (defArgs (topS 32)) (defBody (topS 32)) (defScope (topS 32)) .none kV32 dc32 pm32 an32 cd32 ct32), sl32⟩) (c32 : PySem.W.codeIn K cd32 "_law_join" = true) (k32 : PySem.W.keepIn K (.ref f32) = true)
    (a33 : PySem.W.nsIn K mainGlobals "_law_meet" = some (some (.ref f33))) (l33 : K.lookup f33 = some ⟨oc33, od33, .func (PySem.W.fnOf "_law_meet" "_law_meet" (defArgs (topS 33)) (defBody (topS 33)) (defScope (topS 33)) .none kV33 dc33 pm33 an33 cd33 ct33), sl33⟩) (c33 : PySem.W.codeIn K cd33 "_law_meet" = true) (k33 : PySem.W.keepIn K (.ref f33) = true)
    (a34 : PySem.W.nsIn K mainGlobals "_law_turned" = some (some (.ref f34))) (l34 : K.lookup f34 = some ⟨oc34, od34, .func (PySem.W.fnOf "_law_turned" "_law_turned" (defArgs (topS 34)) (defBody (topS 34)) (defScope (topS 34)) .none kV34 dc34 pm34 an34 cd34 ct34), sl34⟩) (c34 : PySem.W.codeIn K cd34 "_law_turned" = true) (k34 : PySem.W.keepIn K (.ref f34) = true)
    (a35 : PySem.W.nsIn K mainGlobals "_law_cuts" = some (some (.ref f35))) (l35 : K.lookup f35 = some ⟨oc35, od35, .func (PySem.W.fnOf "_law_cuts" "_law_cuts" (defArgs (topS 35)) (defBody (topS 35)) (defScope (topS 35)) .none kV35 dc35 pm35 an35 cd35 ct35), sl35⟩) (c35 : PySem.W.codeIn K cd35 "_law_cuts" = true) (k35 : PySem.W.keepIn K (.ref f35) = true)
    (a36 : PySem.W.nsIn K mainGlobals "_law_within" = some (some (.ref f36))) (l36 : K.lookup f36 = some ⟨oc36, od36, .func (PySem.W.fnOf "_law_within" "_law_within" (defArgs (topS 36)) (defBody (topS 36)) (defScope (topS 36)) .none kV36 dc36 pm36 an36 cd36 ct36), sl36⟩) (c36 : PySem.W.codeIn K cd36 "_law_within" = true) (k36 : PySem.W.keepIn K (.ref f36) = true)
    (a37 : PySem.W.nsIn K mainGlobals "_law_of_lots" = some (some (.ref f37))) (l37 : K.lookup f37 = some ⟨oc37, od37, .func (PySem.W.fnOf "_law_of_lots" "_law_of_lots" (defArgs (topS 37)) (defBody (topS 37)) (defScope (topS 37)) .none kV37 dc37 pm37 an37 cd37 ct37), sl37⟩) (c37 : PySem.W.codeIn K cd37 "_law_of_lots" = true) (k37 : PySem.W.keepIn K (.ref f37) = true)
    (a38 : PySem.W.nsIn K mainGlobals "_law_base" = some (some (.ref f38))) (l38 : K.lookup f38 = some ⟨oc38, od38, .func (PySem.W.fnOf "_law_base" "_law_base" (defArgs (topS 38)) (defBody (topS 38)) (defScope (topS 38)) .none kV38 dc38 pm38 an38 cd38 ct38), sl38⟩) (c38 : PySem.W.codeIn K cd38 "_law_base" = true) (k38 : PySem.W.keepIn K (.ref f38) = true)
    (a39 : PySem.W.nsIn K mainGlobals "_law_fault" = some (some (.ref f39))) (l39 : K.lookup f39 = some ⟨oc39, od39, .func (PySem.W.fnOf "_law_fault" "_law_fault" (defArgs (topS 39)) (defBody (topS 39)) (defScope (topS 39)) .none kV39 dc39 pm39 an39 cd39 ct39), sl39⟩) (c39 : PySem.W.codeIn K cd39 "_law_fault" = true) (k39 : PySem.W.keepIn K (.ref f39) = true)
    (a40 : PySem.W.nsIn K mainGlobals "law" = some (some (.ref f40))) (l40 : K.lookup f40 = some ⟨oc40, od40, .func (PySem.W.fnOf "law" "law" (defArgs (topS 40)) (defBody (topS 40)) (defScope (topS 40)) .none kV40 dc40 pm40 an40 cd40 ct40), sl40⟩) (c40 : PySem.W.codeIn K cd40 "law" = true) (k40 : PySem.W.keepIn K (.ref f40) = true)
    {tMOST_CUTS : Tok} (y0 : PySem.W.nsIn K mainGlobals "MOST_CUTS" = some (some (.int 1000 tMOST_CUTS)))
    (z0 : PySem.W.nsIn K mainGlobals "isinstance" = some none)
    (z1 : PySem.W.nsIn K mainGlobals "int" = some none)
    (z2 : PySem.W.nsIn K mainGlobals "bool" = some none)
    (z3 : PySem.W.nsIn K mainGlobals "tuple" = some none)
    (z4 : PySem.W.nsIn K mainGlobals "range" = some none)
    (z5 : PySem.W.nsIn K mainGlobals "all" = some none)
    (z6 : PySem.W.nsIn K mainGlobals "str" = some none)
    (z7 : PySem.W.nsIn K mainGlobals "len" = some none)
    (z8 : PySem.W.nsIn K mainGlobals "list" = some none)
    (z9 : PySem.W.nsIn K mainGlobals "sorted" = some none)
    (z10 : PySem.W.nsIn K mainGlobals "enumerate" = some none)
    (z11 : PySem.W.nsIn K mainGlobals "abs" = some none)
    (z12 : PySem.W.nsIn K mainGlobals "max" = some none)
    (z13 : PySem.W.nsIn K mainGlobals "dict" = some none)
    (z14 : PySem.W.nsIn K mainGlobals "repr" = some none)
    : ∃ fd : FuncData, (∀ (s : Shared) (u : Value), BindsTo s fd ⟨[u], []⟩ [("script", u)]) ∧ ∀ base : Heap, K.In base → base.Ns mainGlobals mg → FnG l.prog w K mg base 7 fa fd ["script"] (spLaw K) := by
  have e := hfa.symm.trans (PySem.W.mg_of X G a40)
  cases e
  have FL := fun_mk (st := topS 40) l40 c40 k40
  have m_MOST_CUTS := PySem.W.mg_of X G y0
  have m_isinstance := PySem.W.mg_none_of X G z0
  have m_int := PySem.W.mg_none_of X G z1
  have m_bool := PySem.W.mg_none_of X G z2
  have m_tuple := PySem.W.mg_none_of X G z3
  have m_range := PySem.W.mg_none_of X G z4
  have m_all := PySem.W.mg_none_of X G z5
  have m_str := PySem.W.mg_none_of X G z6
  have m_len := PySem.W.mg_none_of X G z7
  have m_list := PySem.W.mg_none_of X G z8
  have m_sorted := PySem.W.mg_none_of X G z9
  have m_enumerate := PySem.W.mg_none_of X G z10
  have m_abs := PySem.W.mg_none_of X G z11
  have m_max := PySem.W.mg_none_of X G z12
  have m_dict := PySem.W.mg_none_of X G z13
  have m_repr := PySem.W.mg_none_of X G z14
  have d4 : Dn K mg "is_number_below" (topS 4) ["value", "many"] f4 _ := ⟨fun_mk l4 c4 k4, PySem.W.mg_of X G a4, (fun_mk (st := topS 4) l4 c4 k4).binds (ps := ["value", "many"]) fun _ _ _ _ _ _ us hl => match us, hl with | [_, _], _ => rfl⟩
  have d5 : Dn K mg "lot_above" (topS 5) ["order", "x"] f5 _ := ⟨fun_mk l5 c5 k5, PySem.W.mg_of X G a5, (fun_mk (st := topS 5) l5 c5 k5).binds (ps := ["order", "x"]) fun _ _ _ _ _ _ us hl => match us, hl with | [_, _], _ => rfl⟩
  have d6 : Dn K mg "turned_order" (topS 6) ["order"] f6 _ := ⟨fun_mk l6 c6 k6, PySem.W.mg_of X G a6, (fun_mk (st := topS 6) l6 c6 k6).binds (ps := ["order"]) fun _ _ _ _ _ _ us hl => match us, hl with | [_], _ => rfl⟩
  have d7 : Dn K mg "all_above" (topS 7) ["order", "lot"] f7 _ := ⟨fun_mk l7 c7 k7, PySem.W.mg_of X G a7, (fun_mk (st := topS 7) l7 c7 k7).binds (ps := ["order", "lot"]) fun _ _ _ _ _ _ us hl => match us, hl with | [_, _], _ => rfl⟩
  have d9 : Dn K mg "first_apart" (topS 9) ["order", "x"] f9 _ := ⟨fun_mk l9 c9 k9, PySem.W.mg_of X G a9, (fun_mk (st := topS 9) l9 c9 k9).binds (ps := ["order", "x"]) fun _ _ _ _ _ _ us hl => match us, hl with | [_, _], _ => rfl⟩
  have d10 : Dn K mg "join_base" (topS 10) ["order"] f10 _ := ⟨fun_mk l10 c10 k10, PySem.W.mg_of X G a10, (fun_mk (st := topS 10) l10 c10 k10).binds (ps := ["order"]) fun _ _ _ _ _ _ us hl => match us, hl with | [_], _ => rfl⟩
  have d11 : Dn K mg "meet_base" (topS 11) ["order"] f11 _ := ⟨fun_mk l11 c11 k11, PySem.W.mg_of X G a11, (fun_mk (st := topS 11) l11 c11 k11).binds (ps := ["order"]) fun _ _ _ _ _ _ us hl => match us, hl with | [_], _ => rfl⟩
  have d12 : Dn K mg "base_paper" (topS 12) ["order", "x"] f12 _ := ⟨fun_mk l12 c12 k12, PySem.W.mg_of X G a12, (fun_mk (st := topS 12) l12 c12 k12).binds (ps := ["order", "x"]) fun _ _ _ _ _ _ us hl => match us, hl with | [_, _], _ => rfl⟩
  have d13 : Dn K mg "judge_base" (topS 13) ["order", "x", "value"] f13 _ := ⟨fun_mk l13 c13 k13, PySem.W.mg_of X G a13, (fun_mk (st := topS 13) l13 c13 k13).binds (ps := ["order", "x", "value"]) fun _ _ _ _ _ _ us hl => match us, hl with | [_, _, _], _ => rfl⟩
  have d16 : Dn K mg "all_cuts" (topS 16) ["order"] f16 _ := ⟨fun_mk l16 c16 k16, PySem.W.mg_of X G a16, (fun_mk (st := topS 16) l16 c16 k16).binds (ps := ["order"]) fun _ _ _ _ _ _ us hl => match us, hl with | [_], _ => rfl⟩
  have d17 : Dn K mg "are_within" (topS 17) ["one", "other"] f17 _ := ⟨fun_mk l17 c17 k17, PySem.W.mg_of X G a17, (fun_mk (st := topS 17) l17 c17 k17).binds (ps := ["one", "other"]) fun _ _ _ _ _ _ us hl => match us, hl with | [_, _], _ => rfl⟩
  have d18 : Dn K mg "least_lattice" (topS 18) ["order"] f18 _ := ⟨fun_mk l18 c18 k18, PySem.W.mg_of X G a18, (fun_mk (st := topS 18) l18 c18 k18).binds (ps := ["order"]) fun _ _ _ _ _ _ us hl => match us, hl with | [_], _ => rfl⟩
  have d19 : Dn K mg "thing_places" (topS 19) ["order"] f19 _ := ⟨fun_mk l19 c19 k19, PySem.W.mg_of X G a19, (fun_mk (st := topS 19) l19 c19 k19).binds (ps := ["order"]) fun _ _ _ _ _ _ us hl => match us, hl with | [_], _ => rfl⟩
  have d21 : Dn K mg "_law_source" (topS 21) ["script"] f21 _ := ⟨fun_mk l21 c21 k21, PySem.W.mg_of X G a21, (fun_mk (st := topS 21) l21 c21 k21).binds (ps := ["script"]) fun _ _ _ _ _ _ us hl => match us, hl with | [_], _ => rfl⟩
  have d22 : Dn K mg "_law_pick" (topS 22) ["source", "many"] f22 _ := ⟨fun_mk l22 c22 k22, PySem.W.mg_of X G a22, (fun_mk (st := topS 22) l22 c22 k22).binds (ps := ["source", "many"]) fun _ _ _ _ _ _ us hl => match us, hl with | [_, _], _ => rfl⟩
  have d23 : Dn K mg "_law_of" (topS 23) ["source", "some"] f23 _ := ⟨fun_mk l23 c23 k23, PySem.W.mg_of X G a23, (fun_mk (st := topS 23) l23 c23 k23).binds (ps := ["source", "some"]) fun _ _ _ _ _ _ us hl => match us, hl with | [_, _], _ => rfl⟩
  have d24 : Dn K mg "_law_mixed" (topS 24) ["source", "things"] f24 _ := ⟨fun_mk l24 c24 k24, PySem.W.mg_of X G a24, (fun_mk (st := topS 24) l24 c24 k24).binds (ps := ["source", "things"]) fun _ _ _ _ _ _ us hl => match us, hl with | [_, _], _ => rfl⟩
  have d25 : Dn K mg "_law_number" (topS 25) ["value"] f25 _ := ⟨fun_mk l25 c25 k25, PySem.W.mg_of X G a25, (fun_mk (st := topS 25) l25 c25 k25).binds (ps := ["value"]) fun _ _ _ _ _ _ us hl => match us, hl with | [_], _ => rfl⟩
  have d26 : Dn K mg "_law_bent" (topS 26) ["source", "value"] f26 _ := ⟨fun_mk l26 c26 k26, PySem.W.mg_of X G a26, (fun_mk (st := topS 26) l26 c26 k26).binds (ps := ["source", "value"]) fun _ _ _ _ _ _ us hl => match us, hl with | [_, _], _ => rfl⟩
  have d27 : Dn K mg "_law_closed" (topS 27) ["n", "pairs"] f27 _ := ⟨fun_mk l27 c27 k27, PySem.W.mg_of X G a27, (fun_mk (st := topS 27) l27 c27 k27).binds (ps := ["n", "pairs"]) fun _ _ _ _ _ _ us hl => match us, hl with | [_, _], _ => rfl⟩
  have d28 : Dn K mg "_law_order" (topS 28) ["source", "most"] f28 _ := ⟨fun_mk l28 c28 k28, PySem.W.mg_of X G a28, (fun_mk (st := topS 28) l28 c28 k28).binds (ps := ["source", "most"]) fun _ _ _ _ _ _ us hl => match us, hl with | [_, _], _ => rfl⟩
  have d29 : Dn K mg "_law_under" (topS 29) ["order", "x", "y"] f29 _ := ⟨fun_mk l29 c29 k29, PySem.W.mg_of X G a29, (fun_mk (st := topS 29) l29 c29 k29).binds (ps := ["order", "x", "y"]) fun _ _ _ _ _ _ us hl => match us, hl with | [_, _, _], _ => rfl⟩
  have d30 : Dn K mg "_law_all_above" (topS 30) ["order", "lot"] f30 _ := ⟨fun_mk l30 c30 k30, PySem.W.mg_of X G a30, (fun_mk (st := topS 30) l30 c30 k30).binds (ps := ["order", "lot"]) fun _ _ _ _ _ _ us hl => match us, hl with | [_, _], _ => rfl⟩
  have d31 : Dn K mg "_law_all_under" (topS 31) ["order", "lot"] f31 _ := ⟨fun_mk l31 c31 k31, PySem.W.mg_of X G a31, (fun_mk (st := topS 31) l31 c31 k31).binds (ps := ["order", "lot"]) fun _ _ _ _ _ _ us hl => match us, hl with | [_, _], _ => rfl⟩
  have d32 : Dn K mg "_law_join" (topS 32) ["order", "lot"] f32 _ := ⟨fun_mk l32 c32 k32, PySem.W.mg_of X G a32, (fun_mk (st := topS 32) l32 c32 k32).binds (ps := ["order", "lot"]) fun _ _ _ _ _ _ us hl => match us, hl with | [_, _], _ => rfl⟩
  have d33 : Dn K mg "_law_meet" (topS 33) ["order", "lot"] f33 _ := ⟨fun_mk l33 c33 k33, PySem.W.mg_of X G a33, (fun_mk (st := topS 33) l33 c33 k33).binds (ps := ["order", "lot"]) fun _ _ _ _ _ _ us hl => match us, hl with | [_, _], _ => rfl⟩
  have d34 : Dn K mg "_law_turned" (topS 34) ["order"] f34 _ := ⟨fun_mk l34 c34 k34, PySem.W.mg_of X G a34, (fun_mk (st := topS 34) l34 c34 k34).binds (ps := ["order"]) fun _ _ _ _ _ _ us hl => match us, hl with | [_], _ => rfl⟩
  have d35 : Dn K mg "_law_cuts" (topS 35) ["order"] f35 _ := ⟨fun_mk l35 c35 k35, PySem.W.mg_of X G a35, (fun_mk (st := topS 35) l35 c35 k35).binds (ps := ["order"]) fun _ _ _ _ _ _ us hl => match us, hl with | [_], _ => rfl⟩
  have d36 : Dn K mg "_law_within" (topS 36) ["one", "other"] f36 _ := ⟨fun_mk l36 c36 k36, PySem.W.mg_of X G a36, (fun_mk (st := topS 36) l36 c36 k36).binds (ps := ["one", "other"]) fun _ _ _ _ _ _ us hl => match us, hl with | [_, _], _ => rfl⟩
  have d37 : Dn K mg "_law_of_lots" (topS 37) ["lots"] f37 _ := ⟨fun_mk l37 c37 k37, PySem.W.mg_of X G a37, (fun_mk (st := topS 37) l37 c37 k37).binds (ps := ["lots"]) fun _ _ _ _ _ _ us hl => match us, hl with | [_], _ => rfl⟩
  have d38 : Dn K mg "_law_base" (topS 38) ["order"] f38 _ := ⟨fun_mk l38 c38 k38, PySem.W.mg_of X G a38, (fun_mk (st := topS 38) l38 c38 k38).binds (ps := ["order"]) fun _ _ _ _ _ _ us hl => match us, hl with | [_], _ => rfl⟩
  have d39 : Dn K mg "_law_fault" (topS 39) ["order", "x", "value"] f39 _ := ⟨fun_mk l39 c39 k39, PySem.W.mg_of X G a39, (fun_mk (st := topS 39) l39 c39 k39).binds (ps := ["order", "x", "value"]) fun _ _ _ _ _ _ us hl => match us, hl with | [_, _, _], _ => rfl⟩
  refine ⟨_, fun s v => .of_eq rfl, fun base _ _ => ok_law FL (all_of m_isinstance m_int m_bool m_tuple m_range m_all m_str m_len m_list m_sorted m_enumerate m_abs m_max m_dict m_repr m_MOST_CUTS d4 d5 d6 d7 d9 d10 d11 d12 d13 d16 d17 d18 d19 d21 d22 d23 d24 d25 d26 d27 d28 d29 d30 d31 d32 d33 d34 d35 d36 d37 d38 d39)⟩
end K78
open PySem PySem.W PyProof.Rows
set_option maxHeartbeats 0 in
theorem PySem.Challenge.cw_shelledlots_k78_whole_bases_and_base_pap_holds : PySem.Challenge.rw_shelledlots_k78_whole_bases_and_base_pap.Holds := by
  w_on; o_law; k_head; (case hw => w_witness2)
  k_fill
  refine DL.walk_G (l := PySem.Challenge.rw_shelledlots_k78_whole_bases_and_base_pap) (n := 63) (k := 7) (x := "script") (sp := DL.spLaw) rfl (by decide) rfl ⟨rfl, by decide, by decide⟩ (fun w h Y => PySem.W.kIn_of Y) ?F fun K H a ns hl _ hS => ⟨a, ns, rfl, hS, hl, fun _ => rfl⟩
  case F =>
    intro w mg fa h KX G hmg
    refine' K78.all_mk KX G hmg ?a4 ?l4 ?c4 ?k4 ?a5 ?l5 ?c5 ?k5 ?a6 ?l6 ?c6 ?k6 ?a7 ?l7 ?c7 ?k7 ?a9 ?l9 ?c9 ?k9 ?a10 ?l10 ?c10 ?k10 ?a11 ?l11 ?c11 ?k11 ?a12 ?l12 ?c12 ?k12 ?a13 ?l13 ?c13 ?k13 ?a16 ?l16 ?c16 ?k16 ?a17 ?l17 ?c17 ?k17 ?a18 ?l18 ?c18 ?k18 ?a19 ?l19 ?c19 ?k19 ?a21 ?l21 ?c21 ?k21 ?a22 ?l22 ?c22 ?k22 ?a23 ?l23 ?c23 ?k23 ?a24 ?l24 ?c24 ?k24 ?a25 ?l25 ?c25 ?k25 ?a26 ?l26 ?c26 ?k26 ?a27 ?l27 ?c27 ?k27 ?a28 ?l28 ?c28 ?k28 ?a29 ?l29 ?c29 ?k29 ?a30 ?l30 ?c30 ?k30 ?a31 ?l31 ?c31 ?k31 ?a32 ?l32 ?c32 ?k32 ?a33 ?l33 ?c33 ?k33 ?a34 ?l34 ?c34 ?k34 ?a35 ?l35 ?c35 ?k35 ?a36 ?l36 ?c36 ?k36 ?a37 ?l37 ?c37 ?k37 ?a38 ?l38 ?c38 ?k38 ?a39 ?l39 ?c39 ?k39 ?a40 ?l40 ?c40 ?k40 ?y0 ?z0 ?z1 ?z2 ?z3 ?z4 ?z5 ?z6 ?z7 ?z8 ?z9 ?z10 ?z11 ?z12 ?z13 ?z14
    (case a4 => k_is); (case l4 => k_is); (case c4 => k_is); (case k4 => k_is)
    (case a5 => k_is); (case l5 => k_is); (case c5 => k_is); (case k5 => k_is)
    (case a6 => k_is); (case l6 => k_is); (case c6 => k_is); (case k6 => k_is)
    (case a7 => k_is); (case l7 => k_is); (case c7 => k_is); (case k7 => k_is)
    (case a9 => k_is); (case l9 => k_is); (case c9 => k_is); (case k9 => k_is)
    (case a10 => k_is); (case l10 => k_is); (case c10 => k_is); (case k10 => k_is)
    (case a11 => k_is); (case l11 => k_is); (case c11 => k_is); (case k11 => k_is)
    (case a12 => k_is); (case l12 => k_is); (case c12 => k_is); (case k12 => k_is)
    (case a13 => k_is); (case l13 => k_is); (case c13 => k_is); (case k13 => k_is)
    (case a16 => k_is); (case l16 => k_is); (case c16 => k_is); (case k16 => k_is)
    (case a17 => k_is); (case l17 => k_is); (case c17 => k_is); (case k17 => k_is)
    (case a18 => k_is); (case l18 => k_is); (case c18 => k_is); (case k18 => k_is)
    (case a19 => k_is); (case l19 => k_is); (case c19 => k_is); (case k19 => k_is)
    (case a21 => k_is); (case l21 => k_is); (case c21 => k_is); (case k21 => k_is)
    (case a22 => k_is); (case l22 => k_is); (case c22 => k_is); (case k22 => k_is)
    (case a23 => k_is); (case l23 => k_is); (case c23 => k_is); (case k23 => k_is)
    (case a24 => k_is); (case l24 => k_is); (case c24 => k_is); (case k24 => k_is)
    (case a25 => k_is); (case l25 => k_is); (case c25 => k_is); (case k25 => k_is)
    (case a26 => k_is); (case l26 => k_is); (case c26 => k_is); (case k26 => k_is)
    (case a27 => k_is); (case l27 => k_is); (case c27 => k_is); (case k27 => k_is)
    (case a28 => k_is); (case l28 => k_is); (case c28 => k_is); (case k28 => k_is)
    (case a29 => k_is); (case l29 => k_is); (case c29 => k_is); (case k29 => k_is)
    (case a30 => k_is); (case l30 => k_is); (case c30 => k_is); (case k30 => k_is)
    (case a31 => k_is); (case l31 => k_is); (case c31 => k_is); (case k31 => k_is)
    (case a32 => k_is); (case l32 => k_is); (case c32 => k_is); (case k32 => k_is)
    (case a33 => k_is); (case l33 => k_is); (case c33 => k_is); (case k33 => k_is)
    (case a34 => k_is); (case l34 => k_is); (case c34 => k_is); (case k34 => k_is)
    (case a35 => k_is); (case l35 => k_is); (case c35 => k_is); (case k35 => k_is)
    (case a36 => k_is); (case l36 => k_is); (case c36 => k_is); (case k36 => k_is)
    (case a37 => k_is); (case l37 => k_is); (case c37 => k_is); (case k37 => k_is)
    (case a38 => k_is); (case l38 => k_is); (case c38 => k_is); (case k38 => k_is)
    (case a39 => k_is); (case l39 => k_is); (case c39 => k_is); (case k39 => k_is)
    (case a40 => k_is); (case l40 => k_is); (case c40 => k_is); (case k40 => k_is)
    (case y0 => k_is)
    (case z0 => k_is)
    (case z1 => k_is)
    (case z2 => k_is)
    (case z3 => k_is)
    (case z4 => k_is)
    (case z5 => k_is)
    (case z6 => k_is)
    (case z7 => k_is)
    (case z8 => k_is)
    (case z9 => k_is)
    (case z10 => k_is)
    (case z11 => k_is)
    (case z12 => k_is)
    (case z13 => k_is)
    (case z14 => k_is)
#print axioms PySem.Challenge.cw_shelledlots_k78_whole_bases_and_base_pap_holds

